import PyProof.Rows.All
import Wide.All
import OpenK.AllK
import Wide.FinOn
import HandS.ForMost
import HandS.StrMore
import HandS.TupMul
import HandS.Style
import KE.GoesEnum
import HandS.ForExc
import HandS.CallSlots
import HandS.IsInst
import HandS.TupAny
import HandS.Deep
import HandS.Iter
import HandS.TryOnly
import HandS.ExcInit
import HandS.ExcField
import PySem.Challenge.RW_dipsoverdips_k29_changes_refused
set_option Elab.async false
set_option linter.all false
set_option maxRecDepth 100000
namespace Itp
open PySem
/-! ### plain data -/
inductive D where
  | non | bl (b : Bool) | int (i : Int) | str (s : List Nat) | tup (xs : List D) | lst (xs : List D)
  | dct (kvs : List (D × D)) | fn (n : Nat) | scr (xs : List Int)
mutual
def D.beq : D → D → Bool
  | .non, .non => true
  | .bl a, .bl b => a == b
  | .int a, .int b => a == b
  | .str a, .str b => a == b
  | .tup a, .tup b => D.beqs a b
  | .lst a, .lst b => D.beqs a b
  | .dct a, .dct b => D.beqk a b
  | .fn a, .fn b => a == b
  | _, _ => false
def D.beqs : List D → List D → Bool
  | [], [] => true
  | a :: as, b :: bs => D.beq a b && D.beqs as bs
  | _, _ => false
def D.beqk : List (D × D) → List (D × D) → Bool
  | [], [] => true
  | (a, c) :: as, (b, d) :: bs => D.beq a b && D.beq c d && D.beqk as bs
  | _, _ => false
end
/-! == as Python sees it, of plain data -/
mutual
def D.eqv : D → D → Bool
  | .bl a, .int b => (if a then 1 else 0) == b
  | .int a, .bl b => a == (if b then 1 else 0)
  | .non, .non => true
  | .bl a, .bl b => a == b
  | .int a, .int b => a == b
  | .str a, .str b => a == b
  | .tup a, .tup b => D.eqvs a b
  | .lst a, .lst b => D.eqvs a b
  | _, _ => false
def D.eqvs : List D → List D → Bool
  | [], [] => true
  | a :: as, b :: bs => D.eqv a b && D.eqvs as bs
  | _, _ => false
end
/-! data of which == may be asked: no dict, no def; not too deep -/
mutual
def D.plain : Nat → D → Bool
  | _, .dct _ => false
  | _, .fn _ => false
  | _, .scr _ => false
  | _, .str s => s.all (· < 1114112)
  | 0, .tup _ => false
  | 0, .lst _ => false
  | n + 1, .tup xs => D.plains n xs
  | n + 1, .lst xs => D.plains n xs
  | _, _ => true
def D.plains : Nat → List D → Bool
  | _, [] => true
  | n, x :: xs => D.plain n x && D.plains n xs
end
def D.flat : D → Bool
  | .non => true
  | .bl _ => true
  | .int _ => true
  | .str _ => true
  | _ => false
def ints? : List D → Option (List Int)
  | [] => some []
  | .int i :: r => (ints? r).map (i :: ·)
  | _ => none
def bls? : List D → Option (List Bool)
  | [] => some []
  | .bl i :: r => (bls? r).map (i :: ·)
  | _ => none
def strs? : List D → Option (List (List Nat))
  | [] => some []
  | .str i :: r => (strs? r).map (i :: ·)
  | _ => none
/-- the cut of a slice -/
def cut {α : Type} (xs : List α) (lo hi : Option Int) : List α :=
  (xs.drop (HT.sIx xs.length 0 lo)).take (HT.sIx xs.length xs.length hi - HT.sIx xs.length 0 lo)
def ixOf (n : Nat) (i : Int) : Option Nat := if 0 ≤ i then (if i < n then some i.toNat else none) else if -(n : Int) ≤ i then some (i + n).toNat else none
def at? {α : Type} (xs : List α) (i : Int) : Option α := (ixOf xs.length i).bind fun j => xs[j]?
/-! ### dicts -/
def dget : List (D × D) → D → Option D
  | [], _ => none
  | (k, v) :: r, x => if D.beq k x then some v else dget r x
def dput : List (D × D) → D → D → List (D × D)
  | [], x, y => [(x, y)]
  | (k, v) :: r, x, y => if D.beq k x then (k, y) :: r else (k, v) :: dput r x y
/-! ### the small syntax -/
inductive Ty | int | str | bool | list | tuple
  deriving DecidableEq
inductive Op where
  | add | sub | mul | fdiv | mod | pow | neg
  | eq | ne | lt | le | gt | ge | isN | notN | inn | nin
  | ix | slc (lo hi : Bool) | rev
  | tup | lst | dct
  | len | int | str | list | tuple | min | max | sum | abs | all | any | isi (ts : List Ty)
  | find | count | index | join | split | replace | get
  deriving DecidableEq
inductive ItK | seq | rng | enum | items
  deriving DecidableEq
inductive Tg where
  | nm (i : Nat) | tp (ts : List Tg)
inductive E where
  | var (i : Nat) | pk (i : Nat) | cst (d : D) | glb (x : Str) (d : D)
  | op (o : Op) (as : List E)
  | and (a b : E) | or (a b : E) | not (a : E) | ite (c a b : E)
  | chain (o p : Op) (a b c : E)
  | chain3 (o p q : Op) (a b c d : E)
  | fnv (x : Str) (g : Nat)
  | callV (f : E) (as : List E)
  | call (f : Nat) (as : List E)
  | comp (k : ItK) (as : List E) (tg : Tg) (own : List Nat) (conds : List E) (elt : E)
/-- an except suite: slot := data, or slot := [e.f] -/
inductive Sv where
  | cst (d : D) | fld (f : Str)
inductive Su where
  | cst (i : Nat) (d : D) | lst (i : Nat) (vs : List Sv)
inductive S where
  | asg (t : Tg) (e : E) | own (i : Nat) (e : E)
  | seti (i : Nat) (k e : E) | app (i : Nat) (e : E) | ext (i : Nat) (e : E)
  | ex (e : E) | ret (e : E) | retn
  | ifs (c : E) (a b : List S)
  | for (tg : Tg) (k : ItK) (as : List E) (body : List S)
  | whl (n : Nat) (c : E) (body : List S)
  | rse (c : Nat) (es : List E)
  | try (body : List S) (cls : List (Nat × Option Nat × Su))
  | pass | never
/-! ### states and results -/
inductive Slot where
  | un | val (d : D) | own (d : D) | par (d : D)
abbrev Env := List Slot
inductive Res where
  | val (d : D) | new (d : D)
def Res.d : Res → D
  | .val d => d
  | .new d => d
structure Xc where
  cls : Nat
  fs : List (Str × D)
inductive Rs (α : Type) where
  | ok (a : α) (e : Env) | ex (x : Xc) (e : Env) | no
abbrev M (α : Type) := Env → Rs α
def Rs.bind {α β : Type} (r : Rs α) (f : α → Env → Rs β) : Rs β :=
  match r with
  | .ok a e => f a e
  | .ex x e => .ex x e
  | .no => .no
def M.bind {α β : Type} (m : M α) (f : α → M β) : M β := fun e => (m e).bind fun a e1 => f a e1
def ofO {α : Type} (o : Option α) (e : Env) : Rs α :=
  match o with
  | some a => .ok a e
  | none => .no
inductive Opd where
  | d (x : D) | pk (i : Nat)
inductive Arg where
  | val (d : D) | lent (d : D)
inductive FRes where
  | ok (r : Res) (fin : List D) | ex (x : Xc) (fin : List D) | no
abbrev Fn := List Arg → FRes
def Slot.d? : Slot → Option D
  | .un => none
  | .val d => some d
  | .own d => some d
  | .par d => some d
def Slot.isMut : Slot → Bool
  | .own _ => true
  | .par _ => true
  | _ => false
def slot (e : Env) (i : Nat) : Slot := e.getD i .un
def opd (e : Env) : Opd → Option D
  | .d x => some x
  | .pk i => (slot e i).d?
def opds (e : Env) : List Opd → Option (List D)
  | [] => some []
  | o :: os => match opd e o, opds e os with
    | some x, some xs => some (x :: xs)
    | _, _ => none
def toArg (e : Env) : Opd → Option Arg
  | .d x => some (.val x)
  | .pk i => match slot e i with
    | .un => none
    | .val d => some (.val d)
    | .own d => some (.lent d)
    | .par d => some (.lent d)
def toArgs (e : Env) : List Opd → Option (List Arg)
  | [] => some []
  | o :: os => match toArg e o, toArgs e os with
    | some x, some xs => some (x :: xs)
    | _, _ => none
/-- the peeked slots that are mutable -/
def muts (e : Env) : List Opd → List Nat
  | [] => []
  | .d _ :: os => muts e os
  | .pk i :: os => if (slot e i).isMut then i :: muts e os else muts e os
def Slot.put : Slot → D → Slot
  | .own _, d => .own d
  | .par _, d => .par d
  | s, _ => s
def putBack (e : Env) : List Nat → List D → Option Env
  | [], [] => some e
  | i :: is, d :: ds => putBack (e.set i ((slot e i).put d)) is ds
  | _, _ => none
def nodup : List Nat → Bool
  | [] => true
  | i :: is => !is.contains i && nodup is
/-! ### what an operation gives -/
abbrev big : Nat := 100000
def small {α : Type} (c : Bool) (a : α) : Option α := if c then some a else none
def vI (i : Int) : Option Res := some (.val (.int i))
def vB (b : Bool) : Option Res := some (.val (.bl b))
def typOf : D → Ty → Bool
  | .int _, .int => true
  | .bl _, .int => true
  | .bl _, .bool => true
  | .str _, .str => true
  | .lst _, .list => true
  | .tup _, .tuple => true
  | _, _ => false
def typed : D → Bool
  | .fn _ => false
  | .scr _ => false
  | _ => true
def posOf (x : D) : List D → Option Nat
  | [] => none
  | y :: r => if D.eqv y x then some 0 else (posOf x r).map (· + 1)
def minI : List Int → Option Int
  | [] => none
  | [x] => some x
  | x :: r => (minI r).map fun m => if m < x then m else x
def maxI : List Int → Option Int
  | [] => none
  | [x] => some x
  | x :: r => (maxI r).map fun m => if x < m then m else x
/-- sep.join(parts) -/
def joinL (a : List Nat) (l : List (List Nat)) : List Nat := (l.drop 1).foldl (fun acc p => acc ++ a ++ p) (l.headD [])
def pAdd : List D → Option Res
  | [.int a, .int b] => vI (a + b)
  | [.str a, .str b] => small (decide (a.length + b.length ≤ big)) (.val (.str (a ++ b)))
  | [.lst a, .lst b] => small (decide (a.length + b.length ≤ big)) (.new (.lst (a ++ b)))
  | [.tup a, .tup b] => small (decide (a.length + b.length ≤ big)) (.val (.tup (a ++ b)))
  | _ => none
def pSub : List D → Option Res
  | [.int a, .int b] => vI (a - b)
  | _ => none
def pMul : List D → Option Res
  | [.int a, .int b] => small (decide (-(2 ^ 64) < b) && decide (b < 2 ^ 64)) (.val (.int (a * b)))
  | [.str a, .int k] => small (decide (-big ≤ k) && decide (k ≤ big) && decide (a.length * k.toNat ≤ big)) (.val (.str (List.replicate k.toNat a).flatten))
  | [.tup a, .int k] => small (decide (2 ≤ k) && decide (k ≤ 1000) && decide (a.length ≤ 1000) && !a.isEmpty) (.val (.tup (List.replicate k.toNat a).flatten))
  | [.lst a, .int k] => small (decide (-big ≤ k) && decide (k ≤ big) && decide (a.length * k.toNat ≤ big)) (.new (.lst (List.replicate k.toNat a).flatten))
  | _ => none
def pFdiv : List D → Option Res
  | [.int a, .int b] => small (decide (0 < b) && decide (b < 1073741824)) (.val (.int (a / b)))
  | _ => none
def pMod : List D → Option Res
  | [.int a, .int b] => small (decide (0 < b)) (.val (.int (a % b)))
  | _ => none
def pPow : List D → Option Res
  | [.int a, .int b] => small (decide (0 ≤ b) && decide (b ≤ 1000) && decide (a.natAbs < 2 ^ 64)) (.val (.int (a ^ b.toNat)))
  | _ => none
def pNeg : List D → Option Res
  | [.int a] => vI (-a)
  | _ => none
def pEq : List D → Option Res
  | [.int a, .int b] => vB (a == b)
  | [.str a, .str b] => vB (a == b)
  | [a, b] => small (a.plain 64 && b.plain 64) (.val (.bl (D.eqv a b)))
  | _ => none
def pNe : List D → Option Res
  | [.int a, .int b] => vB (!(a == b))
  | [.str a, .str b] => vB (!(a == b))
  | [a, b] => small (a.plain 64 && b.plain 64) (.val (.bl (!D.eqv a b)))
  | _ => none
def pLt : List D → Option Res
  | [.int a, .int b] => vB (decide (a < b))
  | _ => none
def pLe : List D → Option Res
  | [.int a, .int b] => vB (decide (a ≤ b))
  | _ => none
def pGt : List D → Option Res
  | [.int a, .int b] => vB (decide (b < a))
  | _ => none
def pGe : List D → Option Res
  | [.int a, .int b] => vB (decide (b ≤ a))
  | _ => none
def pIsN : List D → Option Res
  | [.non] => vB true
  | [_] => vB false
  | _ => none
def pNotN : List D → Option Res
  | [.non] => vB false
  | [_] => vB true
  | _ => none
def pInn : List D → Option Res
  | [.str [c], .str s] => vB (decide (c ∈ s))
  | [x, .lst ys] => small (x.plain 64 && (D.lst ys).plain 64) (.val (.bl (ys.any fun y => D.eqv y x)))
  | [x, .tup ys] => small (x.flat && ys.all D.flat) (.val (.bl (ys.any fun y => D.eqv y x)))
  | _ => none
def pNin : List D → Option Res
  | [.str [c], .str s] => vB (!decide (c ∈ s))
  | [x, .lst ys] => small (x.plain 64 && (D.lst ys).plain 64) (.val (.bl (!ys.any fun y => D.eqv y x)))
  | [x, .tup ys] => small (x.flat && ys.all D.flat) (.val (.bl (!ys.any fun y => D.eqv y x)))
  | _ => none
def pIx : List D → Option Res
  | [.lst xs, .int i] => (at? xs i).map .val
  | [.tup xs, .int i] => (at? xs i).map .val
  | [.scr xs, .int i] => (at? xs i).map fun n => .val (.int n)
  | [.str xs, .int i] => (small (decide (xs.length ≤ big)) (at? xs i)).bind fun o => o.map fun c => .val (.str [c])
  | _ => none
def pSlc : Bool → Bool → List D → Option Res
  | false, false, [.str xs] => small (decide (xs.length ≤ big)) (.val (.str (cut xs none none)))
  | true, false, [.str xs, .int a] => small (decide (xs.length ≤ big)) (.val (.str (cut xs (some a) none)))
  | false, true, [.str xs, .int b] => small (decide (xs.length ≤ big)) (.val (.str (cut xs none (some b))))
  | true, true, [.str xs, .int a, .int b] => small (decide (xs.length ≤ big)) (.val (.str (cut xs (some a) (some b))))
  | true, false, [.lst xs, .int a] => some (.new (.lst (cut xs (some a) none)))
  | false, true, [.lst xs, .int b] => some (.new (.lst (cut xs none (some b))))
  | true, true, [.lst xs, .int a, .int b] => some (.new (.lst (cut xs (some a) (some b))))
  | true, false, [.tup xs, .int a] => some (.val (.tup (cut xs (some a) none)))
  | false, true, [.tup xs, .int b] => some (.val (.tup (cut xs none (some b))))
  | true, true, [.tup xs, .int a, .int b] => some (.val (.tup (cut xs (some a) (some b))))
  | _, _, _ => none
def pRev : List D → Option Res
  | [.lst xs] => some (.new (.lst xs.reverse))
  | _ => none
def pTup : List D → Option Res
  | xs => small (decide (xs.length ≤ big)) (.val (.tup xs))
def pLst : List D → Option Res
  | xs => small (decide (xs.length ≤ big)) (.new (.lst xs))
def pDct : List D → Option Res
  | [] => some (.new (.dct []))
  | _ => none
def pLen : List D → Option Res
  | [.str xs] => small (decide (xs.length ≤ big)) (.val (.int xs.length))
  | [.lst xs] => vI xs.length
  | [.tup xs] => vI xs.length
  | [.scr xs] => vI xs.length
  | _ => none
def pInt : List D → Option Res
  | [.int a] => vI a
  | [.bl b] => vI (if b then 1 else 0)
  | _ => none
def pList : List D → Option Res
  | [.lst xs] => some (.new (.lst xs))
  | [.tup xs] => some (.new (.lst xs))
  | _ => none
def pTuple : List D → Option Res
  | [.lst xs] => some (.val (.tup xs))
  | [.tup xs] => some (.val (.tup xs))
  | _ => none
def pMin : List D → Option Res
  | [.int a, .int b] => vI (if b < a then b else a)
  | [.lst xs] => (ints? xs).bind fun l => (minI l).map fun m => .val (.int m)
  | _ => none
def pMax : List D → Option Res
  | [.int a, .int b] => vI (if b > a then b else a)
  | [.lst xs] => (ints? xs).bind fun l => (maxI l).map fun m => .val (.int m)
  | _ => none
def pSum : List D → Option Res
  | [.lst xs] => (ints? xs).map fun l => .val (.int l.sum)
  | _ => none
def pAbs : List D → Option Res
  | [.int a] => vI (if a < 0 then -a else a)
  | _ => none
def pAll : List D → Option Res
  | [.lst xs] => (bls? xs).map fun l => .val (.bl (l.all id))
  | _ => none
def pAny : List D → Option Res
  | [.lst xs] => (bls? xs).map fun l => .val (.bl (l.any id))
  | _ => none
def pIsi (ts : List Ty) : List D → Option Res
  | [x] => small (typed x) (.val (.bl (ts.any (typOf x))))
  | _ => none
def pJoin : List D → Option Res
  | [.str a, .lst xs] => (strs? xs).bind fun l => small (decide ((l.map (·.length)).sum + l.length * a.length ≤ big)) (.val (.str (joinL a l)))
  | _ => none
def prim (o : Op) (ds : List D) : Option Res := match o with
  | .add => pAdd ds
  | .sub => pSub ds
  | .mul => pMul ds
  | .fdiv => pFdiv ds
  | .mod => pMod ds
  | .pow => pPow ds
  | .neg => pNeg ds
  | .eq => pEq ds
  | .ne => pNe ds
  | .lt => pLt ds
  | .le => pLe ds
  | .gt => pGt ds
  | .ge => pGe ds
  | .isN => pIsN ds
  | .notN => pNotN ds
  | .inn => pInn ds
  | .nin => pNin ds
  | .ix => pIx ds
  | .slc lo hi => pSlc lo hi ds
  | .rev => pRev ds
  | .tup => pTup ds
  | .lst => pLst ds
  | .dct => pDct ds
  | .len => pLen ds
  | .int => pInt ds
  | .str => none
  | .list => pList ds
  | .tuple => pTuple ds
  | .min => pMin ds
  | .max => pMax ds
  | .sum => pSum ds
  | .abs => pAbs ds
  | .all => pAll ds
  | .any => pAny ds
  | .isi ts => pIsi ts ds
  | .find => none
  | .count => none
  | .index => none
  | .join => pJoin ds
  | .split => none
  | .replace => none
  | .get => none
/-- operations by a method of their first operand -/
def mthd : Op → Bool
  | .join => true
  | .find => true
  | .count => true
  | .index => true
  | .split => true
  | .replace => true
  | .get => true
  | _ => false
def rngc (a c : Int) : Nat → List D
  | 0 => []
  | n + 1 => .int a :: rngc (a + c) c n
def rngs (a : Int) : Nat → List D
  | 0 => []
  | n + 1 => .int a :: rngs (a + 1) n
def enumF (i : Int) : List D → List D
  | [] => []
  | x :: r => .tup [.int i, x] :: enumF (i + 1) r
def okI (i : Int) : Bool := decide (-(2 ^ 62) ≤ i) && decide (i < 2 ^ 62)
def items : ItK → List D → Option (List D)
  | .seq, [.lst xs] => some xs
  | .seq, [.tup xs] => some xs
  | .seq, [.str s] => some (s.map fun c => .str [c])
  | .rng, [.int n] => small (okI n) (rngs 0 n.toNat)
  | .rng, [.int a, .int b] => small (okI a && okI b) (rngs a (b - a).toNat)
  | .rng, [.int a, .int b, .int c] => small (okI a && okI b && decide (c = -1)) (rngc a (-1) (a - b).toNat)
  | .enum, [.lst xs] => some (enumF 0 xs)
  | .enum, [.tup xs] => some (enumF 0 xs)
  | .enum, [.str s] => some (enumF 0 (s.map fun c => .str [c]))
  | _, _ => none
/-! ### targets -/
mutual
def bindT : Tg → D → Env → Option Env
  | .nm i, d, e => match slot e i with
    | .par _ => none
    | _ => some (e.set i (.val d))
  | .tp ts, .tup xs, e => bindTs ts xs e
  | .tp ts, .lst xs, e => bindTs ts xs e
  | .tp _, _, _ => none
def bindTs : List Tg → List D → Env → Option Env
  | [], [], e => some e
  | t :: ts, x :: xs, e => (bindT t x e).bind fun e1 => bindTs ts xs e1
  | _, _, _ => none
end
/-! ### expressions -/
def fz (m : M Res) : M D := fun e => (m e).bind fun r e1 => .ok r.d e1
def asB (m : M Res) : M Bool := fun e => (m e).bind fun r e1 => match r with
  | .val (.bl b) => .ok b e1
  | _ => .no
def rdVar (i : Nat) : M Res := fun e => match slot e i with
  | .val d => .ok (.val d) e
  | .own d => .ok (.val d) (e.set i (.val d))
  | _ => .no
/-- operations that keep their operands: none of one's own may be among them -/
def disp : Op → Bool
  | .tup => true
  | .lst => true
  | _ => false
def isPk : Opd → Bool
  | .pk _ => true
  | _ => false
/-- operations that look at an operand ahead of the next one -/
def midOp : Op → Bool
  | .slc true true => true
  | o => mthd o
def opM (o : Op) (m : M (List Opd)) : M Res := fun e => match m e with
  | .no => .no
  | .ex x e1 => if midOp o then .no else .ex x e1
  | .ok os e1 => match opds e1 os with
    | some ds => if disp o && !(muts e1 os).isEmpty then .no else if midOp o && os.any isPk then .no else ofO (prim o ds) e1
    | none => .no
def callM (F : Fn) (m : M (List Opd)) : M Res := fun e => (m e).bind fun os e1 => match toArgs e1 os with
  | none => .no
  | some as => if nodup (muts e1 os) then (match F as with
    | .no => .no
    | .ok r fin => match putBack e1 (muts e1 os) fin with
      | some e2 => .ok r e2
      | none => .no
    | .ex x fin => match putBack e1 (muts e1 os) fin with
      | some e2 => .ex x e2
      | none => .no) else .no
def itM (k : ItK) (m : M (List Opd)) : M (List D) := fun e => match m e with
  | .ok os e1 => match opds e1 os with
    | some ds => if (muts e1 os).isEmpty then ofO (items k ds) e1 else .no
    | none => .no
  | _ => .no
/-- comprehensions: the block's own slots are hidden -/
def hideE (e : Env) : List Nat → Env
  | [] => e
  | i :: is => (hideE e is).set i .un
def backE (e e0 : Env) : List Nat → Env
  | [] => e
  | i :: is => (backE e e0 is).set i (slot e0 i)
def compL (tg : Tg) (own : List Nat) (c : M Bool) (m : M D) : List D → List D → M (List D)
  | [], acc => fun e => .ok acc e
  | x :: xs, acc => fun e => match bindT tg x e with
    | none => .no
    | some e1 => match c e1 with
      | .ok true e2 => match m e2 with
        | .ok d e3 => if acc.length < big then compL tg own c m xs (acc ++ [d]) (hideE e3 own) else .no
        | _ => .no
      | .ok false e2 => compL tg own c m xs acc (hideE e2 own)
      | _ => .no
def compM (its : M (List D)) (tg : Tg) (own : List Nat) (c : M Bool) (m : M D) : M Res := fun e =>
  (its e).bind fun xs e1 => match compL tg own c m xs [] (hideE e1 own) with
    | .ok ds e2 => .ok (.new (.lst ds)) (backE e2 e1 own)
    | _ => .no
/-- an operand: a peeked slot, or a value -/
def opdM (a : E) (m : M Res) : M Opd := match a with
  | .pk i => fun e => match slot e i with
    | .un => .no
    | _ => .ok (.pk i) e
  | _ => fun e => (fz m e).bind fun d e1 => .ok (.d d) e1
structure Cfg where
  fns : Nat → Fn
  fv : Nat → Option Fn
  flds : Nat → Option (List Str)
  sub : Nat → Nat → Option Bool
mutual
def ev (C : Cfg) : E → M Res
  | .var i => rdVar i
  | .pk _ => fun _ => .no
  | .cst d => fun e => .ok (.val d) e
  | .glb _ d => fun e => .ok (.val d) e
  | .op o as => opM o (evs C as)
  | .and a b => fun e => (asB (ev C a) e).bind fun b1 e1 => if b1 then (asB (ev C b) e1).bind fun b2 e2 => .ok (.val (.bl b2)) e2 else .ok (.val (.bl false)) e1
  | .or a b => fun e => (asB (ev C a) e).bind fun b1 e1 => if b1 then .ok (.val (.bl true)) e1 else (asB (ev C b) e1).bind fun b2 e2 => .ok (.val (.bl b2)) e2
  | .not a => fun e => (asB (ev C a) e).bind fun b1 e1 => .ok (.val (.bl (!b1))) e1
  | .ite c a b => fun e => (asB (ev C c) e).bind fun b1 e1 => if b1 then ev C a e1 else ev C b e1
  | .chain o p a b c => fun e => (fz (ev C a) e).bind fun x e1 => (fz (ev C b) e1).bind fun y e2 => match prim o [x, y] with
    | some (.val (.bl true)) => (fz (ev C c) e2).bind fun z e3 => ofO (prim p [y, z]) e3
    | some (.val (.bl false)) => .ok (.val (.bl false)) e2
    | _ => .no
  | .chain3 o p q a b c d => fun e => (fz (ev C a) e).bind fun x e1 => (fz (ev C b) e1).bind fun y e2 => match prim o [x, y] with
    | some (.val (.bl true)) => (fz (ev C c) e2).bind fun z e3 => (match prim p [y, z] with
      | some (.val (.bl true)) => (fz (ev C d) e3).bind fun u e4 => ofO (prim q [z, u]) e4
      | some (.val (.bl false)) => .ok (.val (.bl false)) e3
      | _ => .no)
    | some (.val (.bl false)) => .ok (.val (.bl false)) e2
    | _ => .no
  | .fnv _ g => fun e => .ok (.val (.fn g)) e
  | .callV f as => fun e => (ev C f e).bind fun r e1 => match r with
    | .val (.fn g) => (match C.fv g with
      | some F => callM F (evs C as) e1
      | none => .no)
    | _ => .no
  | .call f as => callM (C.fns f) (evs C as)
  | .comp k as tg own conds elt => compM (itM k (evs C as)) tg own (evAll C conds) (fz (ev C elt))
def evs (C : Cfg) : List E → M (List Opd)
  | [] => fun e => .ok [] e
  | a :: as => fun e => (opdM a (ev C a) e).bind fun o e1 => (evs C as e1).bind fun os e2 => .ok (o :: os) e2
def evAll (C : Cfg) : List E → M Bool
  | [] => fun e => .ok true e
  | c :: cs => fun e => (asB (ev C c) e).bind fun b e1 => if b then evAll C cs e1 else .ok false e1
end
/-! ### statements -/
inductive Fl where
  | nx | rt (r : Res) | bk | ct
def forL (tg : Tg) (body : M Fl) : List D → M Fl
  | [] => fun e => .ok .nx e
  | x :: xs => fun e => match bindT tg x e with
    | none => .no
    | some e1 => (body e1).bind fun f e2 => match f with
      | .nx => forL tg body xs e2
      | .ct => forL tg body xs e2
      | .bk => .ok .nx e2
      | .rt r => .ok (.rt r) e2
def whlL (c : M Bool) (body : M Fl) : Nat → M Fl
  | 0 => fun _ => .no
  | n + 1 => fun e => (c e).bind fun b e1 => if b then (body e1).bind fun f e2 => (match f with
      | .nx => whlL c body n e2
      | .ct => whlL c body n e2
      | .bk => .ok .nx e2
      | .rt r => .ok (.rt r) e2) else .ok .nx e1
/-- what a return hands back: a slot of one's own goes over -/
def retM (a : E) (m : M Res) : M Res := match a with
  | .var i => fun e => match slot e i with
    | .own d => .ok (.new d) (e.set i .un)
    | .val d => .ok (.val d) e
    | _ => .no
  | _ => m
def Res.slot : Res → Slot
  | .val d => .val d
  | .new d => .own d
def ownM (i : Nat) (r : Res) : M Fl := fun e => match slot e i with
  | .par _ => .no
  | _ => .ok .nx (e.set i r.slot)
/-- a list of one's own -/
def ownLst (e : Env) (i : Nat) : Bool := match slot e i with
  | .own (.lst _) => true
  | .par (.lst _) => true
  | _ => false
def setM (i : Nat) (k v : D) : M Fl := fun e => match (slot e i).isMut, (slot e i).d? with
  | true, some (.lst xs) => match k with
    | .int j => match ixOf xs.length j with
      | some n => .ok .nx (e.set i ((slot e i).put (.lst (xs.set n v))))
      | none => .no
    | _ => .no
  | _, _ => .no
def appM (i : Nat) (v : D) : M Fl := fun e => match (slot e i).isMut, (slot e i).d? with
  | true, some (.lst xs) => if xs.length < big then .ok .nx (e.set i ((slot e i).put (.lst (xs ++ [v])))) else .no
  | _, _ => .no
def extM (i : Nat) (v : D) : M Fl := fun e => match (slot e i).isMut, (slot e i).d?, v with
  | true, some (.lst xs), .lst ys => if xs.length + ys.length ≤ big then .ok .nx (e.set i ((slot e i).put (.lst (xs ++ ys)))) else .no
  | _, _, _ => .no
def zipF : List Str → List D → Option (List (Str × D))
  | [], [] => some []
  | f :: fs, d :: ds => (zipF fs ds).map ((f, d) :: ·)
  | _, _ => none
def fldOf (f : Str) : List (Str × D) → Option D
  | [] => none
  | (g, d) :: r => if g = f then some d else fldOf f r
def hasF (C : Cfg) (c : Nat) (f : Str) : Bool := match C.flds c with
  | some fl => fl.contains f
  | none => false
def svs (C : Cfg) (x : Xc) : List Sv → Option (List D)
  | [] => some []
  | .cst d :: r => if d.flat then (svs C x r).map (d :: ·) else none
  | .fld f :: r => if hasF C x.cls f then (fldOf f x.fs).bind fun d => (svs C x r).map (d :: ·) else none
def suM (C : Cfg) (x : Xc) : Su → M Fl
  | .cst i d => fun e => match slot e i with
    | .par _ => .no
    | _ => .ok .nx (e.set i (.val d))
  | .lst i vs => fun e => match slot e i, svs C x vs with
    | .par _, _ => .no
    | _, some ds => if ds.length ≤ big then .ok .nx (e.set i (.own (.lst ds))) else .no
    | _, none => .no
def rseM (C : Cfg) (c : Nat) (m : M (List Opd)) : M Fl := fun e => match m e with
  | .ok os e1 => if (muts e1 os).isEmpty then (match opds e1 os, C.flds c with
    | some ds, some fs => match zipF fs ds with
      | some l => .ex ⟨c, l⟩ e1
      | none => .no
    | _, _ => .no) else .no
  | _ => .no
/-- the clauses, one after the other -/
def catM (C : Cfg) (x : Xc) : List (Nat × Option Nat × Su) → M Fl
  | [] => fun e => .ex x e
  | (c, nm, su) :: r => fun e1 => match C.sub x.cls c with
    | none => .no
    | some false => catM C x r e1
    | some true => match nm with
      | none => suM C x su e1
      | some j => match slot e1 j with
        | .par _ => .no
        | _ => if j < e1.length then (suM C x su (e1.set j .un)).bind fun f e2 => (match f with
          | .nx => .ok .nx (e2.set j .un)
          | _ => .no) else .no
def tryM (C : Cfg) (m : M Fl) (cls : List (Nat × Option Nat × Su)) : M Fl := fun e => match m e with
  | .ok f e1 => .ok f e1
  | .no => .no
  | .ex x e1 => catM C x cls e1
mutual
def exs (C : Cfg) : List S → M Fl
  | [] => fun e => .ok .nx e
  | s :: ss => fun e => (exS C s e).bind fun f e1 => match f with
    | .nx => exs C ss e1
    | f => .ok f e1
def exS (C : Cfg) : S → M Fl
  | .asg t a => fun e => (fz (ev C a) e).bind fun d e1 => match bindT t d e1 with
    | some e2 => .ok .nx e2
    | none => .no
  | .own i a => fun e => (ev C a e).bind fun r e1 => ownM i r e1
  | .seti i k a => fun e => (fz (ev C a) e).bind fun d e1 => if (slot e1 i).isMut then (fz (ev C k) e1).bind fun x e2 => setM i x d e2 else .no
  | .app i a => fun e => if ownLst e i then (fz (ev C a) e).bind fun d e1 => appM i d e1 else .no
  | .ext i a => fun e => if ownLst e i then (fz (ev C a) e).bind fun d e1 => extM i d e1 else .no
  | .ex a => fun e => (ev C a e).bind fun _ e1 => .ok .nx e1
  | .ret a => fun e => (retM a (ev C a) e).bind fun r e1 => .ok (.rt r) e1
  | .retn => fun e => .ok (.rt (.val .non)) e
  | .ifs c a b => fun e => (asB (ev C c) e).bind fun t e1 => if t then exs C a e1 else exs C b e1
  | .for tg k as body => fun e => (itM k (evs C as) e).bind fun xs e1 => forL tg (exs C body) xs e1
  | .whl n c body => whlL (asB (ev C c)) (exs C body) n
  | .rse c as => rseM C c (evs C as)
  | .try body cls => tryM C (exs C body) cls
  | .pass => fun e => .ok .nx e
  | .never => fun _ => .no
end
/-! ### defs -/
def argSlot : Arg → Slot
  | .val d => .val d
  | .lent d => .par d
def fins (e : Env) : List Arg → Nat → Option (List D)
  | [], _ => some []
  | .val _ :: as, i => fins e as (i + 1)
  | .lent _ :: as, i => match slot e i, fins e as (i + 1) with
    | .par d, some l => some (d :: l)
    | _, _ => none
def runD (C : Cfg) (np n : Nat) (body : List S) : Fn := fun as =>
  if as.length = np then
    match exs C body (as.map argSlot ++ List.replicate (n - np) .un) with
    | .ok .nx e => match fins e as 0 with
      | some l => .ok (.val .non) l
      | none => .no
    | .ok (.rt r) e => match fins e as 0 with
      | some l => .ok r l
      | none => .no
    | .ex x e => match fins e as 0 with
      | some l => .ex x l
      | none => .no
    | _ => .no
  else .no
end Itp
set_option Elab.async false
set_option linter.all false
set_option maxRecDepth 100000
set_option maxHeartbeats 4000000
namespace Itp
open PySem L2 PySem.Spec
/-! ### enumerate of a tuple, of a text -/
theorem meets_en1 {v : Value} {o : Obj} {Hh : Heap → Prop} (B : Begins v o Hh) :
    Meets (Builtin.«enumerate.__new__» ⟨[.type "enumerate", v], []⟩) (fun _ R s => Hh s.heap ∧ R (.ok (.ret (.ref (s.heap.push o).objs.size))) { s with heap := (s.heap.push o).push { cls := .type "enumerate", data := .fields #[.none, .bool false, .ref s.heap.objs.size, rawInt 0, .none, .none] } }) :=
  .of_wp fun prog w A R s hyp => by
    obtain ⟨hp, gg, dd, tt, ss⟩ := s
    obtain ⟨h1, hyp⟩ := hyp
    have sube := sub_enumerate
    have it1 : ∀ {A2 : Around} {E2 : Value → Shared → Prop} {Q2 : Value → Shared → Prop}, Q2 (.ref hp.objs.size) ⟨hp.push o, gg, dd, tt, ss⟩ → wpAny (model prog w) A2 (pyIter v) Q2 E2 ⟨hp, gg, dd, tt, ss⟩ := fun q => B.iter prog w _ _ ⟨hp, gg, dd, tt, ss⟩ _ h1 q
    wp_walk using it1
    refine wpAny_stack_any fun stk => wpAny_pure ?_
    split
    · rename_i cc _ _ _ _ _
      cases (cc == Value.type "enumerate")
      · wp_walk using it1
        exact ⟨_, rfl, hyp⟩
      · wp_walk using it1
        exact ⟨_, rfl, hyp⟩
    · wp_walk using it1
      exact ⟨_, rfl, hyp⟩
section
variable {prog : Program} {w : World} {A : Around} {E : Value → Shared → Prop} {s : Shared}
theorem en_begins {v : Value} {o : Obj} {Hh : Heap → Prop} {Q : Value → Shared → Prop} (B : Begins v o Hh) (h1 : Hh s.heap)
    (k : ∀ g, IsEnum g (s.heap.objs.size + 1) s.heap.objs.size 0 .none → g.get? s.heap.objs.size = some o → (∀ b ob, s.heap.get? b = some ob → g.get? b = some ob) → Q (.ref (s.heap.objs.size + 1)) { s with heap := g }) :
    wpAny (model prog w) A (call (.type "enumerate") [v]) Q E s := by
  refine callType_new F.called_enumerate (by decide) (F.typeCall_enumerate_1 _) (F.newCall_enumerate_1 _) (fun obj => F.args_object_init_2 obj _) F.entry_enumerate_new (meets_en1 B) ⟨h1, ?_⟩
  have sz : (s.heap.push o).objs.size = s.heap.objs.size + 1 := Heap.size_push ..
  show _ ∧ _
  rw [sz]
  have ie : IsEnum ((s.heap.push o).push { cls := .type "enumerate", data := .fields #[.none, .bool false, .ref s.heap.objs.size, rawInt 0, .none, .none] }) (s.heap.objs.size + 1) s.heap.objs.size 0 .none := by
    have q := Heap.get?_push_size (s.heap.push o) (o := { cls := .type "enumerate", data := .fields #[.none, .bool false, .ref s.heap.objs.size, rawInt 0, .none, .none] }) rfl
    rw [sz] at q
    exact q
  exact ⟨⟨_, ie, rfl⟩, k _ ie (Heap.get?_push_of_some _ (Heap.get?_push_size _ B.free)) fun b ob x => Heap.get?_push_of_some _ (Heap.get?_push_of_some _ x)⟩
end
/-- the turns of enumerate, by what the inner iterator draws -/
theorem turn_en {P : Program} {w : World} {K : PySem.W.Frag} {elts : List Expr} {kk : Nat} {tpos : Pos} (J : It) (e it : Addr) (t0 : Nat → Heap → Prop) (hne : e ≠ it)
    (obj0 : ∀ i h, t0 i h → ∃ o, h.get? it = some o ∧ ∀ v, o.data ≠ .cell v)
    (keep0 : ∀ i h h', t0 i h → (∀ o, h.get? it = some o → h'.get? it = some o) → t0 i h')
    (dI : ∀ (X : Cx), X.prog = P → X.w = w → X.K = K → X.calm = true → ∀ (i : Nat) (pins : List (Addr × Obj)) (s : Shared) (σ : L2.St) (H : Hp), L2.Inv X pins σ H s → H e = none → H it = none → t0 i s.heap → J.go i H →
      ∃ (fp : List Addr) (n : Nat) (Pv : Nat → Value → Prop) (St : Nat → Heap → Prop), Draws P w X.A.in1 it fp n Pv St ∧ e ∉ fp ∧ (∀ i h, St i h → t0 i h) ∧ St i s.heap ∧ i < n ∧
        ∀ u, Pv i u → ∃ x, RelV x u ∧ ∀ T, H T = none → J.yld i H (.ref T) (upd H T (.tup [.int (i : Nat), x])))
    (dS : ∀ (X : Cx), X.prog = P → X.w = w → X.K = K → X.calm = true → ∀ (i : Nat) (pins : List (Addr × Obj)) (s : Shared) (σ : L2.St) (H : Hp), L2.Inv X pins σ H s → H e = none → H it = none → t0 i s.heap → J.stop i H →
      ∃ (fp : List Addr) (Pv : Nat → Value → Prop) (St : Nat → Heap → Prop), Draws P w X.A.in1 it fp i Pv St ∧ St i s.heap) :
    Turn P w K (.Tuple elts kk tpos) J [e, it] e (fun i h => (∃ old, IsEnum h e it ((i : Nat) : Int) old) ∧ t0 i h) where
  mem := by simp
  obj := fun i h st b hb => by
    obtain ⟨⟨old, ie⟩, h0⟩ := st
    have z : b = e ∨ b = it := by simpa using hb
    rcases z with rfl | rfl
    · exact ⟨_, ie, fun v q => nomatch q⟩
    · exact obj0 i h h0
  keep := fun i h h' st k => by
    obtain ⟨⟨old, ie⟩, h0⟩ := st
    exact ⟨⟨old, k e (by simp) _ ie⟩, keep0 i h h' h0 fun o q => k it (by simp) o q⟩
  item := by
    intro X hP hw hK hc i pins s σ H E I hf st hg
    obtain ⟨⟨old, ie⟩, h0⟩ := st
    obtain ⟨fp, n, Pv, St, D, ef, sub, hst, hlt, yl⟩ := dI X hP hw hK hc i pins s σ H I (hf e (by simp)).1 (hf it (by simp)).1 h0 hg
    have el : e < s.heap.objs.size := Heap.lt_size ie
    have il : it < s.heap.objs.size := by obtain ⟨_, q⟩ := D.live _ _ hst; exact Heap.lt_size q
    refine wpAny_pyNext_enum_itemD D ie hst hlt hne ef fun u g tk hu io hst' hT hsz hk => ?_
    obtain ⟨x, rx, yx⟩ := yl u hu
    refine ⟨_, rfl, wpAny_letOwnedTupleGo_enum (s := { s with heap := g, toks := tk + 1 }) io fun g2 ie' sb => ?_⟩
    have hT2 : g2.get? s.heap.objs.size = some { cls := .type "tuple", data := .seq #[.int i tk, u] } := (sb.2 _ (Nat.ne_of_gt el)).trans hT
    have new : ObjOk X.prog X.w (upd H s.heap.objs.size (.tup [.int (i : Nat), x])) g2 s.heap.objs.size (.tup [.int (i : Nat), x]) :=
      ⟨by show 2 ≤ sizeLine; decide, [.int i tk, u], .cons ⟨_, rfl⟩ (.cons rx .nil), ⟨_, hT2, rfl, _, rfl⟩⟩
    have I1 : L2.Inv X pins σ (upd H s.heap.objs.size (.tup [.int (i : Nat), x])) { s with heap := g2, toks := tk + 1 } :=
      I.turnedNew (ch := [e, it]) (fun b ob hb q => (sb.2 b (fun z => hb (by simp [z]))).trans (hk b ob (fun z => hb (by simp [z])) (fun z => hb (by simp [z])) q)) hf (Nat.le_refl _) new
    refine ⟨.ref s.heap.objs.size, _, I1, rfl, yx _ (I.hok.fresh (Nat.le_refl _)), ⟨⟨u, ?_⟩, keep0 _ _ _ (sub _ _ hst') fun o q => (sb.2 it (Ne.symm hne)).trans q⟩, fun b hb => ?_⟩
    · have e1 : ((i + 1 : Nat) : Int) = (i : Int) + 1 := by omega
      rw [e1]
      exact ie'
    · have hb' : b < s.heap.objs.size := by
        have z : b = e ∨ b = it := by simpa using hb
        rcases z with rfl | rfl
        · exact el
        · exact il
      rw [upd_ne (Nat.ne_of_lt hb')]
      exact (hf b hb).1
  done := by
    intro X hP hw hK hc i pins s σ H E I hf st hg
    obtain ⟨⟨old, ie⟩, h0⟩ := st
    obtain ⟨fp, Pv, St, D, hst⟩ := dS X hP hw hK hc i pins s σ H I (hf e (by simp)).1 (hf it (by simp)).1 h0 hg
    obtain ⟨f0, f1, f2, f3, f4, f5⟩ := hf it (by simp)
    exact wpAny_pyNext_enum_endD D ie hst fun g eb => ⟨rfl, I.turned (t' := s.toks) (fun b o hb q => eb b o hb q) f0 f1 f3 f4 f5⟩
  self := fun A i s Q E st h => by
    obtain ⟨⟨_, ie⟩, _⟩ := st
    exact wpAny_pyIter_enum ie h
/-- the tuple at a, each item in a new pair -/
def IteT (K : PySem.W.Frag) (a : Addr) : It where
  go := fun i H => ∃ (xs : List V) (x : V), SqT K H a xs ∧ xs[i]? = some x
  yld := fun i H v H' => ∃ T x, v = .ref T ∧ H T = none ∧ H' = upd H T (.tup [.int (i : Nat), x]) ∧ ∀ xs, SqT K H a xs → xs[i]? = some x
  stop := fun i H => ∃ xs : List V, SqT K H a xs ∧ xs.length ≤ i
/-- the text, each sign in a new pair -/
def IteS (z : Str) : It where
  go := fun i _ => i < z.cps.size
  yld := fun i H v H' => ∃ T c, v = .ref T ∧ H T = none ∧ H' = upd H T (.tup [.int (i : Nat), .str ⟨#[c]⟩]) ∧ z.cps[i]? = some c
  stop := fun i _ => z.cps.size ≤ i
theorem turn_enT {P : Program} {w : World} {K : PySem.W.Frag} {elts : List Expr} {kk : Nat} {tpos : Pos} (a e it : Addr) (hne : e ≠ it) (hea : e ≠ a) (hia : a ≠ it) :
    Turn P w K (.Tuple elts kk tpos) (IteT K a) [e, it] e (fun i h => (∃ old, IsEnum h e it ((i : Nat) : Int) old) ∧ h.IsTupleIter it a i) := by
  refine turn_en (IteT K a) e it (fun i h => h.IsTupleIter it a i) hne (fun i h st => ?_) (fun i h h' st k => st.at k) ?_ ?_
  · obtain ⟨o, ho, hc, hd⟩ := st
    exact ⟨o, ho, fun v q => by rw [hd] at q; cases q⟩
  · intro X hP hw hK hc i pins s σ H I he hi st hg
    subst hP hw hK
    obtain ⟨xs, x, hq, hx⟩ := hg
    obtain ⟨its, rv, p, hz⟩ := I.tuple hq
    obtain ⟨u, hu, ru⟩ := rv.get hx
    refine ⟨_, _, _, _, Draws.tuple (A := X.A.in1) (I.ok.hd hc) it a hia its.toArray, by simp [hne, hea], fun _ _ q => q.1, ⟨st, p⟩, ?_, fun u' hu' => ?_⟩
    · have := (List.getElem?_eq_some_iff.mp hu).1
      simpa using this
    · have : u' = u := by
        have hu' : its.toArray[i]? = some u' := hu'
        simp only [List.getElem?_toArray] at hu'
        rw [hu] at hu'
        cases hu'
        rfl
      subst this
      exact ⟨x, ru, fun T hT => ⟨T, x, rfl, hT, rfl, fun ys hy => by rw [I.tuple_inj hy hq]; exact hx⟩⟩
  · intro X hP hw hK hc i pins s σ H I he hi st hg
    subst hP hw hK
    obtain ⟨xs, hq, hx⟩ := hg
    obtain ⟨its, rv, p, hz⟩ := I.tuple hq
    have hl := rv.length
    refine ⟨[it, a], fun _ _ => True, fun j h => j = i ∧ h.IsTupleIter it a i ∧ h.IsTuple a its.toArray, ?_, rfl, st, p⟩
    exact { live := fun _ _ q => let ⟨o, ho, _⟩ := q.2.1; ⟨o, ho⟩
            frame := fun _ _ _ q hk => ⟨q.1, q.2.1.at fun o y => hk it (by simp) o y, q.2.2.at fun o y => hk a (by simp) o y⟩
            item := fun j s Q E hj q hQ => absurd q.1 (Nat.ne_of_lt hj)
            done := fun s Q E q hE => wpAny_nextOf_tuple_end (I.ok.hd hc) q.2.1 q.2.2 (by simp; omega) hE }
theorem turn_enS {P : Program} {w : World} {K : PySem.W.Frag} {elts : List Expr} {kk : Nat} {tpos : Pos} (z : Str) (t : Tok) (e it : Addr) (hne : e ≠ it) :
    Turn P w K (.Tuple elts kk tpos) (IteS z) [e, it] e (fun i h => (∃ old, IsEnum h e it ((i : Nat) : Int) old) ∧ h.IsStrIter it (strIterType z) z t i) := by
  refine turn_en (IteS z) e it (fun i h => h.IsStrIter it (strIterType z) z t i) hne (fun i h st => ?_) (fun i h h' st k => ?_) ?_ ?_
  · obtain ⟨o, ho, hc, hd⟩ := st
    exact ⟨o, ho, fun v q => by rw [hd] at q; cases q⟩
  · obtain ⟨o, ho, r⟩ := st
    exact ⟨o, k o ho, r⟩
  · intro X hP hw hK hc i pins s σ H I he hi st hg
    subst hP hw hK
    refine ⟨_, _, _, _, Draws.text (A := X.A.in1) (I.ok.hd hc) it z t, by simp [hne], fun _ _ q => q, st, hg, fun u hu => ?_⟩
    obtain ⟨c, u', h1, rfl⟩ := hu
    exact ⟨.str ⟨#[c]⟩, ⟨_, rfl⟩, fun T hT => ⟨T, c, rfl, hT, rfl, h1⟩⟩
  · intro X hP hw hK hc i pins s σ H I he hi st hg
    subst hP hw hK
    have hn : z.cps[i]? = none := Array.getElem?_eq_none hg
    refine ⟨[it], fun _ _ => True, fun j h => j = i ∧ h.IsStrIter it (strIterType z) z t i, ?_, rfl, st⟩
    exact { live := fun _ _ q => let ⟨o, ho, _⟩ := q.2; ⟨o, ho⟩
            frame := fun _ _ _ q hk => ⟨q.1, let ⟨o, ho, r⟩ := q.2; ⟨o, hk it (by simp) o ho, r⟩⟩
            item := fun j s Q E hj q hQ => absurd q.1 (Nat.ne_of_lt hj)
            done := fun s Q E q hE => by
              have q := q.2
              unfold strIterType at q
              split at q
              · exact wpAny_nextOf_ascii_end (I.ok.hd hc) q hn hE
              · exact wpAny_nextOf_wide_end (I.ok.hd hc) q hn hE }
/-- enumerate of a list, a tuple or a text -/
def iEnG (K : PySem.W.Frag) (ta : TA) : TI := fun σ H R => ta σ H fun vs H1 => (∃ a xs, vs = [.ref a] ∧ SqL K H1 a xs ∧ R (Ite K a) H1) ∨ (∃ a xs, vs = [.ref a] ∧ SqT K H1 a xs ∧ R (IteT K a) H1) ∨ ∃ z, vs = [.str z] ∧ R (IteS z) H1
theorem sqT_lt {X : Cx} {pins : List (Addr × Obj)} {σ : L2.St} {H : Hp} {s : Shared} {a : Addr} {xs : List V} (I : L2.Inv X pins σ H s) (h : SqT X.K H a xs) : a < s.heap.objs.size := by
  obtain ⟨its, rv, ⟨o, e, _⟩, hz⟩ := I.tuple h
  exact Heap.lt_size e
theorem boot_en : bootBuiltins "enumerate" = some (.type "enumerate") := by decide +kernel
theorem pi_enG {X : Cx} {e : Expr} {ta : TA} {p pos tpos : Pos} {elts : List Expr} {kk : Nat} (hg : Gl X "enumerate") (hm : X.mg "enumerate" = none) (ha : PA X [e] ta) (hs : starEach [e] X.env = [(false, eval e X.env)]) :
    PI X (.Tuple elts kk tpos) (.Call (.Name "enumerate" p) [e] [] pos) (iEnG X.K ta) := by
  refine ⟨fun pins s σ H R I h => ?_⟩
  refine PyProof.Rows.Call_ (ld_blt I hg hm boot_en (PyProof.Rows.callWith_type1 (thn (ha.run pos pins s σ H _ I h) fun us s1 ⟨vs, H1, I1, r1, q1⟩ => ?_) hs rfl))
  have fpk : ∀ {H2 : Hp}, (∀ b, s1.heap.objs.size ≤ b → H2 b = none) → ∀ b ∈ [s1.heap.objs.size + 1, s1.heap.objs.size], FpOk X pins H2 b := fun hn b hb => by
    have z : b = s1.heap.objs.size + 1 ∨ b = s1.heap.objs.size := by simpa using hb
    have hle : s1.heap.objs.size ≤ b := by
      rcases z with z | z
      · rw [z]; exact Nat.le_add_right _ _
      · rw [z]; exact Nat.le_refl _
    exact I1.fpOk hle (hn b hle)
  rcases q1 with ⟨a, xs, ex, hq, q⟩ | ⟨a, xs, ex, hq, q⟩ | ⟨z, ex, q⟩
  · subst ex
    cases r1 with
    | cons r rr =>
      cases rr
      cases r
      obtain ⟨its, rv, p', hz⟩ := I1.list hq
      refine call_enumerate_list p'.isList fun h' he hit hsz hk => wpAny_pyIter_enum he ?_
      have I2 : L2.Inv X pins σ H1 { s1 with heap := h' } := I1.kept (t' := s1.toks) hk
      exact ⟨s1.heap.objs.size + 1, [s1.heap.objs.size + 1, s1.heap.objs.size], _, _, H1, rfl, I2, turn_enum a (s1.heap.objs.size + 1) s1.heap.objs.size, ⟨⟨.none, he⟩, hit, Nat.succ_ne_self _⟩, fpk fun b hb => I1.hok.fresh hb, q⟩
  · subst ex
    cases r1 with
    | cons r rr =>
      cases rr
      cases r
      obtain ⟨its, rv, p', hz⟩ := I1.tuple hq
      have al := sqT_lt I1 hq
      refine en_begins (begins_tuple a its.toArray) p' fun g he hit hk => wpAny_pyIter_enum he ?_
      have I2 : L2.Inv X pins σ H1 { s1 with heap := g } := I1.kept (t' := s1.toks) hk
      exact ⟨s1.heap.objs.size + 1, [s1.heap.objs.size + 1, s1.heap.objs.size], _, _, H1, rfl, I2, turn_enT a (s1.heap.objs.size + 1) s1.heap.objs.size (Nat.succ_ne_self _) (Nat.ne_of_gt (Nat.lt_succ_of_lt al)) (Nat.ne_of_lt al), ⟨⟨.none, he⟩, ⟨_, hit, rfl, rfl⟩⟩, fpk fun b hb => I1.hok.fresh hb, q⟩
  · subst ex
    cases r1 with
    | cons r rr =>
      cases rr
      obtain ⟨t, rfl⟩ := r
      refine en_begins (begins_text z t) trivial fun g he hit hk => wpAny_pyIter_enum he ?_
      have I2 : L2.Inv X pins σ H1 { s1 with heap := g } := I1.kept (t' := s1.toks) hk
      exact ⟨s1.heap.objs.size + 1, [s1.heap.objs.size + 1, s1.heap.objs.size], _, _, H1, rfl, I2, turn_enS z t (s1.heap.objs.size + 1) s1.heap.objs.size (Nat.succ_ne_self _), ⟨⟨.none, he⟩, ⟨_, hit, rfl, rfl⟩⟩, fpk fun b hb => I1.hok.fresh hb, q⟩
end Itp
set_option Elab.async false
set_option linter.all false
set_option maxRecDepth 100000
namespace Itp
open PySem L2
/-- the world of a row: what is written, where the defs and the error classes stand -/
structure Wd where
  K : PySem.W.Frag
  fa : Nat → Option Addr
  ca : Nat → Option Addr
def Ex (H H' : Hp) : Prop := ∀ a o, H a = some o → H' a = some o
theorem Ex.refl (H : Hp) : Ex H H := fun _ _ h => h
theorem Ex.trans {H H1 H2 : Hp} (a : Ex H H1) (b : Ex H1 H2) : Ex H H2 := fun x o h => b x o (a x o h)
theorem Ex.new {H : Hp} {p : Addr} {o : HO} (h : H p = none) : Ex H (upd H p o) := fun a u e => by
  rw [upd_ne (ne_of_none e h)]
  exact e
theorem ex_rd {H H' : Hp} {a : Addr} {u : HO} (e : Ex H H') (h : Rd H a u) : Rd H' a u := by
  rcases h with h | ⟨o, h⟩
  · exact Or.inl (e a _ h)
  · exact Or.inr ⟨o, e a _ h⟩
theorem ex_l {K : PySem.W.Frag} {H H' : Hp} {a : Addr} {xs : List V} (e : Ex H H') (h : SqL K H a xs) : SqL K H' a xs := by
  rcases h with h | h
  · exact Or.inl (ex_rd e h)
  · exact Or.inr h
theorem ex_t {K : PySem.W.Frag} {H H' : Hp} {a : Addr} {xs : List V} (e : Ex H H') (h : SqT K H a xs) : SqT K H' a xs := by
  rcases h with h | h
  · exact Or.inl (ex_rd e h)
  · exact Or.inr h
/-- the datum of a dict's key -/
def keyD : Key → D
  | .inl i => .int i
  | .inr x => .str x.cps.toList
mutual
def Rep (W : Wd) (G : Hp) : D → V → Prop
  | .non, v => v = .non
  | .bl b, v => v = .bl b
  | .int i, v => v = .int i
  | .str s, v => v = .str ⟨s.toArray⟩
  | .tup ds, v => ∃ a vs, v = .ref a ∧ G a = some (.tup vs) ∧ Reps W G ds vs
  | .lst ds, v => ∃ a vs, v = .ref a ∧ G a = some (.lst vs) ∧ Reps W G ds vs
  | .dct kvs, v => ∃ a, v = .ref a ∧ ((∃ l : List (Key × V), G a = some (.dK l) ∧ RepK W G kvs (l.map fun p => (keyD p.1, p.2))) ∨
      ∃ l : List (List Key × V), G a = some (.dT l) ∧ RepK W G kvs (l.map fun p => (.tup (p.1.map keyD), p.2)))
  | .fn n, v => ∃ a, W.fa n = some a ∧ v = .ref a
  | .scr ns, v => ∃ a, v = .ref a ∧ SqL W.K G a (ns.map V.int)
def Reps (W : Wd) (G : Hp) : List D → List V → Prop
  | [], vs => vs = []
  | d :: ds, vs => ∃ v r, vs = v :: r ∧ Rep W G d v ∧ Reps W G ds r
def RepK (W : Wd) (G : Hp) : List (D × D) → List (D × V) → Prop
  | [], l => l = []
  | (k, d) :: ds, l => ∃ v r, l = (k, v) :: r ∧ Rep W G d v ∧ RepK W G ds r
end
mutual
theorem Rep.mono {W : Wd} {G G' : Hp} (x : Ex G G') : ∀ (d : D) (v : V), Rep W G d v → Rep W G' d v
  | .non, _, h => by simpa only [Rep] using h
  | .bl _, _, h => by simpa only [Rep] using h
  | .int _, _, h => by simpa only [Rep] using h
  | .str _, _, h => by simpa only [Rep] using h
  | .tup ds, _, h => by
    simp only [Rep] at h ⊢
    obtain ⟨a, vs, e, h1, h2⟩ := h
    exact ⟨a, vs, e, x _ _ h1, Reps.mono x ds vs h2⟩
  | .lst ds, _, h => by
    simp only [Rep] at h ⊢
    obtain ⟨a, vs, e, h1, h2⟩ := h
    exact ⟨a, vs, e, x _ _ h1, Reps.mono x ds vs h2⟩
  | .dct kvs, _, h => by
    simp only [Rep] at h ⊢
    obtain ⟨a, e, ⟨l, h1, h2⟩ | ⟨l, h1, h2⟩⟩ := h
    · exact ⟨a, e, .inl ⟨l, x _ _ h1, RepK.mono x kvs _ h2⟩⟩
    · exact ⟨a, e, .inr ⟨l, x _ _ h1, RepK.mono x kvs _ h2⟩⟩
  | .fn _, _, h => by simpa only [Rep] using h
  | .scr _, _, h => by
    simp only [Rep] at h ⊢
    obtain ⟨a, e, h1⟩ := h
    exact ⟨a, e, ex_l x h1⟩
theorem Reps.mono {W : Wd} {G G' : Hp} (x : Ex G G') : ∀ (ds : List D) (vs : List V), Reps W G ds vs → Reps W G' ds vs
  | [], _, h => by simpa only [Reps] using h
  | d :: ds, _, h => by
    simp only [Reps] at h ⊢
    obtain ⟨v, r, e, h1, h2⟩ := h
    exact ⟨v, r, e, Rep.mono x d v h1, Reps.mono x ds r h2⟩
theorem RepK.mono {W : Wd} {G G' : Hp} (x : Ex G G') : ∀ (ds : List (D × D)) (l : List (D × V)), RepK W G ds l → RepK W G' ds l
  | [], _, h => by simpa only [RepK] using h
  | (k, d) :: ds, _, h => by
    simp only [RepK] at h ⊢
    obtain ⟨v, r, e, h1, h2⟩ := h
    exact ⟨v, r, e, Rep.mono x d v h1, RepK.mono x ds r h2⟩
end
/-- what stands at the address of a mutable thing -/
def Cont (W : Wd) (G H : Hp) (a : Addr) : D → Prop
  | .lst ds => ∃ vs, H a = some (.lst vs) ∧ Reps W G ds vs
  | .dct kvs => (∃ l : List (Key × V), H a = some (.dK l) ∧ RepK W G kvs (l.map fun p => (keyD p.1, p.2))) ∨
      ∃ l : List (List Key × V), H a = some (.dT l) ∧ RepK W G kvs (l.map fun p => (.tup (p.1.map keyD), p.2))
  | _ => False
theorem Cont.some {W : Wd} {G H : Hp} {a : Addr} {d : D} (h : Cont W G H a d) : ∃ o, H a = some o := by
  cases d with
  | lst ds => obtain ⟨vs, e, _⟩ := h; exact ⟨_, e⟩
  | dct kvs => rcases h with ⟨l, e, _⟩ | ⟨l, e, _⟩ <;> exact ⟨_, e⟩
  | _ => exact h.elim
theorem Cont.mono {W : Wd} {G G' H H' : Hp} {a : Addr} {d : D} (h : Cont W G H a d) (x : Ex G G') (e : ∀ o, H a = .some o → H' a = .some o) : Cont W G' H' a d := by
  cases d with
  | lst ds => obtain ⟨vs, q, r⟩ := h; exact ⟨vs, e _ q, Reps.mono x _ _ r⟩
  | dct kvs =>
    rcases h with ⟨l, q, r⟩ | ⟨l, q, r⟩
    · exact .inl ⟨l, e _ q, RepK.mono x _ _ r⟩
    · exact .inr ⟨l, e _ q, RepK.mono x _ _ r⟩
  | _ => exact h.elim
/-- a mutable thing is let be -/
theorem Cont.rep {W : Wd} {G H : Hp} {a : Addr} {d : D} (h : Cont W G H a d) (e : H a = G a) : Rep W G d (.ref a) := by
  cases d with
  | lst ds => obtain ⟨vs, q, r⟩ := h; simp only [Rep]; exact ⟨a, vs, rfl, e ▸ q, r⟩
  | dct kvs =>
    simp only [Rep]
    rcases h with ⟨l, q, r⟩ | ⟨l, q, r⟩
    · exact ⟨a, rfl, .inl ⟨l, e ▸ q, r⟩⟩
    · exact ⟨a, rfl, .inr ⟨l, e ▸ q, r⟩⟩
  | _ => exact h.elim
def OwnA (σ : St) (e : Env) (a : Addr) : Prop := ∃ i, (slot e i).isMut = true ∧ σ[i]? = some (some (.ref a))
structure Keep (S : Addr → Prop) (G H : Hp) (S' : Addr → Prop) (G' H' : Hp) : Prop where
  gg : Ex G G'
  gh : Ex G' H'
  hh : ∀ a o, H a = some o → ¬ S a → H' a = some o
  hg : ∀ a o, H a = some o → ¬ S a → G a = none → G' a = none
  ss : ∀ a, S' a → S a ∨ H a = none
theorem Keep.refl {S : Addr → Prop} {G H : Hp} (x : Ex G H) : Keep S G H S G H := ⟨Ex.refl G, x, fun _ _ h _ => h, fun _ _ _ _ h => h, fun _ h => .inl h⟩
theorem Keep.back {S S' : Addr → Prop} {G H G' H' : Hp} (k : Keep S G H S' G' H') {a : Addr} (h : H' a = none) : S a ∨ H a = none := by
  by_cases hs : S a
  · exact .inl hs
  · cases e : H a with
    | none => exact .inr rfl
    | some o => rw [k.hh a o e hs] at h; cases h
theorem Keep.trans {S S1 S2 : Addr → Prop} {G H G1 H1 G2 H2 : Hp} (k : Keep S G H S1 G1 H1) (l : Keep S1 G1 H1 S2 G2 H2) : Keep S G H S2 G2 H2 where
  gg := k.gg.trans l.gg
  gh := l.gh
  hh := fun a o h n => l.hh a o (k.hh a o h n) fun s => by
    rcases k.ss a s with q | q
    · exact n q
    · rw [h] at q; cases q
  hg := fun a o h n g => l.hg a o (k.hh a o h n) (fun s => by
    rcases k.ss a s with q | q
    · exact n q
    · rw [h] at q; cases q) (k.hg a o h n g)
  ss := fun a s => by
    rcases l.ss a s with q | q
    · exact k.ss a q
    · exact k.back q
theorem Keep.fresh {S S1 : Addr → Prop} {G H G1 H1 : Hp} (k : Keep S G H S1 G1 H1) {a : Addr} (h : S1 a ∨ H1 a = none) : S a ∨ H a = none := by
  rcases h with h | h
  · exact k.ss a h
  · exact k.back h
def SlotOk (W : Wd) (G H : Hp) (σ : St) (i : Nat) : Slot → Prop
  | .un => True
  | .val d => ∃ v, σ[i]? = some (some v) ∧ Rep W G d v
  | .own d => ∃ a, σ[i]? = some (some (.ref a)) ∧ G a = none ∧ Cont W G H a d
  | .par d => ∃ a, σ[i]? = some (some (.ref a)) ∧ G a = none ∧ Cont W G H a d
structure StOk (W : Wd) (G H : Hp) (σ : St) (e : Env) : Prop where
  gh : Ex G H
  len : e.length = σ.length
  sl : ∀ i, SlotOk W G H σ i (slot e i)
  inj : ∀ i j a, i ≠ j → (slot e i).isMut = true → (slot e j).isMut = true → σ[i]? = some (some (.ref a)) → σ[j]? ≠ some (some (.ref a))
/-- the result of an expression: let be, or new and one's own -/
def ResOk (W : Wd) (S : Addr → Prop) (H : Hp) (S' : Addr → Prop) (G' H' : Hp) : Res → V → Prop
  | .val d, v => Rep W G' d v
  | .new d, v => ∃ a, v = .ref a ∧ G' a = none ∧ Cont W G' H' a d ∧ ¬ S' a ∧ (S a ∨ H a = none)
def fldsOk (W : Wd) (G : Hp) : List (Str × D) → List (Str × V) → Prop
  | [], _ => True
  | (f, d) :: r, l => (∃ v, l.lookup f = some v ∧ Rep W G d v) ∧ fldsOk W G r l
/-- an exception: its class, its dict -/
def XOk (W : Wd) (G' H' : Hp) (x : Xc) (c : Value) (d : Option Addr) : Prop :=
  ∃ C, W.ca x.cls = some C ∧ c = .ref C ∧ ((x.fs = [] ∧ d = none) ∨ ∃ dx l, d = some dx ∧ H' dx = some (.xd l) ∧ fldsOk W G' x.fs l)
/-! ### what is wanted behind a piece -/
def Aft {α β : Type} (W : Wd) (R : (Addr → Prop) → Hp → (Addr → Prop) → Hp → Hp → α → β → Prop) (σ : St) (S : Addr → Prop) (G H : Hp) (Q : β → Hp → Prop) (Wx : WX) : Rs α → Prop
  | .no => False
  | .ok r e' => ∀ v G' H', Keep S G H (OwnA σ e') G' H' → StOk W G' H' σ e' → R S H (OwnA σ e') G' H' r v → Q v H'
  | .ex x e' => ∀ c d G' H', Keep S G H (OwnA σ e') G' H' → StOk W G' H' σ e' → XOk W G' H' x c d → Wx c d σ H'
/-- relations that bear a further step ahead -/
def Bears {α β : Type} (R : (Addr → Prop) → Hp → (Addr → Prop) → Hp → Hp → α → β → Prop) : Prop :=
  ∀ (S S1 S' : Addr → Prop) (H H1 G' H' : Hp) (r : α) (v : β), (∀ a, (S1 a ∨ H1 a = none) → (S a ∨ H a = none)) → R S1 H1 S' G' H' r v → R S H S' G' H' r v
theorem ResOk.bears {W : Wd} : Bears (ResOk W) := fun S S1 S' H H1 G' H' r v f h => by
  cases r with
  | val d => exact h
  | new d => obtain ⟨a, h1, h2, h3, h4, h5⟩ := h; exact ⟨a, h1, h2, h3, h4, f a h5⟩
theorem Aft.step {α β : Type} {W : Wd} {R : (Addr → Prop) → Hp → (Addr → Prop) → Hp → Hp → α → β → Prop} (B : Bears R) {σ : St} {S S1 : Addr → Prop} {G H G1 H1 : Hp} {Q : β → Hp → Prop} {Wx : WX} {o : Rs α}
    (k : Keep S G H S1 G1 H1) (h : Aft W R σ S G H Q Wx o) : Aft W R σ S1 G1 H1 Q Wx o := by
  cases o with
  | no => exact h
  | ok r e' => exact fun v G' H' k' s r' => h v G' H' (k.trans k') s (B _ _ _ _ _ _ _ _ _ (fun a => k.fresh) r')
  | ex x e' => exact fun c d G' H' k' s r' => h c d G' H' (k.trans k') s r'
/-- the whole of what an expression can be run for -/
def WE (X : Cx) (e : Expr) : TE := fun σ H Q => ∀ (pins : List (Addr × Obj)) (s : Shared), Inv X pins σ H s → wpAny (model X.prog X.w) X.A (eval e X.env) (EP X pins σ Q) X.xe s
def WT (X : Cx) (e : Expr) : TT := fun σ H Q => ∀ (pins : List (Addr × Obj)) (s : Shared), Inv X pins σ H s → wpAny (model X.prog X.w) X.A (isTrue e X.env (eval e X.env)) (TP X pins σ Q) X.xe s
def WS (X : Cx) (st : Stmt) : TS := fun D σ H => ∀ (pins : List (Addr × Obj)) (s : Shared), Inv X pins σ H s → wpAny (model X.prog X.w) X.A (exec st X.env) (SP X pins D) X.xe s
def WSs (X : Cx) (st : List Stmt) : TS := fun D σ H => ∀ (pins : List (Addr × Obj)) (s : Shared), Inv X pins σ H s → wpAny (model X.prog X.w) X.A (execs st X.env) (SP X pins D) X.xe s
variable {X : Cx} {e : Expr} {σ : St} {H : Hp}
theorem peU : PE X e (WE X e) := ⟨fun pins s _ _ _ I h => h pins s I⟩
theorem ptU : PT X e (WT X e) := ⟨fun pins s _ _ _ I h => h pins s I⟩
theorem psU {st : Stmt} : PS X st (WS X st) := ⟨fun pins s _ _ _ I h => h pins s I⟩
theorem pssU {st : List Stmt} : PSs X st (WSs X st) := ⟨fun pins s _ _ _ I h => h pins s I⟩
theorem of_pe {t : TE} {Q : VK} (p : PE X e t) (h : t σ H Q) : WE X e σ H Q := fun pins s I => p.run pins s σ H Q I h
theorem of_pt {t : TT} {Q : Bool → Hp → Prop} (p : PT X e t) (h : t σ H Q) : WT X e σ H Q := fun pins s I => p.run pins s σ H Q I h
theorem of_ps {t : TS} {st : Stmt} {D : Ends} (p : PS X st t) (h : t D σ H) : WS X st D σ H := fun pins s I => p.run pins s σ H D I h
theorem of_pss {t : TS} {st : List Stmt} {D : Ends} (p : PSs X st t) (h : t D σ H) : WSs X st D σ H := fun pins s I => p.run pins s σ H D I h
def GoodE (X : Cx) (W : Wd) (Wx : WX) (e : Expr) (m : M Res) : Prop := ∀ (env : Env) (σ : St) (G H : Hp) (Q : VK), StOk W G H σ env → Aft W (ResOk W) σ (OwnA σ env) G H Q Wx (m env) → WE X e σ H Q
def DOk (W : Wd) (_ : Addr → Prop) (_ : Hp) (_ : Addr → Prop) (G' _ : Hp) : D → V → Prop := fun d v => Rep W G' d v
theorem DOk.bears {W : Wd} : Bears (DOk W) := fun _ _ _ _ _ _ _ _ _ _ h => h
def BOk (_ : Addr → Prop) (_ : Hp) (_ : Addr → Prop) (_ _ : Hp) : Bool → Bool → Prop := fun b c => c = b
theorem BOk.bears : Bears BOk := fun _ _ _ _ _ _ _ _ _ _ h => h
theorem isMut_own {s : Slot} (h : s.isMut = true) : ∃ d, (s = .own d ∨ s = .par d) := by
  cases s with
  | un => cases h
  | val d => cases h
  | own d => exact ⟨d, .inl rfl⟩
  | par d => exact ⟨d, .inr rfl⟩
theorem StOk.mut {W : Wd} {G H : Hp} {σ : St} {env : Env} (s : StOk W G H σ env) {i : Nat} (h : (slot env i).isMut = true) : ∃ d a, (slot env i).d? = some d ∧ σ[i]? = some (some (.ref a)) ∧ G a = none ∧ Cont W G H a d := by
  obtain ⟨d, e | e⟩ := isMut_own h
  · have q := s.sl i; rw [e] at q; obtain ⟨a, q1, q2, q3⟩ := q; exact ⟨d, a, by rw [e]; rfl, q1, q2, q3⟩
  · have q := s.sl i; rw [e] at q; obtain ⟨a, q1, q2, q3⟩ := q; exact ⟨d, a, by rw [e]; rfl, q1, q2, q3⟩
/-- more is let be, nothing of one's own is -/
theorem StOk.grow {W : Wd} {G G' H H' : Hp} {σ : St} {env : Env} (s : StOk W G H σ env) (gg : Ex G G') (gh : Ex G' H') (hh : ∀ a o, OwnA σ env a → H a = some o → H' a = some o) (hg : ∀ a, OwnA σ env a → G' a = none) : StOk W G' H' σ env where
  gh := gh
  len := s.len
  inj := s.inj
  sl := fun i => by
    have q := s.sl i
    cases e : slot env i with
    | un => trivial
    | val d => rw [e] at q; obtain ⟨v, q1, q2⟩ := q; exact ⟨v, q1, Rep.mono gg _ _ q2⟩
    | own d =>
      rw [e] at q; obtain ⟨a, q1, q2, q3⟩ := q
      have o : OwnA σ env a := ⟨i, by rw [e]; rfl, q1⟩
      exact ⟨a, q1, hg a o, q3.mono gg fun u hu => hh a u o hu⟩
    | par d =>
      rw [e] at q; obtain ⟨a, q1, q2, q3⟩ := q
      have o : OwnA σ env a := ⟨i, by rw [e]; rfl, q1⟩
      exact ⟨a, q1, hg a o, q3.mono gg fun u hu => hh a u o hu⟩
theorem StOk.own_some {W : Wd} {G H : Hp} {σ : St} {env : Env} (s : StOk W G H σ env) {a : Addr} (h : OwnA σ env a) : ∃ o, H a = some o := by
  obtain ⟨i, h1, h2⟩ := h
  obtain ⟨d, b, _, e, _, c⟩ := s.mut h1
  rw [h2] at e
  cases e
  exact c.some
theorem StOk.own_none {W : Wd} {G H : Hp} {σ : St} {env : Env} (s : StOk W G H σ env) {a : Addr} (h : OwnA σ env a) : G a = none := by
  obtain ⟨i, h1, h2⟩ := h
  obtain ⟨d, b, _, e, g, c⟩ := s.mut h1
  rw [h2] at e
  cases e
  exact g
/-- a new thing is laid and let be -/
theorem StOk.laidF {W : Wd} {G H : Hp} {σ : St} {env : Env} (s : StOk W G H σ env) {p : Addr} {o : HO} (hp : H p = none) : StOk W (upd G p o) (upd H p o) σ env := by
  have gp : G p = none := by
    cases q : G p with
    | none => rfl
    | some u => rw [s.gh p u q] at hp; cases hp
  refine s.grow (Ex.new gp) (fun a u h => ?_) (fun a u ho h => ?_) fun a ho => ?_
  · by_cases e : a = p
    · subst e; rw [upd_same] at h ⊢; exact h
    · rw [upd_ne e] at h ⊢; exact s.gh a u h
  · rw [upd_ne (ne_of_none h hp)]; exact h
  · obtain ⟨u, hu⟩ := s.own_some ho
    rw [upd_ne (ne_of_none hu hp)]
    exact s.own_none ho
/-- a new thing is laid, not let be -/
theorem StOk.laidN {W : Wd} {G H : Hp} {σ : St} {env : Env} (s : StOk W G H σ env) {p : Addr} {o : HO} (hp : H p = none) : StOk W G (upd H p o) σ env :=
  s.grow (Ex.refl G) (s.gh.trans (Ex.new hp)) (fun a u _ h => by rw [upd_ne (ne_of_none h hp)]; exact h) fun a ho => s.own_none ho
theorem Keep.laidF {S : Addr → Prop} {G H : Hp} {p : Addr} {o : HO} (x : Ex G H) (hp : H p = none) : Keep S G H S (upd G p o) (upd H p o) := by
  have gp : G p = none := by
    cases q : G p with
    | none => rfl
    | some u => rw [x p u q] at hp; cases hp
  refine ⟨Ex.new gp, fun a u h => ?_, fun a u h _ => ?_, fun a u h _ g => ?_, fun a h => .inl h⟩
  · by_cases e : a = p
    · subst e; rw [upd_same] at h ⊢; exact h
    · rw [upd_ne e] at h ⊢; exact x a u h
  · rw [upd_ne (ne_of_none h hp)]; exact h
  · rw [upd_ne (ne_of_none h hp)]; exact g
theorem Keep.laidN {S : Addr → Prop} {G H : Hp} {p : Addr} {o : HO} (x : Ex G H) (hp : H p = none) : Keep S G H S G (upd H p o) :=
  ⟨Ex.refl G, x.trans (Ex.new hp), fun a u h _ => by rw [upd_ne (ne_of_none h hp)]; exact h, fun a u _ _ g => g, fun a h => .inl h⟩
/-- what is new is let be -/
theorem freeze {W : Wd} {S : Addr → Prop} {G H G' H' : Hp} {σ : St} {env : Env} {r : Res} {v : V} (k : Keep S G H (OwnA σ env) G' H') (s : StOk W G' H' σ env) (h : ResOk W S H (OwnA σ env) G' H' r v) :
    ∃ G'', Keep S G H (OwnA σ env) G'' H' ∧ StOk W G'' H' σ env ∧ Rep W G'' r.d v := by
  cases r with
  | val d => exact ⟨G', k, s, h⟩
  | new d =>
    obtain ⟨a, rfl, g, c, n, f⟩ := h
    obtain ⟨o, ho⟩ := c.some
    have x : Ex G' (upd G' a o) := Ex.new g
    have y : Ex (upd G' a o) H' := fun b u q => by
      by_cases e : b = a
      · subst e; rw [upd_same] at q; cases q; exact ho
      · rw [upd_ne e] at q; exact k.gh b u q
    refine ⟨upd G' a o, ⟨k.gg.trans x, y, k.hh, fun b u h1 h2 h3 => ?_, k.ss⟩, s.grow x y (fun _ _ _ h => h) fun b hb => ?_, (c.mono x fun _ h => h).rep (by rw [upd_same, ho])⟩
    · have hb : b ≠ a := fun e => by
        subst e
        rcases f with f | f
        · exact h2 f
        · rw [h1] at f; cases f
      rw [upd_ne hb]
      exact k.hg b u h1 h2 h3
    · have e : b ≠ a := fun e => n (e ▸ hb)
      rw [upd_ne e]
      exact s.own_none hb
end Itp
set_option Elab.async false
set_option linter.all false
set_option maxRecDepth 100000
set_option maxHeartbeats 1000000
namespace Itp
open PySem L2
def RepS (W : Wd) (G H : Hp) (d : D) (v : V) : Prop := Rep W G d v ∨ ∃ a, v = .ref a ∧ Cont W G H a d
def RepSs (W : Wd) (G H : Hp) : List D → List V → Prop
  | [], vs => vs = []
  | d :: ds, vs => ∃ v r, vs = v :: r ∧ RepS W G H d v ∧ RepSs W G H ds r
/-- more stands, more is let be; what stood stands -/
structure Grow (G H G' H' : Hp) : Prop where
  gg : Ex G G'
  gh : Ex G' H'
  hh : Ex H H'
  hg : ∀ a o, H a = some o → G a = none → G' a = none
theorem Grow.refl {G H : Hp} (x : Ex G H) : Grow G H G H := ⟨Ex.refl G, x, Ex.refl H, fun _ _ _ h => h⟩
theorem Grow.trans {G H G1 H1 G2 H2 : Hp} (a : Grow G H G1 H1) (b : Grow G1 H1 G2 H2) : Grow G H G2 H2 := ⟨a.gg.trans b.gg, b.gh, a.hh.trans b.hh, fun x o h g => b.hg x o (a.hh x o h) (a.hg x o h g)⟩
theorem Grow.keep {S : Addr → Prop} {G H G' H' : Hp} (g : Grow G H G' H') : Keep S G H S G' H' := ⟨g.gg, g.gh, fun a o h _ => g.hh a o h, fun a o h _ q => g.hg a o h q, fun _ h => .inl h⟩
theorem Grow.st {W : Wd} {G H G' H' : Hp} {σ : St} {env : Env} (g : Grow G H G' H') (s : StOk W G H σ env) : StOk W G' H' σ env :=
  s.grow g.gg g.gh (fun a o _ h => g.hh a o h) fun a ho => by
    obtain ⟨u, hu⟩ := s.own_some ho
    exact g.hg a u hu (s.own_none ho)
theorem Grow.laidF {G H : Hp} {p : Addr} {o : HO} (x : Ex G H) (hp : H p = none) : Grow G H (upd G p o) (upd H p o) := by
  have k := Keep.laidF (S := fun _ => False) (o := o) x hp
  exact ⟨k.gg, k.gh, fun a u h => k.hh a u h id, fun a u h g => k.hg a u h id g⟩
theorem Grow.laidN {G H : Hp} {p : Addr} {o : HO} (x : Ex G H) (hp : H p = none) : Grow G H G (upd H p o) := ⟨Ex.refl G, x.trans (Ex.new hp), Ex.new hp, fun _ _ _ g => g⟩
/-- an operation's end: a value that is let be; a new thing -/
def Post (W : Wd) (G H : Hp) (r : Res) (Q : VK) : Prop :=
  match r with
  | .val d => ∀ v G' H', Grow G H G' H' → Rep W G' d v → Q v H'
  | .new d => ∀ p G' H', Grow G H G' H' → H p = none → G' p = none → Cont W G' H' p d → Q (.ref p) H'
theorem Post.step {W : Wd} {G H G1 H1 : Hp} {r : Res} {Q : VK} (g : Grow G H G1 H1) (h : Post W G H r Q) : Post W G1 H1 r Q := by
  cases r with
  | val d => exact fun v G' H' g' q => h v G' H' (g.trans g') q
  | new d =>
    refine fun p G' H' g' hp gp q => h p G' H' (g.trans g') ?_ gp q
    cases e : H p with
    | none => rfl
    | some o => rw [g.hh p o e] at hp; cases hp
def PRn (W : Wd) (o : Op) : List V → Hp → VK → Prop := fun xs H Q => ∃ G ds r, Ex G H ∧ RepSs W G H ds xs ∧ prim o ds = some r ∧ Post W G H r Q
def PR2 (W : Wd) (o : Op) : R2 := fun x y H Q => PRn W o [x, y] H Q
def PR1 (W : Wd) (o : Op) : V → Hp → VK → Prop := fun x H Q => PRn W o [x] H Q
theorem RepS.mono {W : Wd} {G H G' H' : Hp} (x : Ex G G') (y : Ex H H') {d : D} {v : V} (h : RepS W G H d v) : RepS W G' H' d v := by
  rcases h with h | ⟨a, e, h⟩
  · exact .inl (Rep.mono x _ _ h)
  · exact .inr ⟨a, e, h.mono x fun o q => y a o q⟩
theorem RepSs.mono {W : Wd} {G H G' H' : Hp} (x : Ex G G') (y : Ex H H') : ∀ {ds : List D} {vs : List V}, RepSs W G H ds vs → RepSs W G' H' ds vs
  | [], _, h => by simpa only [RepSs] using h
  | d :: ds, _, h => by
    simp only [RepSs] at h ⊢
    obtain ⟨v, r, e, h1, h2⟩ := h
    exact ⟨v, r, e, h1.mono x y, RepSs.mono x y h2⟩
theorem PRn.step {W : Wd} {o : Op} {xs : List V} {H H1 : Hp} {Q : VK} (y : Ex H H1) (h : PRn W o xs H Q) : PRn W o xs H1 Q := by
  obtain ⟨G, ds, r, gh, hs, hp, po⟩ := h
  exact ⟨G, ds, r, gh.trans y, hs.mono (Ex.refl G) y, hp, po.step ⟨Ex.refl G, gh.trans y, y, fun _ _ _ g => g⟩⟩
theorem post_of_aft {W : Wd} {Wx : WX} {G H : Hp} {σ : St} {env : Env} {r : Res} {Q : VK} (s : StOk W G H σ env) (h : Aft W (ResOk W) σ (OwnA σ env) G H Q Wx (.ok r env)) : Post W G H r Q := by
  cases r with
  | val d => exact fun v G' H' g hv => h v G' H' g.keep (g.st s) hv
  | new d =>
    intro p G' H' g hp gp hc
    refine h (.ref p) G' H' g.keep (g.st s) ⟨p, rfl, gp, hc, fun ho => ?_, .inr hp⟩
    obtain ⟨u, hu⟩ := s.own_some ho
    rw [hp] at hu; cases hu
section
variable {W : Wd} {G H : Hp} {v : V}
theorem rs_non (h : RepS W G H .non v) : v = .non := by
  rcases h with h | ⟨a, _, h⟩
  · simpa only [Rep] using h
  · exact h.elim
theorem rs_bl {b : Bool} (h : RepS W G H (.bl b) v) : v = .bl b := by
  rcases h with h | ⟨a, _, h⟩
  · simpa only [Rep] using h
  · exact h.elim
theorem rs_int {i : Int} (h : RepS W G H (.int i) v) : v = .int i := by
  rcases h with h | ⟨a, _, h⟩
  · simpa only [Rep] using h
  · exact h.elim
theorem rs_str {i : List Nat} (h : RepS W G H (.str i) v) : v = .str ⟨i.toArray⟩ := by
  rcases h with h | ⟨a, _, h⟩
  · simpa only [Rep] using h
  · exact h.elim
theorem rs_tup {ds : List D} (x : Ex G H) (h : RepS W G H (.tup ds) v) : ∃ a vs, v = .ref a ∧ H a = some (.tup vs) ∧ Reps W G ds vs := by
  rcases h with h | ⟨a, _, h⟩
  · simp only [Rep] at h
    obtain ⟨a, vs, e, h1, h2⟩ := h
    exact ⟨a, vs, e, x _ _ h1, h2⟩
  · exact h.elim
theorem rs_lst {ds : List D} (x : Ex G H) (h : RepS W G H (.lst ds) v) : ∃ a vs, v = .ref a ∧ H a = some (.lst vs) ∧ Reps W G ds vs := by
  rcases h with h | ⟨a, e, h⟩
  · simp only [Rep] at h
    obtain ⟨a, vs, e, h1, h2⟩ := h
    exact ⟨a, vs, e, x _ _ h1, h2⟩
  · obtain ⟨vs, h1, h2⟩ := h
    exact ⟨a, vs, e, h1, h2⟩
theorem rs_scr {ds : List Int} (x : Ex G H) (h : RepS W G H (.scr ds) v) : ∃ a, v = .ref a ∧ SqL W.K H a (ds.map V.int) := by
  rcases h with h | ⟨a, e, h⟩
  · simp only [Rep] at h
    obtain ⟨a, e, h1⟩ := h
    exact ⟨a, e, ex_l x h1⟩
  · exact h.elim
theorem rss1 {d : D} {vs : List V} (h : RepSs W G H [d] vs) : ∃ v, vs = [v] ∧ RepS W G H d v := by
  simp only [RepSs] at h
  obtain ⟨v, r, rfl, h1, rfl⟩ := h
  exact ⟨v, rfl, h1⟩
theorem rss2 {d e : D} {x y : V} (h : RepSs W G H [d, e] [x, y]) : RepS W G H d x ∧ RepS W G H e y := by
  simp only [RepSs] at h
  obtain ⟨v, r, h0, h1, v2, r2, rfl, h2, rfl⟩ := h
  cases h0
  exact ⟨h1, h2⟩
theorem rss_len : ∀ {ds : List D} {vs : List V}, RepSs W G H ds vs → vs.length = ds.length
  | [], _, h => by simp only [RepSs] at h; subst h; rfl
  | d :: ds, _, h => by
    simp only [RepSs] at h
    obtain ⟨v, r, rfl, _, h2⟩ := h
    simp [rss_len h2]
theorem reps_len : ∀ {ds : List D} {vs : List V}, Reps W G ds vs → vs.length = ds.length
  | [], _, h => by simp only [Reps] at h; subst h; rfl
  | d :: ds, _, h => by
    simp only [Reps] at h
    obtain ⟨v, r, rfl, _, h2⟩ := h
    simp [reps_len h2]
theorem reps_get : ∀ {ds : List D} {vs : List V} {i : Nat} {d : D}, Reps W G ds vs → ds[i]? = some d → ∃ v, vs[i]? = some v ∧ Rep W G d v
  | [], _, _, _, _, e => by simp at e
  | d :: ds, _, 0, _, h, e => by
    simp only [Reps] at h
    obtain ⟨v, r, rfl, h1, _⟩ := h
    simp at e; subst e
    exact ⟨v, rfl, h1⟩
  | d :: ds, _, i + 1, _, h, e => by
    simp only [Reps] at h
    obtain ⟨v, r, rfl, _, h2⟩ := h
    simp at e
    simpa using reps_get h2 e
theorem reps_append : ∀ {ds es : List D} {vs us : List V}, Reps W G ds vs → Reps W G es us → Reps W G (ds ++ es) (vs ++ us)
  | [], _, _, _, h, k => by simp only [Reps] at h; subst h; exact k
  | d :: ds, es, _, us, h, k => by
    simp only [Reps] at h
    obtain ⟨v, r, rfl, h1, h2⟩ := h
    show Reps W G (d :: (ds ++ es)) (v :: (r ++ us))
    simp only [Reps]
    exact ⟨v, _, rfl, h1, reps_append h2 k⟩
theorem reps_take : ∀ {ds : List D} {vs : List V} (n : Nat), Reps W G ds vs → Reps W G (ds.take n) (vs.take n)
  | _, _, 0, _ => by simp [Reps]
  | [], _, n + 1, h => by simp only [Reps] at h; subst h; simp [Reps]
  | d :: ds, _, n + 1, h => by
    simp only [Reps] at h
    obtain ⟨v, r, rfl, h1, h2⟩ := h
    simp only [List.take_succ_cons, Reps]
    exact ⟨v, _, rfl, h1, reps_take n h2⟩
theorem reps_drop : ∀ {ds : List D} {vs : List V} (n : Nat), Reps W G ds vs → Reps W G (ds.drop n) (vs.drop n)
  | _, _, 0, h => by simpa using h
  | [], _, n + 1, h => by simp only [Reps] at h; subst h; simp [Reps]
  | d :: ds, _, n + 1, h => by
    simp only [Reps] at h
    obtain ⟨v, r, rfl, h1, h2⟩ := h
    simpa using reps_drop n h2
theorem reps_cut {ds : List D} {vs : List V} (lo hi : Option Int) (h : Reps W G ds vs) : Reps W G (cut ds lo hi) (cutV vs lo hi) := by
  unfold cut cutV
  rw [reps_len h]
  exact reps_take _ (reps_drop _ h)
theorem reps_rep {ds : List D} {vs : List V} (h : Reps W G ds vs) : ∀ n : Nat, Reps W G (List.replicate n ds).flatten (List.replicate n vs).flatten
  | 0 => by simp [Reps]
  | n + 1 => by
    simp only [List.replicate_succ, List.flatten_cons]
    exact reps_append h (reps_rep h n)
theorem reps_rev : ∀ {ds : List D} {vs : List V}, Reps W G ds vs → Reps W G ds.reverse vs.reverse
  | [], _, h => by simp only [Reps] at h; subst h; simp [Reps]
  | d :: ds, _, h => by
    simp only [Reps] at h
    obtain ⟨v, r, rfl, h1, h2⟩ := h
    rw [List.reverse_cons, List.reverse_cons]
    exact reps_append (reps_rev h2) (by simp only [Reps]; exact ⟨v, [], rfl, h1, rfl⟩)
theorem reps_of : ∀ {ds : List D} {vs : List V}, RepSs W G H ds vs → (∀ d v, d ∈ ds → RepS W G H d v → Rep W G d v) → Reps W G ds vs
  | [], _, h, _ => by simpa only [Reps, RepSs] using h
  | d :: ds, _, h, f => by
    simp only [RepSs] at h
    obtain ⟨v, r, rfl, h1, h2⟩ := h
    simp only [Reps]
    exact ⟨v, r, rfl, f d v (by simp) h1, reps_of h2 fun d v hd => f d v (by simp [hd])⟩
theorem reps_ints : ∀ {ds : List D} {vs : List V} {l : List Int}, Reps W G ds vs → ints? ds = some l → vs = l.map V.int
  | [], _, l, h, e => by simp only [Reps] at h; subst h; simp [ints?] at e; subst e; rfl
  | d :: ds, _, l, h, e => by
    simp only [Reps] at h
    obtain ⟨v, r, rfl, h1, h2⟩ := h
    cases d <;> simp [ints?] at e
    obtain ⟨l', e', rfl⟩ := e
    simp only [Rep] at h1
    rw [h1, reps_ints h2 e']
    rfl
theorem reps_bls : ∀ {ds : List D} {vs : List V} {l : List Bool}, Reps W G ds vs → bls? ds = some l → vs = l.map V.bl
  | [], _, l, h, e => by simp only [Reps] at h; subst h; simp [bls?] at e; subst e; rfl
  | d :: ds, _, l, h, e => by
    simp only [Reps] at h
    obtain ⟨v, r, rfl, h1, h2⟩ := h
    cases d <;> simp [bls?] at e
    obtain ⟨l', e', rfl⟩ := e
    simp only [Rep] at h1
    rw [h1, reps_bls h2 e']
    rfl
def sOf (l : List Nat) : Str := ⟨l.toArray⟩
theorem reps_strs : ∀ {ds : List D} {vs : List V} {l : List (List Nat)}, Reps W G ds vs → strs? ds = some l → vs = (l.map sOf).map V.str
  | [], _, l, h, e => by simp only [Reps] at h; subst h; simp [strs?] at e; subst e; rfl
  | d :: ds, _, l, h, e => by
    simp only [Reps] at h
    obtain ⟨v, r, rfl, h1, h2⟩ := h
    cases d <;> simp [strs?] at e
    obtain ⟨l', e', rfl⟩ := e
    simp only [Rep] at h1
    rw [h1, reps_strs h2 e']
    rfl
end
theorem at_atI {α : Type} (xs : List α) (i : Int) : at? xs i = atI xs i := rfl
theorem at_rep {W : Wd} {G : Hp} {ds : List D} {vs : List V} {i : Int} {d : D} (h : Reps W G ds vs) (e : at? ds i = some d) : ∃ v, atI vs i = some v ∧ Rep W G d v := by
  unfold at? at e
  unfold atI
  cases q : ixOf ds.length i with
  | none => rw [q] at e; simp at e
  | some j =>
    rw [q] at e
    obtain ⟨v, h1, h2⟩ := reps_get h (show ds[j]? = some d from e)
    refine ⟨v, ?_, h2⟩
    rw [reps_len h, show ixN ds.length i = some j from q]
    exact h1
/-! ### == of plain data -/
mutual
def toP : D → PyData
  | .non => .none
  | .bl b => .bool b
  | .int i => .int i
  | .str s => .str ⟨s.toArray⟩
  | .tup xs => .tuple (toPs xs)
  | .lst xs => .list (toPs xs)
  | .dct _ => .none
  | .fn _ => .none
  | .scr _ => .none
def toPs : List D → List PyData
  | [] => []
  | x :: xs => toP x :: toPs xs
end
mutual
theorem dp_of {W : Wd} {G H : Hp} (x : Ex G H) : ∀ (n : Nat) (d : D) (v : V), d.plain n = true → Rep W G d v → Dp W.K H v (toP d)
  | _, .non, v, _, h => by simp only [Rep] at h; subst h; exact Dp.non
  | _, .bl b, v, _, h => by simp only [Rep] at h; subst h; exact Dp.bl b
  | _, .int i, v, _, h => by simp only [Rep] at h; subst h; exact Dp.int i
  | _, .str i, v, _, h => by simp only [Rep] at h; subst h; exact Dp.str _
  | 0, .tup _, v, p, h => by simp [D.plain] at p
  | 0, .lst _, v, p, h => by simp [D.plain] at p
  | n + 1, .tup ds, v, p, h => by
    simp only [Rep] at h
    obtain ⟨a, vs, rfl, h1, h2⟩ := h
    simp only [D.plain] at p
    simp only [toP]
    exact Dp.tup (.inl (.inl (x _ _ h1))) (dps_of x n ds vs p h2)
  | n + 1, .lst ds, v, p, h => by
    simp only [Rep] at h
    obtain ⟨a, vs, rfl, h1, h2⟩ := h
    simp only [D.plain] at p
    simp only [toP]
    exact Dp.lst (.inl (.inl (x _ _ h1))) (dps_of x n ds vs p h2)
  | _, .dct _, v, p, _ => by simp [D.plain] at p
  | _, .fn _, v, p, _ => by simp [D.plain] at p
  | _, .scr _, v, p, _ => by simp [D.plain] at p
theorem dps_of {W : Wd} {G H : Hp} (x : Ex G H) : ∀ (n : Nat) (ds : List D) (vs : List V), D.plains n ds = true → Reps W G ds vs → DpAll W.K H vs (toPs ds)
  | _, [], vs, _, h => by simp only [Reps] at h; subst h; simp only [toPs]; exact DpAll.nil
  | n, d :: ds, vs, p, h => by
    simp only [Reps] at h
    obtain ⟨v, r, rfl, h1, h2⟩ := h
    simp only [D.plains, Bool.and_eq_true] at p
    simp only [toPs]
    exact DpAll.cons (dp_of x n d v p.1 h1) (dps_of x n ds r p.2 h2)
end
theorem dpS_of {W : Wd} {G H : Hp} (x : Ex G H) {n : Nat} {d : D} {v : V} (p : d.plain n = true) (h : RepS W G H d v) : Dp W.K H v (toP d) := by
  rcases h with h | ⟨a, rfl, h⟩
  · exact dp_of x n d v p h
  · cases d with
    | lst ds =>
      obtain ⟨vs, h1, h2⟩ := h
      cases n with
      | zero => simp [D.plain] at p
      | succ n =>
        simp only [D.plain] at p
        simp only [toP]
        exact Dp.lst (.inl (.inl h1)) (dps_of x n ds vs p h2)
    | dct _ => simp [D.plain] at p
    | _ => exact h.elim
mutual
theorem plain_depth : ∀ (n : Nat) (d : D), d.plain n = true → (toP d).depth ≤ n ∧ (toP d).canLay0 = true
  | _, .non, _ => by simp [toP, PyData.depth, PyData.canLay0]
  | _, .bl b, _ => by simp [toP, PyData.depth, PyData.canLay0]
  | _, .int i, _ => by simp [toP, PyData.depth, PyData.canLay0]
  | _, .str i, p => by
    simp only [D.plain] at p
    simpa [toP, PyData.depth, PyData.canLay0, PyData.strOk] using p
  | 0, .tup _, p => by simp [D.plain] at p
  | 0, .lst _, p => by simp [D.plain] at p
  | n + 1, .tup ds, p => by
    simp only [D.plain] at p
    have h := plains_depth n ds p
    simp only [toP, PyData.depth, PyData.canLay0]
    exact ⟨by omega, h.2⟩
  | n + 1, .lst ds, p => by
    simp only [D.plain] at p
    have h := plains_depth n ds p
    simp only [toP, PyData.depth, PyData.canLay0]
    exact ⟨by omega, h.2⟩
  | _, .dct _, p => by simp [D.plain] at p
  | _, .fn _, p => by simp [D.plain] at p
  | _, .scr _, p => by simp [D.plain] at p
theorem plains_depth : ∀ (n : Nat) (ds : List D), D.plains n ds = true → PyData.depthAll (toPs ds) ≤ n ∧ PyData.canLayAll0 (toPs ds) = true
  | _, [], _ => by simp [toPs, PyData.depthAll, PyData.canLayAll0]
  | n, d :: ds, p => by
    simp only [D.plains, Bool.and_eq_true] at p
    have h1 := plain_depth n d p.1
    have h2 := plains_depth n ds p.2
    simp only [toPs, PyData.depthAll, PyData.canLayAll0, Bool.and_eq_true]
    exact ⟨by omega, h1.2, h2.2⟩
end
theorem shaped_of {d : D} (p : d.plain 64 = true) : SeqAt.shaped (toP d) = true := by
  have h := plain_depth 64 d p
  simp [SeqAt.shaped, h.1, h.2]
theorem str_beq (a b : List Nat) : ((⟨a.toArray⟩ : Str) == ⟨b.toArray⟩) = (a == b) := by
  by_cases h : a = b
  · subst h; simp
  · have h2 : (⟨a.toArray⟩ : Str) ≠ ⟨b.toArray⟩ := fun e => h (by injection e with e; simpa using e)
    rw [beq_eq_false_iff_ne.mpr h2, beq_eq_false_iff_ne.mpr h]
mutual
theorem eqv_toP : ∀ (n : Nat) (a b : D), a.plain n = true → b.plain n = true → PyData.eqv (toP a) (toP b) = D.eqv a b
  | n, .non, b, p, q => by cases b <;> first | rfl | simp [D.plain] at q
  | n, .bl x, b, p, q => by cases b <;> first | rfl | simp [D.plain] at q
  | n, .int x, b, p, q => by cases b <;> first | rfl | simp [D.plain] at q
  | n, .str x, b, p, q => by
    cases b <;> first | rfl | simp [D.plain] at q | skip
    simp only [toP, PyData.eqv, D.eqv]
    exact str_beq _ _
  | 0, .tup _, b, p, q => by simp [D.plain] at p
  | 0, .lst _, b, p, q => by simp [D.plain] at p
  | n + 1, .tup xs, b, p, q => by
    cases b <;> first | rfl | simp [D.plain] at q | skip
    simp only [toP, PyData.eqv, D.eqv]
    simp only [D.plain] at p q
    exact eqvs_toP n _ _ p q
  | n + 1, .lst xs, b, p, q => by
    cases b <;> first | rfl | simp [D.plain] at q | skip
    simp only [toP, PyData.eqv, D.eqv]
    simp only [D.plain] at p q
    exact eqvs_toP n _ _ p q
  | n, .dct _, b, p, q => by simp [D.plain] at p
  | n, .fn _, b, p, q => by simp [D.plain] at p
  | n, .scr _, b, p, q => by simp [D.plain] at p
theorem eqvs_toP : ∀ (n : Nat) (a b : List D), D.plains n a = true → D.plains n b = true → PyData.eqvAll (toPs a) (toPs b) = D.eqvs a b
  | n, [], [], _, _ => rfl
  | n, [], _ :: _, _, _ => rfl
  | n, _ :: _, [], _, _ => rfl
  | n, x :: xs, y :: ys, p, q => by
    simp only [D.plains, Bool.and_eq_true] at p q
    simp only [toPs, PyData.eqvAll, D.eqvs]
    rw [eqv_toP n x y p.1 q.1, eqvs_toP n xs ys p.2 q.2]
end
end Itp
set_option Elab.async false
set_option linter.all false
set_option maxRecDepth 100000
set_option maxHeartbeats 4000000
namespace Itp
open PySem L2
section
variable {X : Cx} {W : Wd}
theorem two {W : Wd} {G H : Hp} {ds : List D} {x y : V} (h : RepSs W G H ds [x, y]) : ∃ d e, ds = [d, e] ∧ RepS W G H d x ∧ RepS W G H e y := by
  have l := rss_len h
  match ds, l, h with
  | [d, e], _, h => exact ⟨d, e, rfl, rss2 h⟩
theorem one {W : Wd} {G H : Hp} {ds : List D} {x : V} (h : RepSs W G H ds [x]) : ∃ d, ds = [d] ∧ RepS W G H d x := by
  have l := rss_len h
  match ds, l, h with
  | [d], _, h =>
    obtain ⟨v, e, h1⟩ := rss1 h
    cases e
    exact ⟨d, rfl, h1⟩
theorem one' {W : Wd} {G H : Hp} {d : D} {vs : List V} (h : RepSs W G H [d] vs) : ∃ v, vs = [v] ∧ RepS W G H d v := rss1 h
theorem big_line {n : Nat} (h : n ≤ big) : n ≤ sizeLine := Nat.le_trans h (by decide)
theorem small_some {α : Type} {c : Bool} {a b : α} (h : small c a = some b) : c = true ∧ a = b := by
  unfold small at h
  cases c <;> simp at h
  exact ⟨rfl, h⟩
theorem post_v {W : Wd} {G H : Hp} {d : D} {Q : VK} {v : V} (p : Post W G H (.val d) Q) (gh : Ex G H) (r : Rep W G d v) : Q v H := p v G H (Grow.refl gh) r
theorem post_i {W : Wd} {G H : Hp} {i : Int} {Q : VK} (p : Post W G H (.val (.int i)) Q) (gh : Ex G H) : Q (.int i) H := post_v p gh (by simp only [Rep])
theorem post_b {W : Wd} {G H : Hp} {i : Bool} {Q : VK} (p : Post W G H (.val (.bl i)) Q) (gh : Ex G H) : Q (.bl i) H := post_v p gh (by simp only [Rep])
theorem post_s {W : Wd} {G H : Hp} {i : List Nat} {Q : VK} {z : Str} (p : Post W G H (.val (.str i)) Q) (gh : Ex G H) (e : z.cps.toList = i) : Q (.str z) H := post_v p gh (by
  simp only [Rep]
  subst e
  simp)
theorem gnone {G H : Hp} {p : Addr} (gh : Ex G H) (hp : H p = none) : G p = none := by
  cases q : G p with
  | none => rfl
  | some u => rw [gh p u q] at hp; cases hp
theorem post_t {W : Wd} {G H : Hp} {ds : List D} {vs : List V} {Q : VK} {p : Addr} (po : Post W G H (.val (.tup ds)) Q) (gh : Ex G H) (hp : H p = none) (r : Reps W G ds vs) : Q (.ref p) (upd H p (.tup vs)) :=
  po (.ref p) _ _ (Grow.laidF gh hp) (by simp only [Rep]; exact ⟨p, vs, rfl, upd_same, Reps.mono (Ex.new (gnone gh hp)) _ _ r⟩)
theorem post_l {W : Wd} {G H : Hp} {ds : List D} {vs : List V} {Q : VK} {p : Addr} (po : Post W G H (.new (.lst ds)) Q) (gh : Ex G H) (hp : H p = none) (r : Reps W G ds vs) : Q (.ref p) (upd H p (.lst vs)) :=
  po p G _ (Grow.laidN gh hp) hp (gnone gh hp) ⟨vs, upd_same, r⟩
theorem str_len (a : List Nat) : (⟨a.toArray⟩ : Str).length = a.length := by simp [Str.length]
theorem str_app (a b : List Nat) : ((⟨a.toArray⟩ : Str) ++ (⟨b.toArray⟩ : Str)).cps.toList = a ++ b := by
  show (a.toArray ++ b.toArray).toList = a ++ b
  simp
theorem or_add (hK : X.K = W.K) : OpR X (binaryOp .Add) (PR2 W .add) := by
  intro pins s σ H x y v u Q I rx ry ⟨G, ds, r, gh, hs, hp, po⟩
  obtain ⟨d, e, rfl, h1, h2⟩ := two hs
  cases d <;> cases e <;> simp only [prim, pAdd, vI, reduceCtorEq] at hp
  · cases hp
    exact op_add pins s σ H x y v u Q I rx ry ⟨_, _, rs_int h1, rs_int h2, post_i po gh⟩
  · obtain ⟨c, rfl⟩ := small_some hp
    simp only [decide_eq_true_eq] at c
    refine op_add_str pins s σ H x y v u Q I rx ry ⟨_, _, rs_str h1, rs_str h2, big_line ?_, post_s po gh (str_app _ _)⟩
    rw [str_len, str_len]
    exact c
  · obtain ⟨c, rfl⟩ := small_some hp
    simp only [decide_eq_true_eq] at c
    obtain ⟨a, vs, rfl, e1, r1⟩ := rs_tup gh h1
    obtain ⟨b, us, rfl, e2, r2⟩ := rs_tup gh h2
    refine op_catA pins s σ H _ _ v u Q I rx ry ⟨a, b, vs, us, rfl, rfl, .inl (.inl e1), .inl (.inl e2), big_line (by rw [reps_len r1, reps_len r2]; exact c), fun z => ?_, fun _ z => ?_, fun _ _ p hp => ?_⟩
    · subst z
      have z : (_ : List D) = [] := List.length_eq_zero_iff.mp (reps_len r1).symm
      rw [z] at po
      exact post_v po gh (by rcases h2 with h2 | ⟨_, _, h2⟩; exact h2; exact h2.elim)
    · subst z
      have z := List.length_eq_zero_iff.mp (reps_len r2).symm
      rw [z, List.append_nil] at po
      exact post_v po gh (by rcases h1 with h1 | ⟨_, _, h1⟩; exact h1; exact h1.elim)
    · exact post_t po gh hp (reps_append r1 r2)
  · obtain ⟨c, rfl⟩ := small_some hp
    simp only [decide_eq_true_eq] at c
    obtain ⟨a, vs, rfl, e1, r1⟩ := rs_lst gh h1
    obtain ⟨b, us, rfl, e2, r2⟩ := rs_lst gh h2
    exact op_cat pins s σ H _ _ v u Q I rx ry ⟨a, b, vs, us, rfl, rfl, e1, e2, big_line (by rw [reps_len r1, reps_len r2]; exact c), fun p hp => post_l po gh hp (reps_append r1 r2)⟩
theorem or_sub : OpR X (binaryOp .Sub) (PR2 W .sub) := by
  intro pins s σ H x y v u Q I rx ry ⟨G, ds, r, gh, hs, hp, po⟩
  obtain ⟨d, e, rfl, h1, h2⟩ := two hs
  cases d <;> cases e <;> simp only [prim, pSub, vI, reduceCtorEq] at hp
  cases hp
  exact op_sub pins s σ H x y v u Q I rx ry ⟨_, _, rs_int h1, rs_int h2, post_i po gh⟩
theorem op_mul_str : OpR X (binaryOp .Mult) (fun x y H Q => ∃ (a : Str) (k : Int), x = .str a ∧ y = .int k ∧ MulOk a k ∧ Q (.str (Txt.mul a k)) H) := by
  intro pins s σ H x y v u Q I rx ry ⟨a, k, e1, e2, ok, q⟩
  subst e1 e2
  obtain ⟨t, rfl⟩ := rx
  obtain ⟨t2, rfl⟩ := ry
  exact SB.mul ok fun t' k => ⟨.str _, H, I.tok k, ⟨t', rfl⟩, q⟩
theorem foldl_cps (a : List Nat) : ∀ (n : Nat) (b : Array Nat), ((List.replicate n a.toArray).foldl (· ++ ·) b).toList = b.toList ++ (List.replicate n a).flatten
  | 0, b => by simp
  | n + 1, b => by
    simp only [List.replicate_succ, List.foldl_cons, List.flatten_cons]
    rw [foldl_cps a n]
    simp
theorem mul_txt (a : List Nat) (k : Int) : (Txt.mul ⟨a.toArray⟩ k).cps.toList = (List.replicate k.toNat a).flatten := by
  unfold Txt.mul
  by_cases h1 : k < 1
  · rw [if_pos h1]
    have : k.toNat = 0 := by omega
    rw [this]
    rfl
  · rw [if_neg h1]
    by_cases h2 : (k == 1 || (⟨a.toArray⟩ : Str).length == 0) = true
    · rw [if_pos h2]
      rw [Bool.or_eq_true, beq_iff_eq, beq_iff_eq, str_len] at h2
      rcases h2 with h2 | h2
      · subst h2; simp
      · have : a = [] := List.length_eq_zero_iff.mp h2
        subst this
        have z : ∀ n : Nat, (List.replicate n ([] : List Nat)).flatten = [] := fun n => by induction n with
          | zero => rfl
          | succ n ih => simp [List.replicate_succ, ih]
        rw [z]
    · rw [if_neg h2]
      show ((List.replicate k.toNat a.toArray).foldl (· ++ ·) #[]).toList = _
      rw [foldl_cps]
      rfl
theorem mul_ok {a : List Nat} {k : Int} (h1 : -(big : Int) ≤ k) (h2 : k ≤ big) (h3 : a.length * k.toNat ≤ big) : MulOk ⟨a.toArray⟩ k := by
  have hb : (big : Int) = 100000 := rfl
  refine ⟨?_, fun p q => ?_, fun _ _ => ?_⟩
  · simp only [Bool.or_eq_false_iff, decide_eq_false_iff_not]
    omega
  · rw [str_len]
    have h4 : (a.length : Int) ≤ 100000 := by
      have : a.length ≤ a.length * k.toNat := Nat.le_mul_of_pos_right _ (by omega)
      omega
    have h5 : (100000 : Int) ≤ (2 ^ 63 - 1) / k := by
      apply Int.le_ediv_of_mul_le (by omega)
      have : (100000 : Int) * k ≤ 100000 * 100000 := by omega
      omega
    omega
  · rw [str_len]
    have : a.length * k.toNat ≤ 100000 := h3
    unfold Builtin.Str.tooLong
    rw [decide_eq_false_iff_not]
    have h4 : sizeLine = 16777216 := rfl
    rw [h4]
    omega
theorem or_mul (hK : X.K = W.K) : OpR X (binaryOp .Mult) (PR2 W .mul) := by
  intro pins s σ H x y v u Q I rx ry ⟨G, ds, r, gh, hs, hp, po⟩
  obtain ⟨d, e, rfl, h1, h2⟩ := two hs
  cases d <;> cases e <;> simp only [prim, pMul, vI, reduceCtorEq] at hp
  · obtain ⟨c, rfl⟩ := small_some hp
    simp only [Bool.and_eq_true, decide_eq_true_eq] at c
    exact op_mul pins s σ H x y v u Q I rx ry ⟨_, _, rs_int h1, rs_int h2, .inr c, post_i po gh⟩
  · obtain ⟨c, rfl⟩ := small_some hp
    simp only [Bool.and_eq_true, decide_eq_true_eq] at c
    exact op_mul_str pins s σ H x y v u Q I rx ry ⟨_, _, rs_str h1, rs_int h2, mul_ok c.1.1 c.1.2 c.2, post_s po gh (mul_txt _ _)⟩
  · obtain ⟨c, rfl⟩ := small_some hp
    simp only [Bool.and_eq_true, decide_eq_true_eq, Bool.not_eq_true'] at c
    obtain ⟨a, vs, rfl, e1, r1⟩ := rs_tup gh h1
    refine op_repT pins s σ H _ y v u Q I rx ry ⟨a, _, vs, rfl, rs_int h2, .inl (.inl e1), fun z => ?_, c.1.1.1, c.1.1.2, by rw [reps_len r1]; exact c.1.2, fun p hp => post_t po gh hp (reps_rep r1 _)⟩
    subst z
    have h0 := reps_len r1
    have c4 := c.2
    rw [List.isEmpty_eq_false_iff] at c4
    exact c4 (List.eq_nil_of_length_eq_zero h0.symm)
  · obtain ⟨c, rfl⟩ := small_some hp
    simp only [Bool.and_eq_true, decide_eq_true_eq] at c
    obtain ⟨a, vs, rfl, e1, r1⟩ := rs_lst gh h1
    have hb : (big : Int) = 100000 := rfl
    refine op_rep pins s σ H _ y v u Q I rx ry ⟨a, _, vs, rfl, rs_int h2, e1, by omega, by omega, big_line (by rw [reps_len r1]; exact c.2), fun p hp => post_l po gh hp (reps_rep r1 _)⟩
theorem or_fdiv : OpR X (binaryOp .FloorDiv) (PR2 W .fdiv) := by
  intro pins s σ H x y v u Q I rx ry ⟨G, ds, r, gh, hs, hp, po⟩
  obtain ⟨d, e, rfl, h1, h2⟩ := two hs
  cases d <;> cases e <;> simp only [prim, pFdiv, vI, reduceCtorEq] at hp
  obtain ⟨c, rfl⟩ := small_some hp
  simp only [Bool.and_eq_true, decide_eq_true_eq] at c
  exact op_fdiv pins s σ H x y v u Q I rx ry ⟨_, _, rs_int h1, rs_int h2, c, post_i po gh⟩
theorem or_mod : OpR X (binaryOp .Mod) (PR2 W .mod) := by
  intro pins s σ H x y v u Q I rx ry ⟨G, ds, r, gh, hs, hp, po⟩
  obtain ⟨d, e, rfl, h1, h2⟩ := two hs
  cases d <;> cases e <;> simp only [prim, pMod, vI, reduceCtorEq] at hp
  obtain ⟨c, rfl⟩ := small_some hp
  simp only [decide_eq_true_eq] at c
  exact op_mod pins s σ H x y v u Q I rx ry ⟨_, _, rs_int h1, rs_int h2, c, post_i po gh⟩
theorem or_pow : OpR X (binaryOp .Pow) (PR2 W .pow) := by
  intro pins s σ H x y v u Q I rx ry ⟨G, ds, r, gh, hs, hp, po⟩
  obtain ⟨d, e, rfl, h1, h2⟩ := two hs
  cases d <;> cases e <;> simp only [prim, pPow, vI, reduceCtorEq] at hp
  obtain ⟨c, rfl⟩ := small_some hp
  simp only [Bool.and_eq_true, decide_eq_true_eq] at c
  exact op_pow pins s σ H x y v u Q I rx ry ⟨_, _, rs_int h1, rs_int h2, ⟨c.1.1, by omega, c.2⟩, post_i po gh⟩
theorem ur_neg : UnR X (unaryOp .USub) (PR1 W .neg) := by
  intro pins s σ H x v Q I rx ⟨G, ds, r, gh, hs, hp, po⟩
  obtain ⟨d, rfl, h1⟩ := one hs
  cases d <;> simp only [prim, pNeg, vI, reduceCtorEq] at hp
  cases hp
  exact un_neg pins s σ H x v Q I rx ⟨_, rs_int h1, post_i po gh⟩
theorem eq_gen {G H : Hp} {d e : D} {x y : V} {Q : VK} {n : Bool} (gh : Ex G H) (h1 : RepS W G H d x) (h2 : RepS W G H e y) (c : d.plain 64 = true ∧ e.plain 64 = true)
    (po : Post W G H (.val (.bl (if n then !D.eqv d e else D.eqv d e))) Q) : ∃ d e, Dp W.K H x d ∧ Dp W.K H y e ∧ SeqAt.shaped d = true ∧ SeqAt.shaped e = true ∧ Q (.bl (if n then !PyData.eqv d e else PyData.eqv d e)) H :=
  ⟨toP d, toP e, dpS_of gh c.1 h1, dpS_of gh c.2 h2, shaped_of c.1, shaped_of c.2, by rw [eqv_toP 64 d e c.1 c.2]; exact post_b po gh⟩
theorem dec_int (a b : Int) : decide (V.int a = V.int b) = (a == b) := by
  by_cases h : a = b
  · subst h; simp
  · rw [decide_eq_false fun z => h (V.int.inj z), beq_eq_false_iff_ne.mpr h]
theorem dec_str (a b : List Nat) : decide (V.str ⟨a.toArray⟩ = V.str ⟨b.toArray⟩) = (a == b) := by
  by_cases h : a = b
  · subst h; simp
  · rw [decide_eq_false fun z => h (by have := V.str.inj z; injection this with e; simpa using e), beq_eq_false_iff_ne.mpr h]
theorem or_eq (hK : X.K = W.K) (hu : X.A.units + 64 < cLine) : OpR X (compareOp .Eq) (PR2 W .eq) := by
  intro pins s σ H x y v u Q I rx ry ⟨G, ds, r, gh, hs, hp, po⟩
  obtain ⟨d, e, rfl, h1, h2⟩ := two hs
  have gen : small (d.plain 64 && e.plain 64) (Res.val (.bl (D.eqv d e))) = some r → wpAny (model X.prog X.w) X.A (compareOp .Eq v u) (EP X pins σ Q) X.xe s := fun hp => by
    obtain ⟨c, rfl⟩ := small_some hp
    rw [Bool.and_eq_true] at c
    refine op_eqD hu pins s σ H x y v u Q I rx ry ?_
    rw [hK]
    exact eq_gen (n := false) gh h1 h2 c po
  cases d <;> cases e <;> simp only [prim, pEq, vB] at hp <;> first | exact gen hp | skip
  · cases hp
    refine op_eq pins s σ H x y v u Q I rx ry ?_
    rw [rs_str h1, rs_str h2]
    refine ⟨rfl, ?_⟩
    rw [dec_str]
    exact post_b po gh
theorem or_ne (hK : X.K = W.K) (hu : X.A.units + 64 < cLine) : OpR X (compareOp .NotEq) (PR2 W .ne) := by
  intro pins s σ H x y v u Q I rx ry ⟨G, ds, r, gh, hs, hp, po⟩
  obtain ⟨d, e, rfl, h1, h2⟩ := two hs
  have gen : small (d.plain 64 && e.plain 64) (Res.val (.bl (!D.eqv d e))) = some r → wpAny (model X.prog X.w) X.A (compareOp .NotEq v u) (EP X pins σ Q) X.xe s := fun hp => by
    obtain ⟨c, rfl⟩ := small_some hp
    rw [Bool.and_eq_true] at c
    refine op_neD hu pins s σ H x y v u Q I rx ry ?_
    rw [hK]
    exact eq_gen (n := true) gh h1 h2 c po
  cases d <;> cases e <;> simp only [prim, pNe, vB] at hp <;> first | exact gen hp | skip
  · cases hp
    refine op_ne pins s σ H x y v u Q I rx ry ?_
    rw [rs_str h1, rs_str h2]
    refine ⟨rfl, ?_⟩
    rw [dec_str]
    exact post_b po gh
theorem or_lt : OpR X (compareOp .Lt) (PR2 W .lt) := by
  intro pins s σ H x y v u Q I rx ry ⟨G, ds, r, gh, hs, hp, po⟩
  obtain ⟨d, e, rfl, h1, h2⟩ := two hs
  cases d <;> cases e <;> simp only [prim, pLt, vB, reduceCtorEq] at hp
  cases hp
  exact op_lt pins s σ H x y v u Q I rx ry ⟨_, _, rs_int h1, rs_int h2, post_b po gh⟩
theorem or_le : OpR X (compareOp .LtE) (PR2 W .le) := by
  intro pins s σ H x y v u Q I rx ry ⟨G, ds, r, gh, hs, hp, po⟩
  obtain ⟨d, e, rfl, h1, h2⟩ := two hs
  cases d <;> cases e <;> simp only [prim, pLe, vB, reduceCtorEq] at hp
  cases hp
  exact op_le pins s σ H x y v u Q I rx ry ⟨_, _, rs_int h1, rs_int h2, post_b po gh⟩
theorem or_gt : OpR X (compareOp .Gt) (PR2 W .gt) := by
  intro pins s σ H x y v u Q I rx ry ⟨G, ds, r, gh, hs, hp, po⟩
  obtain ⟨d, e, rfl, h1, h2⟩ := two hs
  cases d <;> cases e <;> simp only [prim, pGt, vB, reduceCtorEq] at hp
  cases hp
  exact op_gt pins s σ H x y v u Q I rx ry ⟨_, _, rs_int h1, rs_int h2, post_b po gh⟩
theorem or_ge : OpR X (compareOp .GtE) (PR2 W .ge) := by
  intro pins s σ H x y v u Q I rx ry ⟨G, ds, r, gh, hs, hp, po⟩
  obtain ⟨d, e, rfl, h1, h2⟩ := two hs
  cases d <;> cases e <;> simp only [prim, pGe, vB, reduceCtorEq] at hp
  cases hp
  exact op_ge pins s σ H x y v u Q I rx ry ⟨_, _, rs_int h1, rs_int h2, post_b po gh⟩
end
end Itp
set_option Elab.async false
set_option linter.all false
set_option maxRecDepth 100000
set_option maxHeartbeats 4000000
namespace Itp
open PySem L2
section
variable {X : Cx} {W : Wd}
theorem flat_of {G H : Hp} {d : D} {v : V} (f : d.flat = true) (h : RepS W G H d v) : flatV v = true := by
  cases d <;> simp [D.flat] at f
  · rw [rs_non h]; rfl
  · rw [rs_bl h]; rfl
  · rw [rs_int h]; rfl
  · rw [rs_str h]; rfl
theorem eqV_of {G H : Hp} {d e : D} {v u : V} (f : d.flat = true) (g : e.flat = true) (h : RepS W G H d v) (k : RepS W G H e u) : eqV v u = D.eqv d e := by
  cases d <;> simp [D.flat] at f <;> cases e <;> simp [D.flat] at g
  all_goals first
    | (rw [rs_non h, rs_non k]; rfl)
    | (rw [rs_non h, rs_bl k]; rfl)
    | (rw [rs_non h, rs_int k]; rfl)
    | (rw [rs_non h, rs_str k]; rfl)
    | (rw [rs_bl h, rs_non k]; rfl)
    | (rw [rs_bl h, rs_bl k]; rfl)
    | (rw [rs_bl h, rs_int k]; rfl)
    | (rw [rs_bl h, rs_str k]; rfl)
    | (rw [rs_int h, rs_non k]; rfl)
    | (rw [rs_int h, rs_bl k]; rfl)
    | (rw [rs_int h, rs_int k]; rfl)
    | (rw [rs_int h, rs_str k]; rfl)
    | (rw [rs_str h, rs_non k]; rfl)
    | (rw [rs_str h, rs_bl k]; rfl)
    | (rw [rs_str h, rs_int k]; rfl)
    | (rw [rs_str h, rs_str k]; exact str_beq _ _)
theorem flats_of {G : Hp} : ∀ {ds : List D} {vs : List V}, ds.all D.flat = true → Reps W G ds vs → vs.all flatV = true
  | [], _, _, h => by simp only [Reps] at h; subst h; rfl
  | d :: ds, _, f, h => by
    simp only [Reps] at h
    obtain ⟨v, r, rfl, h1, h2⟩ := h
    simp only [List.all_cons, Bool.and_eq_true] at f ⊢
    exact ⟨flat_of (H := G) f.1 (.inl h1), flats_of f.2 h2⟩
theorem inV_of {G H : Hp} {d : D} {v : V} (f : d.flat = true) (h : RepS W G H d v) : ∀ {ds : List D} {vs : List V}, ds.all D.flat = true → Reps W G ds vs → inV v vs = ds.any fun y => D.eqv y d
  | [], _, _, k => by simp only [Reps] at k; subst k; rfl
  | e :: ds, _, g, k => by
    simp only [Reps] at k
    obtain ⟨u, r, rfl, k1, k2⟩ := k
    simp only [List.all_cons, Bool.and_eq_true] at g
    have ih := inV_of f h g.2 k2
    unfold inV at ih ⊢
    simp only [List.any_cons]
    rw [ih, eqV_of g.1 f (.inl k1) h]
theorem any_toP {d : D} (p : d.plain 64 = true) : ∀ (n : Nat) {ys : List D}, n ≤ 64 → D.plains n ys = true → (toPs ys).any (fun z => PyData.eqv z (toP d)) = ys.any fun y => D.eqv y d
  | _, [], _, _ => rfl
  | n, y :: ys, hn, q => by
    simp only [D.plains, Bool.and_eq_true] at q
    simp only [toPs, List.any_cons]
    rw [any_toP p n hn q.2, eqv_toP 64 y d (plain_le hn _ q.1) p]
where
  plain_le {n : Nat} (hn : n ≤ 64) : ∀ (y : D), y.plain n = true → y.plain 64 = true := fun y h => plain_mono n 64 hn y h
  plain_mono : ∀ (n m : Nat) (hn : n ≤ m) (y : D), y.plain n = true → y.plain m = true
    | n, m, hn, .non, h => by cases m <;> simp [D.plain]
    | n, m, hn, .bl _, h => by cases m <;> simp [D.plain]
    | n, m, hn, .int _, h => by cases m <;> simp [D.plain]
    | n, m, hn, .str _, h => by cases n <;> cases m <;> simpa [D.plain] using h
    | 0, m, hn, .tup _, h => by simp [D.plain] at h
    | 0, m, hn, .lst _, h => by simp [D.plain] at h
    | n + 1, 0, hn, _, h => by omega
    | n + 1, m + 1, hn, .tup xs, h => by
      simp only [D.plain] at h ⊢
      exact plains_mono n m (by omega) xs h
    | n + 1, m + 1, hn, .lst xs, h => by
      simp only [D.plain] at h ⊢
      exact plains_mono n m (by omega) xs h
    | n, m, hn, .dct _, h => by cases n <;> simp [D.plain] at h
    | n, m, hn, .fn _, h => by cases n <;> simp [D.plain] at h
    | n, m, hn, .scr _, h => by cases n <;> simp [D.plain] at h
  plains_mono : ∀ (n m : Nat) (hn : n ≤ m) (ys : List D), D.plains n ys = true → D.plains m ys = true
    | n, m, hn, [], h => by simp [D.plains]
    | n, m, hn, y :: ys, h => by
      simp only [D.plains, Bool.and_eq_true] at h ⊢
      exact ⟨plain_mono n m hn y h.1, plains_mono n m hn ys h.2⟩
theorem or_inn (hK : X.K = W.K) (hu : X.A.units + 65 < cLine) : OpR X (compareOp .In) (PR2 W .inn) := by
  intro pins s σ H x y v u Q I rx ry ⟨G, ds, r, gh, hs, hp, po⟩
  obtain ⟨d, e, rfl, h1, h2⟩ := two hs
  have genL : ∀ ys, e = .lst ys → small (d.plain 64 && (D.lst ys).plain 64) (Res.val (.bl (ys.any fun y => D.eqv y d))) = some r → wpAny (model X.prog X.w) X.A (compareOp .In v u) (EP X pins σ Q) X.xe s := fun ys e1 hq => by
    subst e1
    obtain ⟨c, rfl⟩ := small_some hq
    rw [Bool.and_eq_true] at c
    refine op_inD hu pins s σ H x y v u Q I rx ry ?_
    rw [hK]
    have h3 := dpS_of gh c.2 h2
    have h4 := shaped_of c.2
    simp only [toP] at h3 h4
    refine ⟨toP d, toPs ys, dpS_of gh c.1 h1, h3, shaped_of c.1, h4, ?_⟩
    rw [any_toP c.1 63 (by decide) (by simpa only [D.plain] using c.2)]
    exact post_b po gh
  have genT : ∀ ys, e = .tup ys → small (d.flat && ys.all D.flat) (Res.val (.bl (ys.any fun y => D.eqv y d))) = some r → wpAny (model X.prog X.w) X.A (compareOp .In v u) (EP X pins σ Q) X.xe s := fun ys e1 hq => by
    subst e1
    obtain ⟨c, rfl⟩ := small_some hq
    rw [Bool.and_eq_true] at c
    obtain ⟨b, us, rfl, e2, r2⟩ := rs_tup gh h2
    refine op_in_seq pins s σ H x _ v u Q I rx ry ⟨b, us, rfl, .inr (.inl (.inl e2)), flat_of c.1 h1, flats_of c.2 r2, ?_⟩
    rw [inV_of c.1 h1 c.2 r2]
    exact post_b po gh
  cases e with
  | lst ys =>
    refine genL ys rfl ?_
    cases d <;> simpa only [prim, pInn] using hp
  | tup ys =>
    refine genT ys rfl ?_
    cases d <;> simpa only [prim, pInn] using hp
  | str z =>
    cases d <;> simp only [prim, pInn, reduceCtorEq] at hp
    rename_i l
    match l, hp, h1 with
    | [c], hp, h1 =>
      simp only [pInn, vB] at hp
      cases hp
      refine op_in_sign pins s σ H x y v u Q I rx ry ⟨c, _, rs_str h1, rs_str h2, ?_⟩
      exact post_b po gh
    | [], hp, _ => simp [pInn] at hp
    | _ :: _ :: _, hp, _ => simp [pInn] at hp
  | _ => cases d <;> simp only [prim, pInn, reduceCtorEq] at hp
theorem or_nin (hK : X.K = W.K) (hu : X.A.units + 65 < cLine) : OpR X (compareOp .NotIn) (PR2 W .nin) := by
  intro pins s σ H x y v u Q I rx ry ⟨G, ds, r, gh, hs, hp, po⟩
  obtain ⟨d, e, rfl, h1, h2⟩ := two hs
  have genL : ∀ ys, e = .lst ys → small (d.plain 64 && (D.lst ys).plain 64) (Res.val (.bl (!ys.any fun y => D.eqv y d))) = some r → wpAny (model X.prog X.w) X.A (compareOp .NotIn v u) (EP X pins σ Q) X.xe s := fun ys e1 hq => by
    subst e1
    obtain ⟨c, rfl⟩ := small_some hq
    rw [Bool.and_eq_true] at c
    refine op_notInD hu pins s σ H x y v u Q I rx ry ?_
    rw [hK]
    have h3 := dpS_of gh c.2 h2
    have h4 := shaped_of c.2
    simp only [toP] at h3 h4
    refine ⟨toP d, toPs ys, dpS_of gh c.1 h1, h3, shaped_of c.1, h4, ?_⟩
    rw [any_toP c.1 63 (by decide) (by simpa only [D.plain] using c.2)]
    exact post_b po gh
  have genT : ∀ ys, e = .tup ys → small (d.flat && ys.all D.flat) (Res.val (.bl (!ys.any fun y => D.eqv y d))) = some r → wpAny (model X.prog X.w) X.A (compareOp .NotIn v u) (EP X pins σ Q) X.xe s := fun ys e1 hq => by
    subst e1
    obtain ⟨c, rfl⟩ := small_some hq
    rw [Bool.and_eq_true] at c
    obtain ⟨b, us, rfl, e2, r2⟩ := rs_tup gh h2
    refine op_notIn_seq pins s σ H x _ v u Q I rx ry ⟨b, us, rfl, .inr (.inl (.inl e2)), flat_of c.1 h1, flats_of c.2 r2, ?_⟩
    rw [inV_of c.1 h1 c.2 r2]
    exact post_b po gh
  cases e with
  | lst ys =>
    refine genL ys rfl ?_
    cases d <;> simpa only [prim, pNin] using hp
  | tup ys =>
    refine genT ys rfl ?_
    cases d <;> simpa only [prim, pNin] using hp
  | str z =>
    cases d <;> simp only [prim, pNin, reduceCtorEq] at hp
    rename_i l
    match l, hp, h1 with
    | [c], hp, h1 =>
      simp only [pNin, vB] at hp
      cases hp
      refine op_notIn_sign pins s σ H x y v u Q I rx ry ⟨c, _, rs_str h1, rs_str h2, ?_⟩
      exact post_b po gh
    | [], hp, _ => simp [pNin] at hp
    | _ :: _ :: _, hp, _ => simp [pNin] at hp
  | _ => cases d <;> simp only [prim, pNin, reduceCtorEq] at hp
theorem isnon_of {G H : Hp} {d : D} {v : V} (h : RepS W G H d v) : decide (v = .non) = (match d with | .non => true | _ => false) := by
  rcases h with h | ⟨a, rfl, h⟩
  · cases d <;> simp only [Rep] at h
    · subst h; rfl
    · subst h; rfl
    · subst h; rfl
    · subst h; rfl
    · obtain ⟨a, _, rfl, _⟩ := h; rfl
    · obtain ⟨a, _, rfl, _⟩ := h; rfl
    · obtain ⟨a, rfl, _⟩ := h; rfl
    · obtain ⟨a, _, rfl⟩ := h; rfl
    · obtain ⟨a, rfl, _⟩ := h; rfl
  · cases d <;> first | rfl | exact h.elim
theorem or_isN : OpR X (compareOp .Is) (fun x y H Q => y = .non ∧ PR1 W .isN x H Q) := by
  intro pins s σ H x y v u Q I rx ry ⟨ey, G, ds, r, gh, hs, hp, po⟩
  obtain ⟨d, rfl, h1⟩ := one hs
  refine op_isN pins s σ H x y v u Q I rx ry ⟨ey, ?_⟩
  rw [isnon_of h1]
  cases d <;> simp only [prim, pIsN, vB] at hp <;> (cases hp; exact post_b po gh)
theorem or_notN : OpR X (compareOp .IsNot) (fun x y H Q => y = .non ∧ PR1 W .notN x H Q) := by
  intro pins s σ H x y v u Q I rx ry ⟨ey, G, ds, r, gh, hs, hp, po⟩
  obtain ⟨d, rfl, h1⟩ := one hs
  refine op_notN pins s σ H x y v u Q I rx ry ⟨ey, ?_⟩
  rw [isnon_of h1]
  cases d <;> simp only [prim, pNotN, vB] at hp <;> (cases hp; exact post_b po gh)
theorem xr_ix (hK : X.K = W.K) : IxR X (PR2 W .ix) := by
  intro value slice pins s σ H x y v u Q I rx ry ⟨G, ds, r, gh, hs, hp, po⟩ hsub
  obtain ⟨d, e, rfl, h1, h2⟩ := two hs
  cases d <;> cases e <;> simp only [prim, pIx, reduceCtorEq] at hp
  · rename_i z i
    cases c : small (decide (z.length ≤ big)) (at? z i) with
    | none => rw [c] at hp; simp at hp
    | some o =>
      obtain ⟨c1, rfl⟩ := small_some c
      rw [c] at hp
      simp only [decide_eq_true_eq] at c1
      cases q : at? z i with
      | none => rw [q] at hp; simp at hp
      | some k =>
        rw [q] at hp
        simp at hp
        subst hp
        refine ix_str value slice pins s σ H x y v u Q I rx ry ⟨_, _, k, rs_str h1, rs_int h2, big_line (by rw [str_len]; exact c1), ?_, post_s po gh (by simp)⟩ hsub
        exact q
  · rename_i z i
    cases q : at? z i with
    | none => rw [q] at hp; simp at hp
    | some k =>
      rw [q] at hp
      simp at hp
      subst hp
      obtain ⟨a, vs, rfl, e1, r1⟩ := rs_tup gh h1
      obtain ⟨w, hw, rw'⟩ := at_rep r1 q
      exact ix_tup value slice pins s σ H _ y v u Q I rx ry ⟨a, vs, _, w, rfl, rs_int h2, .inl (.inl e1), hw, post_v po gh rw'⟩ hsub
  · rename_i z i
    cases q : at? z i with
    | none => rw [q] at hp; simp at hp
    | some k =>
      rw [q] at hp
      simp at hp
      subst hp
      obtain ⟨a, vs, rfl, e1, r1⟩ := rs_lst gh h1
      obtain ⟨w, hw, rw'⟩ := at_rep r1 q
      exact ix_list value slice pins s σ H _ y v u Q I rx ry ⟨a, vs, _, w, rfl, rs_int h2, .inl (.inl e1), hw, post_v po gh rw'⟩ hsub
  · rename_i z i
    cases q : at? z i with
    | none => rw [q] at hp; simp at hp
    | some k =>
      rw [q] at hp
      simp at hp
      subst hp
      obtain ⟨a, rfl, e1⟩ := rs_scr gh h1
      refine ix_list value slice pins s σ H _ y v u Q I rx ry ⟨a, _, _, .int k, rfl, rs_int h2, by rw [hK]; exact e1, ?_, post_i po gh⟩ hsub
      unfold at? at q
      unfold atI
      rw [List.length_map]
      cases q2 : ixOf z.length i with
      | none => rw [q2] at q; simp at q
      | some j =>
        rw [q2] at q
        rw [show ixN z.length i = some j from q2]
        have q3 : z[j]? = some k := q
        show (z.map V.int)[j]? = some (V.int k)
        rw [List.getElem?_map, q3]
        rfl
def slArgs (x : V) (lo hi : Option Int) : List V := x :: (lo.toList.map V.int ++ hi.toList.map V.int)
theorem cutS_of (z : List Nat) (lo hi : Option Int) : (cutS ⟨z.toArray⟩ lo hi).cps.toList = cut z lo hi := by
  unfold cutS cut
  rw [str_len]
theorem cut_len {α : Type} (xs : List α) (lo hi : Option Int) : (cut xs lo hi).length ≤ xs.length := by
  unfold cut
  rw [List.length_take, List.length_drop]
  omega
theorem cut_whole {α : Type} (xs : List α) (lo hi : Option Int) (h : HT.sIx xs.length 0 lo = 0 ∧ HT.sIx xs.length xs.length hi = xs.length) : cut xs lo hi = xs := by
  unfold cut
  rw [h.1, h.2]
  simp
theorem sl_gen {pins : List (Addr × Obj)} {s : Shared} {σ : St} {H : Hp} {x : V} {v vl vu : Value} {lo hi : Option Int} {sl : Addr} {Q : VK} (I : Inv X pins σ H s) (rx : RelV x v) (hs : s.heap.IsSliceOf sl vl vu .none) (pl : IsPart vl lo) (pu : IsPart vu hi)
    {G : Hp} {d : D} {r : Res} (gh : Ex G H) (h1 : RepS W G H d x) (po : Post W G H r Q)
    (hr : (∃ z, d = .str z ∧ z.length ≤ big ∧ r = .val (.str (cut z lo hi))) ∨ (∃ z, d = .lst z ∧ r = .new (.lst (cut z lo hi))) ∨ ∃ z, d = .tup z ∧ r = .val (.tup (cut z lo hi))) :
    ∃ T id, typeLookup (.type T) "__getitem__" = pure (some (.builtin id)) ∧ s.TypeIs v T ∧ wpAny (model X.prog X.w) X.A (getItem v (.ref sl)) (EP X pins σ Q) X.xe s := by
  rcases hr with ⟨z, rfl, hz, rfl⟩ | ⟨z, rfl, rfl⟩ | ⟨z, rfl, rfl⟩
  · exact sl_str pins s σ H x v vl vu lo hi sl Q I rx hs pl pu ⟨_, rs_str h1, big_line (by rw [str_len]; exact hz), post_s po gh (cutS_of _ _ _)⟩
  · obtain ⟨a, vs, rfl, e1, r1⟩ := rs_lst gh h1
    exact sl_list pins s σ H _ v vl vu lo hi sl Q I rx hs pl pu ⟨a, vs, rfl, .inl (.inl e1), fun p hp => post_l po gh hp (reps_cut lo hi r1)⟩
  · obtain ⟨a, vs, rfl, e1, r1⟩ := rs_tup gh h1
    refine sl_tupA pins s σ H _ v vl vu lo hi sl Q I rx hs pl pu ⟨a, vs, rfl, .inl (.inl e1), fun w => ?_, fun _ p hp => post_t po gh hp (reps_cut lo hi r1)⟩
    rw [reps_len r1] at w
    rw [cut_whole z lo hi w] at po
    exact post_v po gh (by rcases h1 with h1 | ⟨_, _, h1⟩; exact h1; exact h1.elim)
theorem sr_slc : SlR X (fun x lo hi H Q => PRn W (.slc lo.isSome hi.isSome) (slArgs x lo hi) H Q) := by
  intro pins s σ H x v vl vu lo hi sl Q I rx hs pl pu ⟨G, ds, r, gh, hd, hp, po⟩
  cases lo with
  | none =>
    cases hi with
    | none =>
      obtain ⟨d, rfl, h1⟩ := one hd
      refine sl_gen I rx hs pl pu gh h1 po ?_
      cases d <;> simp only [prim, pSlc, Option.isSome, reduceCtorEq] at hp
      obtain ⟨c, rfl⟩ := small_some hp
      exact .inl ⟨_, rfl, of_decide_eq_true c, rfl⟩
    | some b =>
      obtain ⟨d, e, rfl, h1, h2⟩ := two hd
      refine sl_gen I rx hs pl pu gh h1 po ?_
      cases d <;> cases e <;> simp only [prim, pSlc, Option.isSome, reduceCtorEq] at hp
      · have := rs_int h2; cases this
        obtain ⟨c, rfl⟩ := small_some hp
        exact .inl ⟨_, rfl, of_decide_eq_true c, rfl⟩
      · have := rs_int h2; cases this
        cases hp
        exact .inr (.inr ⟨_, rfl, rfl⟩)
      · have := rs_int h2; cases this
        cases hp
        exact .inr (.inl ⟨_, rfl, rfl⟩)
  | some a =>
    cases hi with
    | none =>
      obtain ⟨d, e, rfl, h1, h2⟩ := two hd
      refine sl_gen I rx hs pl pu gh h1 po ?_
      cases d <;> cases e <;> simp only [prim, pSlc, Option.isSome, reduceCtorEq] at hp
      · have := rs_int h2; cases this
        obtain ⟨c, rfl⟩ := small_some hp
        exact .inl ⟨_, rfl, of_decide_eq_true c, rfl⟩
      · have := rs_int h2; cases this
        cases hp
        exact .inr (.inr ⟨_, rfl, rfl⟩)
      · have := rs_int h2; cases this
        cases hp
        exact .inr (.inl ⟨_, rfl, rfl⟩)
    | some b =>
      have l := rss_len hd
      match ds, l, hd with
      | [d, e, f], _, hd =>
        simp only [RepSs] at hd
        obtain ⟨v1, r1, q1, h1, v2, r2, rfl, h2, v3, r3, rfl, h3, rfl⟩ := hd
        cases q1
        refine sl_gen I rx hs pl pu gh h1 po ?_
        cases d <;> cases e <;> cases f <;> simp only [prim, pSlc, Option.isSome, reduceCtorEq] at hp
        · have := rs_int h2; cases this
          have := rs_int h3; cases this
          obtain ⟨c, rfl⟩ := small_some hp
          exact .inl ⟨_, rfl, of_decide_eq_true c, rfl⟩
        · have := rs_int h2; cases this
          have := rs_int h3; cases this
          cases hp
          exact .inr (.inr ⟨_, rfl, rfl⟩)
        · have := rs_int h2; cases this
          have := rs_int h3; cases this
          cases hp
          exact .inr (.inl ⟨_, rfl, rfl⟩)
end
end Itp
set_option Elab.async false
set_option linter.all false
set_option maxRecDepth 100000
set_option maxHeartbeats 4000000
namespace Itp
open PySem L2
section
variable {X : Cx} {W : Wd}
theorem cr_len (hK : X.K = W.K) : CallR X (.builtin "len") (PRn W .len) := by
  intro pins s σ H xs us Q I r0 ⟨G, ds, r, gh, hs, hp, po⟩
  match ds, hs, hp with
  | [], _, hp => simp [prim, pLen] at hp
  | _ :: _ :: _, _, hp => simp [prim, pLen] at hp
  | [d], hs, hp =>
    obtain ⟨v, rfl, h1⟩ := rss1 hs
    cases d <;> simp only [prim, pLen, vI, reduceCtorEq] at hp
    · obtain ⟨c, rfl⟩ := small_some hp
      refine call_len_str pins s σ H _ us Q I r0 ⟨_, by rw [rs_str h1], big_line (by rw [str_len]; exact of_decide_eq_true c), ?_⟩
      rw [str_len]
      exact post_i po gh
    · cases hp
      obtain ⟨a, vs, rfl, e1, r1⟩ := rs_tup gh h1
      refine call_len_seq pins s σ H _ us Q I r0 ⟨a, vs, rfl, .inr (.inl (.inl e1)), ?_⟩
      rw [reps_len r1]
      exact post_i po gh
    · cases hp
      obtain ⟨a, vs, rfl, e1, r1⟩ := rs_lst gh h1
      refine call_len_seq pins s σ H _ us Q I r0 ⟨a, vs, rfl, .inl (.inl (.inl e1)), ?_⟩
      rw [reps_len r1]
      exact post_i po gh
    · cases hp
      obtain ⟨a, rfl, e1⟩ := rs_scr gh h1
      refine call_len_seq pins s σ H _ us Q I r0 ⟨a, _, rfl, .inl (by rw [hK]; exact e1), ?_⟩
      rw [List.length_map]
      exact post_i po gh
theorem cr_int : CallR X (.type "int") (PRn W .int) := by
  intro pins s σ H xs us Q I r0 ⟨G, ds, r, gh, hs, hp, po⟩
  match ds, hs, hp with
  | [], _, hp => simp [prim, pInt] at hp
  | _ :: _ :: _, _, hp => simp [prim, pInt] at hp
  | [d], hs, hp =>
    obtain ⟨v, rfl, h1⟩ := rss1 hs
    cases d <;> simp only [prim, pInt, vI, reduceCtorEq] at hp
    · cases hp
      exact call_int1 pins s σ H _ us Q I r0 (.inr ⟨_, by rw [rs_bl h1], post_i po gh⟩)
    · cases hp
      exact call_int1 pins s σ H _ us Q I r0 (.inl ⟨_, by rw [rs_int h1], post_i po gh⟩)
theorem cr_list : CallR X (.type "list") (PRn W .list) := by
  intro pins s σ H xs us Q I r0 ⟨G, ds, r, gh, hs, hp, po⟩
  match ds, hs, hp with
  | [], _, hp => simp [prim, pList] at hp
  | _ :: _ :: _, _, hp => simp [prim, pList] at hp
  | [d], hs, hp =>
    obtain ⟨v, rfl, h1⟩ := rss1 hs
    cases d <;> simp only [prim, pList, reduceCtorEq] at hp
    · cases hp
      obtain ⟨a, vs, rfl, e1, r1⟩ := rs_tup gh h1
      exact call_list_of pins s σ H _ us Q I r0 ⟨a, vs, rfl, .inr (.inl (.inl e1)), fun p hp => post_l po gh hp r1⟩
    · cases hp
      obtain ⟨a, vs, rfl, e1, r1⟩ := rs_lst gh h1
      exact call_list_of pins s σ H _ us Q I r0 ⟨a, vs, rfl, .inl (.inl (.inl e1)), fun p hp => post_l po gh hp r1⟩
theorem cr_tuple : CallR X (.type "tuple") (PRn W .tuple) := by
  intro pins s σ H xs us Q I r0 ⟨G, ds, r, gh, hs, hp, po⟩
  match ds, hs, hp with
  | [], _, hp => simp [prim, pTuple] at hp
  | _ :: _ :: _, _, hp => simp [prim, pTuple] at hp
  | [d], hs, hp =>
    obtain ⟨v, rfl, h1⟩ := rss1 hs
    cases d <;> simp only [prim, pTuple, reduceCtorEq] at hp
    · cases hp
      obtain ⟨a, vs, rfl, e1, r1⟩ := rs_tup gh h1
      refine call_tuple_of pins s σ H _ us Q I r0 ⟨a, vs, rfl, .inr ⟨.inl (.inl e1), ?_⟩⟩
      exact post_v po gh (by rcases h1 with h1 | ⟨_, _, h1⟩; exact h1; exact h1.elim)
    · cases hp
      obtain ⟨a, vs, rfl, e1, r1⟩ := rs_lst gh h1
      exact call_tuple_of pins s σ H _ us Q I r0 ⟨a, vs, rfl, .inl ⟨.inl (.inl e1), fun p hp => post_t po gh hp r1⟩⟩
theorem minI_spec : ∀ {l : List Int} {m : Int}, minI l = some m → m ∈ l ∧ ∀ y ∈ l, m ≤ y
  | [], _, h => by simp [minI] at h
  | [x], m, h => by simp [minI] at h; subst h; simp
  | x :: y :: r, m, h => by
    simp only [minI, Option.map_eq_some_iff] at h
    obtain ⟨n, h1, h2⟩ := h
    obtain ⟨q1, q2⟩ := minI_spec h1
    by_cases c : n < x
    · rw [if_pos c] at h2
      subst h2
      refine ⟨List.mem_cons_of_mem _ q1, fun z hz => ?_⟩
      rcases List.mem_cons.mp hz with rfl | hz
      · omega
      · exact q2 z hz
    · rw [if_neg c] at h2
      subst h2
      refine ⟨List.mem_cons_self, fun z hz => ?_⟩
      rcases List.mem_cons.mp hz with rfl | hz
      · omega
      · have := q2 z hz; omega
theorem maxI_spec : ∀ {l : List Int} {m : Int}, maxI l = some m → m ∈ l ∧ ∀ y ∈ l, y ≤ m
  | [], _, h => by simp [maxI] at h
  | [x], m, h => by simp [maxI] at h; subst h; simp
  | x :: y :: r, m, h => by
    simp only [maxI, Option.map_eq_some_iff] at h
    obtain ⟨n, h1, h2⟩ := h
    obtain ⟨q1, q2⟩ := maxI_spec h1
    by_cases c : x < n
    · rw [if_pos c] at h2
      subst h2
      refine ⟨List.mem_cons_of_mem _ q1, fun z hz => ?_⟩
      rcases List.mem_cons.mp hz with rfl | hz
      · omega
      · exact q2 z hz
    · rw [if_neg c] at h2
      subst h2
      refine ⟨List.mem_cons_self, fun z hz => ?_⟩
      rcases List.mem_cons.mp hz with rfl | hz
      · omega
      · have := q2 z hz; omega
theorem cr_min (hc : X.calm = true) : CallR X (.builtin "min") (PRn W .min) := by
  intro pins s σ H xs us Q I r0 ⟨G, ds, r, gh, hs, hp, po⟩
  match ds, hs, hp with
  | [], _, hp => simp [prim, pMin] at hp
  | _ :: _ :: _ :: _, _, hp => simp [prim, pMin] at hp
  | [d, e], hs, hp =>
    simp only [RepSs] at hs
    obtain ⟨v, r1, rfl, h1, v2, r2, rfl, h2, rfl⟩ := hs
    cases d <;> cases e <;> simp only [prim, pMin, vI, reduceCtorEq] at hp
    cases hp
    exact call_min2 hc pins s σ H _ us Q I r0 ⟨_, _, by rw [rs_int h1, rs_int h2], post_i po gh⟩
  | [d], hs, hp =>
    obtain ⟨v, rfl, h1⟩ := rss1 hs
    cases d <;> simp only [prim, pMin, reduceCtorEq] at hp
    simp only [Option.bind_eq_some_iff, Option.map_eq_some_iff] at hp
    obtain ⟨l, e1, m, e2, rfl⟩ := hp
    obtain ⟨a, vs, rfl, e3, r1⟩ := rs_lst gh h1
    rw [reps_ints r1 e1] at e3
    obtain ⟨q1, q2⟩ := minI_spec e2
    refine L2.cr_min hc pins s σ H _ us Q I r0 ⟨a, l, rfl, .inl (.inl e3), List.length_pos_of_mem q1, fun n hn1 hn2 => ?_⟩
    have : n = m := Int.le_antisymm (hn2 m q1) (q2 n hn1)
    subst this
    exact post_i po gh
theorem cr_max (hc : X.calm = true) : CallR X (.builtin "max") (PRn W .max) := by
  intro pins s σ H xs us Q I r0 ⟨G, ds, r, gh, hs, hp, po⟩
  match ds, hs, hp with
  | [], _, hp => simp [prim, pMax] at hp
  | _ :: _ :: _ :: _, _, hp => simp [prim, pMax] at hp
  | [d, e], hs, hp =>
    simp only [RepSs] at hs
    obtain ⟨v, r1, rfl, h1, v2, r2, rfl, h2, rfl⟩ := hs
    cases d <;> cases e <;> simp only [prim, pMax, vI, reduceCtorEq] at hp
    cases hp
    exact call_max2 hc pins s σ H _ us Q I r0 ⟨_, _, by rw [rs_int h1, rs_int h2], post_i po gh⟩
  | [d], hs, hp =>
    obtain ⟨v, rfl, h1⟩ := rss1 hs
    cases d <;> simp only [prim, pMax, reduceCtorEq] at hp
    simp only [Option.bind_eq_some_iff, Option.map_eq_some_iff] at hp
    obtain ⟨l, e1, m, e2, rfl⟩ := hp
    obtain ⟨a, vs, rfl, e3, r1⟩ := rs_lst gh h1
    rw [reps_ints r1 e1] at e3
    obtain ⟨q1, q2⟩ := maxI_spec e2
    refine L2.cr_max hc pins s σ H _ us Q I r0 ⟨a, l, rfl, .inl (.inl e3), List.length_pos_of_mem q1, fun n hn1 hn2 => ?_⟩
    have : n = m := Int.le_antisymm (q2 n hn1) (hn2 m q1)
    subst this
    exact post_i po gh
theorem cr_sum (hc : X.calm = true) : CallR X (.builtin "sum") (PRn W .sum) := by
  intro pins s σ H xs us Q I r0 ⟨G, ds, r, gh, hs, hp, po⟩
  match ds, hs, hp with
  | [], _, hp => simp [prim, pSum] at hp
  | _ :: _ :: _, _, hp => simp [prim, pSum] at hp
  | [d], hs, hp =>
    obtain ⟨v, rfl, h1⟩ := rss1 hs
    cases d <;> simp only [prim, pSum, reduceCtorEq] at hp
    simp only [Option.map_eq_some_iff] at hp
    obtain ⟨l, e1, rfl⟩ := hp
    obtain ⟨a, vs, rfl, e3, r1⟩ := rs_lst gh h1
    rw [reps_ints r1 e1] at e3
    exact L2.cr_sum hc pins s σ H _ us Q I r0 ⟨a, l, rfl, .inl (.inl e3), post_i po gh⟩
theorem cr_abs : CallR X (.builtin "abs") (PRn W .abs) := by
  intro pins s σ H xs us Q I r0 ⟨G, ds, r, gh, hs, hp, po⟩
  match ds, hs, hp with
  | [], _, hp => simp [prim, pAbs] at hp
  | _ :: _ :: _, _, hp => simp [prim, pAbs] at hp
  | [d], hs, hp =>
    obtain ⟨v, rfl, h1⟩ := rss1 hs
    cases d <;> simp only [prim, pAbs, vI, reduceCtorEq] at hp
    cases hp
    exact call_abs pins s σ H _ us Q I r0 ⟨_, by rw [rs_int h1], post_i po gh⟩
theorem cr_all (hc : X.calm = true) : CallR X (.builtin "all") (PRn W .all) := by
  intro pins s σ H xs us Q I r0 ⟨G, ds, r, gh, hs, hp, po⟩
  match ds, hs, hp with
  | [], _, hp => simp [prim, pAll] at hp
  | _ :: _ :: _, _, hp => simp [prim, pAll] at hp
  | [d], hs, hp =>
    obtain ⟨v, rfl, h1⟩ := rss1 hs
    cases d <;> simp only [prim, pAll, reduceCtorEq] at hp
    simp only [Option.map_eq_some_iff] at hp
    obtain ⟨l, e1, rfl⟩ := hp
    obtain ⟨a, vs, rfl, e3, r1⟩ := rs_lst gh h1
    rw [reps_bls r1 e1] at e3
    exact L2.cr_all hc pins s σ H _ us Q I r0 ⟨a, l, rfl, .inl (.inl e3), post_b po gh⟩
theorem cr_any (hc : X.calm = true) : CallR X (.builtin "any") (PRn W .any) := by
  intro pins s σ H xs us Q I r0 ⟨G, ds, r, gh, hs, hp, po⟩
  match ds, hs, hp with
  | [], _, hp => simp [prim, pAny] at hp
  | _ :: _ :: _, _, hp => simp [prim, pAny] at hp
  | [d], hs, hp =>
    obtain ⟨v, rfl, h1⟩ := rss1 hs
    cases d <;> simp only [prim, pAny, reduceCtorEq] at hp
    simp only [Option.map_eq_some_iff] at hp
    obtain ⟨l, e1, rfl⟩ := hp
    obtain ⟨a, vs, rfl, e3, r1⟩ := rs_lst gh h1
    rw [reps_bls r1 e1] at e3
    exact L2.cr_any hc pins s σ H _ us Q I r0 ⟨a, l, rfl, .inl (.inl e3), post_b po gh⟩
theorem glued_of (a : List Nat) : ∀ (l : List (List Nat)) (b : List Nat), ((l.map sOf).foldl (fun acc p => acc ++ (sOf a).cps ++ p.cps) b.toArray).toList = l.foldl (fun acc p => acc ++ a ++ p) b
  | [], b => by simp
  | x :: r, b => by
    simp only [List.map_cons, List.foldl_cons]
    have e : b.toArray ++ (sOf a).cps ++ (sOf x).cps = (b ++ a ++ x).toArray := by simp [sOf]
    rw [e]
    exact glued_of a r _
theorem join_of (a : List Nat) (l : List (List Nat)) : (Txt.join (sOf a) (l.map sOf)).cps.toList = joinL a l := by
  unfold Txt.join Builtin.Str.glued joinL
  cases l with
  | nil => rfl
  | cons x r => exact glued_of a r x
theorem mr_join : MtR X "str.join" (fun x xs H Q => PRn W .join (x :: xs) H Q) := by
  intro pins s σ H x xs v us Q I rx rs ⟨G, ds, r, gh, hs, hp, po⟩
  match ds, hs, hp with
  | [], _, hp => simp [prim, pJoin] at hp
  | [_], _, hp => simp [prim, pJoin] at hp
  | _ :: _ :: _ :: _, _, hp => simp [prim, pJoin] at hp
  | [d, e], hs, hp =>
    simp only [RepSs] at hs
    obtain ⟨v1, r1, e0, h1, v2, r2, rfl, h2, rfl⟩ := hs
    cases e0
    cases d <;> cases e <;> simp only [prim, pJoin, reduceCtorEq] at hp
    simp only [Option.bind_eq_some_iff] at hp
    obtain ⟨l, e1, hp⟩ := hp
    obtain ⟨c, rfl⟩ := small_some hp
    simp only [decide_eq_true_eq] at c
    obtain ⟨a, vs, rfl, e3, r1⟩ := rs_lst gh h2
    rw [reps_strs r1 e1] at e3
    refine mt_join pins s σ H _ _ v us Q I rx rs ⟨_, a, l.map sOf, rs_str h1, rfl, .inl (.inl (.inl e3)), ?_, post_s po gh (join_of _ l)⟩
    have e4 : (l.map sOf).map (·.length) = l.map (·.length) := by
      rw [List.map_map]
      exact List.map_congr_left fun z _ => str_len z
    rw [e4, str_len, List.length_map]
    exact Nat.le_trans c (by decide)
def tyN : Ty → String
  | .int => "int"
  | .str => "str"
  | .bool => "bool"
  | .list => "list"
  | .tuple => "tuple"
def tyD : D → String
  | .non => "NoneType"
  | .bl _ => "bool"
  | .int _ => "int"
  | .str _ => "str"
  | .tup _ => "tuple"
  | .lst _ => "list"
  | .dct _ => "dict"
  | .fn _ => ""
  | .scr _ => ""
theorem tyX_of {K : PySem.W.Frag} {G H : Hp} {d : D} {v : V} (x : Ex G H) (t : typed d = true) (h : RepS W G H d v) : TyX K H v (.type (tyD d)) := by
  cases d <;> simp [typed] at t
  · rw [rs_non h]; exact .base .non
  · rw [rs_bl h]; exact .base (.bl _)
  · rw [rs_int h]; exact .base (.int _)
  · rw [rs_str h]; exact .base (.str _)
  · obtain ⟨a, vs, rfl, e, _⟩ := rs_tup x h; exact .base (.tup e)
  · obtain ⟨a, vs, rfl, e, _⟩ := rs_lst x h; exact .base (.lst e)
  · rcases h with h | ⟨a, rfl, h⟩
    · simp only [Rep] at h
      obtain ⟨a, rfl, ⟨l, e, _⟩ | ⟨l, e, _⟩⟩ := h
      · exact .base (.dK (x _ _ e))
      · exact .base (.dT (x _ _ e))
    · rcases h with ⟨l, e, _⟩ | ⟨l, e, _⟩
      · exact .base (.dK e)
      · exact .base (.dT e)
theorem kit_of_ty {K : PySem.W.Frag} {d : D} (t : typed d = true) (c : Ty) : PySem.W.kitOne K (.type (tyD d)) (.type (tyN c)) = some (typOf d c) := by
  cases d <;> simp [typed] at t <;> cases c <;> exact kit_ty (by dsimp only [tyD, tyN, typOf]; decide +kernel)
theorem kitAny_of {K : PySem.W.Frag} {d : D} (t : typed d = true) : ∀ cs : List Ty, PySem.W.kitAny K (.type (tyD d)) (cs.map fun c => Value.type (tyN c)) = some (cs.any (typOf d))
  | [] => rfl
  | c :: cs => by
    simp only [List.map_cons, List.any_cons]
    refine kitAny_cons (kit_of_ty t c) (fun e => ?_) fun e => by simp [e]
    rw [kitAny_of t cs, e]
    simp
theorem pr_isi {ts : List Ty} {xs : List V} {H : Hp} {Q : VK} (h : PRn W (.isi ts) xs H Q) : ∃ v d G, xs = [v] ∧ Ex G H ∧ RepS W G H d v ∧ typed d = true ∧ Q (.bl (ts.any (typOf d))) H := by
  obtain ⟨G, ds, r, gh, hs, hp, po⟩ := h
  match ds, hs, hp with
  | [], _, hp => simp [prim, pIsi] at hp
  | _ :: _ :: _, _, hp => simp [prim, pIsi] at hp
  | [d], hs, hp =>
    obtain ⟨v, rfl, h1⟩ := rss1 hs
    simp only [prim, pIsi] at hp
    obtain ⟨c, rfl⟩ := small_some hp
    exact ⟨v, d, G, rfl, gh, h1, c, post_b po gh⟩
/-- isinstance(x, T) -/
theorem cr_isi {t : Ty} : CallR X (.builtin "isinstance") (fun xs H Q => ∃ x, xs = [x, .ty (tyN t)] ∧ PRn W (.isi [t]) [x] H Q) := by
  intro pins s σ H xs us Q I r0 ⟨x, e, h⟩
  subst e
  obtain ⟨v, d, G, e1, gh, h1, c, q⟩ := pr_isi h
  cases e1
  refine call_isi pins s σ H _ us Q I r0 ⟨x, _, _, _, _, rfl, .ty _, tyX_of gh c h1, kit_of_ty c t, ?_⟩
  simpa using q
/-- isinstance(x, (T, U)), the tuple just laid -/
theorem paired_ty : ∀ ts : List Ty, Paired ClsV (ts.map fun t => V.ty (tyN t)) (ts.map fun t => Value.type (tyN t))
  | [] => .nil
  | t :: ts => .cons (.ty _) (paired_ty ts)
theorem cr_isiT {ts : List Ty} : CallR X (.builtin "isinstance") (fun xs H Q => ∃ x p, xs = [x, .ref p] ∧ H p = some (.tup (ts.map fun t => V.ty (tyN t))) ∧ PRn W (.isi ts) [x] H Q) := by
  intro pins s σ H xs us Q I r0 ⟨x, p, e, hp, h⟩
  subst e
  obtain ⟨v, d, G, e1, gh, h1, c, q⟩ := pr_isi h
  cases e1
  exact call_isiT pins s σ H _ us Q I r0 ⟨x, p, _, _, _, _, rfl, hp, paired_ty ts, tyX_of gh c h1, kitAny_of c ts, q⟩
end
end Itp
set_option Elab.async false
set_option linter.all false
set_option maxRecDepth 100000
set_option maxHeartbeats 4000000
namespace Itp
open PySem L2
/-! ### the small syntax against the row's own -/
structure Tab where
  fn : List (Str × Nat)
  cst : List (Str × D)
  cls : List (Str × Nat)
  fv : List (Str × Nat)
def lk {α : Type} : List (Str × α) → Str → Option α
  | [], _ => none
  | (y, a) :: r, x => if y = x then some a else lk r x
def bltNames : List Str := ["len", "int", "str", "list", "tuple", "min", "max", "sum", "abs", "all", "any", "isinstance", "range", "enumerate", "sorted", "set", "bool"]
def glB (sc : Scope) (x : Str) : Bool := match sc.names.lookup x with
  | some .globalImplicit => true
  | _ => false
def visB (sc : Scope) (x : Str) : Bool := match sc.names.lookup x with
  | some .local => true
  | some .cell => true
  | some .free => true
  | _ => false
def locB (sc : Scope) (x : Str) : Bool := match sc.names.lookup x with
  | some .local => true
  | some .cell => true
  | _ => false
def isVar (N : List Str) (sc : Scope) (i : Nat) (x : Str) : Bool := decide (N[i]? = some x) && visB sc x && !(x == ("__debug__" : Str)) && !(x == ("__classdict__" : Str))
def isBlt (sc : Scope) (n : Str) (x : Str) : Bool := decide (x = n) && glB sc x
def cstIs : D → Const → Bool
  | .non, .none => true
  | .bl a, .bool b => a == b
  | .int a, .int b => a == b
  | .str a, .str b => decide (b = ⟨a.toArray⟩)
  | _, _ => false
def notStar : Expr → Bool
  | .Starred _ _ => false
  | _ => true
def notSlice : Expr → Bool
  | .Slice _ _ _ _ => false
  | _ => true
def notSet : Expr → Bool
  | .Set _ _ _ => false
  | _ => true
def tyNames : List Expr → Option (List Str)
  | [] => some []
  | .Name x _ :: r => (tyNames r).map (x :: ·)
  | _ => none
def tyS : Ty → Str
  | .int => "int"
  | .str => "str"
  | .bool => "bool"
  | .list => "list"
  | .tuple => "tuple"
def isiB (sc : Scope) (ts : List Ty) : Expr → Bool
  | .Name x _ => match ts with
    | [t] => isBlt sc (tyS t) x
    | _ => false
  | .Tuple es _ _ => match tyNames es with
    | some xs => decide (xs = ts.map tyS) && xs.all (glB sc)
    | none => false
  | _ => false
/-- a method's call: the receiver and the arguments -/
def mthB (m n : Str) (ap cp : Pos) : Bool := decide (m = n) && (ap.endLine == cp.line)
def bltOp : Op → Option Str
  | .len => some "len"
  | .int => some "int"
  | .list => some "list"
  | .tuple => some "tuple"
  | .min => some "min"
  | .max => some "max"
  | .sum => some "sum"
  | .abs => some "abs"
  | .all => some "all"
  | .any => some "any"
  | _ => none
def notSuper : Expr → Bool
  | .Call _ _ _ _ => false
  | _ => true
def binOf : Op → Option Operator
  | .add => some .Add
  | .sub => some .Sub
  | .mul => some .Mult
  | .fdiv => some .FloorDiv
  | .mod => some .Mod
  | .pow => some .Pow
  | _ => none
def cmpOf : Op → Option CmpOp
  | .eq => some .Eq
  | .ne => some .NotEq
  | .lt => some .Lt
  | .le => some .LtE
  | .gt => some .Gt
  | .ge => some .GtE
  | _ => none
def cmpOf2 : Op → Option CmpOp
  | .inn => some .In
  | .nin => some .NotIn
  | o => cmpOf o
def isOf : Op → Option CmpOp
  | .isN => some .Is
  | .notN => some .IsNot
  | _ => none
def isNone : Expr → Bool
  | .Constant .none _ _ => true
  | _ => false
def slOf : Op → Option (Bool × Bool)
  | .slc a b => some (a, b)
  | _ => none
def isiOf : Op → Option (List Ty)
  | .isi ts => some ts
  | _ => none
def mthOf : Op → Option Str
  | .join => some "join"
  | _ => none
def optL {α : Type} : Option α → List α
  | some a => [a]
  | none => []
/-- the operands of an operation -/
def parts (sc : Scope) (o : Op) (e : Expr) : Option (List Expr) :=
  match e with
  | .BinOp a op b _ => if decide (binOf o = some op) then some [a, b] else none
  | .UnaryOp .USub a _ => if decide (o = .neg) then some [a] else none
  | .Compare a [op] [b] _ => if decide (cmpOf2 o = some op) && notSet b then some [a, b] else if decide (isOf o = some op) && isNone b then some [a] else none
  | .Subscript a (.Slice none none (some (.UnaryOp .USub (.Constant (.int 1) _ _) _)) _) _ => if decide (o = .rev) then some [a] else none
  | .Subscript a (.Slice l h none _) _ => if decide (slOf o = some (l.isSome, h.isSome)) then some (a :: (optL l ++ optL h)) else none
  | .Subscript a b _ => if decide (o = .ix) && notSlice b then some [a, b] else none
  | .Tuple es _ _ => if decide (o = .tup) && es.all notStar then some es else none
  | .Dict [] [] _ => if decide (o = .dct) then some [] else none
  | .List es _ => if decide (o = .lst) && es.all notStar then some es else none
  | .Call (.Name x _) (a :: as) [] _ => match bltOp o with
    | some n => if isBlt sc n x && (a :: as).all notStar then some (a :: as) else none
    | none => match isiOf o, as with
      | some ts, [b] => if isBlt sc "isinstance" x && notStar a && isiB sc ts b && decide (ts.length ≤ 5) then some [a] else none
      | _, _ => none
  | .Call (.Attribute a m ap) [b] [] cp => match mthOf o with
    | some n => if mthB m n ap cp && notStar b && notSuper a then some [a, b] else none
    | none => none
  | _ => none
def itParts (sc : Scope) (k : ItK) (e : Expr) : Option (List Expr) :=
  match k, e with
  | .rng, .Call (.Name x _) [a] [] _ => if isBlt sc "range" x && notStar a then some [a] else none
  | .rng, .Call (.Name x _) [a, b] [] _ => if isBlt sc "range" x && notStar a && notStar b then some [a, b] else none
  | .rng, .Call (.Name x _) [a, b, c] [] _ => if isBlt sc "range" x && notStar a && notStar b && notStar c then some [a, b, c] else none
  | .enum, .Call (.Name x _) [a] [] _ => if isBlt sc "enumerate" x && notStar a then some [a] else none
  | .seq, e => if notSet e then some [e] else none
  | _, _ => none
def isTup : Expr → Bool
  | .Tuple _ _ _ => true
  | _ => false
mutual
def chkT (N : List Str) (sc : Scope) (fn : Str → Bool) : Tg → Expr → Bool
  | .nm i, .Name x _ => decide (N[i]? = some x) && locB sc x && (fn x || decide (sc.names.lookup x = some .local))
  | .tp ts, .Tuple es _ _ => chkTs N sc fn ts es
  | _, _ => false
def chkTs (N : List Str) (sc : Scope) (fn : Str → Bool) : List Tg → List Expr → Bool
  | [], [] => true
  | t :: ts, e :: es => notStar e && chkT N sc fn t e && chkTs N sc fn ts es
  | _, _ => false
end
mutual
def tgSlots : Tg → List Nat
  | .nm i => [i]
  | .tp ts => tgsSlots ts
def tgsSlots : List Tg → List Nat
  | [] => []
  | t :: ts => tgSlots t ++ tgsSlots ts
end
/-- the names of a comprehension's block, as they stand in it -/
def rl (scope sc : Scope) : Scope := { scope with names := scope.names.map fun (n, k) => if (k == NameKind.free && sc.kind == .function && sc.names.lookup n == some .cell) then (n, NameKind.cell) else (n, k) }
mutual
def chk (T : Tab) (N : List Str) (sc : Scope) : E → Expr → Bool
  | .var i, .Name x _ => isVar N sc i x
  | .pk i, .Name x _ => isVar N sc i x
  | .cst d, .Constant c _ _ => cstIs d c
  | .glb y d, .Name x _ => decide (x = y) && glB sc x && !(x == ("__debug__" : Str)) && (match lk T.cst x with
    | some d' => D.beq d d' && d.flat
    | none => false)
  | .op o as, e => match parts sc o e with
    | some es => chks T N sc as es
    | none => false
  | .and a b, .BoolOp .And (x :: y :: r) pos => chk T N sc a x && (match r with
    | [] => chk T N sc b y
    | _ :: _ => chk T N sc b (.BoolOp .And (y :: r) pos))
  | .or a b, .BoolOp .Or (x :: y :: r) pos => chk T N sc a x && (match r with
    | [] => chk T N sc b y
    | _ :: _ => chk T N sc b (.BoolOp .Or (y :: r) pos))
  | .not a, .UnaryOp .Not x _ => chk T N sc a x
  | .ite c a b, .IfExp x y z _ => chkB T N sc c x && chk T N sc a y && chk T N sc b z
  | .chain o p a b c, .Compare x [q, r] [y, z] _ => decide (cmpOf o = some q) && decide (cmpOf p = some r) && chk T N sc a x && chk T N sc b y && chk T N sc c z
  | .chain3 o p s a b c d, .Compare x [q, r, t] [y, z, u] _ => decide (cmpOf o = some q) && decide (cmpOf p = some r) && decide (cmpOf s = some t) && chk T N sc a x && chk T N sc b y && chk T N sc c z && chk T N sc d u
  | .fnv y g, .Name x _ => decide (x = y) && decide (lk T.fv x = some g) && glB sc x && !(x == ("__debug__" : Str))
  | .callV f as, .Call (.Subscript a b p) (e :: es) [] _ => chk T N sc f (.Subscript a b p) && (e :: es).all notStar && chks T N sc as (e :: es)
  | .call f as, .Call (.Name x _) es [] _ => decide (lk T.fn x = some f) && glB sc x && !(x == ("__debug__" : Str)) && es.all notStar && chks T N sc as es
  | .comp k as tg own conds elt, .ListComp elt' [⟨tg', iter, ifs, asy⟩] scope _ =>
    decide (asy = 0) && (match itParts sc k iter with
      | some es => chks T N sc as es
      | none => false) && (match k with
      | .enum => isTup tg'
      | _ => true) && notSet iter && chkT N (rl scope sc) (fun x => scope.names.lookup x == some .cell) tg tg' && (tgSlots tg).all (own.contains ·) && blkC N sc scope (own.map fun i => (N.getD i "", i)) && chkB1 T N (rl scope sc) conds ifs && chk T N (rl scope sc) elt elt'
  | _, _ => false
/-- as a test -/
def chkB (T : Tab) (N : List Str) (sc : Scope) : E → Expr → Bool
  | .var i, .Name x _ => isVar N sc i x
  | .op o as, e => match parts sc o e with
    | some es => chks T N sc as es
    | none => false
  | .and a b, .BoolOp .And (x :: y :: r) pos => chkB T N sc a x && (match r with
    | [] => chkB T N sc b y
    | _ :: _ => chkB T N sc b (.BoolOp .And (y :: r) pos))
  | .or a b, .BoolOp .Or (x :: y :: r) pos => chkB T N sc a x && (match r with
    | [] => chkB T N sc b y
    | _ :: _ => chkB T N sc b (.BoolOp .Or (y :: r) pos))
  | .not a, .UnaryOp .Not x _ => chkB T N sc a x
  | .chain o p a b c, .Compare x [q, r] [y, z] _ => decide (cmpOf o = some q) && decide (cmpOf p = some r) && chk T N sc a x && chk T N sc b y && chk T N sc c z
  | .chain3 o p s a b c d, .Compare x [q, r, t] [y, z, u] _ => decide (cmpOf o = some q) && decide (cmpOf p = some r) && decide (cmpOf s = some t) && chk T N sc a x && chk T N sc b y && chk T N sc c z && chk T N sc d u
  | .call f as, .Call (.Name x _) es [] _ => decide (lk T.fn x = some f) && glB sc x && !(x == ("__debug__" : Str)) && es.all notStar && chks T N sc as es
  | _, _ => false
def chks (T : Tab) (N : List Str) (sc : Scope) : List E → List Expr → Bool
  | [], [] => true
  | a :: as, e :: es => chk T N sc a e && chks T N sc as es
  | _, _ => false
def chkB1 (T : Tab) (N : List Str) (sc : Scope) : List E → List Expr → Bool
  | [], [] => true
  | [a], [e] => chkB T N sc a e
  | _, _ => false
end
/-! ### promises of defs -/
def OkFins (W : Wd) (G H : Hp) : List V → List Arg → List D → Prop
  | [], [], l => l = []
  | _ :: vs, .val _ :: as, l => OkFins W G H vs as l
  | v :: vs, .lent _ :: as, l => ∃ d r a, l = d :: r ∧ v = .ref a ∧ G a = none ∧ Cont W G H a d ∧ OkFins W G H vs as r
  | _, _, _ => False
def spOf (W : Wd) (F : Fn) : Sp := fun vs H Q E => ∃ (G : Hp) (as : List Arg), as.length = vs.length ∧ StOk W G H (vs.map some) (as.map argSlot) ∧
  match F as with
  | .no => False
  | .ok r fin => ∀ v G' H', Keep (OwnA (vs.map some) (as.map argSlot)) G H (OwnA (vs.map some) (as.map argSlot)) G' H' → OkFins W G' H' vs as fin →
      ResOk W (OwnA (vs.map some) (as.map argSlot)) H (OwnA (vs.map some) (as.map argSlot)) G' H' r v → Q v H'
  | .ex x fin => ∀ c d G' H', Keep (OwnA (vs.map some) (as.map argSlot)) G H (OwnA (vs.map some) (as.map argSlot)) G' H' → OkFins W G' H' vs as fin → XOk W G' H' x c d → E c d H'
structure CxOk (X : Cx) (W : Wd) (C : Cfg) (T : Tab) (Wx : WX) : Prop where
  K : X.K = W.K
  nd : X.N.Nodup
  calm : X.calm = true
  units : X.A.units + 100 < cLine
  blt : ∀ x ∈ bltNames, X.mg x = none
  cst : ∀ x d, lk T.cst x = some d → ∃ u v, X.mg x = some u ∧ RelV v u ∧ ∀ G, d.flat = true → Rep W G d v
  tk : Takes X Wx
  fns : ∀ x f, lk T.fn x = some f → ∃ a fd k ps, FnOk X.prog X.w X.K X.mg X.base (L2.CX X.prog X.w) k a fd ps (spOf W (C.fns f)) ∧ Room k X.A ∧ X.mg x = some (.ref a) ∧ PySem.W.keepIn X.K (.ref a) = true ∧ Binds X.K fd ps []
  fvn : ∀ x g, lk T.fv x = some g → ∃ a, W.fa g = some a ∧ X.mg x = some (.ref a)
  fvc : ∀ g F a, C.fv g = some F → W.fa g = some a → ∃ fd k ps, FnOk X.prog X.w X.K X.mg X.base (L2.CX X.prog X.w) k a fd ps (spOf W F) ∧ Room k X.A ∧ PySem.W.keepIn X.K (.ref a) = true ∧ Binds X.K fd ps []
theorem glB_gl {X : Cx} {x : Str} (h : glB X.env.scope x = true) : Gl X x := by
  unfold glB at h
  unfold Gl Env.kindOf
  split at h
  · assumption
  · cases h
theorem visB_vis {sc : Scope} {x : Str} (h : visB sc x = true) : Vis sc x := by
  unfold visB at h
  unfold Vis
  split at h
  · exact .inl (by assumption)
  · exact .inr (.inl (by assumption))
  · exact .inr (.inr (by assumption))
  · cases h
theorem locB_loc {sc : Scope} {x : Str} (h : locB sc x = true) : L2.Loc sc x := by
  unfold locB at h
  unfold L2.Loc
  split at h
  · exact .inl (by assumption)
  · exact .inr (by assumption)
  · cases h
theorem star_each {e : Expr} {es : List Expr} {env : PySem.Env} (h : notStar e = true) : starEach (e :: es) env = (false, eval e env) :: starEach es env := by
  cases e <;> first | rfl | simp [notStar] at h
theorem star_any (pos : Pos) : ∀ (es : List Expr) {env : PySem.Env}, es.all notStar = true → (backTo pos (starEach es env)).any (·.1) = false ∧ (backTo pos (starEach es env)).all (fun x => !x.1) = true
  | [], env, _ => ⟨rfl, rfl⟩
  | e :: es, env, h => by
    simp only [List.all_cons, Bool.and_eq_true] at h
    rw [star_each h.1]
    have ih := star_any pos es (env := env) h.2
    constructor
    · show (false || (backTo pos (starEach es env)).any (·.1)) = false
      rw [ih.1]
      rfl
    · show (true && (backTo pos (starEach es env)).all fun x => !x.1) = true
      rw [ih.2]
      rfl
/-! ### operands in a row -/
def WQ (X : Cx) : List Expr → TA
  | [] => fun _ H R => R [] H
  | e :: es => fun σ H R => WE X e σ H fun v H1 => WQ X es σ H1 fun vs H2 => R (v :: vs) H2
theorem paU {X : Cx} : ∀ {es : List Expr}, es.all notStar = true → PA X es (WQ X es)
  | [], _ => pa_nil
  | e :: es, h => by
    simp only [List.all_cons, Bool.and_eq_true] at h
    exact pa_cons peU (paU h.2) (star_each h.1)
def OpdV (W : Wd) (G : Hp) (σ : St) : Opd → V → Prop
  | .d x, v => Rep W G x v
  | .pk i, v => σ[i]? = some (some v)
def OpdsV (W : Wd) (G : Hp) (σ : St) : List Opd → List V → Prop
  | [], vs => vs = []
  | o :: os, vs => ∃ v r, vs = v :: r ∧ OpdV W G σ o v ∧ OpdsV W G σ os r
def LOk (W : Wd) (σ : St) (_ : Addr → Prop) (_ : Hp) (_ : Addr → Prop) (G' _ : Hp) : List Opd → List V → Prop := fun os vs => OpdsV W G' σ os vs
theorem LOk.bears {W : Wd} {σ : St} : Bears (LOk W σ) := fun _ _ _ _ _ _ _ _ _ _ h => h
theorem OpdV.mono {W : Wd} {G G' : Hp} {σ : St} (x : Ex G G') {o : Opd} {v : V} (h : OpdV W G σ o v) : OpdV W G' σ o v := by
  cases o with
  | d y => exact Rep.mono x _ _ h
  | pk i => exact h
theorem opds_ok {W : Wd} {G H : Hp} {σ : St} {env : Env} (s : StOk W G H σ env) : ∀ {os : List Opd} {vs : List V} {ds : List D}, OpdsV W G σ os vs → opds env os = some ds → RepSs W G H ds vs
  | [], _, ds, h, e => by
    simp only [OpdsV] at h
    simp only [opds, Option.some.injEq] at e
    subst e h
    simp only [RepSs]
  | o :: os, _, ds, h, e => by
    simp only [OpdsV] at h
    obtain ⟨v, r, rfl, h1, h2⟩ := h
    simp only [opds] at e
    cases q1 : opd env o with
    | none => rw [q1] at e; simp at e
    | some x =>
      cases q2 : opds env os with
      | none => rw [q1, q2] at e; simp at e
      | some xs =>
        rw [q1, q2] at e
        simp only [Option.some.injEq] at e
        subst e
        simp only [RepSs]
        refine ⟨v, r, rfl, ?_, opds_ok s h2 q2⟩
        cases o with
        | d y => simp only [opd, Option.some.injEq] at q1; subst q1; exact .inl h1
        | pk i =>
          simp only [opd] at q1
          have h1 : σ[i]? = some (some v) := h1
          have z := s.sl i
          cases q : slot env i with
          | un => rw [q] at q1; simp [Slot.d?] at q1
          | val d =>
            rw [q] at q1 z
            simp only [Slot.d?, Option.some.injEq] at q1
            subst q1
            obtain ⟨v', e1, e2⟩ := z
            rw [h1] at e1
            cases e1
            exact .inl e2
          | own d =>
            rw [q] at q1 z
            simp only [Slot.d?, Option.some.injEq] at q1
            subst q1
            obtain ⟨a, e1, e2, e3⟩ := z
            rw [h1] at e1
            cases e1
            exact .inr ⟨a, rfl, e3⟩
          | par d =>
            rw [q] at q1 z
            simp only [Slot.d?, Option.some.injEq] at q1
            subst q1
            obtain ⟨a, e1, e2, e3⟩ := z
            rw [h1] at e1
            cases e1
            exact .inr ⟨a, rfl, e3⟩
end Itp
set_option Elab.async false
set_option linter.all false
set_option maxRecDepth 100000
set_option maxHeartbeats 4000000
namespace Itp
open PySem L2
section
variable {X : Cx} {W : Wd} {C : Cfg} {T : Tab} {Wx : WX}
theorem plainIx_of {b : Expr} (h : notSlice b = true) : PlainIx b := fun o i => by
  cases b <;> first | rfl | simp [notSlice] at h
theorem noset_marks {op : CmpOp} {b : Expr} (h : notSet b = true) : behindInMarks op b = false := by
  cases b <;> first | rfl | simp [notSet] at h
theorem isBlt_eq {sc : Scope} {n x : Str} (h : isBlt sc n x = true) : x = n ∧ glB sc x = true := by
  unfold isBlt at h
  rw [Bool.and_eq_true, decide_eq_true_eq] at h
  exact h
theorem blt_ne {x : Str} (h : x ∈ bltNames) : x ≠ "__name__" ∧ (x == ("__debug__" : Str)) = false := by
  simp only [bltNames, List.mem_cons, List.not_mem_nil, or_false] at h
  rcases h with h | h | h | h | h | h | h | h | h | h | h | h | h | h | h | h | h <;> (subst h; exact ⟨by decide, by decide⟩)
/-- a call of a built-in by its name -/
theorem we_blt (cx : CxOk X W C T Wx) {n x : Str} {id : String} {r : List V → Hp → VK → Prop} {p pos : Pos} {a : Expr} {as : List Expr} {σ : St} {H : Hp} {Q : VK} (hc : CallR X (.builtin id) r) (hv : bootBuiltins n = some (.builtin id)) (hn : n ∈ bltNames)
    (hx : isBlt X.env.scope n x = true) (hs : (a :: as).all notStar = true) (h : WQ X (a :: as) σ H fun vs H1 => r vs H1 Q) : WE X (.Call (.Name x p) (a :: as) [] pos) σ H Q := by
  obtain ⟨rfl, hg⟩ := isBlt_eq hx
  have hs' := hs
  simp only [List.all_cons, Bool.and_eq_true] at hs
  exact of_pe (pe_callB hc (glB_gl hg) (cx.blt _ hn) hv (paU hs') (blt_ne hn).1 (blt_ne hn).2 (star_each hs.1) (star_any pos as hs.2).1) h
theorem we_bty (cx : CxOk X W C T Wx) {n x : Str} {id : String} {r : List V → Hp → VK → Prop} {p pos : Pos} {a : Expr} {as : List Expr} {σ : St} {H : Hp} {Q : VK} (hc : CallR X (.type id) r) (hv : bootBuiltins n = some (.type id)) (hn : n ∈ bltNames)
    (hx : isBlt X.env.scope n x = true) (hs : (a :: as).all notStar = true) (h : WQ X (a :: as) σ H fun vs H1 => r vs H1 Q) : WE X (.Call (.Name x p) (a :: as) [] pos) σ H Q := by
  obtain ⟨rfl, hg⟩ := isBlt_eq hx
  have hs' := hs
  simp only [List.all_cons, Bool.and_eq_true] at hs
  exact of_pe (pe_callTy hc (glB_gl hg) (cx.blt _ hn) hv (paU hs') (blt_ne hn).1 (blt_ne hn).2 (star_each hs.1) (star_any pos as hs.2).1) h
theorem boot_tyS (t : Ty) : bootBuiltins (tyS t) = some (.type (tyN t)) := by cases t <;> decide +kernel
theorem tyS_mem (t : Ty) : tyS t ∈ bltNames := by cases t <;> decide
theorem we_ty (cx : CxOk X W C T Wx) {t : Ty} {x : Str} {p : Pos} {σ : St} {H : Hp} {Q : VK} (e : x = tyS t) (hg : glB X.env.scope x = true) (h : Q (.ty (tyN t)) H) : WE X (.Name x p) σ H Q := by
  subst e
  exact of_pe (pe_bltn (v := .ty (tyN t)) (glB_gl hg) (cx.blt _ (tyS_mem t)) (boot_tyS t) rfl (blt_ne (tyS_mem t)).1 (blt_ne (tyS_mem t)).2) h
theorem tyNames_ok (cx : CxOk X W C T Wx) : ∀ (ts : List Ty) (es : List Expr) (xs : List Str), tyNames es = some xs → xs = ts.map tyS → xs.all (glB X.env.scope) = true → ∀ {σ : St} {H : Hp} {R : List V → Hp → Prop}, R (ts.map fun t => V.ty (tyN t)) H →
    WQ X es σ H R ∧ es.all notStar = true
  | ts, [], xs, h, e, g, σ, H, R, q => by
    simp only [tyNames, Option.some.injEq] at h
    subst h
    cases ts with
    | nil => exact ⟨q, rfl⟩
    | cons t ts => simp at e
  | ts, e0 :: es, xs, h, e, g, σ, H, R, q => by
    cases e0 <;> simp only [tyNames, reduceCtorEq] at h
    rename_i x p
    simp only [Option.map_eq_some_iff] at h
    obtain ⟨ys, h1, rfl⟩ := h
    cases ts with
    | nil => simp at e
    | cons t ts =>
      simp only [List.map_cons, List.cons.injEq] at e
      simp only [List.all_cons, Bool.and_eq_true] at g
      have ih := fun (H : Hp) (R : List V → Hp → Prop) (q : R (ts.map fun t => V.ty (tyN t)) H) => tyNames_ok cx ts es ys h1 e.2 g.2 (σ := σ) (H := H) (R := R) q
      refine ⟨we_ty cx e.1 g.1 (ih H (fun vs H2 => R (.ty (tyN t) :: vs) H2) q).1, ?_⟩
      simp only [List.all_cons, Bool.and_eq_true]
      exact ⟨rfl, (ih H (fun _ _ => True) True.intro).2⟩
theorem tyNames_len : ∀ (es : List Expr) (xs : List Str), tyNames es = some xs → es.length = xs.length
  | [], xs, h => by simp [tyNames] at h; subst h; rfl
  | e0 :: es, xs, h => by
    cases e0 <;> simp only [tyNames, reduceCtorEq] at h
    simp only [Option.map_eq_some_iff] at h
    obtain ⟨ys, h1, rfl⟩ := h
    simp [tyNames_len es ys h1]
theorem star2 {a b : Expr} (h1 : notStar a = true) (h2 : notStar b = true) : [a, b].all notStar = true := by
  rw [List.all_cons, List.all_cons, h1, h2]
  rfl
theorem we_isi (cx : CxOk X W C T Wx) {ts : List Ty} {x : Str} {p pos : Pos} {a b : Expr} {σ : St} {H : Hp} {Q : VK} (hx : isBlt X.env.scope "isinstance" x = true) (ha : notStar a = true) (hb : isiB X.env.scope ts b = true) (hts : ts.length ≤ big)
    (h : WE X a σ H fun v H1 => PRn W (.isi ts) [v] H1 Q) : WE X (.Call (.Name x p) [a, b] [] pos) σ H Q := by
  cases b with
  | Name y q =>
    simp only [isiB] at hb
    split at hb
    · rename_i t
      obtain ⟨e, hg⟩ := isBlt_eq hb
      refine we_blt cx (cr_isi (W := W) (t := t)) PyProof.Rows.boot_isinstance (by decide) hx (star2 ha rfl) ?_
      intro pins s I
      refine thn (h pins s I) fun v s1 ⟨x1, H1, I1, r1, q1⟩ => ⟨x1, H1, I1, r1, ?_⟩
      exact we_ty cx e hg ⟨x1, rfl, q1⟩
    · cases hb
  | Tuple es k q =>
    simp only [isiB] at hb
    split at hb
    · rename_i xs hxs
      rw [Bool.and_eq_true, decide_eq_true_eq] at hb
      refine we_blt cx (cr_isiT (W := W) (ts := ts)) PyProof.Rows.boot_isinstance (by decide) hx (star2 ha rfl) ?_
      intro pins s I
      refine thn (h pins s I) fun v s1 ⟨x1, H1, I1, r1, q1⟩ => ⟨x1, H1, I1, r1, ?_⟩
      have hq := fun (R : List V → Hp → Prop) (q : R (ts.map fun t => V.ty (tyN t)) H1) => tyNames_ok cx ts es xs hxs hb.1 hb.2 (σ := σ) (H := H1) (R := R) q
      refine of_pe (pe_tup (paU (hq (fun _ _ => True) True.intro).2)) ?_
      refine (hq _ ?_).1
      refine ⟨?_, fun p hp => ⟨x1, p, rfl, upd_same, q1.step (Ex.new hp)⟩⟩
      rw [List.length_map]
      exact big_line hts
    · cases hb
  | _ => simp [isiB] at hb
theorem boot_sum' : bootBuiltins "sum" = some (.builtin "sum") := by decide +kernel
theorem boot_abs' : bootBuiltins "abs" = some (.builtin "abs") := by decide +kernel
theorem boot_all' : bootBuiltins "all" = some (.builtin "all") := by decide +kernel
theorem boot_any' : bootBuiltins "any" = some (.builtin "any") := by decide +kernel
theorem boot_min' : bootBuiltins "min" = some (.builtin "min") := by decide +kernel
theorem boot_max' : bootBuiltins "max" = some (.builtin "max") := by decide +kernel
theorem boot_len' : bootBuiltins "len" = some (.builtin "len") := by decide +kernel
theorem boot_int' : bootBuiltins "int" = some (.type "int") := by decide +kernel
theorem boot_list' : bootBuiltins "list" = some (.type "list") := by decide +kernel
theorem boot_tuple' : bootBuiltins "tuple" = some (.type "tuple") := by decide +kernel
/-- the methods of texts -/
theorem few1 {b : Expr} {cp : Pos} {env : PySem.Env} (hb : notStar b = true) : ((backTo cp (starEach [b] env)).all (fun x => !x.1) && (backToKw cp (keywordEach [] env)).all (fun x => x.1.isSome)
      && decide (([b] : List Expr).length + ([] : List Keyword).length + (if ([] : List Keyword).isEmpty then 0 else 1) < 30)) = true := by
  rw [(star_any cp [b] (by simp only [List.all_cons, hb]; rfl)).2]
  rfl
theorem base_of {a : Expr} {m : Str} {env : PySem.Env} (h : notSuper a = true) : attributeBase a m env (eval a env) = eval a env := by
  cases a <;> first | rfl | simp [notSuper] at h
theorem rsn_str {G H : Hp} {d : D} {v : V} {s : List Nat} (e : d = .str s) (h : RepS W G H d v) : v = .str ⟨s.toArray⟩ := by subst e; exact rs_str h
theorem we_join (cx : CxOk X W C T Wx) {a b : Expr} {m : Str} {ap cp : Pos} {σ : St} {H : Hp} {Q : VK} (hm : mthB m "join" ap cp = true) (hb : notStar b = true) (ha : notSuper a = true)
    (h : WE X a σ H fun v H1 => (∃ s, v = .str s) ∧ WE X b σ H1 fun u H2 => PRn W .join [v, u] H2 Q) : WE X (.Call (.Attribute a m ap) [b] [] cp) σ H Q := by
  unfold mthB at hm
  rw [Bool.and_eq_true, decide_eq_true_eq] at hm
  obtain ⟨rfl, hl⟩ := hm
  have hs : [b].all notStar = true := by simp only [List.all_cons, hb]; rfl
  refine of_pe (pe_bm PySem.F.plainAttrs_str PySem.F.slot_str_join PySem.F.type_str_join (mr_join (W := W)) peU (paU hs) (base_of ha) (few1 hb) hl (star_each hb) (star_any cp [] rfl).1) ?_
  intro pins s I
  refine thn (h pins s I) fun v s1 ⟨x1, H1, I1, r1, ⟨z, e1⟩, q1⟩ => ⟨x1, H1, I1, r1, ?_, q1⟩
  subst e1
  rfl
theorem bin_r (hK : X.K = W.K) {o : Op} {op : Operator} (h : binOf o = some op) : OpR X (binaryOp op) (PR2 W o) := by
  cases o <;> simp only [binOf, reduceCtorEq, Option.some.injEq] at h <;> subst h
  · exact or_add hK
  · exact or_sub
  · exact or_mul hK
  · exact or_fdiv
  · exact or_mod
  · exact or_pow
theorem cmp_r (cx : CxOk X W C T Wx) {o : Op} {op : CmpOp} (h : cmpOf2 o = some op) : OpR X (compareOp op) (PR2 W o) := by
  have u64 : X.A.units + 64 < cLine := by have := cx.units; omega
  have u65 : X.A.units + 65 < cLine := by have := cx.units; omega
  cases o <;> simp only [cmpOf2, cmpOf, reduceCtorEq, Option.some.injEq] at h <;> subst h
  · exact or_eq cx.K u64
  · exact or_ne cx.K u64
  · exact or_lt
  · exact or_le
  · exact or_gt
  · exact or_ge
  · exact or_inn cx.K u65
  · exact or_nin cx.K u65
theorem is_r {o : Op} {op : CmpOp} (h : isOf o = some op) : OpR X (compareOp op) (fun x y H Q => y = .non ∧ PR1 W o x H Q) := by
  cases o <;> simp only [isOf, reduceCtorEq, Option.some.injEq] at h <;> subst h
  · exact or_isN
  · exact or_notN
theorem cmpOf_2 {o : Op} {op : CmpOp} (h : cmpOf o = some op) : cmpOf2 o = some op := by
  cases o <;> simp only [cmpOf, reduceCtorEq] at h <;> exact h
theorem pr_tup {vs : List V} {H : Hp} {Q : VK} (h : PRn W .tup vs H Q) (hf : ∀ G H ds, RepSs W G H ds vs → Reps W G ds vs) : vs.length ≤ sizeLine ∧ ∀ p, H p = none → Q (.ref p) (upd H p (.tup vs)) := by
  obtain ⟨G, ds, r, gh, hs, hp, po⟩ := h
  simp only [prim, pTup] at hp
  obtain ⟨c, rfl⟩ := small_some hp
  rw [decide_eq_true_eq] at c
  exact ⟨big_line (by rw [rss_len hs]; exact c), fun p hp => post_t po gh hp (hf _ _ _ hs)⟩
theorem pr_lst {vs : List V} {H : Hp} {Q : VK} (h : PRn W .lst vs H Q) (hf : ∀ G H ds, RepSs W G H ds vs → Reps W G ds vs) : vs.length ≤ sizeLine ∧ ∀ p, H p = none → Q (.ref p) (upd H p (.lst vs)) := by
  obtain ⟨G, ds, r, gh, hs, hp, po⟩ := h
  simp only [prim, pLst] at hp
  obtain ⟨c, rfl⟩ := small_some hp
  rw [decide_eq_true_eq] at c
  exact ⟨big_line (by rw [rss_len hs]; exact c), fun p hp => post_l po gh hp (hf _ _ _ hs)⟩
end
end Itp
set_option Elab.async false
set_option linter.all false
set_option maxRecDepth 100000
set_option maxHeartbeats 4000000
namespace Itp
open PySem L2
section
variable {X : Cx} {W : Wd} {C : Cfg} {T : Tab} {Wx : WX}
theorem isNone_eq {b : Expr} (h : isNone b = true) : ∃ k p, b = .Constant .none k p := by
  unfold isNone at h
  split at h
  · exact ⟨_, _, rfl⟩
  · cases h
theorem we_thn {e : Expr} {σ : St} {H : Hp} {Q Q' : VK} (h : WE X e σ H Q) (f : ∀ v H1, Q v H1 → Q' v H1) : WE X e σ H Q' :=
  fun pins s I => thn (h pins s I) fun _ _ ⟨x1, H1, I1, r1, q1⟩ => ⟨x1, H1, I1, r1, f _ _ q1⟩
theorem wq_thn : ∀ {es : List Expr} {σ : St} {H : Hp} {Q Q' : List V → Hp → Prop}, WQ X es σ H Q → (∀ v H1, Q v H1 → Q' v H1) → WQ X es σ H Q'
  | [], _, _, _, _, h, f => f _ _ h
  | e :: es, _, _, _, _, h, f => we_thn h fun v H1 q => wq_thn q fun vs H2 => f _ _
/-- operands in a row, with something said of each -/
def WQP (X : Cx) : List Expr → (Nat → V → Prop) → TA
  | [], _ => fun _ H R => R [] H
  | e :: es, p => fun σ H R => WE X e σ H fun v H1 => p 0 v ∧ WQP X es (fun i => p (i + 1)) σ H1 fun vs H2 => R (v :: vs) H2
theorem wq_of : ∀ {es : List Expr} {p : Nat → V → Prop} {σ : St} {H : Hp} {Q : List V → Hp → Prop}, WQP X es p σ H Q → WQ X es σ H Q
  | [], _, _, _, _, h => h
  | e :: es, _, _, _, _, h => we_thn h fun v H1 q => wq_of q.2
def isI (v : V) : Prop := ∃ i, v = .int i
def isS (v : V) : Prop := ∃ i, v = .str i
/-- what an operation looks at ahead of the next operand -/
def midP : Op → Nat → V → Prop
  | .slc true true, 1 => isI
  | .join, 0 => isS
  | .find, 0 => isS
  | .count, 0 => isS
  | .index, 0 => isS
  | .split, 0 => isS
  | .replace, 0 => isS
  | _, _ => fun _ => True
theorem we_slc {a : Expr} {l h : Option Expr} {p q : Pos} {σ : St} {H : Hp} {Q : VK} (hw : WQP X (a :: (optL l ++ optL h)) (midP (.slc l.isSome h.isSome)) σ H fun vs H1 => PRn W (.slc l.isSome h.isSome) vs H1 Q) : WE X (.Subscript a (.Slice l h none p) q) σ H Q := by
  have isI' : ∀ {o : Op} {x y : V} {H : Hp} {Q : VK}, (o = .slc true false ∨ o = .slc false true) → PRn W o [x, y] H Q → ∃ i, y = .int i := fun {o x y H Q} ho hp => by
    obtain ⟨G, ds, r, gh, hs, hp, _⟩ := hp
    obtain ⟨d, e, rfl, h1, h2⟩ := two hs
    rcases ho with rfl | rfl <;> cases d <;> cases e <;> simp only [prim, pSlc, reduceCtorEq] at hp <;> exact ⟨_, rs_int h2⟩
  cases l with
  | none =>
    cases h with
    | none => exact of_pe (pe_slice (sr_slc (W := W)) peU po_none po_none) (we_thn hw fun v H1 q => q.2)
    | some h =>
      refine of_pe (pe_slice (sr_slc (W := W)) peU po_none (po_some peU)) ?_
      refine we_thn hw fun v H1 q => we_thn q.2 fun u H2 q2 => ?_
      obtain ⟨i, rfl⟩ := isI' (.inr rfl) q2.2
      exact ⟨i, rfl, q2.2⟩
  | some l =>
    cases h with
    | none =>
      refine of_pe (pe_slice (sr_slc (W := W)) peU (po_some peU) po_none) ?_
      refine we_thn hw fun v H1 q => we_thn q.2 fun u H2 q2 => ?_
      obtain ⟨i, rfl⟩ := isI' (.inl rfl) q2.2
      exact ⟨i, rfl, q2.2⟩
    | some h =>
      refine of_pe (pe_slice (sr_slc (W := W)) peU (po_some peU) (po_some peU)) ?_
      refine we_thn hw fun v H1 q => we_thn q.2 fun u H2 q2 => ?_
      obtain ⟨⟨i, rfl⟩, q3⟩ := q2
      refine ⟨i, rfl, we_thn q3 fun w H3 q4 => ?_⟩
      obtain ⟨_, q5⟩ := q4
      have q5 : PRn W (.slc true true) [v, .int i, w] H3 Q := q5
      have e3 : ∃ j, w = .int j := by
        obtain ⟨G, ds, r, gh, hs, hp, _⟩ := id q5
        have ln := rss_len hs
        match ds, ln, hs with
        | [d, e, f], _, hs =>
          simp only [RepSs] at hs
          obtain ⟨v1, r1, e1, h1, v2, r2, rfl, h2, v3, r3, rfl, h3, rfl⟩ := hs
          cases e1
          cases d <;> cases e <;> cases f <;> simp only [prim, pSlc, reduceCtorEq] at hp <;> exact ⟨_, rs_int h3⟩
      obtain ⟨j, rfl⟩ := e3
      exact ⟨j, rfl, q5⟩
theorem op_parts (cx : CxOk X W C T Wx) {o : Op} {e : Expr} {es : List Expr} (hp : parts X.env.scope o e = some es) (hd : disp o = false) {σ : St} {H : Hp} {Q : VK}
    (h' : WQP X es (midP o) σ H fun vs H1 => PRn W o vs H1 Q) : WE X e σ H Q := by
  have h := wq_of h'
  unfold parts at hp
  split at hp
  · split at hp
    · cases hp
      rename_i hb
      exact of_pe (pe_op (bin_r cx.K (of_decide_eq_true hb)) peU peU) h
    · cases hp
  · split at hp
    · cases hp
      rename_i hb
      rw [decide_eq_true_eq] at hb
      subst hb
      exact of_pe (pe_un ur_neg peU) h
    · cases hp
  · split at hp
    · cases hp
      rename_i hb
      rw [Bool.and_eq_true, decide_eq_true_eq] at hb
      exact of_pe (pe_cmpR (cmp_r cx hb.1) peU peU (noset_marks hb.2)) h
    · split at hp
      · cases hp
        rename_i hb
        rw [Bool.and_eq_true, decide_eq_true_eq] at hb
        obtain ⟨k, p, rfl⟩ := isNone_eq hb.2
        refine of_pe (pe_cmpR (is_r (W := W) hb.1) peU pe_non rfl) ?_
        exact we_thn h fun v H1 q => ⟨rfl, q⟩
      · cases hp
  · split at hp
    · cases hp
      rename_i hb
      rw [decide_eq_true_eq] at hb
      subst hb
      refine of_pe (pe_revL peU) (we_thn h fun v H1 q => ?_)
      obtain ⟨G, ds, r, gh, hs, hp, po⟩ := q
      obtain ⟨d, rfl, h1⟩ := one hs
      cases d <;> simp only [prim, pRev, reduceCtorEq, Option.some.injEq] at hp
      subst hp
      obtain ⟨a, vs, rfl, e1, r1⟩ := rs_lst gh h1
      exact ⟨a, vs, rfl, .inl (.inl e1), fun p hp => post_l po gh hp (reps_rev r1)⟩
    · cases hp
  · split at hp
    · cases hp
      rename_i hb
      rw [decide_eq_true_eq] at hb
      cases o <;> simp only [slOf, reduceCtorEq, Option.some.injEq, Prod.mk.injEq] at hb
      obtain ⟨rfl, rfl⟩ := hb
      exact we_slc h'
    · cases hp
  · split at hp
    · cases hp
      rename_i hb
      rw [Bool.and_eq_true, decide_eq_true_eq] at hb
      obtain ⟨rfl, hb⟩ := hb
      exact of_pe (pe_ix (xr_ix cx.K) peU peU (plainIx_of hb)) h
    · cases hp
  · split at hp
    · rename_i hb
      rw [Bool.and_eq_true, decide_eq_true_eq] at hb
      obtain ⟨rfl, _⟩ := hb
      simp [disp] at hd
    · cases hp
  · split at hp
    · cases hp
      rename_i hb
      rw [decide_eq_true_eq] at hb
      subst hb
      refine of_pe pe_dnewK fun p hp => ?_
      have h : PRn W .dct [] H Q := h
      obtain ⟨G, ds, r, gh, hs, hpr, po⟩ := h
      cases ds with
      | cons d ds => simp [RepSs] at hs
      | nil =>
        simp only [prim, pDct, Option.some.injEq] at hpr
        subst hpr
        exact po p G _ (Grow.laidN gh hp) hp (gnone gh hp) (.inl ⟨[], upd_same, by simp only [List.map_nil, RepK]⟩)
    · cases hp
  · split at hp
    · rename_i hb
      rw [Bool.and_eq_true, decide_eq_true_eq] at hb
      obtain ⟨rfl, _⟩ := hb
      simp [disp] at hd
    · cases hp
  · split at hp
    · rename_i n hn
      split at hp
      · cases hp
        rename_i hs
        rw [Bool.and_eq_true] at hs
        cases o <;> simp only [bltOp, reduceCtorEq, Option.some.injEq] at hn <;> subst hn
        · exact we_blt cx (cr_len cx.K) boot_len' (by decide) hs.1 hs.2 h
        · exact we_bty cx cr_int boot_int' (by decide) hs.1 hs.2 h
        · exact we_bty cx cr_list boot_list' (by decide) hs.1 hs.2 h
        · exact we_bty cx cr_tuple boot_tuple' (by decide) hs.1 hs.2 h
        · exact we_blt cx (cr_min cx.calm) boot_min' (by decide) hs.1 hs.2 h
        · exact we_blt cx (cr_max cx.calm) boot_max' (by decide) hs.1 hs.2 h
        · exact we_blt cx (cr_sum cx.calm) boot_sum' (by decide) hs.1 hs.2 h
        · exact we_blt cx cr_abs boot_abs' (by decide) hs.1 hs.2 h
        · exact we_blt cx (cr_all cx.calm) boot_all' (by decide) hs.1 hs.2 h
        · exact we_blt cx (cr_any cx.calm) boot_any' (by decide) hs.1 hs.2 h
      · cases hp
    · split at hp
      · rename_i ts b hi
        split at hp
        · cases hp
          rename_i hs
          simp only [Bool.and_eq_true, decide_eq_true_eq] at hs
          cases o <;> simp only [isiOf, reduceCtorEq, Option.some.injEq] at hi
          subst hi
          refine we_isi cx hs.1.1.1 hs.1.1.2 hs.1.2 (Nat.le_trans hs.2 (by decide)) h
        · cases hp
      · cases hp
  · split at hp
    · rename_i n hn
      split at hp
      · cases hp
        rename_i hs
        simp only [Bool.and_eq_true] at hs
        cases o <;> simp only [mthOf, reduceCtorEq, Option.some.injEq] at hn <;> subst hn
        exact we_join cx hs.1.1 hs.1.2 hs.2 (we_thn h' fun v H1 q => ⟨q.1, we_thn q.2 fun u H2 q2 => q2.2⟩)
      · cases hp
    · cases hp
  · cases hp
/-- displays: every operand is let be -/
def PRd (W : Wd) (o : Op) : List V → Hp → VK → Prop := fun xs H Q => ∃ G ds r, Ex G H ∧ Reps W G ds xs ∧ prim o ds = some r ∧ Post W G H r Q
theorem disp_parts (cx : CxOk X W C T Wx) {o : Op} {e : Expr} {es : List Expr} (hp : parts X.env.scope o e = some es) (hd : disp o = true) {σ : St} {H : Hp} {Q : VK}
    (h : WQ X es σ H fun vs H1 => PRd W o vs H1 Q) : WE X e σ H Q := by
  have tup : o = .tup → ∀ vs H1, PRd W o vs H1 Q → vs.length ≤ sizeLine ∧ ∀ p, H1 p = none → Q (.ref p) (upd H1 p (.tup vs)) := fun e vs H1 q => by
    subst e
    obtain ⟨G, ds, r, gh, hs, hp, po⟩ := q
    simp only [prim, pTup] at hp
    obtain ⟨c, rfl⟩ := small_some hp
    rw [decide_eq_true_eq] at c
    exact ⟨big_line (by rw [reps_len hs]; exact c), fun p hp => post_t po gh hp hs⟩
  have lst : o = .lst → ∀ vs H1, PRd W o vs H1 Q → vs.length ≤ sizeLine ∧ ∀ p, H1 p = none → Q (.ref p) (upd H1 p (.lst vs)) := fun e vs H1 q => by
    subst e
    obtain ⟨G, ds, r, gh, hs, hp, po⟩ := q
    simp only [prim, pLst] at hp
    obtain ⟨c, rfl⟩ := small_some hp
    rw [decide_eq_true_eq] at c
    exact ⟨big_line (by rw [reps_len hs]; exact c), fun p hp => post_l po gh hp hs⟩
  unfold parts at hp
  split at hp
  · split at hp
    · rename_i hb
      cases o <;> simp only [disp, reduceCtorEq] at hd <;> simp [binOf] at hb
    · cases hp
  · split at hp
    · rename_i hb
      rw [decide_eq_true_eq] at hb
      subst hb
      simp [disp] at hd
    · cases hp
  · split at hp
    · rename_i hb
      rw [Bool.and_eq_true, decide_eq_true_eq] at hb
      cases o <;> simp only [disp, reduceCtorEq] at hd <;> simp [cmpOf2, cmpOf] at hb
    · split at hp
      · rename_i hb
        rw [Bool.and_eq_true, decide_eq_true_eq] at hb
        cases o <;> simp only [disp, reduceCtorEq] at hd <;> simp [isOf] at hb
      · cases hp
  · split at hp
    · rename_i hb
      rw [decide_eq_true_eq] at hb
      subst hb
      simp [disp] at hd
    · cases hp
  · split at hp
    · rename_i hb
      rw [decide_eq_true_eq] at hb
      cases o <;> simp only [disp, reduceCtorEq] at hd <;> simp [slOf] at hb
    · cases hp
  · split at hp
    · rename_i hb
      rw [Bool.and_eq_true, decide_eq_true_eq] at hb
      obtain ⟨rfl, hb⟩ := hb
      simp [disp] at hd
    · cases hp
  · split at hp
    · cases hp
      rename_i hb
      rw [Bool.and_eq_true, decide_eq_true_eq] at hb
      exact of_pe (pe_tup (paU hb.2)) (wq_thn h (tup hb.1))
    · cases hp
  · split at hp
    · rename_i hb
      rw [decide_eq_true_eq] at hb
      subst hb
      simp [disp] at hd
    · cases hp
  · split at hp
    · cases hp
      rename_i hb
      rw [Bool.and_eq_true, decide_eq_true_eq] at hb
      exact of_pe (pe_lst (paU hb.2)) (wq_thn h (lst hb.1))
    · cases hp
  · split at hp
    · rename_i n hn
      cases o <;> simp only [disp, reduceCtorEq] at hd <;> simp [bltOp] at hn
    · split at hp
      · rename_i ts b hi
        cases o <;> simp only [disp, reduceCtorEq] at hd <;> simp [isiOf] at hi
      · cases hp
  · split at hp
    · rename_i n hn
      cases o <;> simp only [disp, reduceCtorEq] at hd <;> simp [mthOf] at hn
    · cases hp
  · cases hp
/-- the same as a test -/
theorem wt_val {e : Expr} {σ : St} {H : Hp} {Q : Bool → Hp → Prop} (he : ∀ whole, isTrue e X.env whole = (do let v ← whole; standAt e.pos; holding [v] (truthy v))) (h : WE X e σ H fun v H1 => ∃ b, v = .bl b ∧ Q b H1) : WT X e σ H Q :=
  of_pt (pt_val peU he) h
theorem op_partsB (cx : CxOk X W C T Wx) {o : Op} {e : Expr} {es : List Expr} (hp : parts X.env.scope o e = some es) (hd : disp o = false) {σ : St} {H : Hp} {Q : Bool → Hp → Prop}
    (h' : WQP X es (midP o) σ H fun vs H1 => PRn W o vs H1 fun v H2 => ∃ b, v = .bl b ∧ Q b H2) : WT X e σ H Q := by
  have h := wq_of h'
  cases e with
  | Compare a ops bs pos =>
    unfold parts at hp
    split at hp
    all_goals first | (rename_i e; cases e; done) | skip
    · rename_i e
      cases e
      split at hp
      · cases hp
        rename_i hb
        rw [Bool.and_eq_true, decide_eq_true_eq] at hb
        exact of_pt (pt_cmpR (cmp_r cx hb.1) peU peU (noset_marks hb.2)) h
      · split at hp
        · cases hp
          rename_i hb
          rw [Bool.and_eq_true, decide_eq_true_eq] at hb
          obtain ⟨k, p, rfl⟩ := isNone_eq hb.2
          refine of_pt (pt_cmpR (is_r (W := W) hb.1) peU pe_non rfl) ?_
          exact we_thn h fun v H1 q => ⟨rfl, q⟩
        · cases hp
    · cases hp
  | BoolOp => simp [parts] at hp
  | UnaryOp op a p =>
    cases op with
    | USub => exact wt_val (fun _ => rfl) (op_parts cx hp hd h')
    | _ => simp [parts] at hp
  | IfExp => simp [parts] at hp
  | _ => exact wt_val (fun _ => rfl) (op_parts cx hp hd h')
end
end Itp
set_option Elab.async false
set_option linter.all false
set_option maxRecDepth 100000
set_option maxHeartbeats 4000000
namespace Itp
open PySem L2
section
variable {X : Cx} {W : Wd} {C : Cfg} {T : Tab} {Wx : WX}
/-! ### slots -/
theorem slot_set (e : Env) (i j : Nat) (s : Slot) : slot (e.set i s) j = if i = j then (if i < e.length then s else .un) else slot e j := by
  unfold slot
  simp only [List.getD_eq_getElem?_getD, List.getElem?_set]
  by_cases h : i = j
  · subst h
    by_cases h2 : i < e.length
    · simp [h2]
    · simp [h2]
  · simp [h]
def Slot.isPar : Slot → Bool
  | .par _ => true
  | _ => false
def ParK (σ : St) (e : Env) (σ' : St) (e' : Env) : Prop := ∀ i, (slot e' i).isPar = true → (slot e i).isPar = true ∧ σ'[i]? = σ[i]?
theorem ParK.refl (σ : St) (e : Env) : ParK σ e σ e := fun _ h => ⟨h, rfl⟩
theorem ParK.trans {σ σ1 σ2 : St} {e e1 e2 : Env} (a : ParK σ e σ1 e1) (b : ParK σ1 e1 σ2 e2) : ParK σ e σ2 e2 := fun i h => by
  obtain ⟨h1, h2⟩ := b i h
  obtain ⟨h3, h4⟩ := a i h1
  exact ⟨h3, h2.trans h4⟩
/-- the slot i gets a value that is let be -/
theorem StOk.setV {G H : Hp} {σ : St} {e : Env} (s : StOk W G H σ e) {i : Nat} {d : D} {v : V} (r : Rep W G d v) : StOk W G H (σ.set i (some v)) (e.set i (.val d)) where
  gh := s.gh
  len := by rw [List.length_set, List.length_set]; exact s.len
  sl := fun j => by
    rw [slot_set]
    by_cases h : i = j
    · subst h
      rw [if_pos rfl]
      by_cases h2 : i < e.length
      · rw [if_pos h2]
        refine ⟨v, ?_, r⟩
        rw [List.getElem?_set, if_pos rfl, if_pos (by rw [← s.len]; exact h2)]
      · rw [if_neg h2]; trivial
    · rw [if_neg h]
      have q := s.sl j
      have e1 : (σ.set i (some v))[j]? = σ[j]? := by rw [List.getElem?_set, if_neg h]
      cases hs : slot e j with
      | un => trivial
      | val d' => rw [hs] at q; obtain ⟨w, q1, q2⟩ := q; exact ⟨w, e1.trans q1, q2⟩
      | own d' => rw [hs] at q; obtain ⟨w, q1, q2⟩ := q; exact ⟨w, e1.trans q1, q2⟩
      | par d' => rw [hs] at q; obtain ⟨w, q1, q2⟩ := q; exact ⟨w, e1.trans q1, q2⟩
  inj := fun j k a hjk hj hk h1 => by
    rw [slot_set] at hj hk
    by_cases h : i = j
    · subst h
      rw [if_pos rfl] at hj
      by_cases h2 : i < e.length
      · rw [if_pos h2] at hj; cases hj
      · rw [if_neg h2] at hj; cases hj
    · by_cases h' : i = k
      · subst h'
        rw [if_pos rfl] at hk
        by_cases h2 : i < e.length
        · rw [if_pos h2] at hk; cases hk
        · rw [if_neg h2] at hk; cases hk
      · rw [if_neg h] at hj
        rw [if_neg h'] at hk
        rw [List.getElem?_set, if_neg h] at h1
        rw [List.getElem?_set, if_neg h']
        exact s.inj j k a hjk hj hk h1
theorem own_setV {σ : St} {e : Env} {i : Nat} {d : D} {v : V} {a : Addr} (h : OwnA (σ.set i (some v)) (e.set i (.val d)) a) : OwnA σ e a := by
  obtain ⟨j, h1, h2⟩ := h
  rw [slot_set] at h1
  by_cases hh : i = j
  · subst hh
    rw [if_pos rfl] at h1
    split at h1 <;> cases h1
  · rw [if_neg hh] at h1
    rw [List.getElem?_set, if_neg hh] at h2
    exact ⟨j, h1, h2⟩
theorem par_setV {σ : St} {e : Env} {i : Nat} {s : Slot} {v : Option V} (hp : s.isPar = false) : ParK σ e (σ.set i v) (e.set i s) := fun j h => by
  rw [slot_set] at h
  by_cases hh : i = j
  · subst hh
    rw [if_pos rfl] at h
    split at h
    · rw [hp] at h; cases h
    · cases h
  · rw [if_neg hh] at h
    exact ⟨h, by rw [List.getElem?_set, if_neg hh]⟩
/-! ### targets -/
def WG (X : Cx) (t : Expr) : TG := fun v σ H Q => ∀ (pins : List (Addr × Obj)) (s : Shared) (u : Value), Inv X pins σ H s → RelV v u → wpAny (model X.prog X.w) X.A (assign t X.env u) (fun _ s' => ∃ σ' H', Inv X pins σ' H' s' ∧ Q σ' H') X.xe s
def WGs (X : Cx) (t : List Expr) : TGs := fun vs σ H Q => ∀ (pins : List (Addr × Obj)) (s : Shared) (us : List Value), Inv X pins σ H s → Vals vs us → wpAny (model X.prog X.w) X.A (assignInOrder ((assignEach t X.env).map (·.2)) us) (fun _ s' => ∃ σ' H', Inv X pins σ' H' s' ∧ Q σ' H') X.xe s
theorem pgU {t : Expr} : PG X t (WG X t) := ⟨fun pins s _ _ _ u _ I r h => h pins s u I r⟩
theorem pgsU {t : List Expr} : PGs X t (WGs X t) := ⟨fun pins s _ _ _ us _ I r h => h pins s us I r⟩
theorem of_pg {t : Expr} {g : TG} {v : V} {σ : St} {H : Hp} {Q : St → Hp → Prop} (p : PG X t g) (h : g v σ H Q) : WG X t v σ H Q := fun pins s u I r => p.run pins s σ H v u Q I r h
theorem of_pgs {t : List Expr} {g : TGs} {vs : List V} {σ : St} {H : Hp} {Q : St → Hp → Prop} (p : PGs X t g) (h : g vs σ H Q) : WGs X t vs σ H Q := fun pins s us I r => p.run pins s σ H vs us Q I r h
theorem asg_star {e : Expr} {es : List Expr} {env : PySem.Env} (h : notStar e = true) : assignEach (e :: es) env = (false, assign e env) :: assignEach es env := by
  cases e <;> first | rfl | simp [notStar] at h
theorem asg_len {N : List Str} {sc : Scope} {fn : Str → Bool} {env : PySem.Env} : ∀ {ts : List Tg} {es : List Expr}, chkTs N sc fn ts es = true → (assignEach es env).length = ts.length ∧ (assignEach es env).findIdx? (·.1) = none
  | [], [], _ => ⟨rfl, rfl⟩
  | [], _ :: _, h => by simp [chkTs] at h
  | _ :: _, [], h => by simp [chkTs] at h
  | t :: ts, e :: es, h => by
    simp only [chkTs, Bool.and_eq_true] at h
    have ih := asg_len (env := env) h.2
    rw [asg_star h.1.1]
    refine ⟨by simp [ih.1], ?_⟩
    rw [List.findIdx?_cons, ih.2]
    rfl
def Wiped (σ σ' : St) (vs : List Nat) : Prop := ∀ us : List Nat, (∀ i ∈ vs, i ∈ us) → wipe σ' us = wipe σ us
theorem wipe_set {σ : St} {i : Nat} {v : Option V} : ∀ {us : List Nat}, i ∈ us → wipe (σ.set i v) us = wipe σ us
  | [], h => by simp at h
  | u :: us, h => by
    unfold wipe
    by_cases hi : i ∈ us
    · rw [wipe_set hi]
    · have hu : i = u := by
        rcases List.mem_cons.mp h with h | h
        · exact h
        · exact absurd h hi
      subst hu
      have : wipe (σ.set i v) us = (wipe σ us).set i v := by
        clear h
        induction us with
        | nil => rfl
        | cons w us ih =>
          have hw : i ≠ w := fun z => hi (by simp [z])
          have hi' : i ∉ us := fun z => hi (List.mem_cons_of_mem _ z)
          unfold wipe
          rw [ih hi', List.set_comm _ _ hw]
      rw [this, List.set_set]
mutual
theorem bindT_ok (cx : CxOk X W C T Wx) {G H : Hp} : ∀ (t : Tg) (e : Expr) (d : D) (v : V) (σ : St) (env env' : Env) (Q : St → Hp → Prop), chkT X.N X.env.scope X.fn t e = true → bindT t d env = some env' → StOk W G H σ env → Rep W G d v →
    (∀ σ', StOk W G H σ' env' → (∀ a, OwnA σ' env' a → OwnA σ env a) → ParK σ env σ' env' → Wiped σ σ' (tgSlots t) → Q σ' H) → WG X e v σ H Q
  | .nm i, e, d, v, σ, env, env', Q, hc, hb, s, r, k => by
    cases e <;> simp only [chkT, reduceCtorEq, Bool.false_eq_true] at hc
    rename_i x pos
    simp only [Bool.and_eq_true, Bool.or_eq_true, decide_eq_true_eq] at hc
    refine of_pg (pg_name cx.nd hc.1.1 (locB_loc hc.1.2) hc.2) ?_
    simp only [bindT] at hb
    have hb' : (slot env i).isPar = false ∧ env' = env.set i (.val d) := by
      cases hs : slot env i <;> rw [hs] at hb <;> simp at hb <;> exact ⟨rfl, hb.symm⟩
    obtain ⟨_, rfl⟩ := hb'
    exact k _ (s.setV r) (fun a => own_setV) (par_setV rfl) fun us hu => wipe_set (hu i (by simp [tgSlots]))
  | .tp ts, e, d, v, σ, env, env', Q, hc, hb, s, r, k => by
    cases e <;> simp only [chkT, reduceCtorEq, Bool.false_eq_true] at hc
    rename_i es kk pos
    have hl := asg_len (env := X.env) hc
    cases d <;> simp only [bindT, reduceCtorEq] at hb
    · rename_i xs
      simp only [Rep] at r
      obtain ⟨a, vs, rfl, h1, h2⟩ := r
      refine of_pg (pg_tup (n := ts.length) cx.calm pgsU hl.1 hl.2) ⟨a, vs, rfl, .inl (.inl (s.gh _ _ h1)), ?_, ?_⟩
      · rw [reps_len h2]; exact bindTs_len ts xs env env' hb
      · exact bindTs_ok cx ts es xs vs σ env env' Q hc hb s h2 (by simpa only [tgSlots] using k)
    · rename_i xs
      simp only [Rep] at r
      obtain ⟨a, vs, rfl, h1, h2⟩ := r
      refine of_pg (pg_lst (n := ts.length) cx.calm pgsU hl.1 hl.2) ⟨a, vs, rfl, .inl (.inl (s.gh _ _ h1)), ?_, ?_⟩
      · rw [reps_len h2]; exact bindTs_len ts xs env env' hb
      · exact bindTs_ok cx ts es xs vs σ env env' Q hc hb s h2 (by simpa only [tgSlots] using k)
theorem bindTs_ok (cx : CxOk X W C T Wx) {G H : Hp} : ∀ (ts : List Tg) (es : List Expr) (ds : List D) (vs : List V) (σ : St) (env env' : Env) (Q : St → Hp → Prop), chkTs X.N X.env.scope X.fn ts es = true → bindTs ts ds env = some env' → StOk W G H σ env → Reps W G ds vs →
    (∀ σ', StOk W G H σ' env' → (∀ a, OwnA σ' env' a → OwnA σ env a) → ParK σ env σ' env' → Wiped σ σ' (tgsSlots ts) → Q σ' H) → WGs X es vs σ H Q
  | [], [], ds, vs, σ, env, env', Q, hc, hb, s, r, k => by
    cases ds <;> simp only [bindTs, reduceCtorEq, Option.some.injEq] at hb
    subst hb
    simp only [Reps] at r
    exact of_pgs pgs_nil ⟨r, k σ s (fun _ h => h) (ParK.refl _ _) fun _ _ => rfl⟩
  | [], _ :: _, _, _, _, _, _, _, hc, _, _, _, _ => by simp [chkTs] at hc
  | _ :: _, [], _, _, _, _, _, _, hc, _, _, _, _ => by simp [chkTs] at hc
  | t :: ts, e :: es, ds, vs, σ, env, env', Q, hc, hb, s, r, k => by
    simp only [chkTs, Bool.and_eq_true] at hc
    cases ds <;> simp only [bindTs, reduceCtorEq] at hb
    rename_i d ds
    simp only [Reps] at r
    obtain ⟨v, vr, rfl, r1, r2⟩ := r
    cases q : bindT t d env with
    | none => rw [q] at hb; simp at hb
    | some e1 =>
      rw [q] at hb
      have hb : bindTs ts ds e1 = some env' := hb
      refine of_pgs (pgs_cons pgU pgsU (by rw [asg_star hc.1.1]; rfl)) ⟨v, vr, rfl, ?_⟩
      refine bindT_ok cx t e d v σ env e1 _ hc.1.2 q s r1 fun σ1 s1 o1 p1 w1 => ?_
      refine bindTs_ok cx ts es ds vr σ1 e1 env' Q hc.2 hb s1 r2 fun σ2 s2 o2 p2 w2 => ?_
      refine k σ2 s2 (fun a h => o1 a (o2 a h)) (p1.trans p2) fun us hu => ?_
      rw [w2 us fun i hi => hu i (by simp [tgsSlots, hi]), w1 us fun i hi => hu i (by simp [tgsSlots, hi])]
theorem bindTs_len : ∀ (ts : List Tg) (ds : List D) (env env' : Env), bindTs ts ds env = some env' → ds.length = ts.length
  | [], ds, env, env', h => by cases ds <;> simp [bindTs] at h; rfl
  | t :: ts, ds, env, env', h => by
    cases ds <;> simp only [bindTs, reduceCtorEq] at h
    rename_i d ds
    cases q : bindT t d env with
    | none => rw [q] at h; simp at h
    | some e1 =>
      rw [q] at h
      simp [bindTs_len ts ds e1 env' h]
end
end
end Itp
set_option Elab.async false
set_option linter.all false
set_option maxRecDepth 100000
set_option maxHeartbeats 4000000
namespace Itp
open PySem L2
section
variable {X : Cx} {W : Wd} {C : Cfg} {T : Tab} {Wx : WX}
/-! ### what is walked -/
structure Walks (W : Wd) (J : It) (ds : List D) (P : Hp → Prop) : Prop where
  mono : ∀ G G', Ex G G' → P G → P G'
  go : ∀ i G H, P G → Ex G H → i < ds.length → J.go i H
  stop : ∀ i G H, P G → Ex G H → ds.length ≤ i → J.stop i H
  yld : ∀ i G H x H' d, P G → Ex G H → ds[i]? = some d → J.yld i H x H' → ∃ G', Grow G H G' H' ∧ Rep W G' d x
theorem walk_list {K : PySem.W.Frag} {a : Addr} {ds : List D} {vs : List V} : Walks W (Itl K a) ds (fun G => G a = some (.lst vs) ∧ Reps W G ds vs) where
  mono := fun G G' x h => ⟨x _ _ h.1, Reps.mono x _ _ h.2⟩
  go := fun i G H h x hi => ⟨vs, vs[i]'(by rw [reps_len h.2]; exact hi), .inl (.inl (x _ _ h.1)), by simp⟩
  stop := fun i G H h x hi => ⟨vs, .inl (.inl (x _ _ h.1)), by rw [reps_len h.2]; exact hi⟩
  yld := fun i G H v H' d h x hd y => by
    obtain ⟨e, y⟩ := y
    subst e
    obtain ⟨w, h1, h2⟩ := reps_get h.2 hd
    have := y vs (.inl (.inl (x _ _ h.1)))
    rw [h1] at this
    cases this
    exact ⟨G, Grow.refl x, h2⟩
theorem walk_tup {K : PySem.W.Frag} {a : Addr} {ds : List D} {vs : List V} : Walks W (Itt K a) ds (fun G => G a = some (.tup vs) ∧ Reps W G ds vs) where
  mono := fun G G' x h => ⟨x _ _ h.1, Reps.mono x _ _ h.2⟩
  go := fun i G H h x hi => ⟨vs, vs[i]'(by rw [reps_len h.2]; exact hi), .inl (.inl (x _ _ h.1)), by simp⟩
  stop := fun i G H h x hi => ⟨vs, .inl (.inl (x _ _ h.1)), by rw [reps_len h.2]; exact hi⟩
  yld := fun i G H v H' d h x hd y => by
    obtain ⟨e, y⟩ := y
    subst e
    obtain ⟨w, h1, h2⟩ := reps_get h.2 hd
    have := y vs (.inl (.inl (x _ _ h.1)))
    rw [h1] at this
    cases this
    exact ⟨G, Grow.refl x, h2⟩
theorem walk_str {s : List Nat} : Walks W (Its ⟨s.toArray⟩) (s.map fun c => .str [c]) (fun _ => True) where
  mono := fun _ _ _ _ => True.intro
  go := fun i G H _ _ hi => by
    show i < s.toArray.size
    simpa using hi
  stop := fun i G H _ _ hi => by
    show s.toArray.size ≤ i
    simpa using hi
  yld := fun i G H v H' d _ x hd y => by
    obtain ⟨e, c, y1, rfl⟩ := y
    subst e
    refine ⟨G, Grow.refl x, ?_⟩
    have y1 : s[i]? = some c := by simpa using y1
    rw [List.getElem?_map, y1] at hd
    simp at hd
    subst hd
    simp only [Rep]
theorem rngs_len (a : Int) : ∀ n, (rngs a n).length = n
  | 0 => rfl
  | n + 1 => by simp [rngs, rngs_len (a + 1) n]
theorem rngs_get (a : Int) : ∀ (n i : Nat), i < n → (rngs a n)[i]? = some (.int (a + i))
  | 0, i, h => by omega
  | n + 1, 0, _ => by simp [rngs]
  | n + 1, i + 1, h => by
    simp only [rngs, List.getElem?_cons_succ]
    rw [rngs_get (a + 1) n i (by omega)]
    congr 2
    omega
theorem walk_rng {a : Int} {n : Nat} : Walks W (Itr a n) (rngs a n) (fun _ => True) where
  mono := fun _ _ _ _ => True.intro
  go := fun i G H _ _ hi => by rw [rngs_len] at hi; exact hi
  stop := fun i G H _ _ hi => by rw [rngs_len] at hi; exact hi
  yld := fun i G H v H' d _ x hd y => by
    obtain ⟨e, rfl⟩ := y
    subst e
    refine ⟨G, Grow.refl x, ?_⟩
    have hi : i < n := by
      have := (List.getElem?_eq_some_iff.mp hd).1
      rwa [rngs_len] at this
    rw [rngs_get a n i hi] at hd
    cases hd
    simp only [Rep]
theorem enumF_len : ∀ (i : Int) (ds : List D), (enumF i ds).length = ds.length
  | _, [] => rfl
  | i, d :: ds => by simp [enumF, enumF_len (i + 1) ds]
theorem enumF_get : ∀ (j : Int) (ds : List D) (i : Nat) (d : D), ds[i]? = some d → (enumF j ds)[i]? = some (.tup [.int (j + i), d])
  | _, [], _, _, h => by simp at h
  | j, x :: ds, 0, d, h => by simp at h; subst h; simp [enumF]
  | j, x :: ds, i + 1, d, h => by
    simp only [enumF, List.getElem?_cons_succ] at h ⊢
    rw [enumF_get (j + 1) ds i d h]
    congr 4
    omega
theorem walk_enum {K : PySem.W.Frag} {a : Addr} {ds : List D} {vs : List V} : Walks W (Ite K a) (enumF 0 ds) (fun G => G a = some (.lst vs) ∧ Reps W G ds vs) where
  mono := fun G G' x h => ⟨x _ _ h.1, Reps.mono x _ _ h.2⟩
  go := fun i G H h x hi => by
    rw [enumF_len] at hi
    exact ⟨vs, vs[i]'(by rw [reps_len h.2]; exact hi), .inl (.inl (x _ _ h.1)), by simp⟩
  stop := fun i G H h x hi => by
    rw [enumF_len] at hi
    exact ⟨vs, .inl (.inl (x _ _ h.1)), by rw [reps_len h.2]; exact hi⟩
  yld := fun i G H v H' d h x hd y => by
    obtain ⟨T, w, rfl, hT, rfl, y⟩ := y
    have hi : i < ds.length := by
      have := (List.getElem?_eq_some_iff.mp hd).1
      rwa [enumF_len] at this
    have hd2 : ds[i]? = some ds[i] := List.getElem?_eq_getElem hi
    rw [enumF_get 0 ds i _ hd2] at hd
    cases hd
    obtain ⟨w', h1, h2⟩ := reps_get h.2 hd2
    have := y vs (.inl (.inl (x _ _ h.1)))
    rw [h1] at this
    cases this
    refine ⟨_, Grow.laidF x hT, ?_⟩
    simp only [Rep, Reps]
    refine ⟨T, _, rfl, upd_same, _, _, rfl, ?_, _, _, rfl, Rep.mono (Ex.new (gnone x hT)) _ _ h2, rfl⟩
    simp
theorem walk_enT {K : PySem.W.Frag} {a : Addr} {ds : List D} {vs : List V} : Walks W (IteT K a) (enumF 0 ds) (fun G => G a = some (.tup vs) ∧ Reps W G ds vs) where
  mono := fun G G' x h => ⟨x _ _ h.1, Reps.mono x _ _ h.2⟩
  go := fun i G H h x hi => by
    rw [enumF_len] at hi
    exact ⟨vs, vs[i]'(by rw [reps_len h.2]; exact hi), .inl (.inl (x _ _ h.1)), by simp⟩
  stop := fun i G H h x hi => by
    rw [enumF_len] at hi
    exact ⟨vs, .inl (.inl (x _ _ h.1)), by rw [reps_len h.2]; exact hi⟩
  yld := fun i G H v H' d h x hd y => by
    obtain ⟨T, w, rfl, hT, rfl, y⟩ := y
    have hi : i < ds.length := by
      have := (List.getElem?_eq_some_iff.mp hd).1
      rwa [enumF_len] at this
    have hd2 : ds[i]? = some ds[i] := List.getElem?_eq_getElem hi
    rw [enumF_get 0 ds i _ hd2] at hd
    cases hd
    obtain ⟨w', h1, h2⟩ := reps_get h.2 hd2
    have := y vs (.inl (.inl (x _ _ h.1)))
    rw [h1] at this
    cases this
    refine ⟨_, Grow.laidF x hT, ?_⟩
    simp only [Rep, Reps]
    refine ⟨T, _, rfl, upd_same, _, _, rfl, ?_, _, _, rfl, Rep.mono (Ex.new (gnone x hT)) _ _ h2, rfl⟩
    simp
theorem walk_enS {s : List Nat} : Walks W (IteS ⟨s.toArray⟩) (enumF 0 (s.map fun c => .str [c])) (fun _ => True) where
  mono := fun _ _ _ h => h
  go := fun i G H h x hi => by
    rw [enumF_len, List.length_map] at hi
    show i < s.toArray.size
    rw [List.size_toArray]
    exact hi
  stop := fun i G H h x hi => by
    rw [enumF_len, List.length_map] at hi
    show s.toArray.size ≤ i
    rw [List.size_toArray]
    exact hi
  yld := fun i G H v H' d h x hd y => by
    obtain ⟨T, c, rfl, hT, rfl, y⟩ := y
    have y : s.toArray[i]? = some c := y
    rw [List.getElem?_toArray] at y
    have hd2 : (s.map fun c => D.str [c])[i]? = some (.str [c]) := by rw [List.getElem?_map, y]; rfl
    rw [enumF_get 0 _ i _ hd2] at hd
    cases hd
    refine ⟨_, Grow.laidF x hT, ?_⟩
    simp only [Rep, Reps]
    refine ⟨T, _, rfl, upd_same, _, _, rfl, ?_, _, _, rfl, rfl, rfl⟩
    simp
theorem rngc_len (a c : Int) : ∀ n, (rngc a c n).length = n
  | 0 => rfl
  | n + 1 => by simp [rngc, rngc_len (a + c) c n]
theorem rngc_get (c : Int) : ∀ (n : Nat) (a : Int) (i : Nat), i < n → (rngc a c n)[i]? = some (.int (a + i * c))
  | 0, _, _, h => absurd h (Nat.not_lt_zero _)
  | n + 1, a, 0, _ => by simp [rngc]
  | n + 1, a, i + 1, h => by
    simp only [rngc, List.getElem?_cons_succ]
    rw [rngc_get c n (a + c) i (by omega)]
    congr 2
    rw [Int.natCast_add, Int.add_mul]
    omega
theorem walk_rngc {a c : Int} {n : Nat} : Walks W (Itc a c n) (rngc a c n) (fun _ => True) where
  mono := fun _ _ _ h => h
  go := fun i G H h x hi => by
    rw [rngc_len] at hi
    exact hi
  stop := fun i G H h x hi => by
    rw [rngc_len] at hi
    exact hi
  yld := fun i G H v H' d h x hd y => by
    obtain ⟨rfl, rfl⟩ := y
    have hi : i < n := by
      have := (List.getElem?_eq_some_iff.mp hd).1
      rwa [rngc_len] at this
    rw [rngc_get c n a i hi] at hd
    cases hd
    exact ⟨G, Grow.refl x, by simp only [Rep]⟩
def WI (X : Cx) (tg iter : Expr) : TI := fun σ H R => ∀ (pins : List (Addr × Obj)) (s : Shared), Inv X pins σ H s →
    wpAny (model X.prog X.w) X.A (eval iter X.env) (fun v s1 => wpAny (model X.prog X.w) X.A (pyIter v) (PIE X pins σ tg R) X.xe s1) X.xe s
theorem piU {tg iter : Expr} : PI X tg iter (WI X tg iter) := ⟨fun pins s _ _ _ I h => h pins s I⟩
theorem of_pi {tg iter : Expr} {wi : TI} {σ : St} {H : Hp} {R : It → Hp → Prop} (p : PI X tg iter wi) (h : wi σ H R) : WI X tg iter σ H R := fun pins s I => p.run pins s σ H R I h
def ItR (W : Wd) (ds xs : List D) (R : It → Hp → Prop) (vs : List V) (H : Hp) : Prop :=
  ∃ G, Ex G H ∧ Reps W G ds vs ∧ ∀ J P, Walks W J xs P → P G → R J H
theorem rep1 {G : Hp} {ds : List D} {v : V} (h : Reps W G ds [v]) : ∃ d, ds = [d] ∧ Rep W G d v := by
  have l := reps_len h
  match ds, l, h with
  | [d], _, h =>
    simp only [Reps] at h
    obtain ⟨w, r, e, h1, rfl⟩ := h
    cases e
    exact ⟨d, rfl, h1⟩
theorem rep2 {G : Hp} {ds : List D} {v u : V} (h : Reps W G ds [v, u]) : ∃ d e, ds = [d, e] ∧ Rep W G d v ∧ Rep W G e u := by
  have l := reps_len h
  match ds, l, h with
  | [d, e], _, h =>
    simp only [Reps] at h
    obtain ⟨w, r, e1, h1, w2, r2, rfl, h2, rfl⟩ := h
    cases e1
    exact ⟨d, e, rfl, h1, h2⟩
theorem rep3 {G : Hp} {ds : List D} {v u w : V} (h : Reps W G ds [v, u, w]) : ∃ d e f, ds = [d, e, f] ∧ Rep W G d v ∧ Rep W G e u ∧ Rep W G f w := by
  have l := reps_len h
  match ds, l, h with
  | [d, e, f], _, h =>
    simp only [Reps] at h
    obtain ⟨w, r, e1, h1, w2, r2, rfl, h2, w3, r3, rfl, h3, rfl⟩ := h
    cases e1
    exact ⟨d, e, f, rfl, h1, h2, h3⟩
theorem okI_of {i : Int} (h : okI i = true) : -(2 ^ 62) ≤ i ∧ i < 2 ^ 62 := by
  unfold okI at h
  simpa using h
theorem boot_enum' : bootBuiltins "enumerate" = some (.type "enumerate") := by decide +kernel
theorem it_ok (cx : CxOk X W C T Wx) {k : ItK} {tg iter : Expr} {es : List Expr} {ds xs : List D} {σ : St} {H : Hp} {R : It → Hp → Prop} (hp : itParts X.env.scope k iter = some es) (ht : k = .enum → isTup tg = true) (hi : items k ds = some xs)
    (h : WQ X es σ H (fun vs H1 => ItR W ds xs R vs H1)) : WI X tg iter σ H R := by
  unfold itParts at hp
  split at hp
  · split at hp
    · cases hp
      rename_i hb
      rw [Bool.and_eq_true] at hb
      obtain ⟨rfl, hg⟩ := isBlt_eq hb.1
      refine of_pi (pi_range1 (glB_gl hg) (cx.blt _ (by decide)) (paU (by simp only [List.all_cons, hb.2]; rfl)) (by rw [star_each hb.2]; rfl)) ?_
      refine we_thn h fun v H1 q => ?_
      obtain ⟨G, gh, hr, k⟩ := q
      obtain ⟨d, rfl, hd⟩ := rep1 hr
      cases d <;> simp only [items, reduceCtorEq] at hi
      obtain ⟨c, rfl⟩ := small_some hi
      simp only [Rep] at hd
      subst hd
      exact ⟨_, rfl, (okI_of c).1, (okI_of c).2, k _ _ walk_rng True.intro⟩
    · cases hp
  · split at hp
    · cases hp
      rename_i hb
      rw [Bool.and_eq_true, Bool.and_eq_true] at hb
      obtain ⟨rfl, hg⟩ := isBlt_eq hb.1.1
      refine of_pi (pi_range2 (glB_gl hg) (cx.blt _ (by decide)) (paU (star2 hb.1.2 hb.2)) (by rw [star_each hb.1.2, star_each hb.2]; rfl) (by rw [star_each hb.2]; rfl)) ?_
      refine we_thn h fun v H1 q => we_thn q fun u H2 q => ?_
      obtain ⟨G, gh, hr, k⟩ := q
      obtain ⟨d, e, rfl, hd, he⟩ := rep2 hr
      cases d <;> cases e <;> simp only [items, reduceCtorEq] at hi
      obtain ⟨c, rfl⟩ := small_some hi
      rw [Bool.and_eq_true] at c
      simp only [Rep] at hd he
      subst hd he
      exact ⟨_, _, rfl, ⟨(okI_of c.1).1, (okI_of c.1).2, (okI_of c.2).1, (okI_of c.2).2⟩, k _ _ walk_rng True.intro⟩
    · cases hp
  · split at hp
    · cases hp
      rename_i hb
      rw [Bool.and_eq_true, Bool.and_eq_true, Bool.and_eq_true] at hb
      obtain ⟨rfl, hg⟩ := isBlt_eq hb.1.1.1
      refine of_pi (pi_range3 (glB_gl hg) (cx.blt _ (by decide)) (paU (by simp only [List.all_cons, hb.1.1.2, hb.1.2, hb.2]; rfl)) (star_each hb.1.1.2) (by rw [star_each hb.1.2, star_each hb.2]; rfl)) ?_
      refine we_thn h fun v H1 q => we_thn q fun u H2 q => we_thn q fun w H3 q => ?_
      obtain ⟨G, gh, hr, k⟩ := q
      obtain ⟨d, e, f, rfl, hd, he, hf⟩ := rep3 hr
      cases d <;> cases e <;> cases f <;> simp only [items, reduceCtorEq] at hi
      obtain ⟨c, rfl⟩ := small_some hi
      simp only [Bool.and_eq_true, decide_eq_true_eq] at c
      obtain ⟨⟨c1, c2⟩, rfl⟩ := c
      simp only [Rep] at hd he hf
      subst hd he hf
      exact ⟨_, _, _, _, rfl, RgC.neg (okI_of c1).1 (okI_of c1).2 (okI_of c2).1 (okI_of c2).2, k _ _ walk_rngc True.intro⟩
    · cases hp
  · split at hp
    · cases hp
      rename_i hb
      rw [Bool.and_eq_true] at hb
      obtain ⟨rfl, hg⟩ := isBlt_eq hb.1
      have ht := ht rfl
      cases tg <;> simp only [isTup, reduceCtorEq, Bool.false_eq_true] at ht
      refine of_pi (pi_enG (glB_gl hg) (cx.blt _ (by decide)) (paU (by simp only [List.all_cons, hb.2]; rfl)) (by rw [star_each hb.2]; rfl)) ?_
      refine we_thn h fun v H1 q => ?_
      obtain ⟨G, gh, hr, k⟩ := q
      obtain ⟨d, rfl, hd⟩ := rep1 hr
      cases d <;> simp only [items, reduceCtorEq, Option.some.injEq] at hi
      · subst hi
        simp only [Rep] at hd
        subst hd
        exact .inr (.inr ⟨_, rfl, k _ _ walk_enS trivial⟩)
      · subst hi
        simp only [Rep] at hd
        obtain ⟨a, vs, rfl, h1, h2⟩ := hd
        exact .inr (.inl ⟨a, vs, rfl, .inl (.inl (gh _ _ h1)), k _ _ walk_enT ⟨h1, h2⟩⟩)
      · subst hi
        simp only [Rep] at hd
        obtain ⟨a, vs, rfl, h1, h2⟩ := hd
        exact .inl ⟨a, vs, rfl, .inl (.inl (gh _ _ h1)), k _ _ walk_enum ⟨h1, h2⟩⟩
    · cases hp
  · split at hp
    · cases hp
      match ds, hi with
      | [.lst zs], hi =>
        simp only [items, Option.some.injEq] at hi
        subst hi
        refine of_pi (pi_list peU) (we_thn h fun v H1 q => ?_)
        obtain ⟨G, gh, hr, k⟩ := q
        obtain ⟨d, e, hd⟩ := rep1 hr
        cases e
        simp only [Rep] at hd
        obtain ⟨a, vs, rfl, h1, h2⟩ := hd
        exact ⟨a, rfl, ⟨vs, .inl (.inl (gh _ _ h1))⟩, k _ _ walk_list ⟨h1, h2⟩⟩
      | [.tup zs], hi =>
        simp only [items, Option.some.injEq] at hi
        subst hi
        refine of_pi (pi_tup peU) (we_thn h fun v H1 q => ?_)
        obtain ⟨G, gh, hr, k⟩ := q
        obtain ⟨d, e, hd⟩ := rep1 hr
        cases e
        simp only [Rep] at hd
        obtain ⟨a, vs, rfl, h1, h2⟩ := hd
        exact ⟨a, rfl, ⟨vs, .inl (.inl (gh _ _ h1))⟩, k _ _ walk_tup ⟨h1, h2⟩⟩
      | [.str zs], hi =>
        simp only [items, Option.some.injEq] at hi
        subst hi
        refine of_pi (pi_str peU) (we_thn h fun v H1 q => ?_)
        obtain ⟨G, gh, hr, k⟩ := q
        obtain ⟨d, e, hd⟩ := rep1 hr
        cases e
        simp only [Rep] at hd
        exact ⟨_, hd, k _ _ walk_str True.intro⟩
    · cases hp
  · cases hp
end
end Itp
set_option Elab.async false
set_option linter.all false
set_option maxRecDepth 100000
set_option maxHeartbeats 4000000
namespace Itp
open PySem L2
section
variable {X : Cx} {W : Wd} {C : Cfg} {T : Tab} {Wx : WX}
/-! ### arguments -/
theorem args_at {W : Wd} {G : Hp} {σ : St} {env : Env} : ∀ {os : List Opd} {vs : List V} {as : List Arg}, OpdsV W G σ os vs → toArgs env os = some as →
    as.length = vs.length ∧ os.length = vs.length ∧ ∀ (p : Nat) (v : V), vs[p]? = some v → ∃ o a, os[p]? = some o ∧ as[p]? = some a ∧ OpdV W G σ o v ∧ toArg env o = some a
  | [], vs, as, h, e => by
    simp only [OpdsV] at h
    simp only [toArgs, Option.some.injEq] at e
    subst h e
    exact ⟨rfl, rfl, fun p v h => by simp at h⟩
  | o :: os, vs, as, h, e => by
    simp only [OpdsV] at h
    obtain ⟨v, r, rfl, h1, h2⟩ := h
    simp only [toArgs] at e
    cases q1 : toArg env o with
    | none => rw [q1] at e; simp at e
    | some x =>
      cases q2 : toArgs env os with
      | none => rw [q1, q2] at e; simp at e
      | some xs =>
        rw [q1, q2] at e
        simp only [Option.some.injEq] at e
        subst e
        obtain ⟨l1, l2, ih⟩ := args_at h2 q2
        refine ⟨by simp [l1], by simp [l2], fun p w hp => ?_⟩
        cases p with
        | zero => simp at hp; subst hp; exact ⟨o, x, rfl, rfl, h1, q1⟩
        | succ p => simpa using ih p w (by simpa using hp)
theorem nodup_pk {env : Env} : ∀ {os : List Opd} {p q i j : Nat}, nodup (muts env os) = true → os[p]? = some (.pk i) → os[q]? = some (.pk j) → p ≠ q → (slot env i).isMut = true → (slot env j).isMut = true → i ≠ j
  | [], p, _, _, _, _, h, _, _, _, _ => by simp at h
  | o :: os, p, q, i, j, nd, hp, hq, hpq, hi, hj => by
    have mem : ∀ {os : List Opd} {p i : Nat}, os[p]? = some (.pk i) → (slot env i).isMut = true → i ∈ muts env os := by
      intro os
      induction os with
      | nil => intro p i h; simp at h
      | cons o os ih =>
        intro p i h hi
        cases p with
        | zero =>
          simp at h
          subst h
          simp only [muts, if_pos hi]
          exact List.mem_cons_self
        | succ p =>
          have := ih (by simpa using h) hi
          cases o with
          | d x => simpa only [muts] using this
          | pk k =>
            simp only [muts]
            split
            · exact List.mem_cons_of_mem _ this
            · exact this
    have tl : nodup (muts env os) = true := by
      cases o with
      | d x => simpa only [muts] using nd
      | pk k =>
        simp only [muts] at nd
        split at nd
        · simp only [nodup, Bool.and_eq_true] at nd; exact nd.2
        · exact nd
    cases p with
    | zero =>
      cases q with
      | zero => exact absurd rfl hpq
      | succ q =>
        simp at hp
        subst hp
        simp only [muts, if_pos hi, nodup, Bool.and_eq_true, Bool.not_eq_true', List.contains_eq_mem, decide_eq_false_iff_not] at nd
        intro z
        subst z
        exact nd.1 (mem (by simpa using hq) hj)
    | succ p =>
      cases q with
      | zero =>
        simp at hq
        subst hq
        simp only [muts, if_pos hj, nodup, Bool.and_eq_true, Bool.not_eq_true', List.contains_eq_mem, decide_eq_false_iff_not] at nd
        intro z
        subst z
        exact nd.1 (mem (by simpa using hp) hi)
      | succ q => exact nodup_pk tl (by simpa using hp) (by simpa using hq) (by omega) hi hj
theorem slot_arg {as : List Arg} {p : Nat} : slot (as.map argSlot) p = match as[p]? with
    | some a => argSlot a
    | none => .un := by
  unfold slot
  rw [List.getD_eq_getElem?_getD, List.getElem?_map]
  cases as[p]? <;> rfl
theorem toArg_pk {env : Env} {o : Opd} {d : D} (h : toArg env o = some (.lent d)) : ∃ i, o = .pk i ∧ (slot env i).isMut = true ∧ (slot env i).d? = some d := by
  cases o with
  | d x => simp [toArg] at h
  | pk i =>
    simp only [toArg] at h
    refine ⟨i, rfl, ?_⟩
    cases q : slot env i <;> rw [q] at h <;> simp at h <;> subst h <;> exact ⟨rfl, rfl⟩
theorem arg_mut {as : List Arg} {p : Nat} (h : (slot (as.map argSlot) p).isMut = true) : ∃ d, as[p]? = some (.lent d) := by
  rw [slot_arg] at h
  cases q : as[p]? with
  | none => rw [q] at h; cases h
  | some a =>
    rw [q] at h
    cases a with
    | val d => cases h
    | lent d => exact ⟨d, rfl⟩
theorem args_ok {G H : Hp} {σ : St} {env : Env} {os : List Opd} {vs : List V} {as : List Arg} (s : StOk W G H σ env) (h : OpdsV W G σ os vs) (e : toArgs env os = some as) (nd : nodup (muts env os) = true) :
    StOk W G H (vs.map some) (as.map argSlot) ∧ ∀ a, OwnA (vs.map some) (as.map argSlot) a → OwnA σ env a := by
  obtain ⟨l1, l2, at'⟩ := args_at h e
  have vat : ∀ (p : Nat) (w : V), (vs.map some)[p]? = some (some w) → vs[p]? = some w := fun p w q => by
    rw [List.getElem?_map] at q
    cases z : vs[p]? with
    | none => rw [z] at q; simp at q
    | some y => rw [z] at q; simp at q; rw [q]
  have main : ∀ (p : Nat) (d : D), as[p]? = some (Arg.lent d) → ∃ (i : Nat) (a : Addr), os[p]? = some (.pk i) ∧ (slot env i).isMut = true ∧ σ[i]? = some (some (.ref a)) ∧ vs[p]? = some (.ref a) ∧ G a = none ∧ Cont W G H a d := fun p d hp => by
    have hlt : p < vs.length := by rw [← l1]; exact (List.getElem?_eq_some_iff.mp hp).1
    obtain ⟨o, a, q1, q2, q3, q4⟩ := at' p vs[p] (List.getElem?_eq_getElem hlt)
    rw [hp] at q2
    cases q2
    obtain ⟨i, rfl, m1, m2⟩ := toArg_pk q4
    obtain ⟨d', a, z1, z2, z3, z4⟩ := s.mut m1
    rw [m2] at z1
    cases z1
    have q3 : σ[i]? = some (some vs[p]) := q3
    have q5 : vs[p] = .ref a := by rw [q3] at z2; simpa using z2
    exact ⟨i, a, q1, m1, z2, by rw [List.getElem?_eq_getElem hlt, q5], z3, z4⟩
  refine ⟨⟨s.gh, by simp [l1], fun p => ?_, fun p q a hpq hp hq h1 h2 => ?_⟩, fun a ⟨p, hp, h1⟩ => ?_⟩
  · rw [slot_arg]
    cases z : as[p]? with
    | none => trivial
    | some arg =>
      have hlt : p < vs.length := by rw [← l1]; exact (List.getElem?_eq_some_iff.mp z).1
      cases arg with
      | val d =>
        obtain ⟨o, a, q1, q2, q3, q4⟩ := at' p vs[p] (List.getElem?_eq_getElem hlt)
        rw [z] at q2
        cases q2
        refine ⟨vs[p], by rw [List.getElem?_map, List.getElem?_eq_getElem hlt]; rfl, ?_⟩
        cases o with
        | d x => simp only [toArg, Option.some.injEq, Arg.val.injEq] at q4; subst q4; exact q3
        | pk i =>
          simp only [toArg] at q4
          have q := s.sl i
          have q3 : σ[i]? = some (some vs[p]) := q3
          cases w : slot env i <;> rw [w] at q4 q <;> simp at q4
          subst q4
          obtain ⟨v', e1, e2⟩ := q
          rw [q3] at e1
          cases e1
          exact e2
      | lent d =>
        obtain ⟨i, a, _, _, _, q4, q5, q6⟩ := main p d z
        exact ⟨a, by rw [List.getElem?_map, q4]; rfl, q5, q6⟩
  · obtain ⟨d, hd⟩ := arg_mut hp
    obtain ⟨d', hd'⟩ := arg_mut hq
    obtain ⟨i, a1, o1, m1, s1, v1, _⟩ := main p d hd
    obtain ⟨j, a2, o2, m2, s2, v2, _⟩ := main q d' hd'
    have w1 := vat p _ h1
    have w2 := vat q _ h2
    rw [v1] at w1
    rw [v2] at w2
    cases w1
    cases w2
    exact s.inj i j _ (nodup_pk nd o1 o2 hpq m1 m2) m1 m2 s1 s2
  · obtain ⟨d, hd⟩ := arg_mut hp
    obtain ⟨i, a1, o1, m1, s1, v1, _⟩ := main p d hd
    have w1 := vat p _ h1
    rw [v1] at w1
    cases w1
    exact ⟨i, m1, s1⟩
theorem put_mut {s : Slot} {d : D} (h : s.isMut = true) : (s.put d).isMut = true ∧ (s.put d).d? = some d ∧ (s.put d).isPar = s.isPar := by
  cases s with
  | un => cases h
  | val _ => cases h
  | own _ => exact ⟨rfl, rfl, rfl⟩
  | par _ => exact ⟨rfl, rfl, rfl⟩
theorem slotOk_mut {G H : Hp} {σ : St} {i : Nat} {s : Slot} {a : Addr} {d : D} (h : s.isMut = true) (hd : s.d? = some d) (h1 : σ[i]? = some (some (.ref a))) (h2 : G a = none) (h3 : Cont W G H a d) : SlotOk W G H σ i s := by
  cases s with
  | un => cases h
  | val _ => cases h
  | own _ => simp [Slot.d?] at hd; subst hd; exact ⟨a, h1, h2, h3⟩
  | par _ => simp [Slot.d?] at hd; subst hd; exact ⟨a, h1, h2, h3⟩
/-- what a callee has made of the things it was lent -/
theorem putBack_ok {G H : Hp} {σ : St} {env0 : Env} : ∀ (os : List Opd) (vs : List V) (as : List Arg) (fin : List D) (env env2 : Env), (∃ G0, OpdsV W G0 σ os vs) → toArgs env0 os = some as → OkFins W G H vs as fin → putBack env (muts env0 os) fin = some env2 → nodup (muts env0 os) = true →
    (∀ i, i ∈ muts env0 os → slot env i = slot env0 i) → (∀ i, i ∈ muts env0 os → i < env.length) → (∀ i, i ∉ muts env0 os → SlotOk W G H σ i (slot env i)) →
    (∀ i, SlotOk W G H σ i (slot env2 i)) ∧ env2.length = env.length ∧ (∀ i, (slot env2 i).isMut = (slot env i).isMut ∧ (slot env2 i).isPar = (slot env i).isPar)
  | [], vs, as, fin, env, env2, h, e, hf, hb, nd, hs, hl, hk => by
    simp only [muts] at hb
    cases fin <;> simp only [putBack, reduceCtorEq, Option.some.injEq] at hb
    subst hb
    exact ⟨fun i => hk i (by simp [muts]), rfl, fun i => ⟨rfl, rfl⟩⟩
  | o :: os, vs, as, fin, env, env2, ⟨G0, h⟩, e, hf, hb, nd, hs, hl, hk => by
    simp only [OpdsV] at h
    obtain ⟨v, r, rfl, h1, h2⟩ := h
    simp only [toArgs] at e
    cases q1 : toArg env0 o with
    | none => rw [q1] at e; simp at e
    | some x =>
      cases q2 : toArgs env0 os with
      | none => rw [q1, q2] at e; simp at e
      | some xs =>
        rw [q1, q2] at e
        simp only [Option.some.injEq] at e
        subst e
        cases x with
        | val d =>
          have hm : muts env0 (o :: os) = muts env0 os := by
            cases o with
            | d y => rfl
            | pk i =>
              simp only [toArg] at q1
              simp only [muts]
              cases w : slot env0 i <;> rw [w] at q1 <;> simp at q1
              rfl
          rw [hm] at hb nd hs hl hk
          exact putBack_ok os r xs fin env env2 ⟨G0, h2⟩ q2 (by simpa only [OkFins] using hf) hb nd hs hl hk
        | lent d =>
          obtain ⟨i, rfl, m1, m2⟩ := toArg_pk q1
          have hm : muts env0 (.pk i :: os) = i :: muts env0 os := by simp only [muts, if_pos m1]
          rw [hm] at hb nd hs hl hk
          simp only [OkFins] at hf
          obtain ⟨d', rest, a, rfl, rfl, g1, c1, hf⟩ := hf
          simp only [putBack] at hb
          simp only [nodup, Bool.and_eq_true, Bool.not_eq_true', List.contains_eq_mem, decide_eq_false_iff_not] at nd
          have hi : i < env.length := hl i List.mem_cons_self
          have hsi : slot env i = slot env0 i := hs i List.mem_cons_self
          have mi : (slot env i).isMut = true := by rw [hsi]; exact m1
          have ih := putBack_ok os r xs rest (env.set i ((slot env i).put d')) env2 ⟨G0, h2⟩ q2 hf hb nd.2 (fun j hj => by
            rw [slot_set, if_neg fun z => nd.1 (by rw [z]; exact hj)]
            exact hs j (List.mem_cons_of_mem _ hj)) (fun j hj => by
            rw [List.length_set]
            exact hl j (List.mem_cons_of_mem _ hj)) fun j hj => by
              rw [slot_set]
              by_cases z : i = j
              · subst z
                rw [if_pos rfl, if_pos hi]
                have pm := put_mut (d := d') mi
                exact slotOk_mut pm.1 pm.2.1 h1 g1 c1
              · rw [if_neg z]
                refine hk j fun hm => ?_
                rcases List.mem_cons.mp hm with hm | hm
                · exact z hm.symm
                · exact hj hm
          refine ⟨ih.1, by rw [ih.2.1, List.length_set], fun j => ?_⟩
          rw [(ih.2.2 j).1, (ih.2.2 j).2, slot_set]
          by_cases z : i = j
          · subst z
            rw [if_pos rfl, if_pos hi]
            have pm := put_mut (d := d') mi
            exact ⟨pm.1.trans mi.symm, pm.2.2⟩
          · rw [if_neg z]
            exact ⟨rfl, rfl⟩
theorem muts_mem {env : Env} : ∀ {os : List Opd} {i : Nat}, i ∈ muts env os → (slot env i).isMut = true ∧ ∃ p : Nat, os[p]? = some (.pk i)
  | [], i, h => by simp [muts] at h
  | .d x :: os, i, h => by
    obtain ⟨h1, p, h2⟩ := muts_mem (os := os) (i := i) h
    exact ⟨h1, p + 1, by simpa using h2⟩
  | .pk k :: os, i, h => by
    simp only [muts] at h
    split at h
    · rename_i hk
      rcases List.mem_cons.mp h with rfl | h
      · exact ⟨hk, 0, rfl⟩
      · obtain ⟨h1, p, h2⟩ := muts_mem h
        exact ⟨h1, p + 1, by simpa using h2⟩
    · obtain ⟨h1, p, h2⟩ := muts_mem h
      exact ⟨h1, p + 1, by simpa using h2⟩
theorem muts_of {env : Env} {i : Nat} : ∀ {os : List Opd} {p : Nat}, os[p]? = some (.pk i) → (slot env i).isMut = true → i ∈ muts env os
  | [], _, h, _ => by simp at h
  | o :: os, 0, h, mi => by simp at h; subst h; simp only [muts, if_pos mi]; exact List.mem_cons_self
  | o :: os, p + 1, h, mi => by
    have := muts_of (os := os) (p := p) (by simpa using h) mi
    cases o with
    | d x => simpa only [muts] using this
    | pk k =>
      simp only [muts]
      split
      · exact List.mem_cons_of_mem _ this
      · exact this
theorem slot_lt {e : Env} {i : Nat} (h : (slot e i).isMut = true) : i < e.length := by
  unfold slot at h
  by_cases hi : i < e.length
  · exact hi
  · rw [List.getD_eq_getElem?_getD, List.getElem?_eq_none (by omega)] at h
    cases h
/-- behind a call -/
theorem after_call {G H G' H' : Hp} {σ : St} {env env2 : Env} {os : List Opd} {vs : List V} {as : List Arg} {fin : List D} (s : StOk W G H σ env) (h : OpdsV W G σ os vs) (e : toArgs env os = some as) (nd : nodup (muts env os) = true)
    (k : Keep (OwnA (vs.map some) (as.map argSlot)) G H (OwnA (vs.map some) (as.map argSlot)) G' H') (hf : OkFins W G' H' vs as fin) (hb : putBack env (muts env os) fin = some env2) :
    Keep (OwnA σ env) G H (OwnA σ env2) G' H' ∧ StOk W G' H' σ env2 ∧ (∀ a, OwnA σ env2 a ↔ OwnA σ env a) ∧ ParK σ env σ env2 := by
  obtain ⟨sa, sub⟩ := args_ok s h e nd
  have hk : ∀ i, i ∉ muts env os → SlotOk W G' H' σ i (slot env i) := fun i hi => by
    have q := s.sl i
    cases w : slot env i with
    | un => trivial
    | val d => rw [w] at q; obtain ⟨v, q1, q2⟩ := q; exact ⟨v, q1, Rep.mono k.gg _ _ q2⟩
    | _ =>
      have mi : (slot env i).isMut = true := by rw [w]; rfl
      obtain ⟨d, a, z1, z2, z3, z4⟩ := s.mut mi
      have na : ¬ OwnA (vs.map some) (as.map argSlot) a := fun ho => by
        obtain ⟨p, hp, h1⟩ := ho
        obtain ⟨d', hd'⟩ := arg_mut hp
        obtain ⟨l1, l2, at'⟩ := args_at h e
        have hlt : p < vs.length := by rw [← l1]; exact (List.getElem?_eq_some_iff.mp hd').1
        obtain ⟨o, a', q1, q2, q3, q4⟩ := at' p vs[p] (List.getElem?_eq_getElem hlt)
        rw [hd'] at q2
        cases q2
        obtain ⟨j, rfl, m1, m2⟩ := toArg_pk q4
        have q3 : σ[j]? = some (some vs[p]) := q3
        have q5 : vs[p] = .ref a := by
          rw [List.getElem?_map, List.getElem?_eq_getElem hlt] at h1
          simpa using h1
        rw [q5] at q3
        have hij : i = j := by
          by_cases z : i = j
          · exact z
          · exact absurd q3 (s.inj i j a z mi m1 z2)
        subst hij
        exact hi (muts_of q1 mi)
      obtain ⟨o, ho⟩ := z4.some
      rw [← w]
      exact slotOk_mut mi z1 z2 (k.hg a o ho na z3) (z4.mono k.gg fun u hu => k.hh a u hu na)
  obtain ⟨p1, p2, p3⟩ := putBack_ok os vs as fin env env2 ⟨G, h⟩ e hf hb nd (fun i _ => rfl) (fun i hi => slot_lt (muts_mem hi).1) hk
  have own : ∀ a, OwnA σ env2 a ↔ OwnA σ env a := fun a => ⟨fun ⟨i, h1, h2⟩ => ⟨i, by rw [← (p3 i).1]; exact h1, h2⟩, fun ⟨i, h1, h2⟩ => ⟨i, by rw [(p3 i).1]; exact h1, h2⟩⟩
  refine ⟨⟨k.gg, k.gh, fun a o h1 h2 => k.hh a o h1 fun z => h2 (sub a z), fun a o h1 h2 h3 => k.hg a o h1 (fun z => h2 (sub a z)) h3, fun a h1 => .inl ((own a).mp h1)⟩, ⟨k.gh, by rw [p2]; exact s.len, p1, fun i j a hij h1 h2 => ?_⟩, own, fun i hi => ⟨by rw [← (p3 i).2]; exact hi, rfl⟩⟩
  rw [(p3 i).1] at h1
  rw [(p3 j).1] at h2
  exact s.inj i j a hij h1 h2
end
end Itp
set_option Elab.async false
set_option linter.all false
set_option maxRecDepth 100000
set_option maxHeartbeats 4000000
namespace Itp
open PySem L2
section
variable {X : Cx} {W : Wd} {C : Cfg} {T : Tab} {Wx : WX}
/-! ### from results to data, to truth -/
theorem good_fz {e : Expr} {m : M Res} (g : GoodE X W Wx e m) {env : Env} {σ : St} {G H : Hp} {Q : VK} (s : StOk W G H σ env) (h : Aft W (DOk W) σ (OwnA σ env) G H Q Wx (fz m env)) : WE X e σ H Q := by
  refine g env σ G H Q s ?_
  unfold fz at h
  cases q : m env with
  | no => rw [q] at h; exact h
  | ex x e' => rw [q] at h; exact h
  | ok r e' =>
    rw [q] at h
    intro v G' H' k s' r'
    obtain ⟨G'', k2, s2, r2⟩ := freeze k s' r'
    exact h v G'' H' k2 s2 r2
theorem aft_asB {m : M Res} {env : Env} {σ : St} {S : Addr → Prop} {G H : Hp} {Q : Bool → Hp → Prop} (h : Aft W BOk σ S G H Q Wx (asB m env)) : Aft W (ResOk W) σ S G H (fun v H1 => ∃ b, v = .bl b ∧ Q b H1) Wx (m env) := by
  unfold asB at h
  cases q : m env with
  | no => rw [q] at h; exact h
  | ex x e' => rw [q] at h; exact h
  | ok r e' =>
    rw [q] at h
    intro v G' H' k s' r'
    match r, h, r' with
    | .val (.bl b), h, r' =>
      have r' : Rep W G' (.bl b) v := r'
      simp only [Rep] at r'
      exact ⟨b, r', h b G' H' k s' rfl⟩
theorem good_B {e : Expr} {m : M Res} (g : GoodE X W Wx e m) {env : Env} {σ : St} {G H : Hp} {Q : Bool → Hp → Prop} (s : StOk W G H σ env) (h : Aft W BOk σ (OwnA σ env) G H Q Wx (asB m env)) : WE X e σ H fun v H1 => ∃ b, v = .bl b ∧ Q b H1 :=
  g env σ G H _ s (aft_asB h)
def GoodB (X : Cx) (W : Wd) (Wx : WX) (e : Expr) (m : M Bool) : Prop := ∀ (env : Env) (σ : St) (G H : Hp) (Q : Bool → Hp → Prop), StOk W G H σ env → Aft W BOk σ (OwnA σ env) G H Q Wx (m env) → WT X e σ H Q
def GoodL (X : Cx) (W : Wd) (Wx : WX) (es : List Expr) (m : M (List Opd)) : Prop := ∀ (env : Env) (σ : St) (G H : Hp) (Q : List V → Hp → Prop), StOk W G H σ env → Aft W (LOk W σ) σ (OwnA σ env) G H Q Wx (m env) → WQ X es σ H Q
/-- from an outcome to the next -/
theorem aft_bind {α β α' β' : Type} {R : (Addr → Prop) → Hp → (Addr → Prop) → Hp → Hp → α → β → Prop} {R' : (Addr → Prop) → Hp → (Addr → Prop) → Hp → Hp → α' → β' → Prop} (B : Bears R') {σ : St} {S : Addr → Prop} {G H : Hp} {Q : β → Hp → Prop} {Q' : β' → Hp → Prop} {o : Rs α} {f : α → Env → Rs α'}
    (h : Aft W R' σ S G H Q' Wx (o.bind f)) (k : ∀ a e1 v G1 H1, o = .ok a e1 → Keep S G H (OwnA σ e1) G1 H1 → StOk W G1 H1 σ e1 → R S H (OwnA σ e1) G1 H1 a v → Aft W R' σ (OwnA σ e1) G1 H1 Q' Wx (f a e1) → Q v H1) : Aft W R σ S G H Q Wx o := by
  cases o with
  | no => exact h
  | ex x e' => exact h
  | ok a e1 => exact fun v G1 H1 k1 s1 r1 => k a e1 v G1 H1 rfl k1 s1 r1 (Aft.step B k1 h)
/-- a slot of one's own is let be -/
theorem freeze_slot {G H : Hp} {σ : St} {env : Env} {i : Nat} {d : D} (s : StOk W G H σ env) (hs : slot env i = .own d) :
    ∃ a G', σ[i]? = some (some (.ref a)) ∧ Keep (OwnA σ env) G H (OwnA σ (env.set i (.val d))) G' H ∧ StOk W G' H σ (env.set i (.val d)) ∧ Rep W G' d (.ref a) := by
  have q := s.sl i
  rw [hs] at q
  obtain ⟨a, q1, q2, q3⟩ := q
  obtain ⟨o, ho⟩ := q3.some
  have x : Ex G (upd G a o) := Ex.new q2
  have y : Ex (upd G a o) H := fun b u hb => by
    by_cases e : b = a
    · subst e; rw [upd_same] at hb; cases hb; exact ho
    · rw [upd_ne e] at hb; exact s.gh b u hb
  have hm : (slot env i).isMut = true := by rw [hs]; rfl
  have hi : i < env.length := slot_lt hm
  have sub : ∀ b, OwnA σ (env.set i (.val d)) b → OwnA σ env b ∧ b ≠ a := fun b ⟨j, h1, h2⟩ => by
    rw [slot_set] at h1
    by_cases z : i = j
    · subst z
      rw [if_pos rfl, if_pos hi] at h1
      cases h1
    · rw [if_neg z] at h1
      exact ⟨⟨j, h1, h2⟩, fun e => by subst e; exact s.inj i j b z hm h1 q1 h2⟩
  have rp : Rep W (upd G a o) d (.ref a) := (q3.mono x fun _ h => h).rep (by rw [upd_same, ho])
  refine ⟨a, upd G a o, q1, ⟨x, y, fun _ _ h _ => h, fun b u h1 h2 h3 => ?_, fun b hb => .inl (sub b hb).1⟩, ⟨y, by rw [List.length_set]; exact s.len, fun j => ?_, fun j k b hjk hj hk h1 => ?_⟩, rp⟩
  · have : b ≠ a := fun e => h2 (by subst e; exact ⟨i, hm, q1⟩)
    rw [upd_ne this]
    exact h3
  · rw [slot_set]
    by_cases z : i = j
    · subst z
      rw [if_pos rfl, if_pos hi]
      exact ⟨.ref a, q1, rp⟩
    · rw [if_neg z]
      have q := s.sl j
      cases w : slot env j with
      | un => trivial
      | val d' => rw [w] at q; obtain ⟨v, e1, e2⟩ := q; exact ⟨v, e1, Rep.mono x _ _ e2⟩
      | _ =>
        have mj : (slot env j).isMut = true := by rw [w]; rfl
        obtain ⟨d', b, z1, z2, z3, z4⟩ := s.mut mj
        have nb : b ≠ a := fun e => by subst e; exact s.inj i j b z hm mj q1 z2
        rw [← w]
        exact slotOk_mut mj z1 z2 (by rw [upd_ne nb]; exact z3) (z4.mono x fun _ h => h)
  · rw [slot_set] at hj hk
    by_cases z : i = j
    · subst z
      rw [if_pos rfl, if_pos hi] at hj
      cases hj
    · by_cases z' : i = k
      · subst z'
        rw [if_pos rfl, if_pos hi] at hk
        cases hk
      · rw [if_neg z] at hj
        rw [if_neg z'] at hk
        exact s.inj j k b hjk hj hk h1
theorem isVar_ok {i : Nat} {x : Str} {pos : Pos} {σ : St} {H : Hp} {Q : VK} {v : V} (h : isVar X.N X.env.scope i x = true) (hv : σ[i]? = some (some v)) (q : Q v H) : WE X (.Name x pos) σ H Q := by
  unfold isVar at h
  simp only [Bool.and_eq_true, decide_eq_true_eq, Bool.not_eq_true'] at h
  exact of_pe (pe_var h.1.1.1 (visB_vis h.1.1.2) h.1.2 h.2) ⟨v, hv, q⟩
theorem var_ok {i : Nat} {x : Str} {pos : Pos} (h : isVar X.N X.env.scope i x = true) : GoodE X W Wx (.Name x pos) (rdVar i) := by
  intro env σ G H Q s a
  unfold rdVar at a
  cases w : slot env i with
  | un => rw [w] at a; exact a.elim
  | par d => rw [w] at a; exact a.elim
  | val d =>
    rw [w] at a
    have q := s.sl i
    rw [w] at q
    obtain ⟨v, q1, q2⟩ := q
    exact isVar_ok h q1 (a v G H (Keep.refl s.gh) s q2)
  | own d =>
    rw [w] at a
    obtain ⟨b, G', q1, k, s', r⟩ := freeze_slot s w
    exact isVar_ok h q1 (a _ G' H k s' r)
theorem cst_ok {d : D} {c : Const} {k : Nat} {pos : Pos} (h : cstIs d c = true) : GoodE X W Wx (.Constant c k pos) (fun e => .ok (.val d) e) := by
  intro env σ G H Q s a
  have go : ∀ v, Rep W G d v → Q v H := fun v r => a v G H (Keep.refl s.gh) s r
  cases d <;> cases c <;> simp only [cstIs, reduceCtorEq, Bool.false_eq_true] at h
  · exact of_pe pe_non (go _ (by simp only [Rep]))
  · simp only [beq_iff_eq] at h
    subst h
    exact of_pe pe_bl (go _ (by simp only [Rep]))
  · simp only [beq_iff_eq] at h
    subst h
    exact of_pe pe_int (go _ (by simp only [Rep]))
  · rw [decide_eq_true_eq] at h
    subst h
    exact of_pe pe_str (go _ (by simp only [Rep]))
mutual
theorem beq_eq : ∀ (a b : D), D.beq a b = true → a = b
  | .non, b, h => by cases b <;> simp [D.beq] at h; rfl
  | .bl _, b, h => by cases b <;> simp [D.beq] at h; rw [h]
  | .int _, b, h => by cases b <;> simp [D.beq] at h; rw [h]
  | .str _, b, h => by cases b <;> simp [D.beq] at h; rw [h]
  | .tup xs, b, h => by cases b <;> simp only [D.beq, reduceCtorEq, Bool.false_eq_true] at h; rw [beqs_eq _ _ h]
  | .lst xs, b, h => by cases b <;> simp only [D.beq, reduceCtorEq, Bool.false_eq_true] at h; rw [beqs_eq _ _ h]
  | .dct xs, b, h => by cases b <;> simp only [D.beq, reduceCtorEq, Bool.false_eq_true] at h; rw [beqk_eq _ _ h]
  | .fn _, b, h => by cases b <;> simp [D.beq] at h; rw [h]
  | .scr _, b, h => by cases b <;> simp [D.beq] at h
theorem beqs_eq : ∀ (a b : List D), D.beqs a b = true → a = b
  | [], b, h => by cases b <;> simp [D.beqs] at h; rfl
  | x :: xs, b, h => by
    cases b <;> simp only [D.beqs, Bool.and_eq_true, Bool.false_eq_true] at h
    rw [beq_eq _ _ h.1, beqs_eq _ _ h.2]
theorem beqk_eq : ∀ (a b : List (D × D)), D.beqk a b = true → a = b
  | [], b, h => by cases b <;> simp [D.beqk] at h; rfl
  | (x, y) :: xs, b, h => by
    cases b with
    | nil => simp [D.beqk] at h
    | cons p ps =>
      obtain ⟨p1, p2⟩ := p
      simp only [D.beqk, Bool.and_eq_true] at h
      rw [beq_eq _ _ h.1.1, beq_eq _ _ h.1.2, beqk_eq _ _ h.2]
end
theorem glb_ok (cx : CxOk X W C T Wx) {x y : Str} {d : D} {pos : Pos} (h : chk T X.N X.env.scope (.glb y d) (.Name x pos) = true) : GoodE X W Wx (.Name x pos) (fun e => .ok (.val d) e) := by
  intro env σ G H Q s a
  simp only [chk, Bool.and_eq_true, decide_eq_true_eq, Bool.not_eq_true'] at h
  obtain ⟨⟨⟨h1, h2⟩, h3⟩, h4⟩ := h
  split at h4
  · rename_i d' hd
    rw [Bool.and_eq_true] at h4
    have := beq_eq _ _ h4.1
    subst this
    obtain ⟨u, v, m1, m2, m3⟩ := cx.cst x d hd
    exact of_pe (pe_glob (glB_gl h2) m1 m2 h3) (a v G H (Keep.refl s.gh) s (m3 G h4.2))
  · cases h4
theorem wqp_of : ∀ {es : List Expr} {p : Nat → V → Prop} {σ : St} {H : Hp} {Q : List V → Hp → Prop}, (∀ i v, p i v) → WQ X es σ H Q → WQP X es p σ H Q
  | [], _, _, _, _, _, h => h
  | e :: es, _, _, _, _, hp, h => we_thn h fun v H1 q => ⟨hp 0 v, wqp_of (fun i v => hp (i + 1) v) q⟩
theorem midP_triv {o : Op} (h : midOp o = false) (i : Nat) (v : V) : midP o i v := by
  cases o <;> first | trivial | skip
  all_goals first
    | (rename_i a b; cases a <;> cases b <;> first | trivial | (simp [midOp] at h))
    | (simp [midOp, mthd] at h)
theorem opd_fz {G H : Hp} {σ : St} {env : Env} (s : StOk W G H σ env) : ∀ {os : List Opd} {vs : List V} {ds : List D}, OpdsV W G σ os vs → opds env os = some ds → (muts env os).isEmpty = true → Reps W G ds vs
  | [], _, ds, h, e, _ => by
    simp only [OpdsV] at h
    simp only [opds, Option.some.injEq] at e
    subst e h
    simp only [Reps]
  | o :: os, _, ds, h, e, m => by
    simp only [OpdsV] at h
    obtain ⟨v, r, rfl, h1, h2⟩ := h
    simp only [opds] at e
    cases q1 : opd env o with
    | none => rw [q1] at e; simp at e
    | some x =>
      cases q2 : opds env os with
      | none => rw [q1, q2] at e; simp at e
      | some xs =>
        rw [q1, q2] at e
        simp only [Option.some.injEq] at e
        subst e
        simp only [Reps]
        cases o with
        | d y =>
          simp only [opd, Option.some.injEq] at q1
          subst q1
          exact ⟨v, r, rfl, h1, opd_fz s h2 q2 (by simpa only [muts] using m)⟩
        | pk i =>
          simp only [muts] at m
          split at m
          · simp at m
          · rename_i hm
            refine ⟨v, r, rfl, ?_, opd_fz s h2 q2 m⟩
            simp only [opd] at q1
            have h1 : σ[i]? = some (some v) := h1
            have z := s.sl i
            cases q : slot env i with
            | un => rw [q] at q1; simp [Slot.d?] at q1
            | val d =>
              rw [q] at q1 z
              simp only [Slot.d?, Option.some.injEq] at q1
              subst q1
              obtain ⟨v', e1, e2⟩ := z
              rw [h1] at e1
              cases e1
              exact e2
            | own d => rw [q] at hm; exact absurd rfl hm
            | par d => rw [q] at hm; exact absurd rfl hm
/-- what an operation sees of its operands ahead of the next one -/
theorem mid_ok {o : Op} {env : Env} {os : List Opd} {ds : List D} {r : Res} {σ : St} (ho : opds env os = some ds) (hp : prim o ds = some r) (hk : os.any isPk = false) :
    ∀ (i : Nat) (x : Opd), os[i]? = some x → ∀ (G : Hp) (v : V), OpdV W G σ x v → midP o i v := by
  intro i x hx G v hv
  have hd : ∃ y, x = .d y := by
    cases x with
    | d y => exact ⟨y, rfl⟩
    | pk j =>
      have := List.any_eq_false.mp hk _ (List.mem_of_getElem? hx)
      simp [isPk] at this
  obtain ⟨y, rfl⟩ := hd
  have hy : ds[i]? = some y := by
    clear hp hk hv
    induction os generalizing ds i with
    | nil => simp at hx
    | cons o1 os ih =>
      simp only [opds] at ho
      cases q1 : opd env o1 with
      | none => rw [q1] at ho; simp at ho
      | some x1 =>
        cases q2 : opds env os with
        | none => rw [q1, q2] at ho; simp at ho
        | some xs =>
          rw [q1, q2] at ho
          simp only [Option.some.injEq] at ho
          subst ho
          cases i with
          | zero => simp at hx; subst hx; simp only [opd, Option.some.injEq] at q1; subst q1; rfl
          | succ i => simpa using ih (i := i) q2 (by simpa using hx)
  have hv : Rep W G y v := hv
  cases o <;> first | trivial | skip
  · rename_i a b
    cases a <;> cases b <;> first | trivial | skip
    match i with
    | 0 => trivial
    | 1 =>
      simp only [midP]
      simp only [prim] at hp
      match ds, hp, hy with
      | [x0, x1, x2], hp, hy =>
        simp at hy
        subst hy
        cases x0 <;> cases x1 <;> cases x2 <;> simp only [pSlc, reduceCtorEq] at hp <;> (simp only [Rep] at hv; exact ⟨_, hv⟩)
      | [], hp, hy => simp at hy
      | [_], hp, hy => simp at hy
      | [_, _], hp, hy => simp [pSlc] at hp
      | _ :: _ :: _ :: _ :: _, hp, hy => simp [pSlc] at hp
    | i + 2 => trivial
  all_goals simp only [prim, reduceCtorEq] at hp
  match i with
  | 0 =>
    simp only [midP]
    match ds, hp, hy with
    | .str j :: _, hp, hy => simp at hy; subst hy; simp only [Rep] at hv; exact ⟨_, hv⟩
    | [], hp, hy => simp at hy
  | i + 1 => trivial
end
end Itp
set_option Elab.async false
set_option linter.all false
set_option maxRecDepth 100000
set_option maxHeartbeats 4000000
namespace Itp
open PySem L2
section
variable {X : Cx} {W : Wd} {C : Cfg} {T : Tab} {Wx : WX}
/-! ### a block's own slots -/
theorem hide_len (e : Env) : ∀ own : List Nat, (hideE e own).length = e.length
  | [] => rfl
  | i :: is => by unfold hideE; rw [List.length_set, hide_len e is]
theorem hide_slot (e : Env) (j : Nat) : ∀ own : List Nat, slot (hideE e own) j = if j ∈ own then .un else slot e j
  | [] => by simp [hideE]
  | i :: is => by
    unfold hideE
    rw [slot_set, hide_slot e j is]
    by_cases h : i = j
    · subst h
      simp
    · rw [if_neg h]
      by_cases h2 : j ∈ is
      · rw [if_pos h2, if_pos (List.mem_cons_of_mem _ h2)]
      · rw [if_neg h2, if_neg]
        intro z
        rcases List.mem_cons.mp z with z | z
        · exact h z.symm
        · exact h2 z
theorem back_len (e e0 : Env) : ∀ own : List Nat, (backE e e0 own).length = e.length
  | [] => rfl
  | i :: is => by unfold backE; rw [List.length_set, back_len e e0 is]
theorem slot_out {e : Env} {j : Nat} (h : e.length ≤ j) : slot e j = .un := by
  unfold slot
  rw [List.getD_eq_getElem?_getD, List.getElem?_eq_none h]
  rfl
theorem back_slot (e e0 : Env) (hl : e.length = e0.length) (j : Nat) : ∀ own : List Nat, slot (backE e e0 own) j = if j ∈ own then slot e0 j else slot e j
  | [] => by simp [backE]
  | i :: is => by
    unfold backE
    rw [slot_set, back_slot e e0 hl j is, back_len]
    by_cases h : i = j
    · subst h
      rw [if_pos rfl, if_pos List.mem_cons_self]
      by_cases h2 : i < e.length
      · rw [if_pos h2]
      · rw [if_neg h2, slot_out (by omega)]
    · rw [if_neg h]
      by_cases h2 : j ∈ is
      · rw [if_pos h2, if_pos (List.mem_cons_of_mem _ h2)]
      · rw [if_neg h2, if_neg]
        intro z
        rcases List.mem_cons.mp z with z | z
        · exact h z.symm
        · exact h2 z
theorem wipe_get (σ : St) (j : Nat) : ∀ {own : List Nat}, j ∉ own → (wipe σ own)[j]? = σ[j]?
  | [], _ => rfl
  | i :: is, h => by
    unfold wipe
    rw [List.getElem?_set, if_neg fun z => h (by simp [z]), wipe_get σ j fun z => h (List.mem_cons_of_mem _ z)]
theorem wipe_wipe (σ : St) (own : List Nat) : wipe (wipe σ own) own = wipe σ own := by
  have gen : ∀ (us own : List Nat), (∀ i ∈ us, i ∈ own) → wipe (wipe σ own) us = wipe σ own := by
    intro us
    induction us with
    | nil => intro own _; rfl
    | cons i is ih =>
      intro own h
      show (wipe (wipe σ own) is).set i none = wipe σ own
      rw [ih own fun j hj => h j (List.mem_cons_of_mem _ hj)]
      have hi := h i List.mem_cons_self
      clear ih h
      induction own with
      | nil => simp at hi
      | cons k ks ih2 =>
        show ((wipe σ ks).set k none).set i none = (wipe σ ks).set k none
        by_cases e : i = k
        · subst e; rw [List.set_set]
        · rcases List.mem_cons.mp hi with z | z
          · exact absurd z e
          · rw [List.set_comm _ _ (fun z => e z.symm), ih2 z]
  exact gen own own fun _ h => h
theorem slotOk_at {G H : Hp} {σ σ' : St} {j : Nat} {s : Slot} (e : σ'[j]? = σ[j]?) (h : SlotOk W G H σ j s) : SlotOk W G H σ' j s := by
  cases s with
  | un => trivial
  | val d => obtain ⟨v, h1, h2⟩ := h; exact ⟨v, e.trans h1, h2⟩
  | own d => obtain ⟨v, h1, h2⟩ := h; exact ⟨v, e.trans h1, h2⟩
  | par d => obtain ⟨v, h1, h2⟩ := h; exact ⟨v, e.trans h1, h2⟩
theorem hide_own {σ : St} {e : Env} {own : List Nat} {a : Addr} (h : OwnA (wipe σ own) (hideE e own) a) : ∃ j, j ∉ own ∧ (slot e j).isMut = true ∧ σ[j]? = some (some (.ref a)) := by
  obtain ⟨j, h1, h2⟩ := h
  rw [hide_slot] at h1
  by_cases hj : j ∈ own
  · rw [if_pos hj] at h1; cases h1
  · rw [if_neg hj] at h1
    rw [wipe_get σ j hj] at h2
    exact ⟨j, hj, h1, h2⟩
theorem hide_ok {G H : Hp} {σ : St} {e : Env} (own : List Nat) (s : StOk W G H σ e) : StOk W G H (wipe σ own) (hideE e own) where
  gh := s.gh
  len := by rw [hide_len, wipe_length]; exact s.len
  sl := fun j => by
    rw [hide_slot]
    by_cases hj : j ∈ own
    · rw [if_pos hj]; trivial
    · rw [if_neg hj]
      exact slotOk_at (wipe_get σ j hj) (s.sl j)
  inj := fun i j a hij h1 h2 h3 h4 => by
    rw [hide_slot] at h1 h2
    by_cases hi : i ∈ own
    · rw [if_pos hi] at h1; cases h1
    · by_cases hj : j ∈ own
      · rw [if_pos hj] at h2; cases h2
      · rw [if_neg hi] at h1
        rw [if_neg hj] at h2
        rw [wipe_get σ i hi] at h3
        rw [wipe_get σ j hj] at h4
        exact s.inj i j a hij h1 h2 h3 h4
theorem back_ok {G1 H1 G2 H2 : Hp} {σ : St} {e1 e2 : Env} {own : List Nat} (s1 : StOk W G1 H1 σ e1) (s2 : StOk W G2 H2 (wipe σ own) e2) (k : Keep (OwnA (wipe σ own) (hideE e1 own)) G1 H1 (OwnA (wipe σ own) e2) G2 H2) :
    StOk W G2 H2 σ (backE e2 e1 own) ∧ Keep (OwnA σ e1) G1 H1 (OwnA σ (backE e2 e1 own)) G2 H2 := by
  have hl : e2.length = e1.length := by rw [s2.len, wipe_length, s1.len]
  have nin : ∀ j a, j ∈ own → (slot e1 j).isMut = true → σ[j]? = some (some (.ref a)) → ¬ OwnA (wipe σ own) (hideE e1 own) a := fun j a hj h1 h2 ho => by
    obtain ⟨i, hi, q1, q2⟩ := hide_own ho
    exact s1.inj j i a (fun z => hi (z ▸ hj)) h1 q1 h2 q2
  refine ⟨⟨k.gh, by rw [back_len, s2.len, wipe_length], fun j => ?_, fun i j a hij h1 h2 h3 h4 => ?_⟩, ⟨k.gg, k.gh, fun a o h1 h2 => k.hh a o h1 fun z => ?_, fun a o h1 h2 h3 => k.hg a o h1 (fun z => ?_) h3, fun a ⟨j, h1, h2⟩ => ?_⟩⟩
  · rw [back_slot e2 e1 hl]
    by_cases hj : j ∈ own
    · rw [if_pos hj]
      have q := s1.sl j
      cases w : slot e1 j with
      | un => trivial
      | val d => rw [w] at q; obtain ⟨v, q1, q2⟩ := q; exact ⟨v, q1, Rep.mono k.gg _ _ q2⟩
      | _ =>
        have mj : (slot e1 j).isMut = true := by rw [w]; rfl
        obtain ⟨d, a, z1, z2, z3, z4⟩ := s1.mut mj
        obtain ⟨o, ho⟩ := z4.some
        have na := nin j a hj mj z2
        rw [← w]
        exact slotOk_mut mj z1 z2 (k.hg a o ho na z3) (z4.mono k.gg fun u hu => k.hh a u hu na)
    · rw [if_neg hj]
      exact slotOk_at (wipe_get σ j hj).symm (s2.sl j)
  · rw [back_slot e2 e1 hl] at h1 h2
    have mixed : ∀ i j, i ∈ own → j ∉ own → (slot e1 i).isMut = true → (slot e2 j).isMut = true → σ[i]? = some (some (.ref a)) → σ[j]? = some (some (.ref a)) → False := fun i j hi hj m1 m2 q1 q2 => by
      rcases k.ss a ⟨j, m2, by rw [wipe_get σ j hj]; exact q2⟩ with z | z
      · exact nin i a hi m1 q1 z
      · obtain ⟨o, ho⟩ := s1.own_some ⟨i, m1, q1⟩
        rw [ho] at z
        cases z
    by_cases hi : i ∈ own
    · rw [if_pos hi] at h1
      by_cases hj : j ∈ own
      · rw [if_pos hj] at h2
        exact s1.inj i j a hij h1 h2 h3 h4
      · rw [if_neg hj] at h2
        exact mixed i j hi hj h1 h2 h3 h4
    · rw [if_neg hi] at h1
      by_cases hj : j ∈ own
      · rw [if_pos hj] at h2
        exact mixed j i hj hi h2 h1 h4 h3
      · rw [if_neg hj] at h2
        exact s2.inj i j a hij h1 h2 (by rw [wipe_get σ i hi]; exact h3) (by rw [wipe_get σ j hj]; exact h4)
  · obtain ⟨j, hj, q1, q2⟩ := hide_own z; exact h2 ⟨j, q1, q2⟩
  · obtain ⟨j, hj, q1, q2⟩ := hide_own z; exact h2 ⟨j, q1, q2⟩
  · rw [back_slot e2 e1 hl] at h1
    by_cases hj : j ∈ own
    · rw [if_pos hj] at h1; exact .inl ⟨j, h1, h2⟩
    · rw [if_neg hj] at h1
      rcases k.ss a ⟨j, h1, by rw [wipe_get σ j hj]; exact h2⟩ with z | z
      · obtain ⟨i, hi, q1, q2⟩ := hide_own z; exact .inl ⟨i, q1, q2⟩
      · exact .inr z
/-- a thing that is nobody's here is changed -/
theorem StOk.other {G H : Hp} {σ : St} {e : Env} (s : StOk W G H σ e) {a : Addr} {o : HO} (hg : G a = none) (ho : ¬ OwnA σ e a) : StOk W G (upd H a o) σ e :=
  s.grow (Ex.refl G) (fun b u h => by rw [upd_ne (ne_of_none h hg)]; exact s.gh b u h) (fun b u hb h => by rw [upd_ne (show b ≠ a from fun z => ho (by rw [← z]; exact hb))]; exact h) fun b hb => s.own_none hb
def WTs (X : Cx) (ifs : List Expr) : TT := fun σ H Q => ∀ (pins : List (Addr × Obj)) (s : Shared), Inv X pins σ H s →
    wpAny (model X.prog X.w) X.A (forIn ifs true fun c r => if r = true then do let ok ← isTrue c X.env (eval c X.env); pure (ForInStep.yield ok) else pure (ForInStep.yield r)) (TP X pins σ Q) X.xe s
theorem ptsU {ifs : List Expr} : PTs X ifs (WTs X ifs) := ⟨fun pins s _ _ _ I h => h pins s I⟩
theorem of_pts {ifs : List Expr} {t : TT} {σ : St} {H : Hp} {Q : Bool → Hp → Prop} (p : PTs X ifs t) (h : t σ H Q) : WTs X ifs σ H Q := fun pins s I => p.run pins s σ H Q I h
def GoodTs (X : Cx) (W : Wd) (Wx : WX) (ifs : List Expr) (m : M Bool) : Prop := ∀ (env : Env) (σ : St) (G H : Hp) (Q : Bool → Hp → Prop), StOk W G H σ env → Aft W BOk σ (OwnA σ env) G H Q Wx (m env) → WTs X ifs σ H Q
abbrev WF : WX := fun _ _ _ _ => False
theorem takesF : Takes X WF := fun _ _ x => by
  obtain ⟨_, _, _, _, _, _, _, _, _, _, _, _, _, _, _, _, z⟩ := x
  exact z.elim
abbrev blkX (X : Cx) (scope : Scope) (s : Shared) (H : Hp) (Cc : Addr) (cl : List (Str × Addr)) (fp : List Addr) : Cx := X.blk s H scope (compEnvC scope cl Cc X.env) fp
theorem CxOk.blk (cx : CxOk X W C T Wx) (scope : Scope) (s : Shared) (H : Hp) (Cc : Addr) (cl : List (Str × Addr)) (fp : List Addr) : CxOk (blkX X scope s H Cc cl fp) W C T WF :=
  ⟨cx.K, cx.nd, cx.calm, cx.units, cx.blt, cx.cst, takesF, cx.fns, cx.fvn, cx.fvc⟩
theorem blk_scope (scope : Scope) (s : Shared) (H : Hp) (Cc : Addr) (cl : List (Str × Addr)) (fp : List Addr) : (blkX X scope s H Cc cl fp).env.scope = rl scope X.env.scope := rfl
theorem drop_cons {α : Type} {xs : List α} {i : Nat} {x : α} {r : List α} (h : xs.drop i = x :: r) : xs[i]? = some x ∧ xs.drop (i + 1) = r ∧ i < xs.length := by
  have hi : i < xs.length := by
    rcases Nat.lt_or_ge i xs.length with z | z
    · exact z
    · rw [List.drop_eq_nil_of_le z] at h; cases h
  rw [List.drop_eq_getElem_cons hi] at h
  injection h with h1 h2
  exact ⟨by rw [List.getElem?_eq_getElem hi, h1], h2, hi⟩
theorem Keep.sub {S S' : Addr → Prop} {G H : Hp} (x : Ex G H) (h : ∀ a, S' a → S a) : Keep S G H S' G H := ⟨Ex.refl G, x, fun _ _ h _ => h, fun _ _ _ _ h => h, fun a q => .inl (h a q)⟩
/-- the thing at D let out of sight -/
theorem Keep.at {S S' : Addr → Prop} {G H G' H' : Hp} {D : Addr} {o : HO} (k : Keep S G H S' G' H') (hS' : ¬ S' D) (hG' : G' D = none) : Keep S G (upd H D o) S' G' (upd H' D o) := by
  refine ⟨k.gg, fun b u h => ?_, fun b u h n => ?_, fun b u h n g => ?_, fun b h => ?_⟩
  · have hb : b ≠ D := ne_of_none h hG'
    rw [upd_ne hb]
    exact k.gh b u h
  · by_cases hb : b = D
    · subst hb; rw [upd_same] at h ⊢; exact h
    · rw [upd_ne hb] at h ⊢; exact k.hh b u h n
  · by_cases hb : b = D
    · subst hb; exact hG'
    · rw [upd_ne hb] at h; exact k.hg b u h n g
  · by_cases hb : b = D
    · subst hb; exact absurd h hS'
    · rcases k.ss b h with z | z
      · exact .inl z
      · exact .inr (by rw [upd_ne hb]; exact z)
def tgB (X : Cx) (scope : Scope) (t : Expr) : TG := fun v σ H Q => ∀ s H0 Cc cl fp, WG (blkX X scope s H0 Cc cl fp) t v σ H Q
def ttB (X : Cx) (scope : Scope) (ifs : List Expr) : TT := fun σ H Q => ∀ s H0 Cc cl fp, WTs (blkX X scope s H0 Cc cl fp) ifs σ H Q
def teB (X : Cx) (scope : Scope) (e : Expr) : TE := fun σ H Q => ∀ s H0 Cc cl fp, WE (blkX X scope s H0 Cc cl fp) e σ H Q
theorem comp_core (cx : CxOk X W C T Wx) {k : ItK} {es : List Expr} {tg : Tg} {tg' iter elt : Expr} {ifs : List Expr} {own : List Nat} {scope : Scope} {mA : M (List Opd)} {mC : M Bool} {mE : M Res}
    (hit : itParts X.env.scope k iter = some es) (hen : k = .enum → isTup tg' = true) (hT : chkT X.N (rl scope X.env.scope) (fun x => scope.names.lookup x == some .cell) tg tg' = true) (hsl : ∀ i ∈ tgSlots tg, i ∈ own)
    (hA : GoodL X W Wx es mA) (hC : ∀ s H0 Cc cl fp, GoodTs (blkX X scope s H0 Cc cl fp) W WF ifs mC) (hE : ∀ s H0 Cc cl fp, GoodE (blkX X scope s H0 Cc cl fp) W WF elt mE)
    {env : Env} {σ : St} {G H : Hp} {Q : VK} (s : StOk W G H σ env) (a : Aft W (ResOk W) σ (OwnA σ env) G H Q Wx (compM (itM k mA) tg own mC (fz mE) env)) :
    tLc (WI X tg' iter) (tgB X scope tg') (ttB X scope ifs) (teB X scope elt) own σ H Q := by
  unfold compM itM at a
  -- what is walked
  cases qA : mA env with
  | no => rw [qA] at a; exact a.elim
  | ex x e' => rw [qA] at a; exact a.elim
  | ok os e1 =>
    rw [qA] at a
    simp only at a
    cases qo : opds e1 os with
    | none => rw [qo] at a; exact a.elim
    | some ds =>
      rw [qo] at a
      simp only at a
      by_cases hm : (muts e1 os).isEmpty = true
      · rw [if_pos hm] at a
        cases qi : items k ds with
        | none => rw [qi] at a; exact a.elim
        | some xs =>
          rw [qi] at a
          simp only [ofO, Rs.bind] at a
          cases qc : compL tg own mC (fz mE) xs [] (hideE e1 own) with
          | no => rw [qc] at a; exact a.elim
          | ex x e2 => rw [qc] at a; exact a.elim
          | ok out e2 =>
            rw [qc] at a
            simp only at a
            refine it_ok cx hit hen qi (hA env σ G H _ s ?_)
            rw [qA]
            intro vs G1 H1 k1 s1 r1
            refine ⟨G1, s1.gh, opd_fz s1 r1 qo hm, fun J P wk pG D hD => ?_⟩
            have gD : G1 D = none := gnone s1.gh hD
            have sI := hide_ok own s1
            -- the word of the walk
            refine ⟨fun i m H2 => m = xs.length - i ∧ i ≤ xs.length ∧ ∃ G2 acc av ei, StOk W G2 H2 (wipe σ own) ei ∧ Keep (OwnA (wipe σ own) (hideE e1 own)) G1 (upd H1 D (.lst [])) (OwnA (wipe σ own) ei) G2 (upd H2 D (.lst [])) ∧ P G2 ∧ G2 D = none ∧ H2 D = some (.lst av) ∧ Reps W G2 acc av ∧ ¬ OwnA (wipe σ own) ei D ∧ compL tg own mC (fz mE) (xs.drop i) acc ei = .ok out e2, ⟨xs.length, by simp, Nat.zero_le _, G1, [], [], hideE e1 own, ?_, ?_, pG, gD, upd_same, by simp only [Reps], ?_, by simpa using qc⟩, ?_⟩
            · exact sI.other gD fun ho => by
                obtain ⟨o, h1⟩ := sI.own_some ho
                rw [hD] at h1; cases h1
            · rw [upd_upd]
              exact Keep.refl (sI.gh.trans (Ex.new hD))
            · intro ho
              obtain ⟨o, h1⟩ := sI.own_some ho
              rw [hD] at h1; cases h1
            · rintro i m H2 ⟨rfl, hi, G2, acc, av, ei, s2, k2, pG2, gD2, hD2, ra, nD, run⟩
              cases hx : xs.drop i with
              | nil =>
                -- the end
                have hlen : xs.length ≤ i := by
                  have := congrArg List.length hx
                  simp at this
                  omega
                rw [hx] at run
                simp only [compL, Rs.ok.injEq] at run
                obtain ⟨rfl, rfl⟩ := run
                refine .inl ⟨wk.stop i G2 H2 pG2 s2.gh hlen, ?_⟩
                -- back to the slots of the def
                have kk : Keep (OwnA (wipe σ own) (hideE e1 own)) G1 H1 (OwnA (wipe σ own) ei) G2 H2 := by
                  refine ⟨k2.gg, s2.gh, fun b o h1 h2 => ?_, fun b o h1 h2 h3 => ?_, fun b h1 => ?_⟩
                  · have hb : b ≠ D := ne_of_none h1 hD
                    have := k2.hh b o (by rw [upd_ne hb]; exact h1) h2
                    rwa [upd_ne hb] at this
                  · have hb : b ≠ D := ne_of_none h1 hD
                    exact k2.hg b o (by rw [upd_ne hb]; exact h1) h2 h3
                  · rcases k2.ss b h1 with z | z
                    · exact .inl z
                    · by_cases hb : b = D
                      · subst hb; exact .inr hD
                      · rw [upd_ne hb] at z; exact .inr z
                obtain ⟨s3, k3⟩ := back_ok s1 s2 kk
                refine a (.ref D) G2 H2 (k1.trans k3) s3 ⟨D, rfl, gD2, ⟨av, hD2, ra⟩, fun ho => ?_, k1.fresh (.inr hD)⟩
                rcases k3.ss D ho with z | z
                · obtain ⟨o, h1⟩ := s1.own_some z
                  rw [hD] at h1; cases h1
                · obtain ⟨j, h1, h2⟩ := ho
                  have hl : ei.length = e1.length := by rw [s2.len, wipe_length, s1.len]
                  rw [back_slot ei e1 hl] at h1
                  by_cases hj : j ∈ own
                  · rw [if_pos hj] at h1
                    obtain ⟨o, h3⟩ := s1.own_some ⟨j, h1, h2⟩
                    rw [hD] at h3; cases h3
                  · rw [if_neg hj] at h1
                    exact nD ⟨j, h1, by rw [wipe_get σ j hj]; exact h2⟩
              | cons x rest =>
                obtain ⟨hx1, hx2, hx3⟩ := drop_cons hx
                rw [hx] at run
                simp only [compL] at run
                cases qb : bindT tg x ei with
                | none => rw [qb] at run; cases run
                | some e3 =>
                  rw [qb] at run
                  simp only at run
                  refine .inr ⟨wk.go i G2 H2 pG2 s2.gh hx3, fun H' => ∃ m', m' < xs.length - i ∧ (m' = xs.length - (i + 1) ∧ i + 1 ≤ xs.length ∧ ∃ G2 acc av ei, StOk W G2 H' (wipe σ own) ei ∧ Keep (OwnA (wipe σ own) (hideE e1 own)) G1 (upd H1 D (.lst [])) (OwnA (wipe σ own) ei) G2 (upd H' D (.lst [])) ∧ P G2 ∧ G2 D = none ∧ H' D = some (.lst av) ∧ Reps W G2 acc av ∧ ¬ OwnA (wipe σ own) ei D ∧ compL tg own mC (fz mE) (xs.drop (i + 1)) acc ei = .ok out e2), fun H' h => h, fun xv H3 hy => ?_⟩
                  obtain ⟨G3, g3, rx⟩ := wk.yld i G2 H2 xv H3 x pG2 s2.gh hx1 hy
                  have s3 := g3.st s2
                  have hD3 : H3 D = some (.lst av) := g3.hh D _ hD2
                  have gD3 : G3 D = none := g3.hg D _ hD2 gD2
                  intro s0 H0 Cc cl fp
                  refine bindT_ok (cx.blk scope s0 H0 Cc cl fp) tg tg' x xv (wipe σ own) ei e3 _ hT qb s3 rx fun σ2 s4 o4 p4 w4 => ?_
                  have hw : wipe σ2 own = wipe σ own := by
                    rw [w4 own hsl, wipe_wipe]
                  refine ⟨hw, ?_⟩
                  intro s0 H0 Cc cl fp
                  have nD3 : ¬ OwnA σ2 e3 D := fun z => nD (o4 D z)
                  refine hC s0 H0 Cc cl fp e3 σ2 G3 H3 _ s4 ?_
                  cases qC : mC e3 with
                  | no => rw [qC] at run; cases run
                  | ex x e4 => rw [qC] at run; cases run
                  | ok b e4 =>
                    rw [qC] at run
                    intro b' G4 H4 k4 s5 rb
                    have rb : b' = b := rb
                    subst rb
                    have hD4 : H4 D = some (.lst av) := k4.hh D _ hD3 nD3
                    have gD4 : G4 D = none := k4.hg D _ hD3 nD3 gD3
                    have nD4 : ¬ OwnA σ2 e4 D := fun z => by
                      rcases k4.ss D z with z | z
                      · exact nD3 z
                      · rw [hD3] at z; cases z
                    have kTo : Keep (OwnA (wipe σ own) ei) G2 H2 (OwnA σ2 e4) G4 H4 := (g3.keep.trans (Keep.sub s3.gh o4)).trans k4
                    cases b' with
                    | false =>
                      simp only at run
                      rw [if_neg Bool.false_ne_true]
                      have nD5 : ¬ OwnA (wipe σ own) (hideE e4 own) D := fun z => by
                        rw [← hw] at z
                        obtain ⟨j, _, q1, q2⟩ := hide_own z
                        exact nD4 ⟨j, q1, q2⟩
                      refine ⟨xs.length - (i + 1), by omega, rfl, hx3, G4, acc, av, hideE e4 own, ?_, ?_, wk.mono G2 G4 (g3.gg.trans k4.gg) pG2, gD4, hD4, Reps.mono (g3.gg.trans k4.gg) _ _ ra, nD5, by rw [hx2]; exact run⟩
                      · have := hide_ok own s5
                        rw [hw] at this
                        exact this
                      · refine k2.trans (Keep.at (kTo.trans (Keep.sub s5.gh fun b hb => ?_)) nD5 gD4)
                        rw [← hw] at hb
                        obtain ⟨j, _, q1, q2⟩ := hide_own hb
                        exact ⟨j, q1, q2⟩
                    | true =>
                      simp only at run
                      rw [if_pos rfl]
                      intro s0 H0 Cc cl fp
                      refine good_fz (hE s0 H0 Cc cl fp) s5 ?_
                      cases qE : fz mE e4 with
                      | no => rw [qE] at run; cases run
                      | ex x e5 => rw [qE] at run; cases run
                      | ok d e5 =>
                        rw [qE] at run
                        simp only at run
                        intro y G5 H5 k5 s6 ry
                        have hD5 : H5 D = some (.lst av) := k5.hh D _ hD4 nD4
                        have gD5 : G5 D = none := k5.hg D _ hD4 nD4 gD4
                        have nD5 : ¬ OwnA σ2 e5 D := fun z => by
                          rcases k5.ss D z with z | z
                          · exact nD4 z
                          · rw [hD4] at z; cases z
                        by_cases hb : acc.length < big
                        · rw [if_pos hb] at run
                          have nD6 : ¬ OwnA (wipe σ own) (hideE e5 own) D := fun z => by
                            rw [← hw] at z
                            obtain ⟨j, _, q1, q2⟩ := hide_own z
                            exact nD5 ⟨j, q1, q2⟩
                          have gg : Ex G2 G5 := (g3.gg.trans k4.gg).trans k5.gg
                          have ry : Rep W G5 d y := ry
                          refine ⟨av, hD5, Nat.lt_of_lt_of_le (by rw [reps_len ra]; exact hb) (by decide), xs.length - (i + 1), by omega, rfl, hx3, G5, acc ++ [d], av ++ [y], hideE e5 own, ?_, ?_, wk.mono G2 G5 gg pG2, gD5, upd_same, reps_append (Reps.mono gg _ _ ra) (by simp only [Reps]; exact ⟨y, [], rfl, ry, rfl⟩), nD6, by rw [hx2]; exact run⟩
                          · have := hide_ok own s6
                            rw [hw] at this
                            exact this.other gD5 nD6
                          · rw [upd_upd]
                            refine k2.trans (Keep.at ((kTo.trans k5).trans (Keep.sub s6.gh fun b hb => ?_)) nD6 gD5)
                            rw [← hw] at hb
                            obtain ⟨j, _, q1, q2⟩ := hide_own hb
                            exact ⟨j, q1, q2⟩
                        · rw [if_neg hb] at run
                          cases run
      · rw [if_neg hm] at a
        exact a.elim
end
end Itp
set_option Elab.async false
set_option linter.all false
set_option maxRecDepth 100000
set_option maxHeartbeats 4000000
namespace Itp
open PySem L2
section
variable {W : Wd} {C : Cfg} {T : Tab}
theorem cmp_mark {o : Op} {op : CmpOp} (h : cmpOf o = some op) (b : Expr) : behindInMarks op b = false := by
  cases o <;> simp only [cmpOf, reduceCtorEq, Option.some.injEq] at h <;> subst h <;> exact nomark b
/-- an operation, its operands being good -/
theorem op_core {X : Cx} {Wx : WX} {o : Op} {es : List Expr} {m : M (List Opd)} (hL : GoodL X W Wx es m)
    (hP : ∀ (env : Env) (σ : St) (G H : Hp) (R : List V → Hp → Prop) (p : Nat → V → Prop) (os : List Opd) (e1 : Env), m env = .ok os e1 → StOk W G H σ env → (∀ (i : Nat) (x : Opd), os[i]? = some x → ∀ (G : Hp) (v : V), OpdV W G σ x v → p i v) →
      (∀ vs G' H', Keep (OwnA σ env) G H (OwnA σ e1) G' H' → StOk W G' H' σ e1 → OpdsV W G' σ os vs → R vs H') → WQP X es p σ H R)
    {env : Env} {σ : St} {G H : Hp} {Q : VK} (s : StOk W G H σ env) (a : Aft W (ResOk W) σ (OwnA σ env) G H Q Wx (opM o m env)) :
    (disp o = true → WQ X es σ H fun vs H1 => PRd W o vs H1 Q) ∧ (disp o = false → WQP X es (midP o) σ H fun vs H1 => PRn W o vs H1 Q) := by
  unfold opM at a
  cases q : m env with
  | no => rw [q] at a; exact a.elim
  | ex x e1 =>
    rw [q] at a
    simp only at a
    by_cases hm : midOp o = true
    · rw [if_pos hm] at a; exact a.elim
    · rw [if_neg hm] at a
      exact ⟨fun hd => hL env σ G H _ s (by rw [q]; exact a), fun hd => wqp_of (midP_triv (by simpa using hm)) (hL env σ G H _ s (by rw [q]; exact a))⟩
  | ok os e1 =>
    rw [q] at a
    simp only at a
    cases qo : opds e1 os with
    | none => rw [qo] at a; exact a.elim
    | some ds =>
      rw [qo] at a
      simp only at a
      refine ⟨fun hd => ?_, fun hd' => ?_⟩
      · by_cases hm : (muts e1 os).isEmpty = true
        · rw [hd, hm] at a
          have hmid : midOp o = false := by cases o <;> simp [disp] at hd <;> rfl
          rw [hmid] at a
          simp only [Bool.not_true, Bool.and_false, Bool.false_eq_true, if_false, Bool.false_and] at a
          cases qp : prim o ds with
          | none => rw [qp] at a; exact a.elim
          | some r =>
            rw [qp] at a
            simp only [ofO] at a
            refine hL env σ G H _ s ?_
            rw [q]
            intro vs G' H' k s' r'
            exact ⟨G', ds, r, s'.gh, opd_fz s' r' qo hm, qp, post_of_aft s' (Aft.step ResOk.bears k a)⟩
        · simp [hd, hm] at a
          exact a.elim
      · rw [hd'] at a
        simp only [Bool.false_and, Bool.false_eq_true, if_false] at a
        by_cases hm : midOp o = true
        · rw [hm] at a
          simp only [Bool.true_and] at a
          by_cases hk : os.any isPk = true
          · rw [if_pos hk] at a; exact a.elim
          · rw [if_neg hk] at a
            cases qp : prim o ds with
            | none => rw [qp] at a; exact a.elim
            | some r =>
              rw [qp] at a
              simp only [ofO] at a
              refine hP env σ G H _ _ os e1 q s (mid_ok (W := W) qo qp (by simpa using hk)) fun vs G' H' k s' r' => ?_
              exact ⟨G', ds, r, s'.gh, opds_ok s' r' qo, qp, post_of_aft s' (Aft.step ResOk.bears k a)⟩
        · have hm' : midOp o = false := by simpa using hm
          rw [hm'] at a
          simp only [Bool.false_and, Bool.false_eq_true, if_false] at a
          cases qp : prim o ds with
          | none => rw [qp] at a; exact a.elim
          | some r =>
            rw [qp] at a
            simp only [ofO] at a
            refine wqp_of (midP_triv hm') (hL env σ G H _ s ?_)
            rw [q]
            intro vs G' H' k s' r'
            exact ⟨G', ds, r, s'.gh, opds_ok s' r' qo, qp, post_of_aft s' (Aft.step ResOk.bears k a)⟩
/-- the peeked or read operand -/
theorem opd_ok {X : Cx} {Wx : WX} {c : E} {e : Expr} (hpk : ∀ i, c = .pk i → ∃ x pos, e = .Name x pos ∧ isVar X.N X.env.scope i x = true) (g : GoodE X W Wx e (ev C c)) {env : Env} {σ : St} {G H : Hp} {Q : VK} (s : StOk W G H σ env)
    (a : Aft W (fun _ _ _ G' _ o v => OpdV W G' σ o v) σ (OwnA σ env) G H Q Wx (opdM c (ev C c) env)) : WE X e σ H Q := by
  by_cases hc : ∃ i, c = .pk i
  · obtain ⟨i, rfl⟩ := hc
    obtain ⟨x, pos, rfl, hv⟩ := hpk i rfl
    simp only [opdM] at a
    have q := s.sl i
    cases w : slot env i with
    | un => rw [w] at a; exact a.elim
    | val d => rw [w] at a q; obtain ⟨v, q1, _⟩ := q; exact isVar_ok hv q1 (a v G H (Keep.refl s.gh) s q1)
    | own d => rw [w] at a q; obtain ⟨v, q1, _⟩ := q; exact isVar_ok hv q1 (a _ G H (Keep.refl s.gh) s q1)
    | par d => rw [w] at a q; obtain ⟨v, q1, _⟩ := q; exact isVar_ok hv q1 (a _ G H (Keep.refl s.gh) s q1)
  · have e1 : opdM c (ev C c) = fun e => (fz (ev C c) e).bind fun d e1 => .ok (.d d) e1 := by
      cases c <;> first | rfl | exact absurd ⟨_, rfl⟩ hc
    rw [e1] at a
    simp only at a
    refine good_fz g s ?_
    cases q : fz (ev C c) env with
    | no => rw [q] at a; exact a
    | ex x e' => rw [q] at a; exact a
    | ok d e' => rw [q] at a; exact fun v G' H' k s' r => a v G' H' k s' r
theorem pk_of {X : Cx} {c : E} {e : Expr} (h : chk T X.N X.env.scope c e = true) : ∀ i, c = .pk i → ∃ x pos, e = .Name x pos ∧ isVar X.N X.env.scope i x = true := fun i hi => by
  subst hi
  cases e <;> simp only [chk, reduceCtorEq, Bool.false_eq_true] at h
  exact ⟨_, _, rfl, h⟩
/-- the arguments of a call, and what it gives -/
theorem call_key {X : Cx} {Wx : WX} {F : Fn} {es : List Expr} {m : M (List Opd)} (hL : GoodL X W Wx es m) {env : Env} {σ : St} {G H : Hp} {Q : VK} (s : StOk W G H σ env) (a : Aft W (ResOk W) σ (OwnA σ env) G H Q Wx (callM F m env)) :
    WQ X es σ H fun vs H1 => spOf W F (vs ++ []) H1 Q (L2.WE Wx σ) := by
  unfold callM at a
  refine hL env σ G H _ s ?_
  refine aft_bind ResOk.bears a fun os e1 vs G1 H1 qm k1 s1 r1 a1 => ?_
  have r1 : OpdsV W G1 σ os vs := r1
  rw [List.append_nil]
  cases qa : toArgs e1 os with
  | none => rw [qa] at a1; exact a1.elim
  | some as =>
    rw [qa] at a1
    simp only at a1
    by_cases nd : nodup (muts e1 os) = true
    · rw [if_pos nd] at a1
      obtain ⟨sa, sub⟩ := args_ok s1 r1 qa nd
      refine ⟨G1, as, (args_at r1 qa).1, sa, ?_⟩
      cases qf : F as with
      | no => rw [qf] at a1; exact a1.elim
      | ok r fin =>
        rw [qf] at a1
        simp only at a1
        intro v G' H' kk hf rr
        cases qb : putBack e1 (muts e1 os) fin with
        | none => rw [qb] at a1; exact a1.elim
        | some e2 =>
          rw [qb] at a1
          obtain ⟨k2, s2, own, _⟩ := after_call s1 r1 qa nd kk hf qb
          refine a1 v G' H' k2 s2 ?_
          cases r with
          | val d => exact rr
          | new d =>
            obtain ⟨b, h1, h2, h3, h4, h5⟩ := rr
            have hb1 : H1 b = none := by
              rcases h5 with h5 | h5
              · exact absurd h5 h4
              · exact h5
            refine ⟨b, h1, h2, h3, fun ho => ?_, .inr hb1⟩
            obtain ⟨o, ho⟩ := s1.own_some ((own b).mp ho)
            rw [hb1] at ho
            cases ho
      | ex xc fin =>
        rw [qf] at a1
        simp only at a1
        intro c d G' H' kk hf rr
        cases qb : putBack e1 (muts e1 os) fin with
        | none => rw [qb] at a1; exact a1.elim
        | some e2 =>
          rw [qb] at a1
          obtain ⟨k2, s2, own, _⟩ := after_call s1 r1 qa nd kk hf qb
          exact a1 c d G' H' k2 s2 rr
    · rw [if_neg nd] at a1
      exact a1.elim
/-- a call of a def -/
theorem call_ok {X : Cx} {Wx : WX} (cx : CxOk X W C T Wx) {x : Str} {f : Nat} {p pos : Pos} {es : List Expr} {m : M (List Opd)} (hl : lk T.fn x = some f) (hg : glB X.env.scope x = true) (hdb : (x == ("__debug__" : Str)) = false) (hs : es.all notStar = true) (hL : GoodL X W Wx es m) :
    GoodE X W Wx (.Call (.Name x p) es [] pos) (callM (C.fns f) m) := by
  intro env σ G H Q s a
  obtain ⟨fa, fd, k, ps, F, hr, hm, hk, hb⟩ := cx.fns x f hl
  have key := call_key (F := C.fns f) hL s a
  cases es with
  | nil =>
    intro pins s0 I
    refine wpAny_Call_Name_kw (ld_glob I (glB_gl hg) hm ?_ hdb)
    exact PySem.W.callWith_K0 I.kIn hk (run_fnSD (us := []) (E := L2.WE Wx) F hr hb .nil (passAt cx.tk σ) I .nil key)
  | cons e es =>
    have hs' := hs
    simp only [List.all_cons, Bool.and_eq_true] at hs
    exact of_pe (pe_callSD F hr (glB_gl hg) hm hk hb .nil (fun σ => passAt cx.tk σ) (paU hs') hdb (star_each hs.1) (star_any pos es hs.2).1) key
/-- a call of a def that an expression gives -/
theorem callV_ok {X : Cx} {Wx : WX} (cx : CxOk X W C T Wx) {a b e : Expr} {p pos : Pos} {es : List Expr} {mf : M Res} {m : M (List Opd)} (hs : (e :: es).all notStar = true) (hf : GoodE X W Wx (.Subscript a b p) mf) (hL : GoodL X W Wx (e :: es) m) :
    GoodE X W Wx (.Call (.Subscript a b p) (e :: es) [] pos) (fun env => (mf env).bind fun r e1 => match r with
    | .val (.fn g) => (match C.fv g with
      | some F => callM F m e1
      | none => .no)
    | _ => .no) := by
  intro env σ G H Q s aa pins s0 I
  have hs' := hs
  simp only [List.all_cons, Bool.and_eq_true] at hs
  have fe : WE X (.Subscript a b p) σ H (fun v H1 => ∃ fa F fd k ps, v = .ref fa ∧ FnOk X.prog X.w X.K X.mg X.base (L2.CX X.prog X.w) k fa fd ps (spOf W F) ∧ Room k X.A ∧ PySem.W.keepIn X.K (.ref fa) = true ∧ Binds X.K fd ps [] ∧ WQ X (e :: es) σ H1 fun vs H2 => spOf W F (vs ++ []) H2 Q (L2.WE Wx σ)) := by
    refine hf env σ G H _ s (aft_bind ResOk.bears aa fun r e1 v G1 H1 _ k1 s1 r1 a1 => ?_)
    match r, r1, a1 with
    | .val (.fn g), r1, a1 =>
      have r1 : Rep W G1 (.fn g) v := r1
      simp only [Rep] at r1
      obtain ⟨fa, hfa, rfl⟩ := r1
      simp only at a1
      cases q : C.fv g with
      | none => rw [q] at a1; exact a1.elim
      | some F =>
        rw [q] at a1
        obtain ⟨fd, k, ps, F1, hr, hk, hb⟩ := cx.fvc g F fa q hfa
        exact ⟨fa, F, fd, k, ps, rfl, F1, hr, hk, hb, call_key hL s1 a1⟩
    | .val .non, _, a1 => exact a1.elim
    | .val (.bl _), _, a1 => exact a1.elim
    | .val (.int _), _, a1 => exact a1.elim
    | .val (.str _), _, a1 => exact a1.elim
    | .val (.tup _), _, a1 => exact a1.elim
    | .val (.lst _), _, a1 => exact a1.elim
    | .val (.dct _), _, a1 => exact a1.elim
    | .val (.scr _), _, a1 => exact a1.elim
    | .new _, _, a1 => exact a1.elim
  refine PyProof.Rows.Call_ (L2.thn (fe pins s0 I) fun u s1 ⟨v, H1, I1, r1, fa, F, fd, k, ps, ev, F1, hr, hk, hb, key⟩ => ?_)
  subst ev
  cases r1
  refine PySem.W.callWith_K (h₀ := X.base) I.ok.mod.kin hk (L2.thn ((paU hs').run pos pins s1 σ _ _ I1 key) fun us s2 ⟨vs, H2, I2, r, q⟩ => ⟨I2.kIn, ?_⟩) (star_each hs.1) (star_any pos es hs.2).1
  exact run_fnSD (E := L2.WE Wx) F1 hr hb .nil (passAt cx.tk σ) I2 r q
end
end Itp
set_option Elab.async false
set_option linter.all false
set_option maxRecDepth 100000
set_option maxHeartbeats 4000000
namespace Itp
open PySem L2
open PyProof.Rows (Compare_chain chain_link chain_last isTrue_chain test_link test_last ite_tt ite_ff)
section
variable {W : Wd} {C : Cfg} {T : Tab}
theorem OpdOk.bears {σ : St} : Bears (fun (_ : Addr → Prop) (_ : Hp) (_ : Addr → Prop) (G' _ : Hp) (o : Opd) (v : V) => OpdV W G' σ o v) := fun _ _ _ _ _ _ _ _ _ _ h => h
theorem own_map (N : List Str) (own : List Nat) : (own.map fun i => ((N.getD i "", i) : Str × Nat)).map (·.2) = own := by
  rw [List.map_map]
  conv => rhs; rw [← List.map_id own]
  exact List.map_congr_left fun i _ => rfl
theorem noset_fold {e : Expr} (h : notSet e = true) : ∀ (env : PySem.Env) (x : Value), foldedSetIterable e env x = pure x := fun env x => by
  cases e <;> first | rfl | simp [notSet] at h
theorem aft_asB' {Wx : WX} {m : M Res} {env : Env} {σ : St} {S : Addr → Prop} {G H : Hp} {Q : VK} (h : Aft W (ResOk W) σ S G H Q Wx ((asB m env).bind fun b e2 => .ok (.val (.bl b)) e2)) : Aft W (ResOk W) σ S G H Q Wx (m env) := by
  unfold asB at h
  cases q : m env with
  | no => rw [q] at h; exact h
  | ex x e' => rw [q] at h; exact h
  | ok r e' =>
    rw [q] at h
    match r, h with
    | .val (.bl b), h => exact h
theorem asB_re (r : Rs Bool) (f : Bool → Bool) : ((r.bind fun b e2 => Rs.ok (Res.val (.bl (f b))) e2).bind fun r e1 => match r with
    | .val (.bl b) => Rs.ok b e1
    | _ => .no) = r.bind fun b e2 => .ok (f b) e2 := by cases r <;> rfl
theorem asB_and (C : Cfg) (c1 c2 : E) (e : Env) : asB (ev C (.and c1 c2)) e = (asB (ev C c1) e).bind fun b e1 => if b then asB (ev C c2) e1 else .ok false e1 := by
  show (ev C (.and c1 c2) e).bind _ = _
  simp only [ev]
  cases q : asB (ev C c1) e with
  | no => rfl
  | ex x e' => rfl
  | ok b e' =>
    cases b with
    | false => rfl
    | true =>
      simp only [Rs.bind, if_true]
      cases q2 : asB (ev C c2) e' <;> rfl
theorem asB_or (C : Cfg) (c1 c2 : E) (e : Env) : asB (ev C (.or c1 c2)) e = (asB (ev C c1) e).bind fun b e1 => if b then .ok true e1 else asB (ev C c2) e1 := by
  show (ev C (.or c1 c2) e).bind _ = _
  simp only [ev]
  cases q : asB (ev C c1) e with
  | no => rfl
  | ex x e' => rfl
  | ok b e' =>
    cases b with
    | true => rfl
    | false =>
      simp only [Rs.bind, Bool.false_eq_true, if_false]
      cases q2 : asB (ev C c2) e' <;> rfl
theorem asB_not (C : Cfg) (c1 : E) (e : Env) : asB (ev C (.not c1)) e = (asB (ev C c1) e).bind fun b e1 => .ok (!b) e1 := by
  show (ev C (.not c1) e).bind _ = _
  simp only [ev]
  cases q : asB (ev C c1) e <;> rfl
theorem pwU {X : Cx} {op : BoolOp} {vs : List Expr} {pos : Pos} : PW X (.BoolOp op vs pos) (WT X (.BoolOp op vs pos)) := ⟨fun whole pins s σ H Q I h => by
  have e : isTrue (.BoolOp op vs pos) X.env whole = isTrue (.BoolOp op vs pos) X.env (eval (.BoolOp op vs pos) X.env) := by rfl
  rw [e]
  exact h pins s I⟩
/-- a op b op' c -/
theorem chain_q {X : Cx} {Wx : WX} (cx : CxOk X W C T Wx) {o p : Op} {q r : CmpOp} {x y z : Expr} {ma mb mc : M Res} (hq : cmpOf o = some q) (hr : cmpOf p = some r) (ga : GoodE X W Wx x ma) (gb : GoodE X W Wx y mb) (gc : GoodE X W Wx z mc)
    {env : Env} {σ : St} {G H : Hp} {Q : VK} (s : StOk W G H σ env) (a : Aft W (ResOk W) σ (OwnA σ env) G H Q Wx ((fz ma env).bind fun x e1 => (fz mb e1).bind fun y e2 => match prim o [x, y] with
    | some (.val (.bl true)) => (fz mc e2).bind fun z e3 => ofO (prim p [y, z]) e3
    | some (.val (.bl false)) => .ok (.val (.bl false)) e2
    | _ => .no)) : tChain (PR2 W o) (PR2 W p) (WE X x) (WE X y) (WE X z) σ H Q := by
  refine good_fz ga s (aft_bind ResOk.bears a fun d1 e1 v1 G1 H1 _ k1 s1 r1 a1 => ?_)
  refine good_fz gb s1 (aft_bind ResOk.bears a1 fun d2 e2 v2 G2 H2 _ k2 s2 r2 a2 => ?_)
  have r1 : Rep W G2 d1 v1 := Rep.mono k2.gg _ _ r1
  have r2 : Rep W G2 d2 v2 := r2
  have rr : RepSs W G2 H2 [d1, d2] [v1, v2] := by simp only [RepSs]; exact ⟨v1, [v2], rfl, .inl r1, v2, [], rfl, .inl r2, rfl⟩
  split at a2
  · rename_i hp
    refine ⟨G2, [d1, d2], _, s2.gh, rr, hp, fun v G3 H3 g3 r3 => ?_⟩
    simp only [Rep] at r3
    refine ⟨true, r3, ?_⟩
    rw [if_pos rfl]
    have s3 := g3.st s2
    have a3 := Aft.step ResOk.bears (g3.keep (S := OwnA σ e2)) a2
    refine good_fz gc s3 (aft_bind ResOk.bears a3 fun d3 e3 v3 G4 H4 _ k4 s4 r4 a4 => ?_)
    have r4 : Rep W G4 d3 v3 := r4
    cases hp2 : prim p [d2, d3] with
    | none => rw [hp2] at a4; exact a4.elim
    | some r =>
      rw [hp2] at a4
      refine ⟨G4, [d2, d3], r, s4.gh, ?_, hp2, post_of_aft s4 a4⟩
      simp only [RepSs]
      exact ⟨v2, [v3], rfl, .inl (Rep.mono (g3.gg.trans k4.gg) _ _ r2), v3, [], rfl, .inl r4, rfl⟩
  · rename_i hp
    refine ⟨G2, [d1, d2], _, s2.gh, rr, hp, fun v G3 H3 g3 r3 => ?_⟩
    simp only [Rep] at r3
    refine ⟨false, r3, ?_⟩
    rw [if_neg Bool.false_ne_true]
    exact a2 (.bl false) G3 H3 g3.keep (g3.st s2) (by simp only [ResOk, Rep])
  · exact a2.elim
/-- a op b op' c op'' d -/
def tChain3 (r r' r'' : R2) (ta tb tc td : TE) : TE := fun σ H Q => ta σ H fun x H1 => tb σ H1 fun y H2 => r x y H2 fun z H3 => ∃ k, z = .bl k ∧
  (if k = true then tc σ H3 fun w' H4 => r' y w' H4 fun z' H5 => ∃ k', z' = .bl k' ∧ (if k' = true then td σ H5 fun v' H6 => r'' w' v' H6 Q else Q (.bl false) H5) else Q (.bl false) H3)
theorem pe_chain3 {X : Cx} {a b c d : Expr} {ta tb tc td : TE} {pos : Pos} {o1 o2 o3 : CmpOp} {r r' r'' : R2} (h1 : OpR X (compareOp o1) r) (h2 : OpR X (compareOp o2) r') (h3 : OpR X (compareOp o3) r'') (ha : PE X a ta) (hb : PE X b tb) (hc : PE X c tc) (hd : PE X d td)
    (hm : lastMarks [o1, o2, o3] [b, c, d] = false) : PE X (.Compare a [o1, o2, o3] [b, c, d] pos) (tChain3 r r' r'' ta tb tc td) := by
  refine ⟨fun pins s σ H Q I h => ?_⟩
  refine Compare_chain (L2.thn (ha.run pins s σ H _ I h) fun v s1 ⟨x, H1, I1, r1, q1⟩ => chain_link (L2.thn (hb.run pins s1 σ H1 _ I1 q1) fun u s2 ⟨y, H2, I2, r2, q2⟩ =>
    L2.thn (h1 pins s2 σ H2 x y v u _ I2 r1 r2 q2) fun dd s3 ⟨z, H3, I3, r3, k, e, q3⟩ => ?_)) hm
  subst e
  cases r3
  refine wpAny_truthy_bool ?_
  cases k with
  | false => exact ite_ff ⟨.bl false, H3, I3, rfl, q3⟩
  | true =>
    refine ite_tt (chain_link (L2.thn (hc.run pins s3 σ H3 _ I3 q3) fun w' s4 ⟨z', H4, I4, r4, q4⟩ => L2.thn (h2 pins s4 σ H4 y z' u w' _ I4 r2 r4 q4) fun d2 s5 ⟨y5, H5, I5, r5, k5, e5, q5⟩ => ?_))
    subst e5
    cases r5
    refine wpAny_truthy_bool ?_
    cases k5 with
    | false => exact ite_ff ⟨.bl false, H5, I5, rfl, q5⟩
    | true => exact ite_tt (chain_last (L2.thn (hd.run pins s5 σ H5 _ I5 q5) fun v6 s6 ⟨x6, H6, I6, r6, q6⟩ => h3 pins s6 σ H6 z' x6 w' v6 Q I6 r4 r6 q6))
theorem pt_chain3 {X : Cx} {a b c d : Expr} {ta tb tc td : TE} {pos : Pos} {o1 o2 o3 : CmpOp} {r r' r'' : R2} (h1 : OpR X (compareOp o1) r) (h2 : OpR X (compareOp o2) r') (h3 : OpR X (compareOp o3) r'') (ha : PE X a ta) (hb : PE X b tb) (hc : PE X c tc) (hd : PE X d td)
    (hm : lastMarks [o1, o2, o3] [b, c, d] = false) : PT X (.Compare a [o1, o2, o3] [b, c, d] pos) (tTest (tChain3 r r' r'' ta tb tc td)) := by
  refine ⟨fun pins s σ H Q I h => ?_⟩
  refine isTrue_chain (L2.thn (ha.run pins s σ H _ I h) fun v s1 ⟨x, H1, I1, r1, q1⟩ => test_link (L2.thn (hb.run pins s1 σ H1 _ I1 q1) fun u s2 ⟨y, H2, I2, r2, q2⟩ =>
    L2.thn (h1 pins s2 σ H2 x y v u _ I2 r1 r2 q2) fun dd s3 ⟨z, H3, I3, r3, k, e, q3⟩ => ?_)) hm
  subst e
  cases r3
  refine wpAny_truthy_bool ?_
  cases k with
  | false =>
    obtain ⟨k', e', q'⟩ := q3
    cases e'
    exact ite_ff ⟨H3, I3, q'⟩
  | true =>
    refine ite_tt (test_link (L2.thn (hc.run pins s3 σ H3 _ I3 q3) fun w' s4 ⟨z', H4, I4, r4, q4⟩ => L2.thn (h2 pins s4 σ H4 y z' u w' _ I4 r2 r4 q4) fun d2 s5 ⟨y5, H5, I5, r5, k5, e5, q5⟩ => ?_))
    subst e5
    cases r5
    refine wpAny_truthy_bool ?_
    cases k5 with
    | false =>
      obtain ⟨k', e', q'⟩ := q5
      cases e'
      exact ite_ff ⟨H5, I5, q'⟩
    | true =>
      refine ite_tt (test_last (L2.thn (hd.run pins s5 σ H5 _ I5 q5) fun v6 s6 ⟨x6, H6, I6, r6, q6⟩ => L2.thn (h3 pins s6 σ H6 z' x6 w' v6 _ I6 r4 r6 q6) fun d7 s7 ⟨z7, H7, I7, r7, k7, e7, q7⟩ => ?_))
      subst e7
      cases r7
      exact wpAny_truthy_bool ⟨H7, I7, q7⟩
theorem mark3 {o1 o2 o3 : CmpOp} {b c d : Expr} (h : behindInMarks o3 d = false) : lastMarks [o1, o2, o3] [b, c, d] = false := h
theorem chain3_q {X : Cx} {Wx : WX} (cx : CxOk X W C T Wx) {o p t : Op} {q r q3 : CmpOp} {x y z u : Expr} {ma mb mc md : M Res} (hq : cmpOf o = some q) (hr : cmpOf p = some r) (ht : cmpOf t = some q3) (ga : GoodE X W Wx x ma) (gb : GoodE X W Wx y mb) (gc : GoodE X W Wx z mc) (gd : GoodE X W Wx u md)
    {env : Env} {σ : St} {G H : Hp} {Q : VK} (s : StOk W G H σ env) (a : Aft W (ResOk W) σ (OwnA σ env) G H Q Wx ((fz ma env).bind fun x e1 => (fz mb e1).bind fun y e2 => match prim o [x, y] with
    | some (.val (.bl true)) => (fz mc e2).bind fun z e3 => (match prim p [y, z] with
      | some (.val (.bl true)) => (fz md e3).bind fun u e4 => ofO (prim t [z, u]) e4
      | some (.val (.bl false)) => .ok (.val (.bl false)) e3
      | _ => .no)
    | some (.val (.bl false)) => .ok (.val (.bl false)) e2
    | _ => .no)) : tChain3 (PR2 W o) (PR2 W p) (PR2 W t) (WE X x) (WE X y) (WE X z) (WE X u) σ H Q := by
  have two' : ∀ {G H : Hp} {d e : D} {v w : V}, Rep W G d v → Rep W G e w → RepSs W G H [d, e] [v, w] := fun {G H d e v w} h1 h2 => by
    simp only [RepSs]
    exact ⟨v, [w], rfl, .inl h1, w, [], rfl, .inl h2, rfl⟩
  refine good_fz ga s (aft_bind ResOk.bears a fun d1 e1 v1 G1 H1 _ k1 s1 r1 a1 => ?_)
  refine good_fz gb s1 (aft_bind ResOk.bears a1 fun d2 e2 v2 G2 H2 _ k2 s2 r2 a2 => ?_)
  have r1 : Rep W G2 d1 v1 := Rep.mono k2.gg _ _ r1
  have r2 : Rep W G2 d2 v2 := r2
  split at a2
  · rename_i hp
    refine ⟨G2, [d1, d2], _, s2.gh, two' r1 r2, hp, fun v G3 H3 g3 r3 => ?_⟩
    simp only [Rep] at r3
    refine ⟨true, r3, ?_⟩
    rw [if_pos rfl]
    have s3 := g3.st s2
    have a3 := Aft.step ResOk.bears (g3.keep (S := OwnA σ e2)) a2
    refine good_fz gc s3 (aft_bind ResOk.bears a3 fun d3 e3 v3 G4 H4 _ k4 s4 r4 a4 => ?_)
    have r4 : Rep W G4 d3 v3 := r4
    have r2' : Rep W G4 d2 v2 := Rep.mono (g3.gg.trans k4.gg) _ _ r2
    split at a4
    · rename_i hp4
      refine ⟨G4, [d2, d3], _, s4.gh, two' r2' r4, hp4, fun v G5 H5 g5 r5 => ?_⟩
      simp only [Rep] at r5
      refine ⟨true, r5, ?_⟩
      rw [if_pos rfl]
      have s5 := g5.st s4
      have a5 := Aft.step ResOk.bears (g5.keep (S := OwnA σ e3)) a4
      refine good_fz gd s5 (aft_bind ResOk.bears a5 fun d6 e6 v6 G6 H6 _ k6 s6 r6 a6 => ?_)
      have r6 : Rep W G6 d6 v6 := r6
      cases hp6 : prim t [d3, d6] with
      | none => rw [hp6] at a6; exact a6.elim
      | some r =>
        rw [hp6] at a6
        exact ⟨G6, [d3, d6], r, s6.gh, two' (Rep.mono (g5.gg.trans k6.gg) _ _ r4) r6, hp6, post_of_aft s6 a6⟩
    · rename_i hp4
      refine ⟨G4, [d2, d3], _, s4.gh, two' r2' r4, hp4, fun v G5 H5 g5 r5 => ?_⟩
      simp only [Rep] at r5
      refine ⟨false, r5, ?_⟩
      rw [if_neg Bool.false_ne_true]
      exact a4 (.bl false) G5 H5 g5.keep (g5.st s4) (by simp only [ResOk, Rep])
    · exact a4.elim
  · rename_i hp
    refine ⟨G2, [d1, d2], _, s2.gh, two' r1 r2, hp, fun v G3 H3 g3 r3 => ?_⟩
    simp only [Rep] at r3
    refine ⟨false, r3, ?_⟩
    rw [if_neg Bool.false_ne_true]
    exact a2 (.bl false) G3 H3 g3.keep (g3.st s2) (by simp only [ResOk, Rep])
  · exact a2.elim
theorem fnv_ok {X : Cx} {Wx : WX} (cx : CxOk X W C T Wx) {x y : Str} {g : Nat} {pos : Pos} (h : chk T X.N X.env.scope (.fnv y g) (.Name x pos) = true) : GoodE X W Wx (.Name x pos) (fun e => .ok (.val (.fn g)) e) := by
  intro env σ G H Q s a
  simp only [chk, Bool.and_eq_true, decide_eq_true_eq, Bool.not_eq_true'] at h
  obtain ⟨⟨⟨rfl, h2⟩, h3⟩, h4⟩ := h
  obtain ⟨fa, h5, h6⟩ := cx.fvn x g h2
  refine of_pe (pe_glob (v := .ref fa) (glB_gl h3) h6 rfl h4) ?_
  refine a _ G H (Keep.refl s.gh) s ?_
  simp only [ResOk, Rep]
  exact ⟨fa, h5, rfl⟩
/-- a comprehension, as it is read -/
theorem compL_of (k : ItK) (as : List E) (tg : Tg) (own : List Nat) (conds : List E) (elt : E) {X : Cx} {Wx : WX} {elt' tg' iter : Expr} {ifs : List Expr} {scope : Scope} {pos : Pos} (hA : ∀ {X : Cx} {Wx : WX} {es : List Expr}, CxOk X W C T Wx → chks T X.N X.env.scope as es = true → GoodL X W Wx es (evs C as))
    (hC : ∀ {X : Cx} {Wx : WX} {ifs : List Expr}, CxOk X W C T Wx → chkB1 T X.N X.env.scope conds ifs = true → GoodTs X W Wx ifs (evAll C conds)) (hE : ∀ {X : Cx} {Wx : WX} {e : Expr}, CxOk X W C T Wx → chk T X.N X.env.scope elt e = true → GoodE X W Wx e (ev C elt))
    (cx : CxOk X W C T Wx) (h : chk T X.N X.env.scope (.comp k as tg own conds elt) (.ListComp elt' [⟨tg', iter, ifs, 0⟩] scope pos) = true) :
    BlkOk X.N X.env.scope scope (own.map fun i => (X.N.getD i "", i)) ∧ notSet iter = true ∧ ∀ (env : Env) (σ : St) (G H : Hp) (Q : VK), StOk W G H σ env →
      Aft W (ResOk W) σ (OwnA σ env) G H Q Wx (compM (itM k (evs C as)) tg own (evAll C conds) (fz (ev C elt)) env) → tLc (WI X tg' iter) (tgB X scope tg') (ttB X scope ifs) (teB X scope elt') own σ H Q := by
  simp only [chk, Bool.and_eq_true] at h
  obtain ⟨⟨⟨⟨⟨⟨⟨⟨_, h1⟩, h2⟩, h3⟩, h4⟩, h5⟩, h6⟩, h7⟩, h8⟩ := h
  refine ⟨blkOk_by h6, h3, fun env σ G H Q s a => ?_⟩
  split at h1
  · rename_i es hit
    refine comp_core cx hit (fun hk => ?_) h4 (fun i hi => ?_) (hA cx h1) (fun s H0 Cc cl fp => hC (cx.blk scope s H0 Cc cl fp) h7) (fun s H0 Cc cl fp => hE (cx.blk scope s H0 Cc cl fp) h8) s a
    · subst hk; exact h2
    · have := List.all_eq_true.mp h5 i hi
      simpa using this
  · cases h1
mutual
theorem ev_ok : ∀ (c : E) {X : Cx} {Wx : WX} {e : Expr}, CxOk X W C T Wx → chk T X.N X.env.scope c e = true → GoodE X W Wx e (ev C c)
  | .var i, X, Wx, e, cx, h => by
    cases e <;> simp only [chk, reduceCtorEq, Bool.false_eq_true] at h
    simp only [ev]
    exact var_ok h
  | .pk i, X, Wx, e, cx, h => by
    intro env σ G H Q s a
    simp only [ev] at a
    exact a.elim
  | .cst d, X, Wx, e, cx, h => by
    cases e <;> simp only [chk, reduceCtorEq, Bool.false_eq_true] at h
    simp only [ev]
    exact cst_ok h
  | .glb y d, X, Wx, e, cx, h => by
    cases e <;> first | (simp only [chk, reduceCtorEq, Bool.false_eq_true] at h; done) | skip
    simp only [ev]
    exact glb_ok cx h
  | .op o as, X, Wx, e, cx, h => by
    simp only [chk] at h
    split at h
    · rename_i es hp
      intro env σ G H Q s a
      simp only [ev] at a
      have co := op_core (X := X) (Wx := Wx) (es := es) (evs_ok as cx h) (fun env σ G H R p os e1 => evsP_ok as cx h env σ G H R p os e1) s a
      cases hd : disp o with
      | true => exact disp_parts cx hp hd (co.1 hd)
      | false => exact op_parts cx hp hd (co.2 hd)
    · cases h
  | .and c1 c2, X, Wx, e, cx, h => by
    cases e <;> first | (simp only [chk, reduceCtorEq, Bool.false_eq_true] at h; done) | skip
    rename_i op vals pos
    cases op with
    | Or => simp [chk] at h
    | And =>
      match vals, h with
      | [], h => simp [chk] at h
      | [_], h => simp [chk] at h
      | x :: y :: r, h =>
        simp only [chk, Bool.and_eq_true] at h
        intro env σ G H Q s a
        simp only [ev] at a
        have g2 : ∃ t, PE X (.BoolOp .And (y :: r) pos) t ∧ ∀ (env : Env) (σ : St) (G H : Hp) (Q : VK), StOk W G H σ env → Aft W (ResOk W) σ (OwnA σ env) G H Q Wx (ev C c2 env) → t σ H Q := by
          cases r with
          | nil => exact ⟨_, pe_one peU, ev_ok c2 cx h.2⟩
          | cons z r => exact ⟨_, peU, ev_ok c2 cx h.2⟩
        obtain ⟨t, pt, gt⟩ := g2
        refine of_pe (pe_and peU pt) ?_
        refine we_thn (good_B (Q := fun b H1 => if b = true then t σ H1 Q else Q (.bl false) H1) (ev_ok c1 cx h.1) s (aft_bind ResOk.bears a fun b e1 b' G1 H1 _ k1 s1 r1 a1 => ?_)) fun v H1 q => q
        have r1 : b' = b := r1
        subst r1
        cases b' with
        | true =>
          rw [if_pos rfl] at a1 ⊢
          refine gt e1 σ G1 H1 Q s1 ?_
          refine aft_asB' a1
        | false =>
          rw [if_neg Bool.false_ne_true] at a1 ⊢
          exact a1 _ G1 H1 (Keep.refl s1.gh) s1 (by simp only [ResOk, Rep])
  | .or c1 c2, X, Wx, e, cx, h => by
    cases e <;> first | (simp only [chk, reduceCtorEq, Bool.false_eq_true] at h; done) | skip
    rename_i op vals pos
    cases op with
    | And => simp [chk] at h
    | Or =>
      match vals, h with
      | [], h => simp [chk] at h
      | [_], h => simp [chk] at h
      | x :: y :: r, h =>
        simp only [chk, Bool.and_eq_true] at h
        intro env σ G H Q s a
        simp only [ev] at a
        have g2 : ∃ t, PE X (.BoolOp .Or (y :: r) pos) t ∧ ∀ (env : Env) (σ : St) (G H : Hp) (Q : VK), StOk W G H σ env → Aft W (ResOk W) σ (OwnA σ env) G H Q Wx (ev C c2 env) → t σ H Q := by
          cases r with
          | nil => exact ⟨_, pe_one peU, ev_ok c2 cx h.2⟩
          | cons z r => exact ⟨_, peU, ev_ok c2 cx h.2⟩
        obtain ⟨t, pt, gt⟩ := g2
        refine of_pe (pe_or peU pt) ?_
        refine we_thn (good_B (Q := fun b H1 => if b = true then Q (.bl true) H1 else t σ H1 Q) (ev_ok c1 cx h.1) s (aft_bind ResOk.bears a fun b e1 b' G1 H1 _ k1 s1 r1 a1 => ?_)) fun v H1 q => q
        have r1 : b' = b := r1
        subst r1
        cases b' with
        | false =>
          rw [if_neg Bool.false_ne_true] at a1 ⊢
          exact gt e1 σ G1 H1 Q s1 (aft_asB' a1)
        | true =>
          rw [if_pos rfl] at a1 ⊢
          exact a1 _ G1 H1 (Keep.refl s1.gh) s1 (by simp only [ResOk, Rep])
  | .not c1, X, Wx, e, cx, h => by
    cases e <;> first | (simp only [chk, reduceCtorEq, Bool.false_eq_true] at h; done) | skip
    rename_i op x pos
    cases op <;> first | (simp only [chk, reduceCtorEq, Bool.false_eq_true] at h; done) | skip
    simp only [chk] at h
    intro env σ G H Q s a
    simp only [ev] at a
    refine of_pe (pe_not peU) ?_
    refine we_thn (good_B (Q := fun b H1 => Q (.bl (!b)) H1) (ev_ok c1 cx h) s (aft_bind ResOk.bears a fun b e1 b' G1 H1 _ k1 s1 r1 a1 => ?_)) fun v H1 q => q
    have r1 : b' = b := r1
    subst r1
    exact a1 _ G1 H1 (Keep.refl s1.gh) s1 (by simp only [ResOk, Rep])
  | .ite c0 c1 c2, X, Wx, e, cx, h => by
    cases e <;> simp only [chk, reduceCtorEq, Bool.false_eq_true] at h
    simp only [Bool.and_eq_true] at h
    intro env σ G H Q s a
    simp only [ev] at a
    refine of_pe (pe_ifExp ptU peU peU) ?_
    refine evB_ok c0 cx h.1.1 env σ G H _ s (aft_bind ResOk.bears a fun b e1 b' G1 H1 _ k1 s1 r1 a1 => ?_)
    have r1 : b' = b := r1
    subst r1
    cases b' with
    | true =>
      rw [if_pos rfl] at a1 ⊢
      exact ev_ok c1 cx h.1.2 e1 σ G1 H1 Q s1 a1
    | false =>
      rw [if_neg Bool.false_ne_true] at a1 ⊢
      exact ev_ok c2 cx h.2 e1 σ G1 H1 Q s1 a1
  | .chain o p c1 c2 c3, X, Wx, e, cx, h => by
    cases e <;> first | (simp only [chk, reduceCtorEq, Bool.false_eq_true] at h; done) | skip
    rename_i x ops cs pos
    match ops, cs, h with
    | [q, r], [y, z], h =>
      simp only [chk, Bool.and_eq_true, decide_eq_true_eq] at h
      obtain ⟨⟨⟨⟨hq, hr⟩, h1⟩, h2⟩, h3⟩ := h
      intro env σ G H Q s a
      simp only [ev] at a
      exact of_pe (pe_chain (cmp_r cx (cmpOf_2 hq)) (cmp_r cx (cmpOf_2 hr)) peU peU peU (cmp_mark hr z)) (chain_q cx hq hr (ev_ok c1 cx h1) (ev_ok c2 cx h2) (ev_ok c3 cx h3) s a)
    | [], _, h => simp [chk] at h
    | [_], _, h => simp [chk] at h
    | _ :: _ :: _ :: _, _, h => simp [chk] at h
    | [_, _], [], h => simp [chk] at h
    | [_, _], [_], h => simp [chk] at h
    | [_, _], _ :: _ :: _ :: _, h => simp [chk] at h
  | .chain3 o p t c1 c2 c3 c4, X, Wx, e, cx, h => by
    obtain ⟨x, q, r, q3, y, z, u, pos, rfl⟩ : ∃ x q r q3 y z u pos, e = .Compare x [q, r, q3] [y, z, u] pos := by
      unfold chk at h
      split at h <;> first | (rename_i w _; cases w; done) | (rename_i w; cases w; done) | skip
      · rename_i w _
        cases w
        exact ⟨_, _, _, _, _, _, _, _, rfl⟩
      · cases h
    simp only [chk, Bool.and_eq_true, decide_eq_true_eq] at h
    obtain ⟨⟨⟨⟨⟨⟨hq, hr⟩, ht⟩, h1⟩, h2⟩, h3⟩, h4⟩ := h
    intro env σ G H Q s a
    simp only [ev] at a
    exact of_pe (pe_chain3 (cmp_r cx (cmpOf_2 hq)) (cmp_r cx (cmpOf_2 hr)) (cmp_r cx (cmpOf_2 ht)) peU peU peU peU (mark3 (cmp_mark ht u))) (chain3_q cx hq hr ht (ev_ok c1 cx h1) (ev_ok c2 cx h2) (ev_ok c3 cx h3) (ev_ok c4 cx h4) s a)
  | .fnv y g, X, Wx, e, cx, h => by
    cases e <;> first | (simp only [chk, reduceCtorEq, Bool.false_eq_true] at h; done) | skip
    simp only [ev]
    exact fnv_ok cx h
  | .callV f as, X, Wx, e, cx, h => by
    obtain ⟨a, b, p, e1, es, pos, rfl⟩ : ∃ a b p e1 es pos, e = .Call (.Subscript a b p) (e1 :: es) [] pos := by
      unfold chk at h
      split at h <;> first | (rename_i w _; cases w; done) | (rename_i w; cases w; done) | skip
      · rename_i w _
        cases w
        exact ⟨_, _, _, _, _, _, rfl⟩
      · cases h
    simp only [chk, Bool.and_eq_true] at h
    simp only [ev]
    exact callV_ok cx (by simpa only [Bool.and_eq_true] using h.1.2) (ev_ok f cx h.1.1) (evs_ok as cx h.2)
  | .call f as, X, Wx, e, cx, h => by
    cases e <;> first | (simp only [chk, reduceCtorEq, Bool.false_eq_true] at h; done) | skip
    rename_i fn es kws pos
    cases fn <;> first | (simp only [chk, reduceCtorEq, Bool.false_eq_true] at h; done) | skip
    rename_i x p
    cases kws <;> first | (simp only [chk, reduceCtorEq, Bool.false_eq_true] at h; done) | skip
    simp only [chk, Bool.and_eq_true, decide_eq_true_eq, Bool.not_eq_true'] at h
    obtain ⟨⟨⟨⟨h1, h2⟩, h3⟩, h4⟩, h5⟩ := h
    simp only [ev]
    exact call_ok cx h1 h2 h3 h4 (evs_ok as cx h5)
  | .comp k as tg own conds elt, X, Wx, e, cx, h => by
    obtain ⟨elt', tg', iter, ifs, scope, pos, rfl⟩ : ∃ elt' tg' iter ifs scope pos, e = .ListComp elt' [⟨tg', iter, ifs, 0⟩] scope pos := by
      cases e <;> first | (simp only [chk, reduceCtorEq, Bool.false_eq_true] at h; done) | skip
      rename_i elt' gens scope pos
      match gens, h with
      | [⟨tg', iter, ifs, n⟩], h =>
        by_cases hn : n = 0
        · subst hn; exact ⟨_, _, _, _, _, _, rfl⟩
        · simp [chk, hn] at h
      | [], h => simp [chk] at h
      | _ :: _ :: _, h => simp [chk] at h
    obtain ⟨okB, nset, tlc⟩ := compL_of k as tg own conds elt (fun cx h => evs_ok as cx h) (fun cx h => evAll_ok conds cx h) (fun cx h => ev_ok elt cx h) cx h
    intro env σ G H Q s a
    simp only [ev] at a
    have pe : PE X (.ListComp elt' [⟨tg', iter, ifs, 0⟩] scope pos) (tLc (WI X tg' iter) (tgB X scope tg') (ttB X scope ifs) (teB X scope elt') ((own.map fun i => ((X.N.getD i "", i) : Str × Nat)).map (·.2))) :=
      pe_lc cx.calm cx.nd piU okB (fun s H Cc cl fp => ⟨fun pins s0 σ H v u Q I r h => h s _ Cc cl fp pins s0 u I r⟩) (fun s H Cc cl fp => ⟨fun pins s0 σ H Q I h => h s _ Cc cl fp pins s0 I⟩) (fun s H Cc cl fp => ⟨fun pins s0 σ H Q I h => h s _ Cc cl fp pins s0 I⟩) (fun x => noset_fold nset X.env x)
    rw [own_map] at pe
    exact of_pe pe (tlc env σ G H Q s a)
theorem evAll_ok : ∀ (cs : List E) {X : Cx} {Wx : WX} {ifs : List Expr}, CxOk X W C T Wx → chkB1 T X.N X.env.scope cs ifs = true → GoodTs X W Wx ifs (evAll C cs)
  | [], X, Wx, ifs, cx, h => by
    cases ifs <;> simp only [chkB1, reduceCtorEq, Bool.false_eq_true] at h
    intro env σ G H Q s a
    simp only [evAll] at a
    exact of_pts pts_nil (a true G H (Keep.refl s.gh) s rfl)
  | [c], X, Wx, ifs, cx, h => by
    match ifs, h with
    | [], h => simp [chkB1] at h
    | _ :: _ :: _, h => simp [chkB1] at h
    | [e], h =>
      simp only [chkB1] at h
      intro env σ G H Q s a
      simp only [evAll] at a
      refine of_pts (pts_one ptU) (evB_ok c cx h env σ G H Q s ?_)
      cases q : asB (ev C c) env with
      | no => rw [q] at a; exact a
      | ex x e' => rw [q] at a; exact a
      | ok b e' =>
        rw [q] at a
        cases b <;> exact a
  | _ :: _ :: _, X, Wx, ifs, cx, h => by cases ifs <;> simp [chkB1] at h
theorem evB_ok : ∀ (c : E) {X : Cx} {Wx : WX} {e : Expr}, CxOk X W C T Wx → chkB T X.N X.env.scope c e = true → GoodB X W Wx e (asB (ev C c))
  | .var i, X, Wx, e, cx, h => by
    cases e <;> first | (simp only [chkB, reduceCtorEq, Bool.false_eq_true] at h; done) | skip
    simp only [chkB] at h
    intro env σ G H Q s a
    exact wt_val (fun _ => rfl) (good_B (m := ev C (.var i)) (by simp only [ev]; exact var_ok h) s a)
  | .op o as, X, Wx, e, cx, h => by
    simp only [chkB] at h
    split at h
    · rename_i es hp
      intro env σ G H Q s a
      have a := aft_asB a
      simp only [ev] at a
      have co := op_core (X := X) (Wx := Wx) (es := es) (evs_ok as cx h) (fun env σ G H R p os e1 => evsP_ok as cx h env σ G H R p os e1) s a
      cases hd : disp o with
      | true =>
        have we := disp_parts cx hp hd (co.1 hd)
        cases e <;> first | exact wt_val (fun _ => rfl) we | skip
        all_goals (cases o <;> simp only [disp, Bool.false_eq_true] at hd)
        all_goals (exfalso; clear we co a; unfold parts at hp; split at hp <;> first | (rename_i e; cases e; done) | skip)
        all_goals (try (rename_i e; cases e))
        all_goals (simp [cmpOf2, cmpOf, isOf] at hp)
      | false => exact op_partsB cx hp hd (co.2 hd)
    · cases h
  | .and c1 c2, X, Wx, e, cx, h => by
    cases e <;> first | (simp only [chkB, reduceCtorEq, Bool.false_eq_true] at h; done) | skip
    rename_i op vals pos
    cases op with
    | Or => simp [chkB] at h
    | And =>
      match vals, h with
      | [], h => simp [chkB] at h
      | [_], h => simp [chkB] at h
      | x :: y :: r, h =>
        simp only [chkB, Bool.and_eq_true] at h
        intro env σ G H Q s a
        have g2 : ∃ t, PW X (.BoolOp .And (y :: r) pos) t ∧ ∀ (env : Env) (σ : St) (G H : Hp) (Q : Bool → Hp → Prop), StOk W G H σ env → Aft W BOk σ (OwnA σ env) G H Q Wx (asB (ev C c2) env) → t σ H Q := by
          cases r with
          | nil => exact ⟨_, pw_and1 ptU, evB_ok c2 cx h.2⟩
          | cons z r => exact ⟨_, pwU, evB_ok c2 cx h.2⟩
        obtain ⟨t, pt, gt⟩ := g2
        refine of_pt (pw_and ptU pt).pt ?_
        rw [asB_and] at a
        refine evB_ok c1 cx h.1 env σ G H _ s (aft_bind BOk.bears a fun b e1 b' G1 H1 _ k1 s1 r1 a1 => ?_)
        have r1 : b' = b := r1
        subst r1
        cases b' with
        | true =>
          rw [if_pos rfl] at a1 ⊢
          exact gt e1 σ G1 H1 Q s1 a1
        | false =>
          rw [if_neg Bool.false_ne_true] at a1 ⊢
          exact a1 false G1 H1 (Keep.refl s1.gh) s1 rfl
  | .or c1 c2, X, Wx, e, cx, h => by
    cases e <;> first | (simp only [chkB, reduceCtorEq, Bool.false_eq_true] at h; done) | skip
    rename_i op vals pos
    cases op with
    | And => simp [chkB] at h
    | Or =>
      match vals, h with
      | [], h => simp [chkB] at h
      | [_], h => simp [chkB] at h
      | x :: y :: r, h =>
        simp only [chkB, Bool.and_eq_true] at h
        intro env σ G H Q s a
        have g2 : ∃ t, PW X (.BoolOp .Or (y :: r) pos) t ∧ ∀ (env : Env) (σ : St) (G H : Hp) (Q : Bool → Hp → Prop), StOk W G H σ env → Aft W BOk σ (OwnA σ env) G H Q Wx (asB (ev C c2) env) → t σ H Q := by
          cases r with
          | nil => exact ⟨_, pw_or1 ptU, evB_ok c2 cx h.2⟩
          | cons z r => exact ⟨_, pwU, evB_ok c2 cx h.2⟩
        obtain ⟨t, pt, gt⟩ := g2
        refine of_pt (pw_or ptU pt).pt ?_
        rw [asB_or] at a
        refine evB_ok c1 cx h.1 env σ G H _ s (aft_bind BOk.bears a fun b e1 b' G1 H1 _ k1 s1 r1 a1 => ?_)
        have r1 : b' = b := r1
        subst r1
        cases b' with
        | true =>
          rw [if_pos rfl] at a1 ⊢
          exact a1 true G1 H1 (Keep.refl s1.gh) s1 rfl
        | false =>
          rw [if_neg Bool.false_ne_true] at a1 ⊢
          exact gt e1 σ G1 H1 Q s1 a1
  | .not c1, X, Wx, e, cx, h => by
    cases e <;> first | (simp only [chkB, reduceCtorEq, Bool.false_eq_true] at h; done) | skip
    rename_i op x pos
    cases op <;> first | (simp only [chkB, reduceCtorEq, Bool.false_eq_true] at h; done) | skip
    simp only [chkB] at h
    intro env σ G H Q s a
    refine of_pt (pt_not ptU) ?_
    rw [asB_not] at a
    refine evB_ok c1 cx h env σ G H _ s (aft_bind BOk.bears a fun b e1 b' G1 H1 _ k1 s1 r1 a1 => ?_)
    have r1 : b' = b := r1
    subst r1
    exact a1 (!b') G1 H1 (Keep.refl s1.gh) s1 rfl
  | .chain o p c1 c2 c3, X, Wx, e, cx, h => by
    cases e <;> first | (simp only [chkB, reduceCtorEq, Bool.false_eq_true] at h; done) | skip
    rename_i x ops cs pos
    match ops, cs, h with
    | [q, r], [y, z], h =>
      simp only [chkB, Bool.and_eq_true, decide_eq_true_eq] at h
      obtain ⟨⟨⟨⟨hq, hr⟩, h1⟩, h2⟩, h3⟩ := h
      intro env σ G H Q s a
      have a := aft_asB a
      simp only [ev] at a
      exact of_pt (pt_chain (cmp_r cx (cmpOf_2 hq)) (cmp_r cx (cmpOf_2 hr)) peU peU peU (cmp_mark hr z)) (chain_q cx hq hr (ev_ok c1 cx h1) (ev_ok c2 cx h2) (ev_ok c3 cx h3) s a)
    | [], _, h => simp [chkB] at h
    | [_], _, h => simp [chkB] at h
    | _ :: _ :: _ :: _, _, h => simp [chkB] at h
    | [_, _], [], h => simp [chkB] at h
    | [_, _], [_], h => simp [chkB] at h
    | [_, _], _ :: _ :: _ :: _, h => simp [chkB] at h
  | .chain3 o p t c1 c2 c3 c4, X, Wx, e, cx, h => by
    obtain ⟨x, q, r, q3, y, z, u, pos, rfl⟩ : ∃ x q r q3 y z u pos, e = .Compare x [q, r, q3] [y, z, u] pos := by
      unfold chkB at h
      split at h <;> first | (rename_i w _; cases w; done) | (rename_i w; cases w; done) | skip
      · rename_i w _
        cases w
        exact ⟨_, _, _, _, _, _, _, _, rfl⟩
      · cases h
    simp only [chkB, Bool.and_eq_true, decide_eq_true_eq] at h
    obtain ⟨⟨⟨⟨⟨⟨hq, hr⟩, ht⟩, h1⟩, h2⟩, h3⟩, h4⟩ := h
    intro env σ G H Q s a
    have a := aft_asB a
    simp only [ev] at a
    exact of_pt (pt_chain3 (cmp_r cx (cmpOf_2 hq)) (cmp_r cx (cmpOf_2 hr)) (cmp_r cx (cmpOf_2 ht)) peU peU peU peU (mark3 (cmp_mark ht u))) (chain3_q cx hq hr ht (ev_ok c1 cx h1) (ev_ok c2 cx h2) (ev_ok c3 cx h3) (ev_ok c4 cx h4) s a)
  | .call f as, X, Wx, e, cx, h => by
    cases e <;> first | (simp only [chkB, reduceCtorEq, Bool.false_eq_true] at h; done) | skip
    rename_i fn es kws pos
    cases fn <;> first | (simp only [chkB, reduceCtorEq, Bool.false_eq_true] at h; done) | skip
    rename_i x p
    cases kws <;> first | (simp only [chkB, reduceCtorEq, Bool.false_eq_true] at h; done) | skip
    simp only [chkB, Bool.and_eq_true, decide_eq_true_eq, Bool.not_eq_true'] at h
    obtain ⟨⟨⟨⟨h1, h2⟩, h3⟩, h4⟩, h5⟩ := h
    intro env σ G H Q s a
    exact wt_val (fun _ => rfl) (good_B (m := ev C (.call f as)) (by simp only [ev]; exact call_ok cx h1 h2 h3 h4 (evs_ok as cx h5)) s a)
  | .pk _, X, Wx, e, cx, h => by simp [chkB] at h
  | .cst _, X, Wx, e, cx, h => by simp [chkB] at h
  | .glb _ _, X, Wx, e, cx, h => by simp [chkB] at h
  | .fnv _ _, X, Wx, e, cx, h => by simp [chkB] at h
  | .callV _ _, X, Wx, e, cx, h => by simp [chkB] at h
  | .ite _ _ _, X, Wx, e, cx, h => by simp [chkB] at h
  | .comp _ _ _ _ _ _, X, Wx, e, cx, h => by simp [chkB] at h
theorem evs_ok : ∀ (cs : List E) {X : Cx} {Wx : WX} {es : List Expr}, CxOk X W C T Wx → chks T X.N X.env.scope cs es = true → GoodL X W Wx es (evs C cs)
  | [], X, Wx, es, cx, h => by
    cases es <;> simp only [chks, reduceCtorEq, Bool.false_eq_true] at h
    intro env σ G H Q s a
    simp only [evs] at a
    exact a [] G H (Keep.refl s.gh) s (by simp only [LOk, OpdsV])
  | c :: cs, X, Wx, es, cx, h => by
    cases es <;> simp only [chks, reduceCtorEq, Bool.false_eq_true] at h
    simp only [Bool.and_eq_true] at h
    intro env σ G H Q s a
    simp only [evs] at a
    refine opd_ok (pk_of h.1) (ev_ok c cx h.1) s (aft_bind LOk.bears a fun o e1 v G1 H1 _ k1 s1 r1 a1 => ?_)
    refine evs_ok cs cx h.2 e1 σ G1 H1 _ s1 (aft_bind LOk.bears a1 fun os e2 vs G2 H2 _ k2 s2 r2 a2 => ?_)
    refine a2 (v :: vs) G2 H2 (Keep.refl s2.gh) s2 ?_
    simp only [LOk, OpdsV]
    exact ⟨v, vs, rfl, OpdV.mono k2.gg r1, r2⟩
theorem evsP_ok : ∀ (cs : List E) {X : Cx} {Wx : WX} {es : List Expr}, CxOk X W C T Wx → chks T X.N X.env.scope cs es = true →
    ∀ (env : Env) (σ : St) (G H : Hp) (R : List V → Hp → Prop) (p : Nat → V → Prop) (os : List Opd) (e1 : Env), evs C cs env = .ok os e1 → StOk W G H σ env → (∀ (i : Nat) (x : Opd), os[i]? = some x → ∀ (G : Hp) (v : V), OpdV W G σ x v → p i v) →
      (∀ vs G' H', Keep (OwnA σ env) G H (OwnA σ e1) G' H' → StOk W G' H' σ e1 → OpdsV W G' σ os vs → R vs H') → WQP X es p σ H R
  | [], X, Wx, es, cx, h, env, σ, G, H, R, p, os, e1, q, s, hp, k => by
    cases es <;> simp only [chks, reduceCtorEq, Bool.false_eq_true] at h
    simp only [evs, Rs.ok.injEq] at q
    obtain ⟨rfl, rfl⟩ := q
    exact k [] G H (Keep.refl s.gh) s (by simp only [OpdsV])
  | c :: cs, X, Wx, es, cx, h, env, σ, G, H, R, p, os, e1, q, s, hp, k => by
    cases es <;> simp only [chks, reduceCtorEq, Bool.false_eq_true] at h
    simp only [Bool.and_eq_true] at h
    simp only [evs] at q
    cases q1 : opdM c (ev C c) env with
    | no => rw [q1] at q; cases q
    | ex x e2 => rw [q1] at q; cases q
    | ok o e2 =>
      rw [q1] at q
      simp only [Rs.bind] at q
      cases q2 : evs C cs e2 with
      | no => rw [q2] at q; cases q
      | ex x e3 => rw [q2] at q; cases q
      | ok os' e3 =>
        rw [q2] at q
        simp only [Rs.ok.injEq] at q
        obtain ⟨rfl, rfl⟩ := q
        refine opd_ok (pk_of h.1) (ev_ok c cx h.1) s ?_
        rw [q1]
        intro v G1 H1 k1 s1 r1
        refine ⟨hp 0 o rfl G1 v r1, evsP_ok cs cx h.2 e2 σ G1 H1 _ _ os' e3 q2 s1 (fun i x hx => hp (i + 1) x (by simpa using hx)) fun vs G2 H2 k2 s2 r2 => ?_⟩
        refine k (v :: vs) G2 H2 (k1.trans k2) s2 ?_
        simp only [OpdsV]
        exact ⟨v, vs, rfl, OpdV.mono k2.gg r1, r2⟩
end
end
end Itp
set_option Elab.async false
set_option linter.all false
set_option maxRecDepth 100000
set_option maxHeartbeats 4000000
namespace Itp
open PySem L2
section
variable {W : Wd} {C : Cfg} {T : Tab}
/-! ### no lent slot comes about by itself -/
def ParB (e e' : Env) : Prop := ∀ i, (slot e' i).isPar = true → (slot e i).isPar = true
theorem ParB.refl (e : Env) : ParB e e := fun _ h => h
theorem ParB.trans {a b c : Env} (x : ParB a b) (y : ParB b c) : ParB a c := fun i h => x i (y i h)
theorem ParB.set {e : Env} {i : Nat} {s : Slot} (h : s.isPar = true → (slot e i).isPar = true) : ParB e (e.set i s) := fun j q => by
  rw [slot_set] at q
  by_cases z : i = j
  · subst z
    rw [if_pos rfl] at q
    split at q
    · exact h q
    · cases q
  · rw [if_neg z] at q; exact q
def NP {α : Type} (e : Env) : Rs α → Prop
  | .ok _ e' => ParB e e'
  | .ex _ e' => ParB e e'
  | .no => True
theorem NP.bind {α β : Type} {e : Env} {r : Rs α} {f : α → Env → Rs β} (h : NP e r) (k : ∀ a e', r = .ok a e' → NP e' (f a e')) : NP e (r.bind f) := by
  cases r with
  | no => trivial
  | ex x e' => exact h
  | ok a e' =>
    have q := k a e' rfl
    show NP e (f a e')
    cases z : f a e' with
    | no => trivial
    | ex x e2 => rw [z] at q; exact ParB.trans h q
    | ok b e2 => rw [z] at q; exact ParB.trans h q
theorem np_ofO {α : Type} {o : Option α} {e : Env} : NP e (ofO o e) := by
  cases o with
  | none => trivial
  | some a => exact ParB.refl e
theorem np_fz {m : M Res} {e : Env} (h : NP e (m e)) : NP e (fz m e) := NP.bind h fun _ e' _ => ParB.refl e'
theorem np_asB {m : M Res} {e : Env} (h : NP e (m e)) : NP e (asB m e) := NP.bind h fun r e' _ => by
  match r with
  | .val (.bl b) => exact ParB.refl e'
  | .val .non | .val (.int _) | .val (.str _) | .val (.tup _) | .val (.lst _) | .val (.dct _) | .val (.fn _) | .val (.scr _) | .new _ => trivial
theorem np_var {i : Nat} {e : Env} : NP e (rdVar i e) := by
  unfold rdVar
  cases slot e i with
  | un => trivial
  | val d => exact ParB.refl e
  | own d => exact ParB.set fun h => by cases h
  | par d => trivial
theorem np_op {o : Op} {m : M (List Opd)} {e : Env} (h : NP e (m e)) : NP e (opM o m e) := by
  unfold opM
  cases q : m e with
  | no => trivial
  | ex x e' =>
    rw [q] at h
    simp only
    split
    · trivial
    · exact h
  | ok os e' =>
    rw [q] at h
    simp only
    split
    · split
      · trivial
      · split
        · trivial
        · cases prim o _ with
          | none => trivial
          | some r => exact h
    · trivial
theorem np_put : ∀ (is : List Nat) (ds : List D) (e e' : Env), putBack e is ds = some e' → ParB e e'
  | [], [], e, e', h => by simp [putBack] at h; subst h; exact ParB.refl e
  | [], _ :: _, e, e', h => by simp [putBack] at h
  | _ :: _, [], e, e', h => by simp [putBack] at h
  | i :: is, d :: ds, e, e', h => by
    simp only [putBack] at h
    refine ParB.trans (ParB.set fun q => ?_) (np_put is ds _ e' h)
    cases z : slot e i <;> rw [z] at q <;> first | exact q | cases q
theorem np_call {F : Fn} {m : M (List Opd)} {e : Env} (h : NP e (m e)) : NP e (callM F m e) := by
  unfold callM
  refine NP.bind h fun os e1 _ => ?_
  cases toArgs e1 os with
  | none => trivial
  | some as =>
    simp only
    split
    · cases F as with
      | no => trivial
      | ok r fin =>
        simp only
        cases q : putBack e1 (muts e1 os) fin with
        | none => trivial
        | some e2 => exact np_put _ _ _ _ q
      | ex x fin =>
        simp only
        cases q : putBack e1 (muts e1 os) fin with
        | none => trivial
        | some e2 => exact np_put _ _ _ _ q
    · trivial
theorem np_it {k : ItK} {m : M (List Opd)} {e : Env} (h : NP e (m e)) : NP e (itM k m e) := by
  unfold itM
  cases q : m e with
  | no => trivial
  | ex x e' => trivial
  | ok os e' =>
    rw [q] at h
    simp only
    split
    · split
      · cases items k _ with
        | none => trivial
        | some r => exact h
      · trivial
    · trivial
mutual
theorem np_bindT : ∀ (t : Tg) (d : D) (e e' : Env), bindT t d e = some e' → ParB e e'
  | .nm i, d, e, e', h => by
    simp only [bindT] at h
    cases z : slot e i <;> rw [z] at h <;> simp at h <;> (subst h; exact ParB.set fun q => by cases q)
  | .tp ts, d, e, e', h => by
    cases d <;> simp only [bindT, reduceCtorEq] at h
    · exact np_bindTs ts _ e e' h
    · exact np_bindTs ts _ e e' h
theorem np_bindTs : ∀ (ts : List Tg) (ds : List D) (e e' : Env), bindTs ts ds e = some e' → ParB e e'
  | [], ds, e, e', h => by cases ds <;> simp [bindTs] at h; subst h; exact ParB.refl e
  | t :: ts, ds, e, e', h => by
    cases ds <;> simp only [bindTs, reduceCtorEq] at h
    rename_i d ds
    cases q : bindT t d e with
    | none => rw [q] at h; simp at h
    | some e1 =>
      rw [q] at h
      exact ParB.trans (np_bindT t d e e1 q) (np_bindTs ts ds e1 e' h)
end
theorem np_hide (e : Env) (own : List Nat) : ParB e (hideE e own) := fun i h => by
  rw [hide_slot] at h
  split at h
  · cases h
  · exact h
theorem np_compL {tg : Tg} {own : List Nat} {c : M Bool} {m : M D} (hc : ∀ e, NP e (c e)) (hm : ∀ e, NP e (m e)) : ∀ (xs acc : List D) (e : Env), NP e (compL tg own c m xs acc e)
  | [], acc, e => ParB.refl e
  | x :: xs, acc, e => by
    simp only [compL]
    cases q : bindT tg x e with
    | none => trivial
    | some e1 =>
      simp only
      have p1 := np_bindT tg x e e1 q
      have h1 := hc e1
      cases q1 : c e1 with
      | no => trivial
      | ex x e2 => trivial
      | ok b e2 =>
        rw [q1] at h1
        have p2 := ParB.trans p1 h1
        cases b with
        | false =>
          simp only
          have ih := np_compL (tg := tg) (own := own) hc hm xs acc (hideE e2 own)
          have p3 := ParB.trans p2 (np_hide e2 own)
          cases z : compL tg own c m xs acc (hideE e2 own) with
          | no => trivial
          | ex x e4 => rw [z] at ih; exact ParB.trans p3 ih
          | ok b e4 => rw [z] at ih; exact ParB.trans p3 ih
        | true =>
          simp only
          have h2 := hm e2
          cases q2 : m e2 with
          | no => trivial
          | ex x e3 => trivial
          | ok d e3 =>
            rw [q2] at h2
            simp only
            split
            · have ih := np_compL (tg := tg) (own := own) hc hm xs (acc ++ [d]) (hideE e3 own)
              have p3 := ParB.trans (ParB.trans p2 h2) (np_hide e3 own)
              cases z : compL tg own c m xs (acc ++ [d]) (hideE e3 own) with
              | no => trivial
              | ex x e4 => rw [z] at ih; exact ParB.trans p3 ih
              | ok b e4 => rw [z] at ih; exact ParB.trans p3 ih
            · trivial
theorem np_back {e e0 : Env} {own : List Nat} (h : ParB (hideE e0 own) e) : ParB e0 (backE e e0 own) := by
  intro i q
  have gen : ∀ own' : List Nat, (slot (backE e e0 own') i).isPar = true → (slot e i).isPar = true ∨ (slot e0 i).isPar = true := by
    intro own'
    induction own' with
    | nil => intro z; exact .inl z
    | cons j js ih =>
      intro z
      unfold backE at z
      rw [slot_set] at z
      by_cases y : j = i
      · subst y
        rw [if_pos rfl] at z
        split at z
        · exact .inr z
        · cases z
      · rw [if_neg y] at z
        exact ih z
  rcases gen own q with z | z
  · have := h i z
    rw [hide_slot] at this
    split at this
    · cases this
    · exact this
  · exact z
theorem np_comp {its : M (List D)} {tg : Tg} {own : List Nat} {c : M Bool} {m : M D} {e : Env} (hi : NP e (its e)) (hc : ∀ e, NP e (c e)) (hm : ∀ e, NP e (m e)) : NP e (compM its tg own c m e) := by
  unfold compM
  refine NP.bind hi fun xs e1 _ => ?_
  have h := np_compL (tg := tg) (own := own) hc hm xs [] (hideE e1 own)
  cases z : compL tg own c m xs [] (hideE e1 own) with
  | no => trivial
  | ex x e2 => trivial
  | ok ds e2 =>
    rw [z] at h
    exact np_back h
mutual
theorem np_ev : ∀ (c : E) (e : Env), NP e (ev C c e)
  | .var i, e => by simp only [ev]; exact np_var
  | .pk _, e => by simp only [ev]; trivial
  | .cst _, e => by simp only [ev]; exact ParB.refl e
  | .glb _ _, e => by simp only [ev]; exact ParB.refl e
  | .op o as, e => by simp only [ev]; exact np_op (np_evs as e)
  | .and a b, e => by
    simp only [ev]
    refine NP.bind (np_asB (np_ev a e)) fun t e1 _ => ?_
    cases t with
    | true => exact NP.bind (np_asB (np_ev b e1)) fun _ e2 _ => ParB.refl e2
    | false => exact ParB.refl e1
  | .or a b, e => by
    simp only [ev]
    refine NP.bind (np_asB (np_ev a e)) fun t e1 _ => ?_
    cases t with
    | false => exact NP.bind (np_asB (np_ev b e1)) fun _ e2 _ => ParB.refl e2
    | true => exact ParB.refl e1
  | .not a, e => by
    simp only [ev]
    exact NP.bind (np_asB (np_ev a e)) fun _ e2 _ => ParB.refl e2
  | .ite c a b, e => by
    simp only [ev]
    refine NP.bind (np_asB (np_ev c e)) fun t e1 _ => ?_
    cases t with
    | true => exact np_ev a e1
    | false => exact np_ev b e1
  | .chain o p a b c, e => by
    simp only [ev]
    refine NP.bind (np_fz (np_ev a e)) fun x e1 _ => NP.bind (np_fz (np_ev b e1)) fun y e2 _ => ?_
    split
    · exact NP.bind (np_fz (np_ev c e2)) fun z e3 _ => np_ofO
    · exact ParB.refl e2
    · trivial
  | .chain3 o p q a b c d, e => by
    simp only [ev]
    refine NP.bind (np_fz (np_ev a e)) fun x e1 _ => NP.bind (np_fz (np_ev b e1)) fun y e2 _ => ?_
    split
    · refine NP.bind (np_fz (np_ev c e2)) fun z e3 _ => ?_
      split
      · exact NP.bind (np_fz (np_ev d e3)) fun z e4 _ => np_ofO
      · exact ParB.refl e3
      · trivial
    · exact ParB.refl e2
    · trivial
  | .fnv _ _, e => by simp only [ev]; exact ParB.refl e
  | .callV f as, e => by
    simp only [ev]
    refine NP.bind (np_ev f e) fun r e1 _ => ?_
    split
    · split
      · exact np_call (np_evs as e1)
      · trivial
    · trivial
  | .call f as, e => by simp only [ev]; exact np_call (np_evs as e)
  | .comp k as tg own conds elt, e => by simp only [ev]; exact np_comp (np_it (np_evs as e)) (fun e => np_evAll conds e) (fun e => np_fz (np_ev elt e))
theorem np_evs : ∀ (cs : List E) (e : Env), NP e (evs C cs e)
  | [], e => by simp only [evs]; exact ParB.refl e
  | c :: cs, e => by
    simp only [evs]
    refine NP.bind ?_ fun o e1 _ => NP.bind (np_evs cs e1) fun os e2 _ => ParB.refl e2
    unfold opdM
    split
    · rename_i i
      cases slot e i <;> first | trivial | exact ParB.refl e
    · exact NP.bind (np_fz (np_ev c e)) fun _ e2 _ => ParB.refl e2
theorem np_evAll : ∀ (cs : List E) (e : Env), NP e (evAll C cs e)
  | [], e => by simp only [evAll]; exact ParB.refl e
  | c :: cs, e => by
    simp only [evAll]
    refine NP.bind (np_asB (np_ev c e)) fun b e1 _ => ?_
    cases b with
    | true => exact np_evAll cs e1
    | false => exact ParB.refl e1
end
theorem ParB.k {σ : St} {e e' : Env} (h : ParB e e') : ParK σ e σ e' := fun i q => ⟨h i q, rfl⟩
end
end Itp
set_option Elab.async false
set_option linter.all false
set_option maxRecDepth 100000
set_option maxHeartbeats 4000000
namespace Itp
open PySem L2
section
variable {W : Wd} {C : Cfg} {T : Tab}
/-! ### statements -/
def FlOk (W : Wd) (S : Addr → Prop) (H : Hp) (S' : Addr → Prop) (G' : Hp) (σ' : St) (H' : Hp) (De : Ends) : Fl → Prop
  | .nx => De.nx σ' H'
  | .bk => De.bk σ' H'
  | .ct => De.ct σ' H'
  | .rt r => ∀ v, ResOk W S H S' G' H' r v → De.rt v H'
def AftS (W : Wd) (σ : St) (e : Env) (S : Addr → Prop) (G H : Hp) (De : Ends) (Wx : WX) : Rs Fl → Prop
  | .no => False
  | .ok f e' => ∀ σ' G' H', Keep S G H (OwnA σ' e') G' H' → StOk W G' H' σ' e' → ParK σ e σ' e' → FlOk W S H (OwnA σ' e') G' σ' H' De f
  | .ex x e' => ∀ σ' c d G' H', Keep S G H (OwnA σ' e') G' H' → StOk W G' H' σ' e' → ParK σ e σ' e' → XOk W G' H' x c d → Wx c d σ' H'
theorem AftS.step {σ σ1 : St} {e e1 : Env} {S S1 : Addr → Prop} {G H G1 H1 : Hp} {De : Ends} {Wx : WX} {o : Rs Fl} (k : Keep S G H S1 G1 H1) (p : ParK σ e σ1 e1) (h : AftS W σ e S G H De Wx o) : AftS W σ1 e1 S1 G1 H1 De Wx o := by
  cases o with
  | no => exact h
  | ok f e' =>
    intro σ' G' H' k' s' p'
    have q := h σ' G' H' (k.trans k') s' (p.trans p')
    cases f with
    | nx => exact q
    | bk => exact q
    | ct => exact q
    | rt r => exact fun v hv => q v (ResOk.bears _ _ _ _ _ _ _ _ _ (fun a => k.fresh) hv)
  | ex x e' => exact fun σ' c d G' H' k' s' p' x' => h σ' c d G' H' (k.trans k') s' (p.trans p') x'
def GoodS (X : Cx) (W : Wd) (Wx : WX) (st : Stmt) (m : M Fl) : Prop := ∀ (env : Env) (σ : St) (G H : Hp) (De : Ends), StOk W G H σ env → AftS W σ env (OwnA σ env) G H De Wx (m env) → WS X st De σ H
def GoodSs (X : Cx) (W : Wd) (Wx : WX) (st : List Stmt) (m : M Fl) : Prop := ∀ (env : Env) (σ : St) (G H : Hp) (De : Ends), StOk W G H σ env → AftS W σ env (OwnA σ env) G H De Wx (m env) → WSs X st De σ H
/-- from an expression to the rest of a statement -/
theorem aft_toS {α β : Type} {R : (Addr → Prop) → Hp → (Addr → Prop) → Hp → Hp → α → β → Prop} {σ : St} {env : Env} {G H : Hp} {Q : β → Hp → Prop} {De : Ends} {Wx : WX} {o : Rs α} {f : α → Env → Rs Fl} (np : NP env o)
    (h : AftS W σ env (OwnA σ env) G H De Wx (o.bind f)) (k : ∀ a e1 v G1 H1, o = .ok a e1 → Keep (OwnA σ env) G H (OwnA σ e1) G1 H1 → ParK σ env σ e1 → StOk W G1 H1 σ e1 → R (OwnA σ env) H (OwnA σ e1) G1 H1 a v → AftS W σ e1 (OwnA σ e1) G1 H1 De Wx (f a e1) → Q v H1) :
    Aft W R σ (OwnA σ env) G H Q Wx o := by
  cases o with
  | no => exact h
  | ex x e' => exact fun c d G' H' k' s' x' => h σ c d G' H' k' s' (ParB.k np) x'
  | ok a e1 => exact fun v G1 H1 k1 s1 r1 => k a e1 v G1 H1 rfl k1 (ParB.k np) s1 r1 (AftS.step k1 (ParB.k np) h)
/-- the slot i gets a new thing -/
theorem StOk.setO {G H : Hp} {σ : St} {e : Env} (s : StOk W G H σ e) {i : Nat} {d : D} {a : Addr} (g : G a = none) (c : Cont W G H a d) (n : ¬ OwnA σ e a) : StOk W G H (σ.set i (some (.ref a))) (e.set i (.own d)) where
  gh := s.gh
  len := by rw [List.length_set, List.length_set]; exact s.len
  sl := fun j => by
    rw [slot_set]
    by_cases h : i = j
    · subst h
      rw [if_pos rfl]
      by_cases h2 : i < e.length
      · rw [if_pos h2]
        refine ⟨a, ?_, g, c⟩
        rw [List.getElem?_set, if_pos rfl, if_pos (by rw [← s.len]; exact h2)]
      · rw [if_neg h2]; trivial
    · rw [if_neg h]
      exact slotOk_at (by rw [List.getElem?_set, if_neg h]) (s.sl j)
  inj := fun j k b hjk hj hk h1 h2 => by
    rw [slot_set] at hj hk
    rw [List.getElem?_set] at h1 h2
    have other : ∀ j, i ≠ j → (slot e j).isMut = true → σ[j]? = some (some (.ref b)) → b ≠ a := fun j _ m q z => n ⟨j, m, by rw [q, z]⟩
    by_cases h : i = j
    · subst h
      by_cases h' : i = k
      · exact hjk h'
      · rw [if_neg h'] at hk h2
        rw [if_pos rfl] at h1
        split at h1
        · have : b = a := by simpa using h1.symm
          exact other k h' hk h2 this
        · cases h1
    · rw [if_neg h] at hj h1
      by_cases h' : i = k
      · subst h'
        rw [if_pos rfl] at h2
        split at h2
        · have : b = a := by simpa using h2.symm
          exact other j h hj h1 this
        · cases h2
      · rw [if_neg h'] at hk h2
        exact s.inj j k b hjk hj hk h1 h2
theorem own_setO {σ : St} {e : Env} {i : Nat} {d : D} {a b : Addr} (h : OwnA (σ.set i (some (.ref a))) (e.set i (.own d)) b) : OwnA σ e b ∨ b = a := by
  obtain ⟨j, h1, h2⟩ := h
  rw [slot_set] at h1
  rw [List.getElem?_set] at h2
  by_cases hh : i = j
  · subst hh
    rw [if_pos rfl] at h2
    split at h2
    · exact .inr (by simpa using h2.symm)
    · cases h2
  · rw [if_neg hh] at h1 h2
    exact .inl ⟨j, h1, h2⟩
/-- the thing in the slot i is changed -/
theorem StOk.putO {G H : Hp} {σ : St} {e : Env} (s : StOk W G H σ e) {i : Nat} {d' : D} {o : HO} {a : Addr} (m : (slot e i).isMut = true) (ha : σ[i]? = some (some (.ref a))) (c : Cont W G (upd H a o) a d') :
    StOk W G (upd H a o) σ (e.set i ((slot e i).put d')) ∧ Keep (OwnA σ e) G H (OwnA σ (e.set i ((slot e i).put d'))) G (upd H a o) ∧ ParK σ e σ (e.set i ((slot e i).put d')) := by
  have hi := slot_lt m
  have pm := put_mut (d := d') m
  have oa : OwnA σ e a := ⟨i, m, ha⟩
  have ga := s.own_none oa
  have same : ∀ j, (slot (e.set i ((slot e i).put d')) j).isMut = (slot e j).isMut ∧ (slot (e.set i ((slot e i).put d')) j).isPar = (slot e j).isPar := fun j => by
    rw [slot_set]
    by_cases h : i = j
    · subst h; rw [if_pos rfl, if_pos hi]; exact ⟨pm.1.trans m.symm, pm.2.2⟩
    · rw [if_neg h]; exact ⟨rfl, rfl⟩
  have own : ∀ b, OwnA σ (e.set i ((slot e i).put d')) b ↔ OwnA σ e b := fun b => ⟨fun ⟨j, h1, h2⟩ => ⟨j, by rw [← (same j).1]; exact h1, h2⟩, fun ⟨j, h1, h2⟩ => ⟨j, by rw [(same j).1]; exact h1, h2⟩⟩
  have gx : Ex G (upd H a o) := fun b u h => by rw [upd_ne (ne_of_none h ga)]; exact s.gh b u h
  refine ⟨⟨gx, by rw [List.length_set]; exact s.len, fun j => ?_, fun j k b hjk hj hk => ?_⟩, ⟨Ex.refl G, gx, fun b u h n => by rw [upd_ne (show b ≠ a from fun z => n (by rw [z]; exact oa))]; exact h, fun _ _ _ _ h => h, fun b h => .inl ((own b).mp h)⟩, fun j hj => ⟨by rw [← (same j).2]; exact hj, rfl⟩⟩
  · rw [slot_set]
    by_cases h : i = j
    · subst h
      rw [if_pos rfl, if_pos hi]
      exact slotOk_mut pm.1 pm.2.1 ha ga c
    · rw [if_neg h]
      have q := s.sl j
      cases w : slot e j with
      | un => trivial
      | val d => rw [w] at q; exact q
      | _ =>
        have mj : (slot e j).isMut = true := by rw [w]; rfl
        obtain ⟨d, b, z1, z2, z3, z4⟩ := s.mut mj
        have nb : b ≠ a := fun z => s.inj i j a h m mj ha (by rw [← z]; exact z2)
        rw [← w]
        exact slotOk_mut mj z1 z2 z3 (z4.mono (Ex.refl G) fun u hu => by rw [upd_ne nb]; exact hu)
  · rw [(same j).1] at hj
    rw [(same k).1] at hk
    exact s.inj j k b hjk hj hk
/-- what a statement may lean on beside -/
structure CsOk (X : Cx) (W : Wd) (C : Cfg) (T : Tab) (Wx : WX) : Prop extends CxOk X W C T Wx where
  hp : PassesOwn (model X.prog X.w) X.A X.env X.xe
  stk : X.stack = X.env :: X.outer
  frm : X.env.frame = some X.env.locals
  fn : ∀ x, X.fn x = true
  kind : X.env.scope.kind = .function
def isComp : Expr → Bool
  | .ListComp _ _ _ _ => true
  | .SetComp _ _ _ _ => true
  | .DictComp _ _ _ _ _ => true
  | _ => false
def notTupE : Expr → Bool
  | .Tuple _ _ _ => false
  | _ => true
theorem swaps_no {e : Expr} {t : Option Expr} {l : Nat} {env : PySem.Env} (h : isComp e = false) : swapsWith e t l env = pure false := by
  cases e <;> first | rfl | simp [isComp] at h
/-- name = e: the store behind the value -/
theorem ws_set {X : Cx} {Wx : WX} (cx : CsOk X W C T Wx) {i : Nat} {x : Str} {e : Expr} {p pos : Pos} {De : Ends} {σ : St} {H : Hp} (hi : X.N[i]? = some x) (hx : locB X.env.scope x = true) (hc : isComp e = false)
    (h : WE X e σ H fun v H1 => De.nx (σ.set i (some v)) H1) : WS X (.Assign [.Name x p] e pos) De σ H :=
  of_ps (ps_set cx.nd hi (locB_loc hx) peU (swaps_no hc) (.inl (cx.fn x))) h
end
end Itp
set_option Elab.async false
set_option linter.all false
set_option maxRecDepth 100000
set_option maxHeartbeats 4000000
namespace Itp
open PySem L2
section
variable {W : Wd} {C : Cfg} {T : Tab}
def fnT : Str → Bool := fun _ => true
def nameTg : Expr → Bool
  | .Name _ _ => true
  | _ => false
/-- a list of one's own, by its name -/
def ownCall (N : List Str) (sc : Scope) (m : Str) (i : Nat) : Expr → Option Expr
  | .Call (.Attribute (.Name x _) n ap) [e] [] cp => if isVar N sc i x && mthB n m ap cp && notStar e then some e else none
  | _ => none
/-- the name of an except clause -/
def chkN (N : List Str) (sc : Scope) : Option Nat → Option Str → Bool
  | none, none => true
  | some i, some n => decide (N[i]? = some n) && decide (sc.names.lookup n = some .local)
  | _, _ => false
def chkSv (N : List Str) (sc : Scope) (nm : Option Nat) : Sv → Expr → Bool
  | .cst d, .Constant c _ _ => cstIs d c
  | .fld f, .Attribute (.Name y _) g _ => decide (g = f) && (match nm with
    | some j => isVar N sc j y
    | none => false)
  | _, _ => false
def chkSvs (N : List Str) (sc : Scope) (nm : Option Nat) : List Sv → List Expr → Bool
  | [], [] => true
  | v :: vs, e :: es => chkSv N sc nm v e && chkSvs N sc nm vs es
  | _, _ => false
/-- the suite of an except clause -/
def chkSu (N : List Str) (sc : Scope) (nm : Option Nat) : Su → List Stmt → Bool
  | .cst i d, [.Assign [.Name x _] (.Constant c _ _) _] => decide (N[i]? = some x) && locB sc x && cstIs d c && decide (nm ≠ some i)
  | .lst i vs, [.Assign [.Name x _] (.List es _) _] => decide (N[i]? = some x) && locB sc x && decide (nm ≠ some i) && chkSvs N sc nm vs es
  | _, _ => false
def chkCl (T : Tab) (N : List Str) (sc : Scope) : List (Nat × Option Nat × Su) → List ExceptHandler → Bool
  | [], [] => true
  | (c, nm, su) :: r, .ExceptHandler (some (.Name x _)) n suite _ :: hr => decide (lk T.cls x = some c) && glB sc x && !(x == ("__debug__" : Str)) && chkN N sc nm n && chkSu N sc nm su suite && chkCl T N sc r hr
  | _, _ => false
mutual
def chkS (T : Tab) (N : List Str) (sc : Scope) : S → Stmt → Bool
  | .asg t a, .Assign [tg] e _ => chkT N sc fnT t tg && !isComp e && (nameTg tg || notTupE e) && chk T N sc a e
  | .own i a, .Assign [.Name x _] e _ => decide (N[i]? = some x) && locB sc x && chk T N sc a e
  | .seti i k a, .Assign [.Subscript (.Name x _) ke _] e _ => isVar N sc i x && notSlice ke && !isComp e && chk T N sc k ke && chk T N sc a e
  | .app i a, .Expr e _ => match ownCall N sc "append" i e with
    | some e' => chk T N sc a e'
    | none => false
  | .ext i a, .Expr e _ => match ownCall N sc "extend" i e with
    | some e' => chk T N sc a e'
    | none => false
  | .ex a, .Expr e _ => !isComp e && chk T N sc a e
  | .ret a, .Return (some e) _ => chk T N sc a e
  | .retn, .Return none _ => true
  | .ifs c a b, .If e x y _ => chkB T N sc c e && chkSs T N sc a x && chkSs T N sc b y
  | .for tg k as body, .For t iter b [] _ => (match itParts sc k iter with
      | some es => chks T N sc as es
      | none => false) && (match k with
      | .enum => isTup t
      | _ => true) && notSet iter && chkT N sc fnT tg t && chkSs T N sc body b
  | .whl _ c body, .While e b [] _ => chkB T N sc c e && chkSs T N sc body b
  | .rse c as, .Raise (some (.Call (.Name x _) es [] _)) none _ => decide (lk T.cls x = some c) && glB sc x && !(x == ("__debug__" : Str)) && es.all notStar && chks T N sc as es
  | .try body cls, .Try b (h :: hs) [] [] _ => chkCl T N sc cls (h :: hs) && chkSs T N sc body b
  | .pass, .Pass _ => true
  | .never, _ => true
  | _, _ => false
def chkSs (T : Tab) (N : List Str) (sc : Scope) : List S → List Stmt → Bool
  | [], [] => true
  | s :: ss, t :: ts => chkS T N sc s t && chkSs T N sc ss ts
  | _, _ => false
end
theorem swappedStores_no {tg e : Expr} {env : PySem.Env} (h : (nameTg tg || notTupE e) = true) : swappedStores [tg] e env = pure none := by
  cases tg <;> first | rfl | skip
  all_goals (cases e <;> first | rfl | (simp [nameTg, notTupE] at h))
theorem swapsSole_no {tg e : Expr} {l : Nat} {env : PySem.Env} (h : isComp e = false) : swapsWithSole [tg] e l env = pure false := swaps_no h
theorem ws_asg {X : Cx} {Wx : WX} (cx : CsOk X W C T Wx) {tg e : Expr} {pos : Pos} {De : Ends} {σ : St} {H : Hp} (hc : isComp e = false) (ht : (nameTg tg || notTupE e) = true) (hn : notStar tg = true) (h : WE X e σ H fun v H1 => WG X tg v σ H1 De.nx) : WS X (.Assign [tg] e pos) De σ H :=
  of_ps (ps_asg peU pgU (swapsSole_no hc) (swappedStores_no ht) (by rw [asg_star hn]; rfl)) h
theorem ws_setLc {X : Cx} {Wx : WX} (cx : CsOk X W C T Wx) {i : Nat} {x : Str} {p pos epos : Pos} {elt tg iter : Expr} {ifs : List Expr} {scope : Scope} {own : List Nat} {De : Ends} {σ : St} {H : Hp} (hi : X.N[i]? = some x) (hx : locB X.env.scope x = true)
    (okB : BlkOk X.N X.env.scope scope (own.map fun i => (X.N.getD i "", i))) (nset : notSet iter = true)
    (h : tLc (WI X tg iter) (tgB X scope tg) (ttB X scope ifs) (teB X scope elt) own σ H fun v H1 => De.nx (σ.set i (some v)) H1) : WS X (.Assign [.Name x p] (.ListComp elt [⟨tg, iter, ifs, 0⟩] scope epos) pos) De σ H := by
  have hb : X.env.blockKind = .function := by
    unfold PySem.Env.blockKind
    rw [cx.kind]
    rfl
  have sw : swapsWith (.ListComp elt [⟨tg, iter, ifs, 0⟩] scope epos) (some (.Name x p)) pos.line X.env = pure (X.env.blockKind == .function && X.env.kindOf x == some .local && p.line == epos.line && !(scope.names.any fun (n, k) => n == x && (k == .local || k == .cell))) := rfl
  cases q : (X.env.blockKind == .function && X.env.kindOf x == some .local && p.line == epos.line && !(scope.names.any fun (n, k) => n == x && (k == .local || k == .cell))) with
  | true =>
    rw [q] at sw
    have hl : X.env.scope.names.lookup x = some .local := by
      simp only [Bool.and_eq_true] at q
      have := q.1.1.2
      unfold PySem.Env.kindOf at this
      exact eq_of_beq this
    have ps := ps_setLc (py := p) (pos := epos) (spos := pos) cx.calm cx.nd hi hl sw (piU (tg := tg) (iter := iter)) okB (g := tgB X scope tg) (tt := ttB X scope ifs) (te := teB X scope elt) (fun s H Cc cl fp => ⟨fun pins s0 σ H v u Q I r h => h s _ Cc cl fp pins s0 u I r⟩) (fun s H Cc cl fp => ⟨fun pins s0 σ H Q I h => h s _ Cc cl fp pins s0 I⟩) (fun s H Cc cl fp => ⟨fun pins s0 σ H Q I h => h s _ Cc cl fp pins s0 I⟩) (fun x => noset_fold nset X.env x)
    rw [own_map] at ps
    exact of_ps ps h
  | false =>
    rw [q] at sw
    have pe : PE X (.ListComp elt [⟨tg, iter, ifs, 0⟩] scope epos) (tLc (WI X tg iter) (tgB X scope tg) (ttB X scope ifs) (teB X scope elt) ((own.map fun i => ((X.N.getD i "", i) : Str × Nat)).map (·.2))) :=
      pe_lc cx.calm cx.nd piU okB (fun s H Cc cl fp => ⟨fun pins s0 σ H v u Q I r h => h s _ Cc cl fp pins s0 u I r⟩) (fun s H Cc cl fp => ⟨fun pins s0 σ H Q I h => h s _ Cc cl fp pins s0 I⟩) (fun s H Cc cl fp => ⟨fun pins s0 σ H Q I h => h s _ Cc cl fp pins s0 I⟩) (fun x => noset_fold nset X.env x)
    rw [own_map] at pe
    exact of_ps (ps_set cx.nd hi (locB_loc hx) pe sw (.inl (cx.fn x))) h
/-- name = e, a new thing is one's own -/
theorem own_end {σ : St} {env e1 : Env} {G H G1 H1 : Hp} {De : Ends} {Wx : WX} {i : Nat} {r : Res} {v : V} (s0 : StOk W G H σ env) (k1 : Keep (OwnA σ env) G H (OwnA σ e1) G1 H1) (p1 : ParK σ env σ e1) (s1 : StOk W G1 H1 σ e1) (r1 : ResOk W (OwnA σ env) H (OwnA σ e1) G1 H1 r v)
    (a : AftS W σ env (OwnA σ env) G H De Wx (ownM i r e1)) : De.nx (σ.set i (some v)) H1 := by
  unfold ownM at a
  have np : (slot e1 i).isPar = false ∧ AftS W σ env (OwnA σ env) G H De Wx (.ok .nx (e1.set i r.slot)) := by
    cases w : slot e1 i <;> rw [w] at a <;> first | exact ⟨rfl, a⟩ | exact a.elim
  obtain ⟨_, a⟩ := np
  cases r with
  | val d =>
    have r1 : Rep W G1 d v := r1
    exact a _ G1 H1 (k1.trans (Keep.sub s1.gh fun b hb => own_setV hb)) (s1.setV r1) (p1.trans (par_setV rfl))
  | new d =>
    obtain ⟨b, rfl, h2, h3, h4, h5⟩ := r1
    refine a _ G1 H1 ⟨k1.gg, k1.gh, k1.hh, k1.hg, fun c hc => ?_⟩ (s1.setO h2 h3 h4) (p1.trans (par_setV rfl))
    rcases own_setO hc with z | z
    · exact k1.ss c z
    · subst z; exact h5
theorem own_ok {X : Cx} {Wx : WX} (cx : CsOk X W C T Wx) {i : Nat} {x : Str} {a : E} {e : Expr} {p pos : Pos} (hi : X.N[i]? = some x) (hx : locB X.env.scope x = true) (h : chk T X.N X.env.scope a e = true) : GoodS X W Wx (.Assign [.Name x p] e pos) (fun env => (ev C a env).bind fun r e1 => ownM i r e1) := by
  intro env σ G H De s aa
  replace aa : AftS W σ env (OwnA σ env) G H De Wx ((ev C a env).bind fun r e1 => ownM i r e1) := aa
  have main : ∀ r e1 v G1 H1, ev C a env = .ok r e1 → Keep (OwnA σ env) G H (OwnA σ e1) G1 H1 → StOk W G1 H1 σ e1 → ResOk W (OwnA σ env) H (OwnA σ e1) G1 H1 r v → De.nx (σ.set i (some v)) H1 := fun r e1 v G1 H1 q k1 s1 r1 => by
    have np := np_ev (C := C) a env
    rw [q] at np
    have aa := aa
    rw [q] at aa
    exact own_end s k1 (ParB.k np) s1 r1 aa
  by_cases hc : isComp e = true
  · cases a <;> cases e <;> first | (simp [isComp] at hc; done) | (simp only [chk, reduceCtorEq, Bool.false_eq_true] at h; done) | skip
    · rename_i o as elt gens scope epos
      simp [chk, parts] at h
    · rename_i o as elt gens scope epos
      simp [chk, parts] at h
    · rename_i o as _ elt gens scope epos
      simp [chk, parts] at h
    · rename_i k as tg own conds elt elt' gens scope epos
      obtain ⟨tg', iter, ifs, rfl⟩ : ∃ tg' iter ifs, gens = [⟨tg', iter, ifs, 0⟩] := by
        match gens, h with
        | [⟨tg', iter, ifs, n⟩], h =>
          by_cases hn : n = 0
          · subst hn; exact ⟨_, _, _, rfl⟩
          · simp [chk, hn] at h
        | [], h => simp [chk] at h
        | _ :: _ :: _, h => simp [chk] at h
      obtain ⟨okB, nset, tlc⟩ := compL_of k as tg own conds elt (fun cx h => evs_ok as cx h) (fun cx h => evAll_ok conds cx h) (fun cx h => ev_ok elt cx h) cx.toCxOk h
      refine ws_setLc cx hi hx okB nset (tlc env σ G H _ s ?_)
      have e0 : ev C (.comp k as tg own conds elt) env = compM (itM k (evs C as)) tg own (evAll C conds) (fz (ev C elt)) env := by simp only [ev]
      rw [← e0]
      cases q : ev C (.comp k as tg own conds elt) env with
      | no => rw [q] at aa; exact aa
      | ex xx e' =>
        rw [q] at aa
        have np := np_ev (C := C) (.comp k as tg own conds elt) env
        rw [q] at np
        exact fun c d G' H' k' s' x' => aa σ c d G' H' k' s' (ParB.k np) x'
      | ok r e1 => exact fun v G1 H1 k1 s1 r1 => main r e1 v G1 H1 q k1 s1 r1
  · have hc : isComp e = false := by simpa using hc
    refine ws_set cx hi hx hc (ev_ok a cx.toCxOk h env σ G H _ s ?_)
    cases q : ev C a env with
    | no => rw [q] at aa; exact aa
    | ex xx e' =>
      rw [q] at aa
      have np := np_ev (C := C) a env
      rw [q] at np
      exact fun c d G' H' k' s' x' => aa σ c d G' H' k' s' (ParB.k np) x'
    | ok r e1 => exact fun v G1 H1 k1 s1 r1 => main r e1 v G1 H1 q k1 s1 r1
end
end Itp
set_option Elab.async false
set_option linter.all false
set_option maxRecDepth 100000
set_option maxHeartbeats 4000000
namespace Itp
open PySem L2
section
variable {W : Wd} {C : Cfg} {T : Tab}
theorem notStar_of {N : List Str} {sc : Scope} {fn : Str → Bool} {t : Tg} {e : Expr} (h : chkT N sc fn t e = true) : notStar e = true := by
  cases e <;> first | rfl | (cases t <;> simp [chkT] at h)
theorem asg_ok {X : Cx} {Wx : WX} (cx : CsOk X W C T Wx) {t : Tg} {a : E} {tg e : Expr} {pos : Pos} (ht : chkT X.N X.env.scope fnT t tg = true) (hc : isComp e = false) (hn : (nameTg tg || notTupE e) = true) (h : chk T X.N X.env.scope a e = true) :
    GoodS X W Wx (.Assign [tg] e pos) (fun env => (fz (ev C a) env).bind fun d e1 => match bindT t d e1 with | some e2 => .ok .nx e2 | none => .no) := by
  intro env σ G H De s aa
  refine ws_asg cx hc hn (notStar_of ht) (good_fz (ev_ok a cx.toCxOk h) s (aft_toS (np_fz (np_ev a env)) aa fun d e1 v G1 H1 _ k1 p1 s1 r1 a1 => ?_))
  have r1 : Rep W G1 d v := r1
  cases q : bindT t d e1 with
  | none => rw [q] at a1; exact a1.elim
  | some e2 =>
    rw [q] at a1
    rw [← funext (f := X.fn) (g := fnT) fun x => cx.fn x] at ht
    exact bindT_ok cx.toCxOk t tg d v σ e1 e2 _ ht q s1 r1 fun σ' s' o' p' _ => a1 σ' G1 H1 (Keep.sub s1.gh o') s' p'
theorem var_name {X : Cx} {i : Nat} {x : Str} {p : Pos} {σ : St} {H : Hp} {Q : VK} {a : Addr} (h : isVar X.N X.env.scope i x = true) (ha : σ[i]? = some (some (.ref a))) (q : Q (.ref a) H) : WE X (.Name x p) σ H Q := isVar_ok h ha q
theorem reps_set : ∀ {G : Hp} {ds : List D} {vs : List V} {n : Nat} {d : D} {v : V}, Reps W G ds vs → Rep W G d v → Reps W G (ds.set n d) (vs.set n v)
  | G, [], _, _, _, _, h, _ => by simp only [Reps] at h; subst h; simp [Reps]
  | G, x :: xs, _, 0, d, v, h, r => by
    simp only [Reps] at h
    obtain ⟨w, t, rfl, h1, h2⟩ := h
    simp only [List.set_cons_zero, Reps]
    exact ⟨v, t, rfl, r, h2⟩
  | G, x :: xs, _, n + 1, d, v, h, r => by
    simp only [Reps] at h
    obtain ⟨w, t, rfl, h1, h2⟩ := h
    simp only [List.set_cons_succ, Reps]
    exact ⟨w, _, rfl, h1, reps_set h2 r⟩
theorem subs_asg {o i : Expr} {pos : Pos} {env : PySem.Env} (h : notSlice i = true) (v : Value) : assign (.Subscript o i pos) env v = (do
      let ov ← holding [v] (eval o env)
      let iv ← holding [v, ov] (eval i env)
      standAt pos
      holding [v, ov, iv] (setItem ov iv v)
      release [v, ov, iv] []) := by
  cases i <;> first | rfl | simp [notSlice] at h
theorem seti_ok {X : Cx} {Wx : WX} (cx : CsOk X W C T Wx) {i : Nat} {x : Str} {k a : E} {ke e : Expr} {p sp pos : Pos} (hv : isVar X.N X.env.scope i x = true) (hs : notSlice ke = true) (hc : isComp e = false) (hk : chk T X.N X.env.scope k ke = true) (h : chk T X.N X.env.scope a e = true) :
    GoodS X W Wx (.Assign [.Subscript (.Name x p) ke sp] e pos) (fun env => (fz (ev C a) env).bind fun d e1 => if (slot e1 i).isMut then (fz (ev C k) e1).bind fun x e2 => setM i x d e2 else .no) := by
  intro env σ G H De s aa
  refine of_ps (ps_asg peU (pg_sub peU peU set_list (fun v => subs_asg hs v)) (swapsSole_no hc) (by cases e <;> rfl) rfl) ?_
  refine good_fz (ev_ok a cx.toCxOk h) s (aft_toS (np_fz (np_ev a env)) aa fun d e1 v G1 H1 _ k1 p1 s1 r1 a1 => ?_)
  have r1 : Rep W G1 d v := r1
  by_cases hm : (slot e1 i).isMut = true
  · rw [if_pos hm] at a1
    obtain ⟨d0, b, z1, z2, z3, z4⟩ := s1.mut hm
    refine isVar_ok hv z2 ?_
    refine good_fz (ev_ok k cx.toCxOk hk) s1 (aft_toS (np_fz (np_ev k e1)) a1 fun kd e2 kv G2 H2 _ k2 p2 s2 r2 a2 => ?_)
    replace r2 : Rep W G2 kd kv := r2
    unfold setM at a2
    cases hm2 : (slot e2 i).isMut with
    | false => rw [hm2] at a2; exact a2.elim
    | true =>
      rw [hm2] at a2
      obtain ⟨d1, b', y1, y2, y3, y4⟩ := s2.mut hm2
      rw [z2] at y2
      cases y2
      rw [y1] at a2
      cases d1 <;> first | exact a2.elim | skip
      · rename_i xs
        simp only at a2
        cases kd <;> first | exact a2.elim | skip
        rename_i j _
        simp only at a2
        simp only [Rep] at r2
        cases q : ixOf xs.length j with
        | none => rw [q] at a2; exact a2.elim
        | some n =>
          rw [q] at a2
          obtain ⟨vs, h1, h2⟩ := y4
          refine ⟨b, vs, j, n, rfl, r2, h1, ?_, ?_⟩
          · rw [reps_len h2]; exact q
          · obtain ⟨s3, k3, p3⟩ := s2.putO (d' := .lst (xs.set n d)) (o := .lst (vs.set n v)) hm2 z2 ⟨vs.set n v, upd_same, reps_set h2 (Rep.mono k2.gg _ _ r1)⟩
            exact a2 σ G2 _ k3 s3 p3
  · rw [if_neg hm] at a1
    exact a1.elim
theorem ownLst_at {G H : Hp} {σ : St} {e : Env} {i : Nat} (s : StOk W G H σ e) (h : ownLst e i = true) : (slot e i).isMut = true ∧ ∃ (b : Addr) (vs : List V), σ[i]? = some (some (.ref b)) ∧ H b = some (.lst vs) := by
  unfold ownLst at h
  have q := s.sl i
  cases w : slot e i with
  | un => rw [w] at h; cases h
  | val d => rw [w] at h; cases h
  | own d =>
    rw [w] at h q
    cases d <;> first | cases h | skip
    obtain ⟨b, q1, q2, vs, q3, q4⟩ := q
    exact ⟨rfl, b, vs, q1, q3⟩
  | par d =>
    rw [w] at h q
    cases d <;> first | cases h | skip
    obtain ⟨b, q1, q2, vs, q3, q4⟩ := q
    exact ⟨rfl, b, vs, q1, q3⟩
theorem ownCall_of {N : List Str} {sc : Scope} {m : Str} {i : Nat} {e e' : Expr} (h : ownCall N sc m i e = some e') : ∃ x p n ap cp, e = .Call (.Attribute (.Name x p) n ap) [e'] [] cp ∧ isVar N sc i x = true ∧ mthB n m ap cp = true ∧ notStar e' = true := by
  unfold ownCall at h
  split at h
  · split at h
    · cases h
      rename_i hb
      simp only [Bool.and_eq_true] at hb
      exact ⟨_, _, _, _, _, rfl, hb.1.1, hb.1.2, hb.2⟩
    · cases h
  · cases h
theorem app_ok {X : Cx} {Wx : WX} (cx : CsOk X W C T Wx) {i : Nat} {a : E} {e e' : Expr} {pos : Pos} (ho : ownCall X.N X.env.scope "append" i e = some e') (h : chk T X.N X.env.scope a e' = true) :
    GoodS X W Wx (.Expr e pos) (fun env => if ownLst env i then (fz (ev C a) env).bind fun d e1 => appM i d e1 else .no) := by
  obtain ⟨x, p, n, ap, cp, rfl, hv, hm, hs⟩ := ownCall_of ho
  unfold mthB at hm
  rw [Bool.and_eq_true, decide_eq_true_eq] at hm
  obtain ⟨rfl, hl⟩ := hm
  intro env σ G H De s aa
  have hs' : [e'].all notStar = true := by simp only [List.all_cons, hs]; rfl
  refine of_ps (ps_expr (pe_bm PySem.F.plainAttrs_list PySem.F.slot_list_append PySem.F.type_list_append mt_append peU (paU hs') rfl (few1 hs) hl (star_each hs) (star_any cp [] rfl).1) rfl) ?_
  by_cases hb : ownLst env i = true
  · replace aa : AftS W σ env (OwnA σ env) G H De Wx (if ownLst env i = true then (fz (ev C a) env).bind fun d e1 => appM i d e1 else .no) := aa
    rw [if_pos hb] at aa
    obtain ⟨m0, b, vs0, z1, z2⟩ := ownLst_at s hb
    refine isVar_ok hv z1 ⟨.inl ⟨rfl, vs0, .inl (.inl z2)⟩, ?_⟩
    refine good_fz (ev_ok a cx.toCxOk h) s (aft_toS (np_fz (np_ev a env)) aa fun d e1 v G1 H1 _ k1 p1 s1 r1 a1 => ?_)
    replace r1 : Rep W G1 d v := r1
    unfold appM at a1
    cases hm2 : (slot e1 i).isMut with
    | false => rw [hm2] at a1; exact a1.elim
    | true =>
      rw [hm2] at a1
      obtain ⟨d1, b', y1, y2, y3, y4⟩ := s1.mut hm2
      rw [z1] at y2
      cases y2
      rw [y1] at a1
      cases d1 <;> first | exact a1.elim | skip
      rename_i xs
      simp only at a1
      obtain ⟨vs, h1, h2⟩ := y4
      by_cases hz : xs.length < big
      · rw [if_pos hz] at a1
        refine ⟨b, vs, v, rfl, rfl, h1, Nat.lt_of_lt_of_le (by rw [reps_len h2]; exact hz) (by decide), ?_⟩
        obtain ⟨s3, k3, p3⟩ := s1.putO (d' := .lst (xs ++ [d])) (o := .lst (vs ++ [v])) hm2 z1 ⟨vs ++ [v], upd_same, reps_append h2 (by simp only [Reps]; exact ⟨v, [], rfl, r1, rfl⟩)⟩
        exact a1 σ G1 _ k3 s3 p3
      · rw [if_neg hz] at a1; exact a1.elim
  · replace aa : AftS W σ env (OwnA σ env) G H De Wx (if ownLst env i = true then (fz (ev C a) env).bind fun d e1 => appM i d e1 else .no) := aa
    rw [if_neg hb] at aa
    exact aa.elim
theorem ext_ok {X : Cx} {Wx : WX} (cx : CsOk X W C T Wx) {i : Nat} {a : E} {e e' : Expr} {pos : Pos} (ho : ownCall X.N X.env.scope "extend" i e = some e') (h : chk T X.N X.env.scope a e' = true) :
    GoodS X W Wx (.Expr e pos) (fun env => if ownLst env i then (fz (ev C a) env).bind fun d e1 => extM i d e1 else .no) := by
  obtain ⟨x, p, n, ap, cp, rfl, hv, hm, hs⟩ := ownCall_of ho
  unfold mthB at hm
  rw [Bool.and_eq_true, decide_eq_true_eq] at hm
  obtain ⟨rfl, hl⟩ := hm
  intro env σ G H De s aa
  have hs' : [e'].all notStar = true := by simp only [List.all_cons, hs]; rfl
  refine of_ps (ps_expr (pe_bm PySem.F.plainAttrs_list PySem.F.slot_list_extend PySem.F.type_list_extend mt_extend peU (paU hs') rfl (few1 hs) hl (star_each hs) (star_any cp [] rfl).1) rfl) ?_
  by_cases hb : ownLst env i = true
  · replace aa : AftS W σ env (OwnA σ env) G H De Wx (if ownLst env i = true then (fz (ev C a) env).bind fun d e1 => extM i d e1 else .no) := aa
    rw [if_pos hb] at aa
    obtain ⟨m0, b, vs0, z1, z2⟩ := ownLst_at s hb
    refine isVar_ok hv z1 ⟨.inl ⟨rfl, vs0, .inl (.inl z2)⟩, ?_⟩
    refine good_fz (ev_ok a cx.toCxOk h) s (aft_toS (np_fz (np_ev a env)) aa fun d e1 v G1 H1 _ k1 p1 s1 r1 a1 => ?_)
    replace r1 : Rep W G1 d v := r1
    unfold extM at a1
    cases hm2 : (slot e1 i).isMut with
    | false => rw [hm2] at a1; exact a1.elim
    | true =>
      rw [hm2] at a1
      obtain ⟨d1, b', y1, y2, y3, y4⟩ := s1.mut hm2
      rw [z1] at y2
      cases y2
      rw [y1] at a1
      cases d1 <;> first | exact a1.elim | skip
      rename_i xs
      cases d <;> first | exact a1.elim | skip
      rename_i ys _
      simp only at a1
      obtain ⟨vs, h1, h2⟩ := y4
      simp only [Rep] at r1
      obtain ⟨c, us, rfl, r2, r3⟩ := r1
      by_cases hz : xs.length + ys.length ≤ big
      · rw [if_pos hz] at a1
        refine ⟨b, c, vs, us, rfl, rfl, h1, s1.gh _ _ r2, big_line (by rw [reps_len h2, reps_len r3]; exact hz), ?_⟩
        obtain ⟨s3, k3, p3⟩ := s1.putO (d' := .lst (xs ++ ys)) (o := .lst (vs ++ us)) hm2 z1 ⟨vs ++ us, upd_same, reps_append h2 r3⟩
        exact a1 σ G1 _ k3 s3 p3
      · rw [if_neg hz] at a1; exact a1.elim
  · replace aa : AftS W σ env (OwnA σ env) G H De Wx (if ownLst env i = true then (fz (ev C a) env).bind fun d e1 => extM i d e1 else .no) := aa
    rw [if_neg hb] at aa
    exact aa.elim
/-- what is handed back -/
theorem ret_ok {X : Cx} {Wx : WX} (cx : CsOk X W C T Wx) {a : E} {e : Expr} {pos : Pos} (h : chk T X.N X.env.scope a e = true) : GoodS X W Wx (.Return (some e) pos) (fun env => (retM a (ev C a) env).bind fun r e1 => .ok (.rt r) e1) := by
  intro env σ G H De s aa
  replace aa : AftS W σ env (OwnA σ env) G H De Wx ((retM a (ev C a) env).bind fun r e1 => .ok (.rt r) e1) := aa
  refine of_ps (ps_ret peU) ?_
  show WE X e σ H De.rt
  by_cases hc : ∃ i, a = .var i
  · obtain ⟨i, rfl⟩ := hc
    cases e <;> simp only [chk, reduceCtorEq, Bool.false_eq_true] at h
    simp only [retM] at aa
    have q := s.sl i
    cases w : slot env i with
    | un => rw [w] at aa; exact aa.elim
    | par d => rw [w] at aa; exact aa.elim
    | val d =>
      rw [w] at aa q
      obtain ⟨v, q1, q2⟩ := q
      exact isVar_ok h q1 (aa σ G H (Keep.refl s.gh) s (ParK.refl _ _) v q2)
    | own d =>
      have hm : (slot env i).isMut = true := by rw [w]; rfl
      rw [w] at aa q
      obtain ⟨b, q1, q2, q3⟩ := q
      have hi := slot_lt hm
      have sub : ∀ c, OwnA σ (env.set i .un) c → OwnA σ env c ∧ c ≠ b := fun c ⟨j, h1, h2⟩ => by
        rw [slot_set] at h1
        by_cases z : i = j
        · subst z; rw [if_pos rfl, if_pos hi] at h1; cases h1
        · rw [if_neg z] at h1
          exact ⟨⟨j, h1, h2⟩, fun e => by subst e; exact s.inj i j c z hm h1 q1 h2⟩
      have s' : StOk W G H σ (env.set i .un) := ⟨s.gh, by rw [List.length_set]; exact s.len, fun j => by
          rw [slot_set]
          by_cases z : i = j
          · subst z; rw [if_pos rfl, if_pos hi]; trivial
          · rw [if_neg z]; exact s.sl j, fun j k c hjk hj hk h1 => by
          rw [slot_set] at hj hk
          by_cases z : i = j
          · subst z; rw [if_pos rfl, if_pos hi] at hj; cases hj
          · by_cases z' : i = k
            · subst z'; rw [if_pos rfl, if_pos hi] at hk; cases hk
            · rw [if_neg z] at hj; rw [if_neg z'] at hk; exact s.inj j k c hjk hj hk h1⟩
      refine isVar_ok h q1 (aa σ G H (Keep.sub s.gh fun c hc => (sub c hc).1) s' (ParB.k (ParB.set fun z => by cases z)) (.ref b) ⟨b, rfl, q2, q3, fun ho => (sub b ho).2 rfl, .inl ⟨i, hm, q1⟩⟩)
  · have e1 : retM a (ev C a) = ev C a := by cases a <;> first | rfl | exact absurd ⟨_, rfl⟩ hc
    rw [e1] at aa
    refine ev_ok a cx.toCxOk h env σ G H _ s ?_
    have np := np_ev (C := C) a env
    cases q : ev C a env with
    | no => rw [q] at aa; exact aa
    | ex xx e' => rw [q] at aa np; exact fun c d G' H' k' s' x' => aa σ c d G' H' k' s' (ParB.k np) x'
    | ok r e' => rw [q] at aa np; exact fun v G' H' k' s' r' => aa σ G' H' k' s' (ParB.k np) v r'
end
end Itp
set_option Elab.async false
set_option linter.all false
set_option maxRecDepth 100000
set_option maxHeartbeats 4000000
namespace Itp
open PySem L2
section
variable {W : Wd} {C : Cfg} {T : Tab}
/-! ### loops -/
theorem for_ok {X : Cx} {Wx : WX} (cx : CsOk X W C T Wx) {tg : Tg} {t iter : Expr} {k : ItK} {es : List Expr} {b : List Stmt} {mA : M (List Opd)} {mB : M Fl} {pos : Pos} (hit : itParts X.env.scope k iter = some es) (hen : k = .enum → isTup t = true) (hn : notSet iter = true) (ht : chkT X.N X.env.scope fnT tg t = true)
    (hA : GoodL X W Wx es mA) (hB : GoodSs X W Wx b mB) (npA : ∀ e, NP e (mA e)) : GoodS X W Wx (.For t iter b [] pos) (fun env => (itM k mA env).bind fun xs e1 => forL tg mB xs e1) := by
  intro env σ G H De s aa
  replace aa : AftS W σ env (OwnA σ env) G H De Wx ((itM k mA env).bind fun xs e1 => forL tg mB xs e1) := aa
  rw [← funext (f := X.fn) (g := fnT) fun x => cx.fn x] at ht
  refine of_ps (ps_for cx.hp cx.calm piU pgU pssU (fun x => noset_fold hn X.env x)) ?_
  unfold itM at aa
  have np := npA env
  cases qA : mA env with
  | no => rw [qA] at aa; exact aa.elim
  | ex x e' => rw [qA] at aa; exact aa.elim
  | ok os e1 =>
    rw [qA] at aa np
    simp only at aa
    cases qo : opds e1 os with
    | none => rw [qo] at aa; exact aa.elim
    | some ds =>
      rw [qo] at aa
      simp only at aa
      by_cases hm : (muts e1 os).isEmpty = true
      · rw [if_pos hm] at aa
        cases qi : items k ds with
        | none => rw [qi] at aa; exact aa.elim
        | some xs =>
          rw [qi] at aa
          simp only [ofO, Rs.bind] at aa
          refine it_ok cx.toCxOk hit hen qi (hA env σ G H _ s ?_)
          rw [qA]
          intro vs G1 H1 k1 s1 r1
          refine ⟨G1, s1.gh, opd_fz s1 r1 qo hm, fun J P wk pG => ?_⟩
          have a1 := AftS.step k1 (ParB.k np) aa
          refine ⟨fun i m σi Hi => m = xs.length - i ∧ i ≤ xs.length ∧ ∃ Gi ei, StOk W Gi Hi σi ei ∧ P Gi ∧ AftS W σi ei (OwnA σi ei) Gi Hi De Wx (forL tg mB (xs.drop i) ei), ⟨xs.length, by simp, Nat.zero_le _, G1, e1, s1, pG, by simpa using a1⟩, ?_⟩
          rintro i m σi Hi ⟨rfl, hi, Gi, ei, si, pi, ai⟩
          cases hx : xs.drop i with
          | nil =>
            have hlen : xs.length ≤ i := by
              have := congrArg List.length hx
              simp at this
              omega
            rw [hx] at ai
            simp only [forL] at ai
            exact .inl ⟨wk.stop i Gi Hi pi si.gh hlen, ai σi Gi Hi (Keep.refl si.gh) si (ParK.refl _ _)⟩
          | cons x rest =>
            obtain ⟨hx1, hx2, hx3⟩ := drop_cons hx
            rw [hx] at ai
            simp only [forL] at ai
            cases qb : bindT tg x ei with
            | none => rw [qb] at ai; exact ai.elim
            | some e2 =>
              rw [qb] at ai
              simp only at ai
              refine .inr ⟨wk.go i Gi Hi pi si.gh hx3, fun σ' H' => ∃ m', m' < xs.length - i ∧ (m' = xs.length - (i + 1) ∧ i + 1 ≤ xs.length ∧ ∃ Gi ei, StOk W Gi H' σ' ei ∧ P Gi ∧ AftS W σ' ei (OwnA σ' ei) Gi H' De Wx (forL tg mB (xs.drop (i + 1)) ei)), fun σ' H' h => h, fun xv H3 hy => ?_⟩
              obtain ⟨G3, g3, rx⟩ := wk.yld i Gi Hi xv H3 x pi si.gh hx1 hy
              have s3 := g3.st si
              refine bindT_ok cx.toCxOk tg t x xv σi ei e2 _ ht qb s3 rx fun σ2 s4 o4 p4 _ => ?_
              have a4 := AftS.step (g3.keep.trans (Keep.sub s3.gh o4)) p4 ai
              refine hB e2 σ2 G3 H3 _ s4 ?_
              cases qB : mB e2 with
              | no => rw [qB] at a4; exact a4
              | ex xc e3 => rw [qB] at a4; exact a4
              | ok f e3 =>
                rw [qB] at a4
                simp only [Rs.bind] at a4
                have again : AftS W σ2 e2 (OwnA σ2 e2) G3 H3 De Wx (forL tg mB rest e3) → ∀ σ' G' H', Keep (OwnA σ2 e2) G3 H3 (OwnA σ' e3) G' H' → StOk W G' H' σ' e3 → ParK σ2 e2 σ' e3 → ∃ m', m' < xs.length - i ∧ (m' = xs.length - (i + 1) ∧ i + 1 ≤ xs.length ∧ ∃ Gi ei, StOk W Gi H' σ' ei ∧ P Gi ∧ AftS W σ' ei (OwnA σ' ei) Gi H' De Wx (forL tg mB (xs.drop (i + 1)) ei)) := fun a σ' G' H' k' s' p' =>
                  ⟨xs.length - (i + 1), by omega, rfl, hx3, G', e3, s', wk.mono Gi G' (g3.gg.trans k'.gg) pi, by rw [hx2]; exact AftS.step k' p' a⟩
                cases f with
                | nx => exact fun σ' G' H' k' s' p' => again a4 σ' G' H' k' s' p'
                | ct => exact fun σ' G' H' k' s' p' => again a4 σ' G' H' k' s' p'
                | bk => exact fun σ' G' H' k' s' p' => a4 σ' G' H' k' s' p'
                | rt r => exact fun σ' G' H' k' s' p' => a4 σ' G' H' k' s' p'
      · rw [if_neg hm] at aa
        exact aa.elim
theorem whl_ok {X : Cx} {Wx : WX} (cx : CsOk X W C T Wx) {c : Expr} {b : List Stmt} {mC : M Bool} {mB : M Fl} {pos : Pos} {n : Nat} (hC : GoodB X W Wx c mC) (hB : GoodSs X W Wx b mB) (npC : ∀ e, NP e (mC e)) : GoodS X W Wx (.While c b [] pos) (whlL mC mB n) := by
  intro env σ G H De s aa
  refine of_ps (ps_while cx.hp ptU pssU) ?_
  refine ⟨fun m σi Hi => ∃ Gi ei, StOk W Gi Hi σi ei ∧ AftS W σi ei (OwnA σi ei) Gi Hi De Wx (whlL mC mB m ei), ⟨n, G, env, s, aa⟩, ?_⟩
  rintro m σi Hi ⟨Gi, ei, si, ai⟩
  cases m with
  | zero => exact ai.elim
  | succ m =>
    simp only [whlL] at ai
    refine hC ei σi Gi Hi _ si (aft_toS (npC ei) ai fun t e1 t' G1 H1 _ k1 p1 s1 r1 a1 => ?_)
    have r1 : t' = t := r1
    subst r1
    cases t' with
    | false =>
      rw [if_neg Bool.false_ne_true] at a1 ⊢
      exact a1 σi G1 H1 (Keep.refl s1.gh) s1 (ParK.refl _ _)
    | true =>
      rw [if_pos rfl] at a1 ⊢
      refine ⟨fun σ' H' => ∃ Gi ei, StOk W Gi H' σ' ei ∧ AftS W σ' ei (OwnA σ' ei) Gi H' De Wx (whlL mC mB m ei), fun σ' H' h => ⟨m, Nat.lt_succ_self m, h⟩, hB e1 σi G1 H1 _ s1 ?_⟩
      cases qB : mB e1 with
      | no => rw [qB] at a1; exact a1
      | ex xc e3 => rw [qB] at a1; exact a1
      | ok f e3 =>
        rw [qB] at a1
        simp only [Rs.bind] at a1
        cases f with
        | nx => exact fun σ' G' H' k' s' p' => ⟨G', e3, s', AftS.step k' p' a1⟩
        | ct => exact fun σ' G' H' k' s' p' => ⟨G', e3, s', AftS.step k' p' a1⟩
        | bk => exact fun σ' G' H' k' s' p' => a1 σ' G' H' k' s' p'
        | rt r => exact fun σ' G' H' k' s' p' => a1 σ' G' H' k' s' p'
end
end Itp
set_option Elab.async false
set_option linter.all false
set_option maxRecDepth 100000
set_option maxHeartbeats 4000000
namespace Itp
open PySem L2 PySem.Spec PyProof.Rows
section
variable {X : Cx}
/-! ### an exception without a dict -/
theorem mkN_end {pins : List (Addr × Obj)} {σ : L2.St} {H1 H2 : Hp} {Q : XK} {hp hp2 h2 : Heap} {g1 g2 : Array GenState} {d1 d2 : Drawn} {t1 t2 : Nat} {os1 os2 : OsState} {a C : Addr} (T : Raises X (.ref C)) (I1 : L2.Inv X pins σ H1 ⟨hp, g1, d1, t1, os1⟩)
    (ha : hp.objs.size ≤ a) (k : ∀ b o, hp.get? b = some o → hp2.get? b = some o) (un : Un (frs X.stack) [] (upd H1 a (exo a C none)) H2 hp2 h2) (hok : HOk X.prog X.w H2 h2) (ho : os2 = os1) (hb : AllBare g2)
    (ea : H2 a = some (exo a C none)) (q : Q (.ref C) none (del H2 a)) : MkP X pins σ Q (.ref a) ⟨h2, g2, d2, t2, os2⟩ := by
  obtain ⟨t0, hoe⟩ := exo_at hok ea
  have hn : H1 a = none := I1.hok.fresh ha
  obtain ⟨G, g1', g2'⟩ := restrict h2 fun b => decide (b ≠ a)
  have gk : ∀ b, b ≠ a → G.get? b = h2.get? b := fun b hb => g1' b (decide_eq_true hb)
  have ge : G.get? a = none := g2' a (by simp)
  have nha : ∀ {b : Addr} {o : Obj}, hp.get? b = some o → b ≠ a := fun {b o} z => Nat.ne_of_lt (Nat.lt_of_lt_of_le (Heap.lt_size z) ha)
  have up : ∀ {b : Addr}, b ≠ a → H1 b = none → upd H1 a (exo a C none) b = none := fun {b} hb n => by rw [upd_ne hb]; exact n
  have U : Un (frs X.stack) [] H1 (del H2 a) hp G := {
    keep := fun b o z n hf hx => by
      rw [gk b (nha z)]
      exact un.keep b o (k b o z) (up (nha z) n) hf hx
    slot := fun b o z n hf hx => by
      rw [gk b (nha z)]
      exact un.slot b o (k b o z) (up (nha z) n) hf hx
    free := fun b o z n hx => by
      rw [del_ne (nha z)]
      exact un.free b o (k b o z) (up (nha z) n) hx
    there := fun b o z hx => by
      rw [gk b (nha z)]
      exact un.there b o (k b o z) hx
    tups := fun b xs z => by
      rw [del_ne (ne_of_none z hn)]
      exact un.tups b xs (by rw [upd_ne (ne_of_none z hn)]; exact z)
    frzs := fun b o v z => by
      rw [del_ne (ne_of_none z hn)]
      exact un.frzs b o v (by rw [upd_ne (ne_of_none z hn)]; exact z)
    tbls := fun b ps z => by
      rw [del_ne (ne_of_none z hn)]
      exact un.tbls b ps (by rw [upd_ne (ne_of_none z hn)]; exact z) }
  have hok3 : HOk X.prog X.w (del H2 a) G := fun b o z => by
    have hba : b ≠ a := fun e => by
      rw [e, del_same] at z
      cases z
    rw [del_ne hba] at z
    have noa : ∀ {c : Addr}, H2 c = some (.own b) → c ≠ a := fun {c} hc => at_ne ea hc exo_own
    exact (hok b o z).stay (fun c v hc y => by
        have hca : c ≠ a := by
          rcases hc with hc | hc
          · rw [hc]
            exact hba
          · exact noa hc
        rw [gk c hca]
        exact y)
      (fun c hc => by rw [del_ne (noa hc)]; exact hc) (fun c xs hc => by rw [del_ne (at_ne ea hc exo_tup)]; exact hc)
  have J : L2.Inv X pins σ (del H2 a) ⟨G, g2, d2, t2, os2⟩ := I1.call' (ch := []) ho U hok3 hb (fun b z => absurd z (by simp))
  refine ⟨a, _, _, ⟨G, g2, d2, t2, os2⟩, _, .ref C, none, rfl, J, fun b o z => ?_, ge, hoe, ⟨rfl, rfl⟩, rfl, rfl, del_same, rfl, hb, T, q⟩
  by_cases hba : b = a
  · rw [hba, ge] at z
    cases z
  · exact (gk b hba).symm.trans z
theorem pmk_oex0 {CX : CXT} {x : Str} {C fI : Addr} {k : Nat} {fd : FuncData} {ps : List Str} {sp : Sp} {p pos : Pos} (T : OexC X.K C) (iC : PySem.W.findIn X.K (.ref C) "__init__" = some (some (.ref fI))) (tI : PySem.W.typeIn X.K (.ref fI) = some (.type "function"))
    (F1 : FnOk X.prog X.w X.K X.mg X.base CX k fI fd ps sp) (hr : Room (k + 1) X.A) (hb : Binds X.K fd ps []) (hx : Passes CX X (fun _ _ _ => False)) (hg : Gl X x) (hm : X.mg x = some (.ref C)) (hdb : (x == ("__debug__" : Str)) = false) :
    PMk X (.Call (.Name x p) [] [] pos) (fun σ H1 Q => ∀ a, H1 a = none → sp [.ref a] (upd H1 a (exo a C none)) (fun v H2 => v = .non ∧ H2 a = some (exo a C none) ∧ Q (.ref C) none (del H2 a)) (fun _ _ _ => False)) := by
  intro pins s σ H1 Q I1 q1
  obtain ⟨nm, q, N, bs, bm, sn, sub, ab, col, dd, k0, k1, k2, k3, k5, hC, hbm⟩ := T.cls
  refine wpAny_Call_Name_kw (ld_glob I1 hg hm ?_ hdb)
  refine PySem.W.callWith_K0 I1.kIn T.kC ?_
  show wpAny _ _ (call (.ref C) []) _ _ _
  obtain ⟨hp, g, dr, tk, os⟩ := s
  have hsz : hp.objs.size ≤ hp.objs.size + 1 := Nat.le_succ _
  have hn : H1 (hp.objs.size + 1) = none := I1.hok.fresh hsz
  have hq := q1 (hp.objs.size + 1) hn
  have kk : ∀ b o, hp.get? b = some o → ((hp.push (PySem.W.kdv_tup [])).push (PySem.HandSPX.excO C hp.objs.size)).get? b = some o := fun b o e => Heap.get?_push_of_some _ (Heap.get?_push_of_some _ e)
  have hget : ((hp.push (PySem.W.kdv_tup [])).push (PySem.HandSPX.excO C hp.objs.size)).get? (hp.objs.size + 1) = some (PySem.HandSPX.excO C hp.objs.size) := by heap_get
  have I2 : L2.Inv X pins σ (upd H1 (hp.objs.size + 1) (exo (hp.objs.size + 1) C none)) ⟨(hp.push (PySem.W.kdv_tup [])).push (PySem.HandSPX.excO C hp.objs.size), g, dr, tk, os⟩ :=
    I1.laid (t' := tk) (a := hp.objs.size + 1) (o := exo (hp.objs.size + 1) C none) (h' := (hp.push (PySem.W.kdv_tup [])).push (PySem.HandSPX.excO C hp.objs.size)) kk hsz (exo_ok hget)
  have r2 : Vals [V.ref (hp.objs.size + 1)] [Value.ref (hp.objs.size + 1)] := .cons rfl .nil
  have hl : ([Value.ref (hp.objs.size + 1)] ++ []).length = ps.length := by
    have e := r2.length
    rw [F1.len _ _ _ _ hq] at e
    exact e.symm
  refine wpAny_call (PySem.HandSPX.call_own (rest := []) F.excBase_ValueError (fun Y => PySem.HandSPX.refsVE_contains Y bm hbm) (I1.kIn _ _ hC) (PySem.W.looks_findIn I1.kIn iC) (fun self => PySem.W.bind_fn I1.kIn self tI) (by decide)
    (codeAny_mono (F1.run _ X.stack _ _ ⟨[Value.ref (hp.objs.size + 1)], []⟩ [Value.ref (hp.objs.size + 1)] _ _ (fun _ _ _ => False) (hr.make C [] []) (I2.env0.make C [] []) (hb _ [Value.ref (hp.objs.size + 1)] I2.kIn hl) r2 hq) fun r s' hq' => ?_))
  cases r with
  | error er => exact hx pins σ _ _ er s' I2 hq'
  | ok fl =>
    cases fl with
    | ret u =>
      obtain ⟨v, H2, os2, bare2, un2, hok2, rv, ev, ea, q2⟩ := hq'
      subst ev
      obtain ⟨h2, g2, d2, t2, os'⟩ := s'
      exact ⟨rv, mkN_end (raises_own T.exC T.tyC) I1 hsz kk un2 hok2 os2 bare2 ea q2⟩
    | next => exact False.elim hq'
    | brk => exact False.elim hq'
    | cont => exact False.elim hq'
/-- B.__init__(self, ..), B an own class over ValueError -/
theorem pe_binit {x : Str} {B : Addr} {e f : Expr} {ta : TA} {p1 p2 pos : Pos} (hg : Gl X x) (hm : X.mg x = some (.ref B)) (hdb : (x == ("__debug__" : Str)) = false) (sB : PySem.W.specialIn X.K (.ref B) "__getattribute__" = some (some (.builtin "type.__getattribute__")))
    (rB : PySem.W.readsIn X.K B (.type "type") = true) (vB : PySem.W.findCls X.K (.ref B) (.type "type") "__init__" = some (.val (.builtin "ValueError.__init__"))) (ha : PA X [e, f] ta) (hline : (p2.endLine == pos.line) = true)
    (n1 : notStar e = true) (n2 : notStar f = true) : PE X (.Call (.Attribute (.Name x p1) "__init__" p2) [e, f] [] pos) (tVeI X.K ta) := by
  have he2 : starEach [f] X.env = [(false, eval f X.env)] := star_each n2
  have he : starEach [e, f] X.env = (false, eval e X.env) :: starEach [f] X.env := star_each n1
  refine ⟨fun pins s σ H Q I h => ?_⟩
  have hbase : attributeBase (.Name x p1) "__init__" X.env (eval (.Name x p1) X.env) = eval (.Name x p1) X.env := rfl
  rw [arm_eval_Call, hbase]
  refine wpAny_bind (ld_glob I hg hm ?_ hdb)
  refine wpAny_bind (wpAny_standAt ?_)
  have hform : methodCallForm (([e, f] : List Expr).length + ([] : List Keyword).length) (backTo pos (starEach [e, f] X.env)) (backToKw pos (keywordEach [] X.env)) = true := by rw [he, he2]; rfl
  have hpos : methodCallPos true (.Name x p1) X.env p2 pos = pure pos := by unfold methodCallPos; simp [hline]
  unfold methodCall
  rw [hform]
  refine wpAny_bind (wpAny_holding (PySem.W.method_cls I.kIn sB (PySem.W.cls_value I.kIn rB vB (by decide +kernel) ?_)))
  refine wpAny_bind (wpAny_of_eq hpos ?_)
  show wpAny _ _ (callWith pos (Value.builtin "ValueError.__init__") [] (backTo pos (starEach [e, f] X.env)) []) _ _ _
  refine PyProof.Rows.callWith_method1 (thn (ha.run pos pins _ σ H _ (I.tok _) h) fun us s1 ⟨vs, H1, I1, r1, a, C, ws, ev, hl, T, ea, q⟩ => ?_) he (by rw [he2]; rfl)
  subst ev
  cases r1 with
  | @cons _ u0 _ ur ra rw' =>
    obtain rfl : u0 = Value.ref a := ra
    have hlen : ur.length ≤ sizeLine := by
      rw [← Paired.length rw', sizeLine_eq]
      omega
    exact oinit_ok T I1 ea hlen fun s' J => ⟨.non, H1, J, rfl, q⟩
end
end Itp
set_option Elab.async false
set_option linter.all false
set_option maxRecDepth 100000
set_option maxHeartbeats 4000000
namespace Itp
open PySem L2
/-! ### an error's __init__ -/
def XS (H0 : Hp) (a C : Addr) (l : List (Str × V)) (H : Hp) : Prop := (l = [] ∧ H = H0) ∨ ∃ dx, l ≠ [] ∧ H0 dx = none ∧ dx ≠ a ∧ H a = some (exo a C (some dx)) ∧ H dx = some (exd dx l) ∧ ∀ b, b ≠ a → b ≠ dx → H b = H0 b
def spI (K : PySem.W.Frag) (fl : List Str) : Sp := fun vs H Q _ => ∃ (a C : Addr) (ws : List V), vs = .ref a :: ws ∧ ws.length = fl.length ∧ OexC K C ∧ H a = some (exo a C none) ∧ (∀ f ∈ fl, PySem.W.findIn K (.ref C) f = some none) ∧ ∀ H', XS H a C (fl.zip ws).reverse H' → Q .non H'
def asg1 (N : List Str) (sc : Scope) (j : Nat) (f : Str) : Stmt → Bool
  | .Assign [.Attribute (.Name s _) g _] (.Name v _) _ => isVar N sc 0 s && decide (g = f) && isVar N sc j v
  | _ => false
def asgB (N : List Str) (sc : Scope) : Nat → List Str → List Stmt → Bool
  | _, [], [] => true
  | j, f :: fl, st :: r => asg1 N sc j f st && asgB N sc (j + 1) fl r
  | _, _, _ => false
def initB (N : List Str) (sc : Scope) (fl : List Str) (b : Str) : List Stmt → Bool
  | .Expr (.Call (.Attribute (.Name x _) m ap) [.Name s _, .Constant (.str _) _ _] [] cp) _ :: r => (ap.endLine == cp.line) && decide (x = b) && glB sc x && !(x == ("__debug__" : Str)) && decide (m = ("__init__" : Str)) && isVar N sc 0 s && asgB N sc 1 fl r
  | _ => false
section
variable {X : Cx}
theorem asgs_ok {a C : Addr} {H0 : Hp} (T : OexC X.K C) (h0 : H0 a = some (exo a C none)) {σ : St} {De : Ends} : ∀ (fl : List Str) (j : Nat) (ws : List V) (sts : List Stmt) (l : List (Str × V)) (H : Hp), asgB X.N X.env.scope j fl sts = true → (∀ f ∈ fl, PySem.W.findIn X.K (.ref C) f = some none) →
    σ[0]? = some (some (.ref a)) → (∀ i w, ws[i]? = some w → σ[j + i]? = some (some w)) → ws.length = fl.length → l.length + fl.length ≤ 900 → XS H0 a C l H → (∀ H', XS H0 a C ((fl.zip ws).reverse ++ l) H' → De.nx σ H') → WSs X sts De σ H
  | [], j, ws, sts, l, H, hb, hf, hs, hw, hl, hn, x, k => by
    cases sts <;> simp only [asgB, reduceCtorEq, Bool.false_eq_true] at hb
    exact of_pss pss_nil (k H (by simpa using x))
  | f :: fl, j, ws, sts, l, H, hb, hf, hs, hw, hl, hn, x, k => by
    match sts, hb with
    | [], hb => simp [asgB] at hb
    | st :: r, hb =>
      match ws, hl with
      | [], hl => simp at hl
      | w :: ws, hl =>
        obtain ⟨s, p1, p2, v, p3, p4, rfl, h1, h3, h4⟩ : ∃ s p1 p2 v p3 p4, st = .Assign [.Attribute (.Name s p1) f p2] (.Name v p3) p4 ∧ isVar X.N X.env.scope 0 s = true ∧ isVar X.N X.env.scope j v = true ∧ asgB X.N X.env.scope (j + 1) fl r = true := by
          simp only [asgB, Bool.and_eq_true] at hb
          obtain ⟨hb, b3⟩ := hb
          unfold asg1 at hb
          split at hb
          · simp only [Bool.and_eq_true, decide_eq_true_eq] at hb
            obtain ⟨⟨b1, rfl⟩, b2⟩ := hb
            exact ⟨_, _, _, _, _, _, rfl, b1, b2, b3⟩
          · cases hb
        have hwj : σ[j]? = some (some w) := by simpa using hw 0 w rfl
        refine of_pss (pss_cons (ps_ost peU peU rfl) pssU) ?_
        refine isVar_ok h3 hwj (isVar_ok h1 hs ⟨a, C, rfl, T, hf f List.mem_cons_self, ?_⟩)
        have rest : ∀ H', XS H0 a C ((f, w) :: l) H' → WSs X r De σ H' := fun H' x' => by
          refine asgs_ok T h0 fl (j + 1) ws r ((f, w) :: l) H' h4 (fun g hg => hf g (List.mem_cons_of_mem _ hg)) hs (fun i y hy => ?_) (by simpa using hl) (by simp only [List.length_cons] at hn ⊢; omega) x' fun H'' x'' => k H'' (by simpa using x'')
          have := hw (i + 1) y (by simpa using hy)
          rwa [show j + (i + 1) = j + 1 + i by omega] at this
        rcases x with ⟨rfl, rfl⟩ | ⟨dx, d0, d1, d2, d3, d4, d5⟩
        · refine .inl ⟨h0, fun dx hd ha => rest _ (.inr ⟨dx, by simp, hd, ha, upd_same, ?_, fun b hb1 hb2 => ?_⟩)⟩
          · rw [upd_ne ha, upd_same]
          · rw [upd_ne hb1, upd_ne hb2]
        · refine .inr ⟨dx, l, d3, d4, by simp only [List.length_cons] at hn; omega, rest _ (.inr ⟨dx, by simp, d1, d2, ?_, upd_same, fun b hb1 hb2 => ?_⟩)⟩
          · rw [upd_ne (Ne.symm d2)]; exact d3
          · rw [upd_ne hb2]; exact d5 b hb1 hb2
/-- what the written part says of the base class of the errors -/
structure BasC (K : PySem.W.Frag) (B : Addr) : Prop where
  sB : PySem.W.specialIn K (.ref B) "__getattribute__" = some (some (.builtin "type.__getattribute__"))
  rB : PySem.W.readsIn K B (.type "type") = true
  vB : PySem.W.findCls K (.ref B) (.type "type") "__init__" = some (.val (.builtin "ValueError.__init__"))
theorem init_body {a C B : Addr} {H : Hp} {b : Str} {fl : List Str} {ws : List V} {sts : List Stmt} {σ : St} {De : Ends} (hb : initB X.N X.env.scope fl b sts = true) (hm : X.mg b = some (.ref B)) (TB : BasC X.K B) (T : OexC X.K C) (h0 : H a = some (exo a C none)) (hf : ∀ f ∈ fl, PySem.W.findIn X.K (.ref C) f = some none)
    (hs : σ[0]? = some (some (.ref a))) (hw : ∀ i w, ws[i]? = some w → σ[1 + i]? = some (some w)) (hl : ws.length = fl.length) (hn : fl.length ≤ 900) (k : ∀ H', XS H a C (fl.zip ws).reverse H' → De.nx σ H') : WSs X sts De σ H := by
  unfold initB at hb
  split at hb
  · rename_i x p1 m p2 s p3 msg kk p4 p5 p6 r
    simp only [Bool.and_eq_true, decide_eq_true_eq, Bool.not_eq_true'] at hb
    obtain ⟨⟨⟨⟨⟨⟨b0, rfl⟩, b2⟩, b3⟩, rfl⟩, b5⟩, b6⟩ := hb
    refine of_pss (pss_cons (ps_expr (pe_binit (glB_gl b2) hm b3 TB.sB TB.rB TB.vB (pa_cons peU (pa_cons pe_str pa_nil)) b0 rfl rfl) rfl) pssU) ?_
    refine isVar_ok b5 hs ⟨a, C, [.str msg], rfl, by simp, T, h0, ?_⟩
    exact asgs_ok T h0 fl 1 ws r [] H b6 hf hs hw hl (by simpa using hn) (.inl ⟨rfl, rfl⟩) fun H' x => k H' (by simpa using x)
  · cases hb
end
theorem start_get {N : List Str} {vs : List V} {i : Nat} {v : V} (h : vs[i]? = some v) : (L2.start N vs)[i]? = some (some v) := by
  unfold L2.start
  rw [List.getElem?_append_left (by rw [List.length_map]; exact (List.getElem?_eq_some_iff.mp h).1), List.getElem?_map, h]
  rfl
theorem init_fn {P : Program} {w : World} {K : PySem.W.Frag} {mg : Str → Option Value} {base : Heap} {x qual b : Str} {st : Stmt} {f B : Addr} {fd : FuncData} {N ps fl : List Str} (F : Fun K x qual st f fd) (S : FnScope N ps (defScope st)) (hps : ps.length = fl.length + 1) (hn : fl.length ≤ 900)
    (hb : initB N (defScope st) fl b (defBody st) = true) (hm : mg b = some (.ref B)) (TB : BasC K B) : FnOk P w K mg base (L2.CX P w) 1 f fd ps (spI K fl) := by
  refine F.okX S (fun vs H Q E h => ?_) (fun cdv A outer s H vs Q E hr h => ?_)
  · obtain ⟨a, C, ws, rfl, hl, _⟩ := h
    rw [List.length_cons, hl, hps]
  · obtain ⟨a, C, ws, rfl, hl, T, h0, hf, q⟩ := h
    refine ⟨_, pssU, ?_⟩
    exact init_body (X := cxOf (L2.CX P w) P w K mg base N qual (defScope st) f cdv A outer s H E) hb hm TB T h0 hf (start_get rfl) (fun i y hy => start_get (by rw [Nat.add_comm]; simpa using hy)) hl hn fun H' x => q H' x
/-! ### raising -/
/-- an error class: where it stands, its fields -/
structure ClsOk (X : Cx) (W : Wd) (x : Str) (c : Nat) (fl : List Str) (C : Addr) : Prop where
  at_ : W.ca c = some C
  T : OexC X.K C
  mg : X.mg x = some (.ref C)
  fno : ∀ f ∈ fl, PySem.W.findIn X.K (.ref C) f = some none
  xf : XfC X.K C
  len : fl.length ≤ 5
  nd : fl.Nodup
  init : ∃ fI fd k ps, PySem.W.findIn X.K (.ref C) "__init__" = some (some (.ref fI)) ∧ PySem.W.typeIn X.K (.ref fI) = some (.type "function") ∧ FnOk X.prog X.w X.K X.mg X.base (L2.CX X.prog X.w) k fI fd ps (spI X.K fl) ∧ Room (k + 1) X.A ∧ Binds X.K fd ps []
theorem passF {X : Cx} : Passes (L2.CX X.prog X.w) X (fun _ _ _ => False) := fun _ _ _ _ _ _ _ h => by
  obtain ⟨_, _, _, _, _, _, _, _, _, _, _, _, z⟩ := h
  exact z.elim
theorem raise_rule {X : Cx} {W : Wd} {Wx : WX} {x : Str} {c : Nat} {fl : List Str} {C : Addr} (K : ClsOk X W x c fl C) (hc : X.calm = true) (tk : Takes X Wx) (hg : glB X.env.scope x = true) (hdb : (x == ("__debug__" : Str)) = false) {es : List Expr} (hs : es.all notStar = true) (hlen : es.length = fl.length) {p p2 pos : Pos} {De : Ends} {σ : St} {H : Hp}
    (h : WQ X es σ H fun vs H1 => vs.length = fl.length ∧ (fl = [] → Wx (.ref C) none σ H1) ∧ (fl ≠ [] → ∀ d, H1 d = none → Wx (.ref C) (some d) σ (upd H1 d (.xd (fl.zip vs).reverse)))) : WS X (.Raise (some (.Call (.Name x p) es [] p2)) none pos) De σ H := by
  obtain ⟨fI, fd, k, ps, h1, h2, h3, h4, h5⟩ := K.init
  cases es with
  | nil =>
    have hfl : fl = [] := List.length_eq_zero_iff.mp hlen.symm
    subst hfl
    refine of_ps (ps_raise hc tk (pmk_oex0 K.T h1 h2 h3 h4 h5 passF (glB_gl hg) K.mg hdb)) ?_
    intro a ha
    refine ⟨a, C, [], rfl, rfl, K.T, upd_same, fun f hf => by simp at hf, fun H' x => ?_⟩
    have x : H' = upd H a (exo a C none) := by
      rcases x with ⟨_, e⟩ | ⟨dx, d0, d1, d2, d3, d4, d5⟩
      · exact e
      · exact absurd rfl d0
    subst x
    refine ⟨rfl, upd_same, ?_⟩
    have e : del (upd H a (exo a C none)) a = H := by
      funext b
      by_cases hb : b = a
      · subst hb; rw [del_same, ha]
      · rw [del_ne hb, upd_ne hb]
    rw [e]
    exact h.2.1 rfl
  | cons e es =>
    have hs' := hs
    simp only [List.all_cons, Bool.and_eq_true] at hs
    refine of_ps (ps_raise hc tk (pmk_oex K.T h1 h2 h3 h4 h5 .nil passF (glB_gl hg) K.mg (paU hs') hdb (star_each hs.1) (star_any p2 es hs.2).1)) ?_
    refine wq_thn h fun vs H1 q => ?_
    obtain ⟨q1, _, q3⟩ := q
    have hne : fl ≠ [] := fun z => by rw [z] at hlen; simp at hlen
    refine ⟨by have := K.len; omega, fun a ha => ?_⟩
    refine ⟨a, C, vs, by rw [List.append_nil], q1, K.T, upd_same, K.fno, fun H' x => ⟨rfl, ?_⟩⟩
    rcases x with ⟨z, _⟩ | ⟨dx, d0, d1, d2, d3, d4, d5⟩
    · exfalso
      have : (fl.zip vs).length = 0 := by
        have := congrArg List.length z
        simpa using this
      rw [List.length_zip, q1, Nat.min_self] at this
      exact hne (List.length_eq_zero_iff.mp this)
    · have hd1 : H1 dx = none := by rw [upd_ne d2] at d1; exact d1
      refine ⟨dx, _, d3, d4, hd1, ?_⟩
      have e : upd (del H' a) dx (.xd (fl.zip vs).reverse) = upd H1 dx (.xd (fl.zip vs).reverse) := by
        funext b
        by_cases hb : b = dx
        · subst hb; rw [upd_same, upd_same]
        · rw [upd_ne hb, upd_ne hb]
          by_cases hb2 : b = a
          · subst hb2; rw [del_same, ha]
          · rw [del_ne hb2, d5 b hb2 hb, upd_ne hb2]
      rw [e]
      exact q3 hne dx hd1
end Itp
set_option Elab.async false
set_option linter.all false
set_option maxRecDepth 100000
set_option maxHeartbeats 4000000
namespace Itp
open PySem L2
section
variable {W : Wd} {C : Cfg} {T : Tab}
/-- what is known of the errors -/
structure XsOk (X : Cx) (W : Wd) (C : Cfg) (T : Tab) : Prop where
  cat : ∀ x c, lk T.cls x = some c → ∃ A, W.ca c = some A ∧ X.mg x = some (.ref A)
  rse : ∀ x c fl, lk T.cls x = some c → C.flds c = some fl → ∃ A, ClsOk X W x c fl A
  xcl : ∀ c fl A, C.flds c = some fl → W.ca c = some A → XfC X.K A ∧ ∀ f ∈ fl, PySem.W.findIn X.K (.ref A) f = some none
  exm : ∀ c c' b A B, C.sub c c' = some b → W.ca c = some A → W.ca c' = some B → PySem.W.exmOne X.K (.ref A) (.ref B) = some b
structure CfOk (X : Cx) (W : Wd) (C : Cfg) (T : Tab) (Wx : WX) : Prop extends CsOk X W C T Wx where
  xs : XsOk X W C T
theorem ClsOk.tr {X : Cx} {x : Str} {c : Nat} {fl : List Str} {A : Addr} (k : ClsOk X W x c fl A) (pn : List (Addr × Obj)) (xe : Value → Shared → Prop) : ClsOk (X.tr pn xe) W x c fl A := ⟨k.at_, k.T, k.mg, k.fno, k.xf, k.len, k.nd, k.init⟩
theorem CfOk.tr {X : Cx} {Wx Wx' : WX} (cx : CfOk X W C T Wx) (pn : List (Addr × Obj)) (xe : Value → Shared → Prop) (tk : Takes (X.tr pn xe) Wx') (hp : PassesOwn (model X.prog X.w) X.A X.env xe) : CfOk (X.tr pn xe) W C T Wx' where
  K := cx.K
  nd := cx.nd
  calm := cx.calm
  units := cx.units
  blt := cx.blt
  cst := cx.cst
  tk := tk
  fns := cx.fns
  fvn := cx.fvn
  fvc := cx.fvc
  hp := hp
  stk := cx.stk
  frm := cx.frm
  fn := cx.fn
  kind := cx.kind
  xs := ⟨cx.xs.cat, fun x c fl h1 h2 => let ⟨A, k⟩ := cx.xs.rse x c fl h1 h2; ⟨A, k.tr pn xe⟩, cx.xs.xcl, cx.xs.exm⟩
theorem zip_flds {G : Hp} : ∀ {fl : List Str} {ds : List D} {vs : List V} {l : List (Str × D)}, zipF fl ds = some l → Reps W G ds vs → fl.Nodup → ∀ (acc : List (Str × V)), (∀ f ∈ fl, ∀ p ∈ acc, p.1 ≠ f) → ∀ f d, (f, d) ∈ l → ∃ v, ((fl.zip vs).reverse ++ acc).lookup f = some v ∧ Rep W G d v
  | [], ds, vs, l, h, r, nd, acc, ha, f, d, hf => by
    cases ds <;> simp [zipF] at h
    subst h
    simp at hf
  | g :: fl, ds, vs, l, h, r, nd, acc, ha, f, d, hf => by
    cases ds with
    | nil => simp [zipF] at h
    | cons e ds =>
      simp only [zipF, Option.map_eq_some_iff] at h
      obtain ⟨l', h1, rfl⟩ := h
      simp only [Reps] at r
      obtain ⟨v, vr, rfl, r1, r2⟩ := r
      rw [List.nodup_cons] at nd
      have e0 : ((g :: fl).zip (v :: vr)).reverse ++ acc = (fl.zip vr).reverse ++ ((g, v) :: acc) := by simp
      rw [e0]
      rcases List.mem_cons.mp hf with z | z
      · cases z
        refine ⟨v, ?_, r1⟩
        have hn : ∀ (m : List (Str × V)), (∀ p ∈ m, p.1 ≠ g) → (m ++ (g, v) :: acc).lookup g = some v := by
          intro m
          induction m with
          | nil => intro _; simp
          | cons p m ih =>
            intro hm
            have : (g == p.1) = false := by
              have := hm p List.mem_cons_self
              exact beq_eq_false_iff_ne.mpr (Ne.symm this)
            obtain ⟨p1, p2⟩ := p
            simp only [List.cons_append, List.lookup_cons, this]
            exact ih fun q hq => hm q (List.mem_cons_of_mem _ hq)
        refine hn _ fun p hp => ?_
        have : p ∈ fl.zip vr := by simpa using hp
        intro z
        exact nd.1 (by rw [← z]; exact (List.of_mem_zip this).1)
      · refine zip_flds h1 r2 nd.2 _ (fun f' hf' p hp => ?_) f d z
        rcases List.mem_cons.mp hp with y | y
        · rw [y]; intro e; exact nd.1 (by rw [show g = f' from e]; exact hf')
        · exact ha f' (List.mem_cons_of_mem _ hf') p y
theorem flds_ok {G : Hp} {lv : List (Str × V)} : ∀ {l : List (Str × D)}, (∀ f d, (f, d) ∈ l → ∃ v, lv.lookup f = some v ∧ Rep W G d v) → fldsOk W G l lv
  | [], _ => True.intro
  | (f, d) :: r, h => ⟨h f d List.mem_cons_self, flds_ok fun g e hg => h g e (List.mem_cons_of_mem _ hg)⟩
theorem zip_len : ∀ {fl : List Str} {ds : List D} {l : List (Str × D)}, zipF fl ds = some l → ds.length = fl.length ∧ (fl = [] → l = [])
  | [], ds, l, h => by cases ds <;> simp [zipF] at h; subst h; exact ⟨rfl, fun _ => rfl⟩
  | f :: fl, ds, l, h => by
    cases ds <;> simp only [zipF, reduceCtorEq, Option.map_eq_some_iff] at h
    obtain ⟨l', h1, rfl⟩ := h
    exact ⟨by simp [(zip_len h1).1], fun e => by cases e⟩
theorem chks_len {N : List Str} {sc : Scope} : ∀ {as : List E} {es : List Expr}, chks T N sc as es = true → as.length = es.length
  | [], [], _ => rfl
  | [], _ :: _, h => by simp [chks] at h
  | _ :: _, [], h => by simp [chks] at h
  | a :: as, e :: es, h => by simp only [chks, Bool.and_eq_true] at h; simp [chks_len h.2]
theorem evs_len : ∀ {as : List E} {env e1 : Env} {os : List Opd}, evs C as env = .ok os e1 → os.length = as.length
  | [], env, e1, os, h => by simp [evs] at h; rw [h.1]; rfl
  | a :: as, env, e1, os, h => by
    simp only [evs] at h
    cases q1 : opdM a (ev C a) env with
    | no => rw [q1] at h; cases h
    | ex x e2 => rw [q1] at h; cases h
    | ok o e2 =>
      rw [q1] at h
      simp only [Rs.bind] at h
      cases q2 : evs C as e2 with
      | no => rw [q2] at h; cases h
      | ex x e3 => rw [q2] at h; cases h
      | ok os' e3 =>
        rw [q2] at h
        simp only [Rs.ok.injEq] at h
        rw [← h.1]
        simp [evs_len q2]
theorem opds_len {env : Env} : ∀ {os : List Opd} {ds : List D}, opds env os = some ds → ds.length = os.length
  | [], ds, h => by simp [opds] at h; rw [h]; rfl
  | o :: os, ds, h => by
    simp only [opds] at h
    cases q1 : opd env o with
    | none => rw [q1] at h; simp at h
    | some x =>
      cases q2 : opds env os with
      | none => rw [q1, q2] at h; simp at h
      | some xs =>
        rw [q1, q2] at h
        simp only [Option.some.injEq] at h
        rw [← h]
        simp [opds_len q2]
theorem rse_ok {X : Cx} {Wx : WX} (cx : CfOk X W C T Wx) {c : Nat} {as : List E} {x : Str} {es : List Expr} {p p2 pos : Pos} (hl : lk T.cls x = some c) (hg : glB X.env.scope x = true) (hdb : (x == ("__debug__" : Str)) = false) (hs : es.all notStar = true) (h : chks T X.N X.env.scope as es = true) :
    GoodS X W Wx (.Raise (some (.Call (.Name x p) es [] p2)) none pos) (rseM C c (evs C as)) := by
  intro env σ G H De s aa
  unfold rseM at aa
  have np := np_evs (C := C) as env
  cases q : evs C as env with
  | no => rw [q] at aa; exact aa.elim
  | ex xc e1 =>
    rw [q] at aa; exact aa.elim
  | ok os e1 =>
    rw [q] at aa np
    simp only at aa
    by_cases hm : (muts e1 os).isEmpty = true
    · rw [if_pos hm] at aa
      cases qo : opds e1 os with
      | none => rw [qo] at aa; exact aa.elim
      | some ds =>
        cases qf : C.flds c with
        | none => rw [qo, qf] at aa; exact aa.elim
        | some fl =>
          rw [qo, qf] at aa
          simp only at aa
          cases qz : zipF fl ds with
          | none => rw [qz] at aa; exact aa.elim
          | some l =>
            rw [qz] at aa
            obtain ⟨A, K⟩ := cx.xs.rse x c fl hl qf
            have zl := zip_len qz
            refine raise_rule K cx.calm cx.tk hg hdb hs (by rw [← chks_len h, ← evs_len q, ← opds_len qo, zl.1]) (evs_ok as cx.toCxOk h env σ G H _ s ?_)
            rw [q]
            intro vs G1 H1 k1 s1 r1
            have rs := opd_fz s1 r1 qo hm
            refine ⟨by rw [reps_len rs, zl.1], fun hn => ?_, fun hn d hd => ?_⟩
            · exact aa σ _ none G1 H1 k1 s1 (ParB.k np) ⟨A, K.at_, rfl, .inl ⟨zl.2 hn, rfl⟩⟩
            · have gd : G1 d = none := gnone s1.gh hd
              have s2 : StOk W G1 (upd H1 d (.xd (fl.zip vs).reverse)) σ e1 := s1.laidN hd
              refine aa σ _ (some d) G1 _ (k1.trans (Keep.laidN s1.gh hd)) s2 (ParB.k np) ⟨A, K.at_, rfl, .inr ⟨d, _, rfl, upd_same, flds_ok fun f e hf => ?_⟩⟩
              have := zip_flds qz rs K.nd [] (fun _ _ _ hp => by simp at hp) f e hf
              simpa using this
    · rw [if_neg hm] at aa
      exact aa.elim
end
end Itp
set_option Elab.async false
set_option linter.all false
set_option maxRecDepth 100000
set_option maxHeartbeats 4000000
namespace Itp
open PySem L2 PySem.Spec
/-! ### several clauses, named or not -/
abbrev SuT := Addr → Value → Option Addr → TS
def offE (i : Nat) (De : Ends) : Ends := { nx := fun τ K => De.nx (τ.set i none) K, rt := De.rt, bk := fun τ K => De.bk (τ.set i none) K, ct := fun τ K => De.ct (τ.set i none) K }
def mixT (o : Option Nat) (ts : SuT) (a : Addr) (cls : Value) (d : Option Addr) (De : Ends) (σ : L2.St) (H : Hp) : Prop := match o with
  | none => ts a cls d De σ H
  | some i => ts a cls d (offE i De) (σ.set i (some (.ref a))) H
def wMix (K : PySem.W.Frag) (Wo : WX) (De : Ends) : List (Value × Option Nat × SuT) → WX
  | [] => Wo
  | (c, o, ts) :: r => fun cls d σ H => ∃ t, PySem.W.exmOne K cls c = some t ∧ (t = true → ∀ a, H a = none → mixT o ts a cls d De σ H) ∧ (t = false → wMix K Wo De r cls d σ H)
def SuOk (X : Cx) (st : List Stmt) (ts : SuT) : Prop := ∀ (a : Addr) (oe : Obj) (cls : Value) (d : Option Addr) (pn : List (Addr × Obj)), Zc cls d oe → (∃ vs, oe.data = .fields vs) → PSs (X.suite a ((a, oe) :: pn)) st (ts a cls d)
inductive ClsL (X : Cx) : List ExceptHandler → List (Value × Option Nat × SuT) → Prop
  | nil : ClsL X [] []
  | one {x : Str} {c : Value} {ts : SuT} {b : Stmt} {su : List Stmt} {p q : Pos} {hds : List ExceptHandler} {l : List (Value × Option Nat × SuT)} (hc : Names X x c) (hs : SuOk X (b :: su) ts) (r : ClsL X hds l) : ClsL X (.ExceptHandler (some (.Name x p)) none (b :: su) q :: hds) ((c, none, ts) :: l)
  | as {x n : Str} {i : Nat} {c : Value} {ts : SuT} {b : Stmt} {su : List Stmt} {p q : Pos} {hds : List ExceptHandler} {l : List (Value × Option Nat × SuT)} (hc : Names X x c) (hi : X.N[i]? = some n) (hn : X.env.kindOf n = some .local) (hs : SuOk X (b :: su) ts) (r : ClsL X hds l) : ClsL X (.ExceptHandler (some (.Name x p)) (some n) (b :: su) q :: hds) ((c, some i, ts) :: l)
section
variable {X : Cx} {body : List Stmt} {h0 : ExceptHandler} {hds : List ExceptHandler} {l : List (Value × Option Nat × SuT)} {pos : Pos} {tb : WX → TS} {Wo : WX}
theorem ps_try_mix (hstk : X.stack = X.env :: X.outer) (hfrm : X.env.frame = some X.env.locals) (nd : X.N.Nodup) (tk : Takes X Wo)
    (hbody : ∀ (Wi : WX) (pn : List (Addr × Obj)) (xe : Value → Shared → Prop), Takes (X.tr pn xe) Wi → PassesOwn (model X.prog X.w) X.A X.env xe → PSs (X.tr pn xe) body (tb Wi))
    (hcl : ClsL X (h0 :: hds) l) : PS X (.Try body (h0 :: hds) [] [] pos) (fun De σ H => tb (wMix X.K Wo De l) De σ H) := by
  constructor
  intro pins s σ H De I hgo
  have okk := I.ok
  have frms : X.A.frames = some (X.env :: X.outer) := by rw [okk.frames, hstk]
  apply wpAny_Try_except
  have run := (hbody (wMix X.K Wo De l) (X.pn ++ pins) (fun ex u1 => wpAny (model X.prog X.w) X.A (noteFrame ex X.env) (fun _ u2 => wpAny (model X.prog X.w) X.A (setFlight ex none) (fun _ u3 => wpAny (model X.prog X.w) X.A (handleBy ex X.env (h0 :: hds)) (SP X pins De) X.xe u3) X.xe u2) X.xe u1) (fun u s2 caught => by
    obtain ⟨a, B, sI, pins2, τ, K2, cls, d, rfl, Jt, nb, up, sky0, na, os, ag, wish⟩ := caught
    have J : L2.Inv X pins τ K2 sI := Jt.ofTry okk
    have sky : Sky B (X.env :: X.outer) a (Zc cls d) X.env.locals s2.heap := hstk ▸ sky0
    show wpAny (model X.prog X.w) X.A (noteFrame (.ref a) X.env) _ _ _
    refine Sky.land Zc.steady frms hfrm sky fun g fl upg => ?_
    have Jg : L2.Inv X pins τ K2 { s2 with heap := g } := J.landed nb fl.1 (up.trans upg) os ag
    obtain ⟨og, vg, hog, hzg, hdg⟩ := fl.there
    have nfr : a ∉ frs (X.env :: X.outer) := fun hm => by
      obtain ⟨_, o2, e2, hnf⟩ := fl.2.2.1.mem hm
      rw [hog] at e2
      cases e2
      exact hnf _ hdg
    have nL : a ≠ X.env.locals := fun z => nfr (List.mem_filterMap.mpr ⟨X.env, List.mem_cons_self, by rw [hfrm, z]⟩)
    have nF : a ∉ X.fs := fun hm => by
      obtain ⟨e, he, q⟩ := List.mem_filterMap.mp hm
      exact nfr (List.mem_filterMap.mpr ⟨e, List.mem_cons_of_mem _ he, q⟩)
    have Sg := Jg.suite hog hdg na nL nF
    have look : ∀ {x : Str} {c : Value} {np : Pos} {t : Bool} {Q : Bool → Prop}, Names X x c → PySem.W.exmOne X.K cls c = some t → True := fun _ _ => trivial
    have go : ∀ {hs2 : List ExceptHandler} {l2 : List (Value × Option Nat × SuT)}, ClsL X hs2 l2 → wMix X.K Wo De l2 cls d τ K2 → wpAny (model X.prog X.w) X.A (handleBy (.ref a) X.env hs2) (SP X pins De) X.xe { s2 with heap := g } := by
      intro hs2 l2 hk
      have LT : PySem.W.Looks (model X.prog X.w) g (typeOf (.ref a)) cls := fun A Q E s k q => wpAny_typeOf_ref (k _ _ hog) (by rw [hzg.1]; exact q)
      have load : ∀ {x : Str} {c : Value} {p : Pos} {Q E : Value → Shared → Prop}, Names X x c → Q c { s2 with heap := g } → wpAny (model X.prog X.w) (X.A.mark (some (.ref a))) (eval (.Name x p) X.env) Q E { s2 with heap := g } := fun {x c p Q E} hc q => by
        obtain ⟨y1, y2, y3⟩ := hc
        rcases y3 with y3 | ⟨y3, y4, y5⟩
        · exact ld_glob (X := X.suite a ((a, og) :: (X.pn ++ pins))) Sg y1 y3 q y2
        · exact ld_blt (X := X.suite a ((a, og) :: (X.pn ++ pins))) Sg y1 y3 y4 q y5 y2
      induction hk with
      | nil =>
        intro wsh
        apply wpAny_handleBy_nil
        obtain ⟨z1, z2, z3, oe, vs, TT, oT, tl, he, hz, hd, hTT, hr⟩ := id fl
        unfold PySem.passOn
        apply wpAny_bind
        refine wpAny_field he hd hTT ?_
        have nTT : ¬ ((Value.ref TT == Value.none) = true) := by simp
        rw [if_neg nTT]
        have last : wpAny (model X.prog X.w) X.A (setFlight (.ref a) X.env.frame) (fun _ u4 => wpAny (model X.prog X.w) X.A (throw (.ref a) : Sem Flow) (SP X pins De) X.xe u4) X.xe { s2 with heap := g } := by
          rw [hfrm]
          refine HandSPX.setFlight_upZ fl fun g4 hg4 up4 => ?_
          refine wpAny_throw (tk _ _ ⟨a, B, sI, pins, τ, K2, cls, d, rfl, J, nb, (up.trans upg).trans up4, ?_, na, os, ag, wsh⟩)
          exact .inr (.inr (by rw [hstk]; exact hg4))
        first
          | exact wpAny_bind (wpAny_pure (wpAny_bind last))
          | exact wpAny_bind last
      | one hc hsu r ih =>
        intro wsh
        obtain ⟨t, ht, yes, no⟩ := wsh
        refine wpAny_handleBy_cons (codeAny_handlers_test ?_) (by intro q; cases q)
        have LM := PySem.W.exm_one (M := model X.prog X.w) Jg.kIn LT ht
        refine load hc (LM.here ?_)
        cases t with
        | false => exact ih (no rfl)
        | true =>
          apply codeAny_handlers_suite
          refine HandSPX.lands_againZ fl fun g4 fl4 up4 => ?_
          have J4 : L2.Inv X pins τ K2 { s2 with heap := g4 } := J.landed nb fl4.1 ((up.trans upg).trans up4) os ag
          obtain ⟨o4, v4, ho4, hz4, hd4⟩ := fl4.there
          have S4 := J4.suite ho4 hd4 na nL nF
          have rn := (hsu a o4 cls d (X.pn ++ pins) hz4 ⟨_, hd4⟩).run [] _ _ K2 _ S4 (yes rfl a na)
          refine wpAny_mono rn (fun f u6 hp => ?_) (fun _ _ z => z.elim)
          cases f with
          | ret u =>
            obtain ⟨w6, τ6, K6, S6, r6, q6⟩ := hp
            exact ⟨_, _, _, S6.unsuite okk, r6, q6⟩
          | _ =>
            obtain ⟨τ6, K6, S6, q6⟩ := hp
            exact ⟨_, _, S6.unsuite okk, q6⟩
      | as hc hi hn hsu r ih =>
        rename_i x n i c ts b su p q hds3 l3
        intro wsh
        obtain ⟨t, ht, yes, no⟩ := wsh
        refine wpAny_handleBy_cons (codeAny_handlers_test ?_) (by intro q; cases q)
        have LM := PySem.W.exm_one (M := model X.prog X.w) Jg.kIn LT ht
        refine load hc (LM.here ?_)
        cases t with
        | false => exact ih (no rfl)
        | true =>
          apply codeAny_handlers_suite_as
          refine HandSPX.lands_againZ fl fun g4 fl4 up4 => ?_
          have J4 : L2.Inv X pins τ K2 { s2 with heap := g4 } := J.landed nb fl4.1 ((up.trans upg).trans up4) os ag
          obtain ⟨o4, v4, ho4, hz4, hd4⟩ := fl4.there
          have S4 := J4.suite ho4 hd4 na nL nF
          have hloc : L2.Loc X.env.scope n := .inl hn
          refine store_ok (X := X.suite a ((a, o4) :: (X.pn ++ pins))) (v := .ref a) S4 nd hi hloc rfl (fun u5 S5 => ?_) (.inr hn)
          have rn := (hsu a o4 cls d (X.pn ++ pins) hz4 ⟨_, hd4⟩).run [] u5 _ K2 _ S5 (yes rfl a na)
          refine wpAny_mono rn (fun f u6 hp => ?_) (fun _ _ z => z.elim)
          have off : ∀ {τ6 : L2.St} {K6 : Hp} {Q : Shared → Prop}, L2.Inv (X.suite a ((a, o4) :: (X.pn ++ pins))) [] τ6 K6 u6 → (∀ u7, L2.Inv X pins (τ6.set i none) K6 u7 → Q u7) → wpAny (model X.prog X.w) X.A (do bindName X.env n .none; unbindBehindTheSuite X.env n q) (fun _ u7 => Q u7) X.xe u6 := fun S6 hq => gone_ok (S6.unsuite okk) nd hi hn hq
          cases f with
          | ret u =>
            obtain ⟨w6, τ6, K6, S6, r6, q6⟩ := hp
            exact off S6 fun u7 J7 => ⟨_, _, _, J7, r6, q6⟩
          | _ =>
            obtain ⟨τ6, K6, S6, q6⟩ := hp
            exact off S6 fun u7 J7 => ⟨_, _, J7, q6⟩
    exact go hcl wish) PassesOwn.looking).run [] s σ H De (I.toTry _) hgo
  refine wpAny_mono run (fun f s1 hp => ?_) (fun _ _ he => he)
  cases f with
  | next =>
    obtain ⟨τ, K2, J, q⟩ := hp
    exact wpAny_execs_nil ⟨τ, K2, J.ofTry okk, q⟩
  | ret u =>
    obtain ⟨v, τ, K2, J, r, q⟩ := hp
    exact ⟨v, τ, K2, J.ofTry okk, r, q⟩
  | _ =>
    obtain ⟨τ, K2, J, q⟩ := hp
    exact ⟨τ, K2, J.ofTry okk, q⟩
end
end Itp
set_option Elab.async false
set_option linter.all false
set_option maxRecDepth 100000
set_option maxHeartbeats 4000000
namespace Itp
open PySem L2
section
variable {W : Wd} {C : Cfg} {T : Tab}
/-- a slot that nothing is told of -/
theorem StOk.setU {G H : Hp} {σ : St} {e : Env} (s : StOk W G H σ e) {i : Nat} {w : Option V} : StOk W G H (σ.set i w) (e.set i .un) where
  gh := s.gh
  len := by rw [List.length_set, List.length_set]; exact s.len
  sl := fun j => by
    rw [slot_set]
    by_cases h : i = j
    · subst h
      rw [if_pos rfl]
      split <;> trivial
    · rw [if_neg h]
      exact slotOk_at (by rw [List.getElem?_set, if_neg h]) (s.sl j)
  inj := fun j k a hjk hj hk h1 => by
    rw [slot_set] at hj hk
    by_cases h : i = j
    · subst h
      rw [if_pos rfl] at hj
      split at hj <;> cases hj
    · by_cases h' : i = k
      · subst h'
        rw [if_pos rfl] at hk
        split at hk <;> cases hk
      · rw [if_neg h] at hj
        rw [if_neg h'] at hk
        rw [List.getElem?_set, if_neg h] at h1
        rw [List.getElem?_set, if_neg h']
        exact s.inj j k a hjk hj hk h1
theorem own_setU {σ : St} {e : Env} {i : Nat} {w : Option V} {a : Addr} (h : OwnA (σ.set i w) (e.set i .un) a) : OwnA σ e a := by
  obtain ⟨j, h1, h2⟩ := h
  rw [slot_set] at h1
  by_cases hh : i = j
  · subst hh
    rw [if_pos rfl] at h1
    split at h1 <;> cases h1
  · rw [if_neg hh] at h1
    rw [List.getElem?_set, if_neg hh] at h2
    exact ⟨j, h1, h2⟩
theorem fldOf_ok {G : Hp} {f : Str} {d : D} {lv : List (Str × V)} : ∀ {l : List (Str × D)}, fldsOk W G l lv → fldOf f l = some d → ∃ v, lv.lookup f = some v ∧ Rep W G d v
  | [], _, h => by simp [fldOf] at h
  | (g, e) :: r, k, h => by
    simp only [fldOf] at h
    split at h
    · rename_i z; cases h; subst z; exact k.1
    · exact fldOf_ok k.2 h
theorem sv_star {N : List Str} {sc : Scope} {nm : Option Nat} : ∀ {vs : List Sv} {es : List Expr}, chkSvs N sc nm vs es = true → es.all notStar = true
  | [], [], _ => rfl
  | [], _ :: _, h => by simp [chkSvs] at h
  | _ :: _, [], h => by simp [chkSvs] at h
  | v :: vs, e :: es, h => by
    simp only [chkSvs, Bool.and_eq_true] at h
    simp only [List.all_cons, Bool.and_eq_true]
    refine ⟨?_, sv_star h.2⟩
    cases e <;> first | rfl | (cases v <;> simp [chkSv] at h)
/-- the items of a suite's list -/
theorem sv_ok {X : Cx} {Wx : WX} (cx : CfOk X W C T Wx) {nm : Option Nat} {xc : Xc} {c : Value} {d : Option Addr} {a : Addr} {oe : Obj} {pn : List (Addr × Obj)} (hz : Zc c d oe) (hf : ∃ vs, oe.data = .fields vs)
    {σ : St} {G H : Hp} (x : XOk W G H xc c d) (hj : ∀ j, nm = some j → σ[j]? = some (some (.ref a))) : ∀ (vs : List Sv) (es : List Expr) (ds : List D) (R : List V → Hp → Prop), chkSvs X.N X.env.scope nm vs es = true → svs C xc vs = some ds → (∀ us, Reps W G ds us → R us H) → WQ (X.suite a ((a, oe) :: pn)) es σ H R
  | [], es, ds, R, h, e, k => by
    cases es <;> simp only [chkSvs, reduceCtorEq, Bool.false_eq_true] at h
    simp only [svs, Option.some.injEq] at e
    subst e
    exact k [] (by simp only [Reps])
  | v :: vs, es, ds, R, h, e, k => by
    match es, h with
    | [], h => simp [chkSvs] at h
    | ex :: es, h =>
      simp only [chkSvs, Bool.and_eq_true] at h
      obtain ⟨h1, h2⟩ := h
      show WE (X.suite a ((a, oe) :: pn)) ex σ H fun u H1 => WQ (X.suite a ((a, oe) :: pn)) es σ H1 fun us H2 => R (u :: us) H2
      cases v with
      | cst dd =>
        simp only [svs] at e
        split at e
        · cases q : svs C xc vs with
          | none => rw [q] at e; cases e
          | some dr =>
            rw [q] at e
            simp only [Option.map_some, Option.some.injEq] at e
            subst e
            have rest : ∀ u, Rep W G dd u → WQ (X.suite a ((a, oe) :: pn)) es σ H fun us H2 => R (u :: us) H2 := fun u hu => sv_ok cx hz hf x hj vs es dr _ h2 q fun us hus => k (u :: us) (by simp only [Reps]; exact ⟨u, us, rfl, hu, hus⟩)
            cases ex <;> simp only [chkSv, reduceCtorEq, Bool.false_eq_true] at h1
            rename_i cc kk pp
            cases dd <;> cases cc <;> simp only [cstIs, reduceCtorEq, Bool.false_eq_true] at h1
            · exact of_pe pe_non (rest _ (by simp only [Rep]))
            · simp only [beq_iff_eq] at h1; subst h1; exact of_pe pe_bl (rest _ (by simp only [Rep]))
            · simp only [beq_iff_eq] at h1; subst h1; exact of_pe pe_int (rest _ (by simp only [Rep]))
            · rw [decide_eq_true_eq] at h1; subst h1; exact of_pe pe_str (rest _ (by simp only [Rep]))
        · cases e
      | fld g =>
        simp only [svs] at e
        split at e
        · rename_i hh
          cases qd : fldOf g xc.fs with
          | none => rw [qd] at e; cases e
          | some dd =>
            rw [qd] at e
            simp only [Option.bind_some] at e
            cases q : svs C xc vs with
            | none => rw [q] at e; cases e
            | some dr =>
              rw [q] at e
              simp only [Option.map_some, Option.some.injEq] at e
              subst e
              unfold chkSv at h1
              split at h1
              · rename_i z; cases z
              · rename_i y p1 g' p2 z
                cases z
                simp only [Bool.and_eq_true, decide_eq_true_eq] at h1
                obtain ⟨rfl, h5⟩ := h1
                split at h5
                · rename_i j
                  obtain ⟨A, hA, rfl, hx⟩ := id x
                  unfold hasF at hh
                  cases qf : C.flds xc.cls with
                  | none => rw [qf] at hh; cases hh
                  | some fl =>
                    rw [qf] at hh
                    have hmem : g' ∈ fl := by simpa using hh
                    obtain ⟨xf, fno⟩ := cx.xs.xcl xc.cls fl A qf hA
                    rcases hx with ⟨e0, _⟩ | ⟨dx, lv, rfl, hd, hl⟩
                    · rw [e0] at qd; simp [fldOf] at qd
                    · obtain ⟨u, lv1, rv⟩ := fldOf_ok hl qd
                      unfold isVar at h5
                      simp only [Bool.and_eq_true, decide_eq_true_eq, Bool.not_eq_true'] at h5
                      refine of_pe (pe_xf (X := X) xf (fno g' hmem) hz hf (pe_var (X := X.suite a ((a, oe) :: pn)) h5.1.1.1 (visB_vis h5.1.1.2) h5.1.2 h5.2)) ?_
                      refine ⟨.ref a, hj j rfl, rfl, rfl, dx, lv, u, rfl, hd, lv1, ?_⟩
                      exact sv_ok cx hz hf x hj vs es dr _ h2 q fun us hus => k (u :: us) (by simp only [Reps]; exact ⟨u, us, rfl, rv, hus⟩)
                · cases h5
              · cases h1
        · cases e
/-- an except suite -/
theorem su_ok {X : Cx} {Wx : WX} (cx : CfOk X W C T Wx) {nm : Option Nat} {su : Su} {suite : List Stmt} {xc : Xc} {c : Value} {d : Option Addr} {a : Addr} {oe : Obj} {pn : List (Addr × Obj)} (hs : chkSu X.N X.env.scope nm su suite = true) (hz : Zc c d oe) (hf : ∃ vs, oe.data = .fields vs)
    {env : Env} {σ : St} {G H : Hp} {De : Ends} (s : StOk W G H σ env) (x : XOk W G H xc c d) (hj : ∀ j, nm = some j → σ[j]? = some (some (.ref a))) (aa : AftS W σ env (OwnA σ env) G H De Wx (suM C xc su env)) : WSs (X.suite a ((a, oe) :: pn)) suite De σ H := by
  cases su with
  | cst i dd =>
    unfold chkSu at hs
    split at hs
    · rename_i q
      cases q
      rename_i xn p1 cc kk p2 p3
      simp only [Bool.and_eq_true, decide_eq_true_eq] at hs
      obtain ⟨⟨⟨h1, h2⟩, h3⟩, h4⟩ := hs
      have key : ∀ (e : Expr) (v : V), e = .Constant cc kk p2 → PE (X.suite a ((a, oe) :: pn)) e (tC v) → Rep W G dd v → WSs (X.suite a ((a, oe) :: pn)) [.Assign [.Name xn p1] e p3] De σ H := fun e v he pe r => by
        subst he
        refine of_pss (pss_one (ps_set (X := X.suite a ((a, oe) :: pn)) cx.nd h1 (locB_loc h2) pe rfl (.inl (cx.fn xn)))) ?_
        simp only [suM] at aa
        have aa' : AftS W σ env (OwnA σ env) G H De Wx (.ok .nx (env.set i (.val dd))) := by
          cases w : slot env i <;> rw [w] at aa <;> first | exact aa | exact aa.elim
        exact aa' _ G H (Keep.sub s.gh fun b hb => own_setV hb) (s.setV r) (par_setV rfl)
      cases dd <;> cases cc <;> simp only [cstIs, reduceCtorEq, Bool.false_eq_true] at h3
      · exact key _ _ rfl pe_non (by simp only [Rep])
      · simp only [beq_iff_eq] at h3; subst h3; exact key _ _ rfl pe_bl (by simp only [Rep])
      · simp only [beq_iff_eq] at h3; subst h3; exact key _ _ rfl pe_int (by simp only [Rep])
      · rw [decide_eq_true_eq] at h3; subst h3; exact key _ _ rfl pe_str (by simp only [Rep])
    · rename_i q; cases q
    · cases hs
  | lst i vs =>
    unfold chkSu at hs
    split at hs
    · rename_i q; cases q
    · rename_i q
      cases q
      rename_i xn p1 es p2 p3
      simp only [Bool.and_eq_true, decide_eq_true_eq] at hs
      obtain ⟨⟨⟨h1, h2⟩, h4⟩, h5⟩ := hs
      simp only [suM] at aa
      cases qd : svs C xc vs with
      | none => rw [qd] at aa; cases w : slot env i <;> rw [w] at aa <;> exact aa.elim
      | some ds =>
        rw [qd] at aa
        have aa1 : AftS W σ env (OwnA σ env) G H De Wx (if ds.length ≤ big then .ok .nx (env.set i (.own (.lst ds))) else .no) := by
          cases w : slot env i <;> rw [w] at aa <;> first | exact aa | exact aa.elim
        by_cases hb : ds.length ≤ big
        · rw [if_pos hb] at aa1
          refine of_pss (pss_one (ps_set (X := X.suite a ((a, oe) :: pn)) cx.nd h1 (locB_loc h2) (pe_lst (paU (sv_star h5))) rfl (.inl (cx.fn xn)))) ?_
          refine sv_ok cx hz hf x hj vs es ds _ h5 qd fun us r => ⟨?_, fun p hp => ?_⟩
          · rw [reps_len r]
            exact Nat.le_trans hb (by decide)
          · have c1 : Cont W G (upd H p (.lst us)) p (.lst ds) := ⟨us, upd_same, r⟩
            have s1 : StOk W G (upd H p (.lst us)) σ env := s.laidN hp
            have np : ¬ OwnA σ env p := fun ho => by
              obtain ⟨o, ho⟩ := s.own_some ho
              rw [hp] at ho; cases ho
            refine aa1 _ G _ ⟨Ex.refl G, s1.gh, fun b o h _ => (Ex.new hp) b o h, fun _ _ _ _ h => h, fun b hb => ?_⟩ (s1.setO (gnone s.gh hp) c1 np) (par_setV rfl)
            rcases own_setO hb with z | z
            · exact .inl z
            · subst z; exact .inr hp
        · rw [if_neg hb] at aa1; exact aa1.elim
    · cases hs
theorem cls_ok {X : Cx} {Wx : WX} (cx : CfOk X W C T Wx) : ∀ (cls : List (Nat × Option Nat × Su)) (hds : List ExceptHandler), chkCl T X.N X.env.scope cls hds = true →
    ∃ l, ClsL X hds l ∧ ∀ (xc : Xc) (c : Value) (d : Option Addr) (env : Env) (σ : St) (G H : Hp) (De : Ends), StOk W G H σ env → XOk W G H xc c d → AftS W σ env (OwnA σ env) G H De Wx (catM C xc cls env) → wMix X.K Wx De l c d σ H
  | [], [], _ => ⟨[], .nil, fun xc c d env σ G H De s x aa => aa σ c d G H (Keep.refl s.gh) s (ParK.refl _ _) x⟩
  | [], _ :: _, h => by simp [chkCl] at h
  | _ :: _, [], h => by simp [chkCl] at h
  | (k, nm, su) :: r, hd :: hr, h => by
    obtain ⟨x, p, n, suite, q, rfl⟩ : ∃ x p n suite q, hd = .ExceptHandler (some (.Name x p)) n suite q := by
      unfold chkCl at h
      split at h <;> first | (rename_i e1 e2; cases e1; cases e2; exact ⟨_, _, _, _, _, rfl⟩) | (rename_i e1 e2; cases e1; done) | cases h
    simp only [chkCl, Bool.and_eq_true, decide_eq_true_eq, Bool.not_eq_true'] at h
    obtain ⟨⟨⟨⟨⟨h1, h2⟩, h3⟩, h4⟩, h5⟩, h6⟩ := h
    obtain ⟨l, cl, hl⟩ := cls_ok cx r hr h6
    obtain ⟨A, hA, hmA⟩ := cx.xs.cat x k h1
    have names : Names X x (.ref A) := ⟨glB_gl h2, h3, .inl hmA⟩
    obtain ⟨b0, rest, rfl⟩ : ∃ b0 rest, suite = b0 :: rest := by
      cases suite with
      | nil => cases su <;> simp [chkSu] at h5
      | cons b0 rest => exact ⟨b0, rest, rfl⟩
    have sok : SuOk X (b0 :: rest) (fun a cls d De σ H => ∀ oe pn, Zc cls d oe → (∃ vs, oe.data = .fields vs) → WSs (X.suite a ((a, oe) :: pn)) (b0 :: rest) De σ H) := fun a oe cls d pn hz hf => ⟨fun pins s σ H D I h => h oe pn hz hf pins s I⟩
    cases nm with
    | none =>
      cases n with
      | some _ => simp [chkN] at h4
      | none =>
        refine ⟨_, .one names sok cl, fun xc c d env σ G H De s x' aa => ?_⟩
        obtain ⟨B, hB', rfl, hx'⟩ := id x'
        simp only [catM] at aa
        cases qs : C.sub xc.cls k with
        | none => rw [qs] at aa; exact aa.elim
        | some t =>
          rw [qs] at aa
          refine ⟨t, cx.xs.exm _ _ _ _ _ qs hB' hA, fun ht a ha => ?_, fun ht => ?_⟩
          · subst ht
            simp only at aa
            intro oe pn hz hf
            exact su_ok cx h5 hz hf s x' (fun j hj => by cases hj) aa
          · subst ht
            simp only at aa
            exact hl xc _ d env σ G H De s x' aa
    | some j =>
      cases n with
      | none => simp [chkN] at h4
      | some n =>
        simp only [chkN, Bool.and_eq_true, decide_eq_true_eq] at h4
        refine ⟨_, .as names h4.1 h4.2 sok cl, fun xc c d env σ G H De s x' aa => ?_⟩
        obtain ⟨B, hB', rfl, hx'⟩ := id x'
        simp only [catM] at aa
        cases qs : C.sub xc.cls k with
        | none => rw [qs] at aa; exact aa.elim
        | some t =>
          rw [qs] at aa
          refine ⟨t, cx.xs.exm _ _ _ _ _ qs hB' hA, fun ht a ha => ?_, fun ht => ?_⟩
          · subst ht
            simp only at aa
            have aa' : AftS W σ env (OwnA σ env) G H De Wx (if j < env.length then (suM C xc su (env.set j .un)).bind fun f e2 => (match f with
                | .nx => .ok .nx (e2.set j .un)
                | _ => .no) else .no) := by
              cases w : slot env j <;> rw [w] at aa <;> first | exact aa | exact aa.elim
            have hjl : j < env.length := by
              by_cases z : j < env.length
              · exact z
              · rw [if_neg z] at aa'; exact aa'.elim
            rw [if_pos hjl] at aa'
            intro oe pn hz hf
            have s2 : StOk W G H (σ.set j (some (.ref a))) (env.set j .un) := s.setU
            have k2 : Keep (OwnA σ env) G H (OwnA (σ.set j (some (.ref a))) (env.set j .un)) G H := Keep.sub s.gh fun b hb => own_setU hb
            have p2 : ParK σ env (σ.set j (some (.ref a))) (env.set j .un) := par_setV rfl
            have hj : (σ.set j (some (.ref a)))[j]? = some (some (.ref a)) := by
              rw [List.getElem?_set, if_pos rfl, if_pos (by rw [← s.len]; exact hjl)]
            refine su_ok cx h5 hz hf s2 x' (fun j' hj' => by cases hj'; exact hj) ?_
            have a3 := AftS.step k2 p2 aa'
            cases qu : suM C xc su (env.set j .un) with
            | no => rw [qu] at a3; exact a3
            | ex xx e3 => rw [qu] at a3; exact a3
            | ok f e3 =>
              rw [qu] at a3
              simp only [Rs.bind] at a3
              cases f with
              | nx => exact fun σ3 G3 H3 k3 s3 p3 => a3 (σ3.set j none) G3 H3 (k3.trans (Keep.sub s3.gh fun b hb => own_setU hb)) s3.setU (p3.trans (par_setV rfl))
              | bk => exact a3.elim
              | ct => exact a3.elim
              | rt r => exact a3.elim
          · subst ht
            simp only at aa
            exact hl xc _ d env σ G H De s x' aa
theorem try_ok {X : Cx} {Wx : WX} (cx : CfOk X W C T Wx) {cls : List (Nat × Option Nat × Su)} {b : List Stmt} {hd : ExceptHandler} {hds : List ExceptHandler} {pos : Pos} {m : M Fl} (hc : chkCl T X.N X.env.scope cls (hd :: hds) = true)
    (hB : ∀ {X' : Cx} {Wx' : WX}, CfOk X' W C T Wx' → X'.N = X.N → X'.env = X.env → GoodSs X' W Wx' b m) :
    GoodS X W Wx (.Try b (hd :: hds) [] [] pos) (tryM C m cls) := by
  intro env σ G H De s aa
  obtain ⟨l, cl, hl⟩ := cls_ok cx cls (hd :: hds) hc
  refine of_ps (ps_try_mix (tb := fun Wi De σ H => ∀ pn xe, Takes (X.tr pn xe) Wi → PassesOwn (model X.prog X.w) X.A X.env xe → WSs (X.tr pn xe) b De σ H)
    cx.stk cx.frm cx.nd cx.tk (fun Wi pn xe tk hp => ⟨fun pins s σ H D I h => h pn xe tk hp pins s I⟩) cl) ?_
  intro pn xe tk hp
  refine hB (cx.tr pn xe tk hp) rfl rfl env σ G H De s ?_
  unfold tryM at aa
  cases qm : m env with
  | no => rw [qm] at aa; exact aa
  | ok f e1 => rw [qm] at aa; exact aa
  | ex xc e1 =>
    rw [qm] at aa
    simp only at aa
    intro σ' cv d G' H' k' s' p' x'
    exact hl xc cv d e1 σ' G' H' De s' x' (AftS.step k' p' aa)
/-! ### the whole of the statements -/
mutual
theorem exS_ok : ∀ (c : S) {X : Cx} {Wx : WX} {st : Stmt}, CfOk X W C T Wx → chkS T X.N X.env.scope c st = true → GoodS X W Wx st (exS C c)
  | .asg t a, X, Wx, st, cx, h => by
    obtain ⟨tg, e, pos, rfl⟩ : ∃ tg e pos, st = .Assign [tg] e pos := by
      unfold chkS at h
      split at h <;> first | (rename_i q; cases q; done) | skip
      · exact ⟨_, _, _, rfl⟩
      · cases h
    simp only [chkS, Bool.and_eq_true, Bool.not_eq_true'] at h
    simp only [exS]
    exact asg_ok cx.toCsOk h.1.1.1 h.1.1.2 h.1.2 h.2
  | .own i a, X, Wx, st, cx, h => by
    obtain ⟨x, p, e, pos, rfl⟩ : ∃ x p e pos, st = .Assign [.Name x p] e pos := by
      unfold chkS at h
      split at h <;> first | (rename_i q; cases q; done) | skip
      · exact ⟨_, _, _, _, rfl⟩
      · cases h
    simp only [chkS, Bool.and_eq_true, decide_eq_true_eq] at h
    simp only [exS]
    exact own_ok cx.toCsOk h.1.1 h.1.2 h.2
  | .seti i k a, X, Wx, st, cx, h => by
    obtain ⟨x, p, ke, sp, e, pos, rfl⟩ : ∃ x p ke sp e pos, st = .Assign [.Subscript (.Name x p) ke sp] e pos := by
      unfold chkS at h
      split at h <;> first | (rename_i q; cases q; done) | skip
      · exact ⟨_, _, _, _, _, _, rfl⟩
      · cases h
    simp only [chkS, Bool.and_eq_true, Bool.not_eq_true'] at h
    simp only [exS]
    exact seti_ok cx.toCsOk h.1.1.1.1 h.1.1.1.2 h.1.1.2 h.1.2 h.2
  | .app i a, X, Wx, st, cx, h => by
    obtain ⟨e, pos, rfl⟩ : ∃ e pos, st = .Expr e pos := by
      unfold chkS at h
      split at h <;> first | (rename_i q; cases q; done) | skip
      · exact ⟨_, _, rfl⟩
      · cases h
    simp only [chkS] at h
    split at h
    · rename_i e' ho
      simp only [exS]
      exact app_ok cx.toCsOk ho h
    · cases h
  | .ext i a, X, Wx, st, cx, h => by
    obtain ⟨e, pos, rfl⟩ : ∃ e pos, st = .Expr e pos := by
      unfold chkS at h
      split at h <;> first | (rename_i q; cases q; done) | skip
      · exact ⟨_, _, rfl⟩
      · cases h
    simp only [chkS] at h
    split at h
    · rename_i e' ho
      simp only [exS]
      exact ext_ok cx.toCsOk ho h
    · cases h
  | .ex a, X, Wx, st, cx, h => by
    obtain ⟨e, pos, rfl⟩ : ∃ e pos, st = .Expr e pos := by
      unfold chkS at h
      split at h <;> first | (rename_i q; cases q; done) | skip
      · exact ⟨_, _, rfl⟩
      · cases h
    simp only [chkS, Bool.and_eq_true, Bool.not_eq_true'] at h
    intro env σ G H De s aa
    simp only [exS] at aa
    refine of_ps (ps_expr peU (swaps_no h.1)) ?_
    exact ev_ok a cx.toCxOk h.2 env σ G H _ s (aft_toS (np_ev a env) aa fun r e1 v G1 H1 _ k1 p1 s1 r1 a1 => a1 σ G1 H1 (Keep.refl s1.gh) s1 (ParK.refl _ _))
  | .ret a, X, Wx, st, cx, h => by
    obtain ⟨e, pos, rfl⟩ : ∃ e pos, st = .Return (some e) pos := by
      unfold chkS at h
      split at h <;> first | (rename_i q; cases q; done) | skip
      · exact ⟨_, _, rfl⟩
      · cases h
    simp only [chkS] at h
    simp only [exS]
    exact ret_ok cx.toCsOk h
  | .retn, X, Wx, st, cx, h => by
    obtain ⟨pos, rfl⟩ : ∃ pos, st = .Return none pos := by
      unfold chkS at h
      split at h <;> first | (rename_i q; cases q; done) | skip
      · exact ⟨_, rfl⟩
      · cases h
    intro env σ G H De s aa
    simp only [exS] at aa
    exact of_ps ps_retN (aa σ G H (Keep.refl s.gh) s (ParK.refl _ _) .non (by simp only [ResOk, Rep]))
  | .ifs c a b, X, Wx, st, cx, h => by
    obtain ⟨e, x, y, pos, rfl⟩ : ∃ e x y pos, st = .If e x y pos := by
      unfold chkS at h
      split at h <;> first | (rename_i q; cases q; done) | skip
      · exact ⟨_, _, _, _, rfl⟩
      · cases h
    simp only [chkS, Bool.and_eq_true] at h
    intro env σ G H De s aa
    simp only [exS] at aa
    refine of_ps (ps_if ptU pssU pssU) ?_
    refine evB_ok c cx.toCxOk h.1.1 env σ G H _ s (aft_toS (np_asB (np_ev c env)) aa fun t e1 t' G1 H1 _ k1 p1 s1 r1 a1 => ?_)
    have r1 : t' = t := r1
    subst r1
    cases t' with
    | true =>
      rw [if_pos rfl] at a1 ⊢
      exact exs_ok a cx h.1.2 e1 σ G1 H1 De s1 a1
    | false =>
      rw [if_neg Bool.false_ne_true] at a1 ⊢
      exact exs_ok b cx h.2 e1 σ G1 H1 De s1 a1
  | .for tg k as body, X, Wx, st, cx, h => by
    obtain ⟨t, iter, b, pos, rfl⟩ : ∃ t iter b pos, st = .For t iter b [] pos := by
      unfold chkS at h
      split at h <;> first | (rename_i q; cases q; done) | skip
      · exact ⟨_, _, _, _, rfl⟩
      · cases h
    simp only [chkS, Bool.and_eq_true] at h
    obtain ⟨⟨⟨⟨h1, h2⟩, h3⟩, h4⟩, h5⟩ := h
    simp only [exS]
    split at h1
    · rename_i es hit
      exact for_ok cx.toCsOk hit (fun hk => by subst hk; exact h2) h3 h4 (evs_ok as cx.toCxOk h1) (exs_ok body cx h5) (fun e => np_evs as e)
    · cases h1
  | .whl n c body, X, Wx, st, cx, h => by
    obtain ⟨e, b, pos, rfl⟩ : ∃ e b pos, st = .While e b [] pos := by
      unfold chkS at h
      split at h <;> first | (rename_i q; cases q; done) | skip
      · exact ⟨_, _, _, rfl⟩
      · cases h
    simp only [chkS, Bool.and_eq_true] at h
    simp only [exS]
    exact whl_ok cx.toCsOk (evB_ok c cx.toCxOk h.1) (exs_ok body cx h.2) (fun e => np_asB (np_ev c e))
  | .rse c as, X, Wx, st, cx, h => by
    obtain ⟨x, p, es, p2, pos, rfl⟩ : ∃ x p es p2 pos, st = .Raise (some (.Call (.Name x p) es [] p2)) none pos := by
      unfold chkS at h
      split at h <;> first | (rename_i q; cases q; done) | skip
      · exact ⟨_, _, _, _, _, rfl⟩
      · cases h
    simp only [chkS, Bool.and_eq_true, decide_eq_true_eq, Bool.not_eq_true'] at h
    obtain ⟨⟨⟨⟨h1, h2⟩, h3⟩, h4⟩, h5⟩ := h
    simp only [exS]
    exact rse_ok cx h1 h2 h3 h4 h5
  | .try body cls, X, Wx, st, cx, h => by
    obtain ⟨b, hd, hds, pos, rfl⟩ : ∃ b hd hds pos, st = .Try b (hd :: hds) [] [] pos := by
      unfold chkS at h
      split at h <;> first | (rename_i q; cases q; done) | skip
      · exact ⟨_, _, _, _, rfl⟩
      · cases h
    simp only [chkS, Bool.and_eq_true] at h
    simp only [exS]
    exact try_ok cx h.1 (fun cx' e1 e2 => exs_ok body cx' (by rw [e1, e2]; exact h.2))
  | .pass, X, Wx, st, cx, h => by
    obtain ⟨pos, rfl⟩ : ∃ pos, st = .Pass pos := by
      unfold chkS at h
      split at h <;> first | (rename_i q; cases q; done) | skip
      · exact ⟨_, rfl⟩
      · cases h
    intro env σ G H De s aa
    simp only [exS] at aa
    exact of_ps ps_pass (aa σ G H (Keep.refl s.gh) s (ParK.refl _ _))
  | .never, X, Wx, st, cx, h => by
    intro env σ G H De s aa
    simp only [exS] at aa
    exact aa.elim
theorem exs_ok : ∀ (cs : List S) {X : Cx} {Wx : WX} {sts : List Stmt}, CfOk X W C T Wx → chkSs T X.N X.env.scope cs sts = true → GoodSs X W Wx sts (exs C cs)
  | [], X, Wx, sts, cx, h => by
    cases sts <;> simp only [chkSs, reduceCtorEq, Bool.false_eq_true] at h
    intro env σ G H De s aa
    simp only [exs] at aa
    exact of_pss pss_nil (aa σ G H (Keep.refl s.gh) s (ParK.refl _ _))
  | c :: cs, X, Wx, sts, cx, h => by
    cases sts <;> simp only [chkSs, reduceCtorEq, Bool.false_eq_true] at h
    simp only [Bool.and_eq_true] at h
    intro env σ G H De s aa
    simp only [exs] at aa
    refine of_pss (pss_cons psU pssU) ?_
    refine exS_ok c cx h.1 env σ G H _ s ?_
    cases q : exS C c env with
    | no => rw [q] at aa; exact aa
    | ex xc e1 => rw [q] at aa; exact aa
    | ok f e1 =>
      rw [q] at aa
      simp only [Rs.bind] at aa
      cases f with
      | nx => exact fun σ' G' H' k' s' p' => exs_ok cs cx h.2 e1 σ' G' H' De s' (AftS.step k' p' aa)
      | bk => exact fun σ' G' H' k' s' p' => aa σ' G' H' k' s' p'
      | ct => exact fun σ' G' H' k' s' p' => aa σ' G' H' k' s' p'
      | rt r => exact fun σ' G' H' k' s' p' => aa σ' G' H' k' s' p'
end
end
end Itp
set_option Elab.async false
set_option linter.all false
set_option maxRecDepth 100000
set_option maxHeartbeats 4000000
namespace Itp
open PySem L2
/-! ### a def -/
structure ClsG (P : Program) (w : World) (K : PySem.W.Frag) (mg : Str → Option Value) (base : Heap) (W : Wd) (k : Nat) (x : Str) (c : Nat) (fl : List Str) (C : Addr) : Prop where
  at_ : W.ca c = some C
  T : OexC K C
  mgx : mg x = some (.ref C)
  fno : ∀ f ∈ fl, PySem.W.findIn K (.ref C) f = some none
  xf : XfC K C
  len : fl.length ≤ 5
  nd : fl.Nodup
  init : ∃ fI fd j ps, PySem.W.findIn K (.ref C) "__init__" = some (some (.ref fI)) ∧ PySem.W.typeIn K (.ref fI) = some (.type "function") ∧ FnOk P w K mg base (L2.CX P w) j fI fd ps (spI K fl) ∧ j + 1 ≤ k ∧ Binds K fd ps []
structure Pg (P : Program) (w : World) (K : PySem.W.Frag) (mg : Str → Option Value) (base : Heap) (W : Wd) (C : Cfg) (T : Tab) (k : Nat) : Prop where
  hK : K = W.K
  blt : ∀ x ∈ bltNames, mg x = none
  cst : ∀ x d, lk T.cst x = some d → ∃ u v, mg x = some u ∧ RelV v u ∧ ∀ G, d.flat = true → Rep W G d v
  fns : ∀ x f, lk T.fn x = some f → ∃ a fd j ps, FnOk P w K mg base (L2.CX P w) j a fd ps (spOf W (C.fns f)) ∧ j ≤ k ∧ mg x = some (.ref a) ∧ PySem.W.keepIn K (.ref a) = true ∧ Binds K fd ps []
  fvn : ∀ x g, lk T.fv x = some g → ∃ a, W.fa g = some a ∧ mg x = some (.ref a)
  fvc : ∀ g F a, C.fv g = some F → W.fa g = some a → ∃ fd j ps, FnOk P w K mg base (L2.CX P w) j a fd ps (spOf W F) ∧ j ≤ k ∧ PySem.W.keepIn K (.ref a) = true ∧ Binds K fd ps []
  cat : ∀ x c, lk T.cls x = some c → ∃ A, W.ca c = some A ∧ mg x = some (.ref A)
  rse : ∀ x c fl, lk T.cls x = some c → C.flds c = some fl → ∃ A, ClsG P w K mg base W k x c fl A
  xcl : ∀ c fl A, C.flds c = some fl → W.ca c = some A → XfC K A ∧ ∀ f ∈ fl, PySem.W.findIn K (.ref A) f = some none
  exm : ∀ c c' b A B, C.sub c c' = some b → W.ca c = some A → W.ca c' = some B → PySem.W.exmOne K (.ref A) (.ref B) = some b
theorem start_len {N : List Str} {vs : List V} (h : vs.length ≤ N.length) : (L2.start N vs).length = N.length := by
  unfold L2.start
  simp only [List.length_append, List.length_map, List.length_replicate]
  omega
theorem slot_app {as : List Arg} {m i : Nat} : slot (as.map argSlot ++ List.replicate m .un) i = slot (as.map argSlot) i := by
  unfold slot
  rw [List.getD_eq_getElem?_getD, List.getD_eq_getElem?_getD, List.getElem?_append]
  split
  · rfl
  · rename_i h
    rw [List.getElem?_eq_none (l := as.map argSlot) (by omega)]
    rw [List.getElem?_replicate]
    split <;> rfl
theorem slot_lt' {e : Env} {i : Nat} (h : (slot e i).isMut = true) : i < e.length := slot_lt h
section
variable {W : Wd}
theorem own_start {N : List Str} {vs : List V} {as : List Arg} {m : Nat} (hl : as.length = vs.length) (a : Addr) : OwnA (L2.start N vs) (as.map argSlot ++ List.replicate m .un) a ↔ OwnA (vs.map some) (as.map argSlot) a := by
  have key : ∀ i, (slot (as.map argSlot) i).isMut = true → (L2.start N vs)[i]? = (vs.map some)[i]? := fun i h => by
    have := slot_lt h
    rw [List.length_map] at this
    unfold L2.start
    rw [List.getElem?_append_left (by rw [List.length_map]; omega)]
  constructor
  · rintro ⟨i, h1, h2⟩
    rw [slot_app] at h1
    exact ⟨i, h1, by rw [← key i h1]; exact h2⟩
  · rintro ⟨i, h1, h2⟩
    exact ⟨i, by rw [slot_app]; exact h1, by rw [key i h1]; exact h2⟩
theorem ok_start {G H : Hp} {N : List Str} {vs : List V} {as : List Arg} (hl : as.length = vs.length) (hn : vs.length ≤ N.length) (s : StOk W G H (vs.map some) (as.map argSlot)) : StOk W G H (L2.start N vs) (as.map argSlot ++ List.replicate (N.length - as.length) .un) where
  gh := s.gh
  len := by
    rw [start_len hn]
    simp only [List.length_append, List.length_map, List.length_replicate]
    omega
  sl := fun i => by
    rw [slot_app]
    have z := s.sl i
    by_cases h : i < vs.length
    · have e : (L2.start N vs)[i]? = (vs.map some)[i]? := by
        unfold L2.start
        rw [List.getElem?_append_left (by rw [List.length_map]; omega)]
      exact slotOk_at e z
    · have : slot (as.map argSlot) i = .un := by
        unfold slot
        rw [List.getD_eq_getElem?_getD, List.getElem?_eq_none (l := as.map argSlot) (by rw [List.length_map]; omega)]
        rfl
      rw [this]
      trivial
  inj := fun i j a hij h1 h2 h3 => by
    rw [slot_app] at h1 h2
    have key : ∀ i, (slot (as.map argSlot) i).isMut = true → (L2.start N vs)[i]? = (vs.map some)[i]? := fun i h => by
      have := slot_lt h
      rw [List.length_map] at this
      unfold L2.start
      rw [List.getElem?_append_left (by rw [List.length_map]; omega)]
    rw [key i h1] at h3
    rw [key j h2]
    exact s.inj i j a hij h1 h2 h3
theorem fins_ok {G' H' : Hp} {σ' : St} {e' : Env} (s' : StOk W G' H' σ' e') : ∀ (as : List Arg) (vs : List V) (i : Nat) (l : List D), as.length = vs.length → fins e' as i = some l → (∀ j v, (slot e' (i + j)).isPar = true → vs[j]? = some v → σ'[i + j]? = some (some v)) → OkFins W G' H' vs as l
  | [], vs, i, l, hl, h, k => by
    cases vs with
    | nil => simp only [fins, Option.some.injEq] at h; subst h; simp only [OkFins]
    | cons _ _ => simp at hl
  | .val d :: as, vs, i, l, hl, h, k => by
    cases vs with
    | nil => simp at hl
    | cons v vs =>
      simp only [fins] at h
      simp only [OkFins]
      refine fins_ok s' as vs (i + 1) l (by simpa using hl) h fun j u hj hu => ?_
      have := k (j + 1) u (by rw [show i + (j + 1) = i + 1 + j by omega]; exact hj) (by simpa using hu)
      rw [show i + (j + 1) = i + 1 + j by omega] at this
      exact this
  | .lent d :: as, vs, i, l, hl, h, k => by
    cases vs with
    | nil => simp at hl
    | cons v vs =>
      simp only [fins] at h
      split at h
      · rename_i d' l' q1 q2
        simp only [Option.some.injEq] at h
        subst h
        simp only [OkFins]
        have e1 := k 0 v (by rw [Nat.add_zero, q1]; rfl) rfl
        rw [Nat.add_zero] at e1
        have z := s'.sl i
        rw [q1] at z
        obtain ⟨a, z1, z2, z3⟩ := z
        rw [e1] at z1
        cases z1
        refine ⟨d', l', a, rfl, rfl, z2, z3, fins_ok s' as vs (i + 1) l' (by simpa using hl) q2 fun j u hj hu => ?_⟩
        have := k (j + 1) u (by rw [show i + (j + 1) = i + 1 + j by omega]; exact hj) (by simpa using hu)
        rw [show i + (j + 1) = i + 1 + j by omega] at this
        exact this
      · cases h
theorem fins_par {e' : Env} : ∀ (as : List Arg) (i : Nat) (l : List D), fins e' as i = some l → ∀ j, (slot (as.map argSlot) j).isMut = true → (slot e' (i + j)).isPar = true
  | [], i, l, h, j, hj => by simp [slot, Slot.isMut] at hj
  | .val d :: as, i, l, h, j, hj => by
    simp only [fins] at h
    cases j with
    | zero => simp [slot, argSlot, Slot.isMut] at hj
    | succ j =>
      rw [show i + (j + 1) = i + 1 + j by omega]
      exact fins_par as (i + 1) l h j (by simpa [slot] using hj)
  | .lent d :: as, i, l, h, j, hj => by
    simp only [fins] at h
    split at h
    · rename_i d' l' q1 q2
      cases j with
      | zero => rw [Nat.add_zero, q1]; rfl
      | succ j =>
        rw [show i + (j + 1) = i + 1 + j by omega]
        exact fins_par as (i + 1) l' q2 j (by simpa [slot] using hj)
    · cases h
end
theorem cf_of {P : Program} {w : World} {K : PySem.W.Frag} {mg : Str → Option Value} {base : Heap} {W : Wd} {C : Cfg} {T : Tab} {k : Nat} (g : Pg P w K mg base W C T k) {N : List Str} {qual : Str} {sc : Scope} {f : Addr} {cd : Value} {A : Around} {outer : List PySem.Env} {s : Shared} {H : Hp} {E : XK} (nd : N.Nodup) (kind : sc.kind = .function) (r : Room k (A.deeper (PyProof.Rows.envOfC qual sc s.heap.objs.size f cd))) :
    CfOk (cxOf (L2.CX P w) P w K mg base N qual sc f cd A outer s H E) W C T (fun c d _ H => E c d H) where
  K := g.hK
  nd := nd
  calm := rfl
  units := by
    have := r.un
    show (A.deeper (PyProof.Rows.envOfC qual sc s.heap.objs.size f cd)).units + 100 < _
    omega
  blt := g.blt
  cst := g.cst
  tk := takes_of rfl rfl rfl rfl
  fns := fun x f' h => by
    obtain ⟨a, fd, j, ps, h1, h2, h3, h4, h5⟩ := g.fns x f' h
    exact ⟨a, fd, j, ps, h1, r.mono h2, h3, h4, h5⟩
  fvn := g.fvn
  fvc := fun n F a h1 h2 => by
    obtain ⟨fd, j, ps, i1, i2, i3, i4⟩ := g.fvc n F a h1 h2
    exact ⟨fd, j, ps, i1, r.mono i2, i3, i4⟩
  hp := passes_of rfl
  stk := rfl
  frm := rfl
  fn := fun _ => rfl
  kind := kind
  xs := ⟨g.cat, fun x c fl h1 h2 => by
    obtain ⟨A', q⟩ := g.rse x c fl h1 h2
    obtain ⟨fI, fd, j, ps, i1, i2, i3, i4, i5⟩ := q.init
    exact ⟨A', q.at_, q.T, q.mgx, q.fno, q.xf, q.len, q.nd, fI, fd, j, ps, i1, i2, i3, r.mono i4, i5⟩, g.xcl, g.exm⟩
theorem def_ok {P : Program} {w : World} {K : PySem.W.Frag} {mg : Str → Option Value} {base : Heap} {W : Wd} {C : Cfg} {T : Tab} {k : Nat} (g : Pg P w K mg base W C T k) {x qual : Str} {st : Stmt} {f : Addr} {fd : FuncData} {N ps : List Str} {np n : Nat} {body : List S} (F : Fun K x qual st f fd) (Sc : FnScope N ps (defScope st)) (hp : ps.length = np) (hN : N.length = n) (hle : np ≤ n)
    (hb : chkSs T N (defScope st) body (defBody st) = true) : FnOk P w K mg base (L2.CX P w) (k + 1) f fd ps (spOf W (runD C np n body)) := by
  have hlen : ∀ vs H Q E, spOf W (runD C np n body) vs H Q E → vs.length = ps.length := fun vs H Q E h => by
    obtain ⟨G, as, h1, h2, h3⟩ := h
    by_cases q : as.length = np
    · omega
    · unfold runD at h3
      rw [if_neg q] at h3
      exact h3.elim
  refine F.okX Sc hlen fun cdv A outer s H vs Q E hr h => ?_
  have hv := hlen vs H Q E h
  obtain ⟨G, as, h1, h2, h3⟩ := h
  refine ⟨_, pssU, ?_⟩
  have cx := cf_of (N := N) (qual := qual) (sc := defScope st) (f := f) (cd := cdv) (A := A) (outer := outer) (s := s) (H := H) (E := E) g Sc.nd Sc.kind hr
  have hal : as.length = np := by omega
  have hvn : vs.length ≤ N.length := by omega
  have s0 := ok_start (N := N) h1 hvn h2
  refine exs_ok body cx hb _ _ G H _ s0 ?_
  unfold runD at h3
  rw [if_pos hal] at h3
  rw [hN, hal]
  rw [hN, hal] at s0
  have keepF : ∀ {σ' : St} {e' : Env} {G' H' : Hp}, Keep (OwnA (L2.start N vs) (as.map argSlot ++ List.replicate (n - np) .un)) G H (OwnA σ' e') G' H' → Keep (OwnA (vs.map some) (as.map argSlot)) G H (OwnA (vs.map some) (as.map argSlot)) G' H' := fun k => by
    have o := fun a => own_start (N := N) (m := n - np) h1 a
    exact ⟨k.gg, k.gh, fun a o' h hn => k.hh a o' h (fun z => hn ((o a).mp z)), fun a o' h hn => k.hg a o' h (fun z => hn ((o a).mp z)), fun a h => .inl h⟩
  have parF : ∀ {σ' : St} {e' : Env} {l : List D}, ParK (L2.start N vs) (as.map argSlot ++ List.replicate (n - np) .un) σ' e' → ∀ j v, (slot e' (0 + j)).isPar = true → vs[j]? = some v → σ'[0 + j]? = some (some v) := fun {σ' e' l} p j v hj hv => by
    rw [Nat.zero_add] at hj ⊢
    rw [(p j hj).2]
    exact start_get hv
  have resF : ∀ {σ' : St} {e' : Env} {G' H' : Hp} {l : List D} {r : Res} {v : V}, ParK (L2.start N vs) (as.map argSlot ++ List.replicate (n - np) .un) σ' e' → fins e' as 0 = some l → ResOk W (OwnA (L2.start N vs) (as.map argSlot ++ List.replicate (n - np) .un)) H (OwnA σ' e') G' H' r v → ResOk W (OwnA (vs.map some) (as.map argSlot)) H (OwnA (vs.map some) (as.map argSlot)) G' H' r v := fun {σ' e' G' H' l r v} p hf hr => by
    cases r with
    | val d => exact hr
    | new d =>
      obtain ⟨a, r1, r2, r3, r4, r5⟩ := hr
      refine ⟨a, r1, r2, r3, fun ⟨j, q1, q2⟩ => r4 ⟨j, ?_, ?_⟩, ?_⟩
      · have := fins_par as 0 l hf j q1
        rw [Nat.zero_add] at this
        cases w : slot e' j <;> rw [w] at this <;> first | rfl | cases this
      · have z := fins_par as 0 l hf j q1
        have hj : ∃ v, vs[j]? = some v ∧ some v = some (.ref a) := by
          rw [List.getElem?_map] at q2
          cases w : vs[j]? with
          | none => rw [w] at q2; cases q2
          | some v => rw [w] at q2; exact ⟨v, rfl, by simpa using q2⟩
        obtain ⟨v, w1, w2⟩ := hj
        cases w2
        have := parF (l := l) p j _ z w1
        rw [Nat.zero_add] at this
        exact this
      · rcases r5 with r5 | r5
        · exact .inl ((own_start h1 a).mp r5)
        · exact .inr r5
  cases q : exs C body (as.map argSlot ++ List.replicate (n - np) .un) with
  | no => rw [q] at h3; exact h3
  | ex x e =>
    rw [q] at h3
    simp only at h3
    cases w1 : fins e as 0 with
    | none => rw [w1] at h3; exact h3.elim
    | some l' =>
      rw [w1] at h3
      exact fun σ' c d G' H' k' s' p' x' => h3 c d G' H' (keepF k') (fins_ok s' as vs 0 _ h1 w1 (parF (l := l') p')) x'
  | ok f e =>
    rw [q] at h3
    cases f with
    | bk => exact h3.elim
    | ct => exact h3.elim
    | nx =>
      simp only at h3
      cases w1 : fins e as 0 with
      | none => rw [w1] at h3; exact h3.elim
      | some l' =>
        rw [w1] at h3
        exact fun σ' G' H' k' s' p' => h3 .non G' H' (keepF k') (fins_ok s' as vs 0 _ h1 w1 (parF (l := l') p')) (by simp [ResOk, Rep])
    | rt r =>
      simp only at h3
      cases w1 : fins e as 0 with
      | none => rw [w1] at h3; exact h3.elim
      | some l' =>
        rw [w1] at h3
        exact fun σ' G' H' k' s' p' v hv => h3 v G' H' (keepF k') (fins_ok s' as vs 0 _ h1 w1 (parF (l := l') p')) (resF p' w1 hv)
end Itp
set_option Elab.async false
set_option linter.all false
set_option maxRecDepth 100000
set_option maxHeartbeats 4000000
namespace Itp
open PySem L2
/-! ### for the end -/
theorem lk_cons {α : Type} {y x : Str} {a d : α} {r : List (Str × α)} (h : lk ((y, a) :: r) x = some d) : (x = y ∧ d = a) ∨ lk r x = some d := by
  unfold lk at h
  split at h
  · rename_i e
    cases h
    exact .inl ⟨e.symm, rfl⟩
  · exact .inr h
theorem lk_nil {α : Type} {x : Str} {d : α} {p : Prop} (h : lk [] x = some d) : p := by
  cases h
theorem ClsG.mono {P : Program} {w : World} {K : PySem.W.Frag} {mg : Str → Option Value} {base : Heap} {W : Wd} {j k : Nat} {x : Str} {c : Nat} {fl : List Str} {C : Addr} (h : ClsG P w K mg base W j x c fl C) (hk : j ≤ k) : ClsG P w K mg base W k x c fl C := by
  obtain ⟨fI, fd, i, ps, i1, i2, i3, i4, i5⟩ := h.init
  exact ⟨h.at_, h.T, h.mgx, h.fno, h.xf, h.len, h.nd, fI, fd, i, ps, i1, i2, i3, by omega, i5⟩
def isT : FRes → Prop
  | .ok (.val (.bl true)) [] => True
  | _ => False
def spLaw (K : PySem.W.Frag) (n : Nat) : Sp := fun vs H Q _ => ∃ (a : Addr) (ns : List Int), vs = [.ref a] ∧ SqL K H a (ns.map V.int) ∧ ns.length ≤ n ∧ ∀ H', Q (.bl true) H'
theorem law_imp {W : Wd} {F : Fn} {n : Nat} (hF : ∀ ns : List Int, ns.length ≤ n → F [.val (.scr ns)] = .ok (.val (.bl true)) []) : ∀ vs H Q E, spLaw W.K n vs H Q E → spOf W F vs H Q E := fun vs H Q E h => by
  obtain ⟨a, ns, rfl, h1, h2, h3⟩ := h
  refine ⟨H, [.val (.scr ns)], rfl, ⟨Ex.refl H, rfl, fun i => ?_, fun i j b hij hi => ?_⟩, ?_⟩
  · cases i with
    | zero => exact ⟨.ref a, rfl, by simp only [Rep]; exact ⟨a, rfl, h1⟩⟩
    | succ i =>
      have : slot (List.map argSlot [Arg.val (.scr ns)]) (i + 1) = .un := rfl
      rw [this]
      trivial
  · cases i with
    | zero => cases hi
    | succ i => cases hi
  · rw [hF ns h2]
    intro v G' H' _ _ hr
    have : v = .bl true := by simpa [ResOk, Rep] using hr
    subst this
    exact h3 H'
theorem cst_str {W : Wd} {mg : Str → Option Value} {x : Str} {s : List Nat} {t : Tok} (h : mg x = some (.str ⟨s.toArray⟩ t)) : ∃ u v, mg x = some u ∧ RelV v u ∧ ∀ G, (D.str s).flat = true → Rep W G (.str s) v := ⟨_, .str ⟨s.toArray⟩, h, ⟨t, rfl⟩, fun G _ => by simp only [Rep]⟩
theorem cst_int {W : Wd} {mg : Str → Option Value} {x : Str} {n : Int} {t : Tok} (h : mg x = some (.int n t)) : ∃ u v, mg x = some u ∧ RelV v u ∧ ∀ G, (D.int n).flat = true → Rep W G (.int n) v := ⟨_, .int n, h, ⟨t, rfl⟩, fun G _ => by simp only [Rep]⟩
theorem exm_of {K : PySem.W.Frag} {A B : Addr} {b : Bool} (h1 : PySem.W.subIn K (.ref B) (.type "BaseException") = some true) (h2 : PySem.W.isClsIn K B = true) (h3 : PySem.W.typeIn K (.ref B) = some (.type "type")) (h4 : PySem.W.subIn K (.ref A) (.ref B) = some b) :
    PySem.W.exmOne K (.ref A) (.ref B) = some b := by
  have q1 : (PySem.W.subIn K (.ref B) (.type "BaseException") == some true) = true := by rw [h1]; rfl
  have q3 : (PySem.W.clsIn K B).isSome = true := h2
  have q2 : ((PySem.W.clsIn K B).isSome && PySem.W.typeIn K (.ref B) == some (.type "type")) = true := by rw [q3, h3]; rfl
  show (if (PySem.W.subIn K (.ref B) (.type "BaseException") == some true) = true then (if ((PySem.W.clsIn K B).isSome && PySem.W.typeIn K (.ref B) == some (.type "type")) = true then PySem.W.subIn K (.ref A) (.ref B) else none) else none) = _
  rw [if_pos q1, if_pos q2, h4]
theorem cx_no {P : Program} {w : World} {o : List PySem.Env} {H : Hp} {s s2 : Shared} {e : Value} (h : L2.CX P w o H s (fun _ _ _ => False) e s2) : False := by
  obtain ⟨_, _, _, _, _, _, _, _, _, _, _, _, z⟩ := h
  exact z
end Itp
set_option Elab.async false
set_option linter.all false
set_option maxRecDepth 100000
set_option maxHeartbeats 4000000
namespace Itp
open PySem L2
/-! ### what is wanted behind a run -/
def Wp {α : Type} (r : Rs α) (Q : α → Env → Prop) (X : Xc → Env → Prop) : Prop := match r with
  | .ok a e => Q a e
  | .ex x e => X x e
  | .no => False
def Wf (r : FRes) (Q : Res → List D → Prop) (X : Xc → List D → Prop) : Prop := match r with
  | .ok a l => Q a l
  | .ex x l => X x l
  | .no => False
def Wo {α : Type} (r : Option α) (Q : α → Prop) : Prop := match r with
  | some a => Q a
  | none => False
def kNo {α : Type} : Xc → α → Prop := fun _ _ => False
variable {C : Cfg} {e : Env}
abbrev QF := Fl → Env → Prop
abbrev QR := Res → Env → Prop
abbrev QX := Xc → Env → Prop
theorem wo_some {α : Type} {a : α} {Q : α → Prop} : Wo (some a) Q = Q a := rfl
theorem wp_ok {α : Type} {a : α} {Q : α → Env → Prop} {X : QX} : Wp (.ok a e) Q X = Q a e := rfl
theorem wp_ex {α : Type} {x : Xc} {Q : α → Env → Prop} {X : QX} : Wp (.ex x e) Q X = X x e := rfl
/-! statements -/
def kS (C : Cfg) (ss : List S) (Q : QF) (X : QX) : QF
  | .nx, e => Wp (exs C ss e) Q X
  | f, e => Q f e
theorem w_nil {Q : QF} {X : QX} : Wp (exs C [] e) Q X = Q .nx e := by simp only [exs]; rfl
theorem w_cons {s : S} {ss : List S} {Q : QF} {X : QX} : Wp (exs C (s :: ss) e) Q X = Wp (exS C s e) (kS C ss Q X) X := by
  simp only [exs]
  cases exS C s e with
  | ok f e1 => cases f <;> rfl
  | ex x e1 => rfl
  | no => rfl
theorem kS_nx {ss : List S} {Q : QF} {X : QX} : kS C ss Q X .nx e = Wp (exs C ss e) Q X := rfl
theorem kS_rt {ss : List S} {Q : QF} {X : QX} {r : Res} : kS C ss Q X (.rt r) e = Q (.rt r) e := rfl
theorem kS_bk {ss : List S} {Q : QF} {X : QX} : kS C ss Q X .bk e = Q .bk e := rfl
theorem kS_ct {ss : List S} {Q : QF} {X : QX} : kS C ss Q X .ct e = Q .ct e := rfl
def kOwn2 (i : Nat) (Q : QF) (r : Res) (e : Env) : Slot → Prop
  | .par _ => False
  | _ => Q .nx (e.set i r.slot)
def kOwn (i : Nat) (Q : QF) : QR := fun r e => kOwn2 i Q r e (slot e i)
theorem kOwn_u {i : Nat} {Q : QF} {r : Res} : kOwn i Q r e = kOwn2 i Q r e (slot e i) := rfl
theorem kOwn2_un {i : Nat} {Q : QF} {r : Res} : kOwn2 i Q r e .un = Q .nx (e.set i r.slot) := rfl
theorem kOwn2_val {i : Nat} {Q : QF} {r : Res} {d : D} : kOwn2 i Q r e (.val d) = Q .nx (e.set i r.slot) := rfl
theorem kOwn2_own {i : Nat} {Q : QF} {r : Res} {d : D} : kOwn2 i Q r e (.own d) = Q .nx (e.set i r.slot) := rfl
theorem w_own {i : Nat} {a : E} {Q : QF} {X : QX} : Wp (exS C (.own i a) e) Q X = Wp (ev C a e) (kOwn i Q) X := by
  simp only [exS]
  cases ev C a e with
  | ok r e1 =>
    show Wp (ownM i r e1) Q X = kOwn2 i Q r e1 (slot e1 i)
    unfold ownM
    cases slot e1 i <;> rfl
  | ex x e1 => rfl
  | no => rfl
def kAsg (t : Tg) (Q : QF) : QR := fun r e => Wo (bindT t r.d e) (Q .nx)
theorem kAsg_u {t : Tg} {Q : QF} {r : Res} : kAsg t Q r e = Wo (bindT t r.d e) (Q .nx) := rfl
theorem w_asg {t : Tg} {a : E} {Q : QF} {X : QX} : Wp (exS C (.asg t a) e) Q X = Wp (ev C a e) (kAsg t Q) X := by
  simp only [exS, fz]
  cases ev C a e with
  | ok r e1 =>
    show Wp (match bindT t r.d e1 with | some e2 => Rs.ok Fl.nx e2 | none => .no) Q X = Wo (bindT t r.d e1) (Q .nx)
    cases bindT t r.d e1 <;> rfl
  | ex x e1 => rfl
  | no => rfl
/-! targets -/
def kT (i : Nat) (d : D) (e : Env) (K : Env → Prop) : Slot → Prop
  | .par _ => False
  | _ => K (e.set i (.val d))
theorem w_nm {i : Nat} {d : D} {K : Env → Prop} : Wo (bindT (.nm i) d e) K = kT i d e K (slot e i) := by
  simp only [bindT]
  cases slot e i <;> rfl
theorem kT_un {i : Nat} {d : D} {K : Env → Prop} : kT i d e K .un = K (e.set i (.val d)) := rfl
theorem kT_val {i : Nat} {d x : D} {K : Env → Prop} : kT i d e K (.val x) = K (e.set i (.val d)) := rfl
theorem kT_own {i : Nat} {d x : D} {K : Env → Prop} : kT i d e K (.own x) = K (e.set i (.val d)) := rfl
def kTs (ts : List Tg) (xs : List D) (K : Env → Prop) : Env → Prop := fun e => Wo (bindTs ts xs e) K
theorem kTs_u {ts : List Tg} {xs : List D} {K : Env → Prop} : kTs ts xs K e = Wo (bindTs ts xs e) K := rfl
theorem w_tpt {ts : List Tg} {xs : List D} {K : Env → Prop} : Wo (bindT (.tp ts) (.tup xs) e) K = Wo (bindTs ts xs e) K := by simp only [bindT]
theorem w_tpl {ts : List Tg} {xs : List D} {K : Env → Prop} : Wo (bindT (.tp ts) (.lst xs) e) K = Wo (bindTs ts xs e) K := by simp only [bindT]
theorem w_tn {K : Env → Prop} : Wo (bindTs [] [] e) K = K e := by simp only [bindTs]; rfl
theorem w_tc {t : Tg} {ts : List Tg} {x : D} {xs : List D} {K : Env → Prop} : Wo (bindTs (t :: ts) (x :: xs) e) K = Wo (bindT t x e) (kTs ts xs K) := by
  simp only [bindTs]
  cases bindT t x e <;> rfl
/-! a[i] = v, append, extend -/
def kSt (i : Nat) (v : D) (xs : List D) (p : Bool) (Q : QF) (e : Env) : Nat → Prop := fun n => Q .nx (e.set i (if p then .par (.lst (xs.set n v)) else .own (.lst (xs.set n v))))
theorem kSt_o {i n : Nat} {v : D} {xs : List D} {Q : QF} : kSt i v xs false Q e n = Q .nx (e.set i (.own (.lst (xs.set n v)))) := rfl
theorem kSt_p {i n : Nat} {v : D} {xs : List D} {Q : QF} : kSt i v xs true Q e n = Q .nx (e.set i (.par (.lst (xs.set n v)))) := rfl
def kSet4 (i : Nat) (v : D) (Q : QF) (e : Env) : D → Slot → Prop
  | .int j, .own (.lst xs) => Wo (ixOf xs.length j) (kSt i v xs false Q e)
  | .int j, .par (.lst xs) => Wo (ixOf xs.length j) (kSt i v xs true Q e)
  | _, _ => False
def kSet3 (i : Nat) (v : D) (Q : QF) : QR := fun r e => kSet4 i v Q e r.d (slot e i)
theorem kSet3_u {i : Nat} {v : D} {Q : QF} {r : Res} : kSet3 i v Q r e = kSet4 i v Q e r.d (slot e i) := rfl
theorem kSet4_o {i : Nat} {v : D} {Q : QF} {j : Int} {xs : List D} : kSet4 i v Q e (.int j) (.own (.lst xs)) = Wo (ixOf xs.length j) (kSt i v xs false Q e) := rfl
theorem kSet4_p {i : Nat} {v : D} {Q : QF} {j : Int} {xs : List D} : kSet4 i v Q e (.int j) (.par (.lst xs)) = Wo (ixOf xs.length j) (kSt i v xs true Q e) := rfl
def kSet1 (C : Cfg) (i : Nat) (k : E) (Q : QF) (X : QX) : QR := fun r e => (slot e i).isMut = true ∧ Wp (ev C k e) (kSet3 i r.d Q) X
theorem kSet1_u {i : Nat} {k : E} {Q : QF} {X : QX} {r : Res} : kSet1 C i k Q X r e = ((slot e i).isMut = true ∧ Wp (ev C k e) (kSet3 i r.d Q) X) := rfl
theorem set_eq {i : Nat} {v k : D} {Q : QF} {X : QX} (hm : (slot e i).isMut = true) : Wp (setM i k v e) Q X = kSet4 i v Q e k (slot e i) := by
  unfold setM
  cases h : slot e i with
  | un => rw [h] at hm; cases hm
  | val d => rw [h] at hm; cases hm
  | own d => cases d <;> cases k <;> first | rfl | skip
             rename_i xs j
             show Wp (match ixOf xs.length j with | some n => Rs.ok Fl.nx (e.set i ((Slot.own (.lst xs)).put (.lst (xs.set n v)))) | none => .no) Q X = Wo (ixOf xs.length j) _
             cases ixOf xs.length j <;> rfl
  | par d => cases d <;> cases k <;> first | rfl | skip
             rename_i xs j
             show Wp (match ixOf xs.length j with | some n => Rs.ok Fl.nx (e.set i ((Slot.par (.lst xs)).put (.lst (xs.set n v)))) | none => .no) Q X = Wo (ixOf xs.length j) _
             cases ixOf xs.length j <;> rfl
theorem set_mut {i : Nat} {Q : QF} {v k : D} (h : ¬ (slot e i).isMut = true) : kSet4 i v Q e k (slot e i) = False := by
  cases w : slot e i with
  | un => cases k <;> rfl
  | val d => cases k <;> rfl
  | own d => rw [w] at h; exact absurd rfl h
  | par d => rw [w] at h; exact absurd rfl h
theorem w_seti {i : Nat} {k a : E} {Q : QF} {X : QX} : Wp (exS C (.seti i k a) e) Q X = Wp (ev C a e) (kSet1 C i k Q X) X := by
  simp only [exS, fz]
  cases ev C a e with
  | ok r e1 =>
    show Wp (if (slot e1 i).isMut = true then (((ev C k e1).bind fun r e1 => .ok r.d e1).bind fun x e2 => setM i x r.d e2) else .no) Q X = ((slot e1 i).isMut = true ∧ _)
    by_cases hm : (slot e1 i).isMut = true
    · rw [if_pos hm]
      simp only [hm, true_and]
      cases hk : ev C k e1 with
      | ok x e2 =>
        show Wp (setM i x.d r.d e2) Q X = kSet4 i r.d Q e2 x.d (slot e2 i)
        by_cases hm2 : (slot e2 i).isMut = true
        · exact set_eq hm2
        · rw [set_mut hm2]
          unfold setM
          have z : (slot e2 i).isMut = false := by simpa using hm2
          rw [z]
          rfl
      | ex x e2 => rfl
      | no => rfl
    · rw [if_neg hm]
      simp [hm, Wp]
  | ex x e1 => rfl
  | no => rfl
def kApp2 (i : Nat) (Q : QF) (d : D) (e : Env) : Slot → Prop
  | .own (.lst xs) => xs.length < big ∧ Q .nx (e.set i (.own (.lst (xs ++ [d]))))
  | .par (.lst xs) => xs.length < big ∧ Q .nx (e.set i (.par (.lst (xs ++ [d]))))
  | _ => False
def kApp (i : Nat) (Q : QF) : QR := fun r e => kApp2 i Q r.d e (slot e i)
theorem kApp_u {i : Nat} {Q : QF} {r : Res} : kApp i Q r e = kApp2 i Q r.d e (slot e i) := rfl
theorem kApp2_o {i : Nat} {Q : QF} {d : D} {xs : List D} : kApp2 i Q d e (.own (.lst xs)) = (xs.length < big ∧ Q .nx (e.set i (.own (.lst (xs ++ [d]))))) := rfl
theorem kApp2_p {i : Nat} {Q : QF} {d : D} {xs : List D} : kApp2 i Q d e (.par (.lst xs)) = (xs.length < big ∧ Q .nx (e.set i (.par (.lst (xs ++ [d]))))) := rfl
def oL : Slot → Bool
  | .own (.lst _) => true
  | .par (.lst _) => true
  | _ => false
theorem oL_u {i : Nat} : ownLst e i = oL (slot e i) := by
  unfold ownLst
  cases slot e i with
  | own d => cases d <;> rfl
  | par d => cases d <;> rfl
  | _ => rfl
theorem oL_o {xs : List D} : oL (.own (.lst xs)) = true := rfl
theorem oL_p {xs : List D} : oL (.par (.lst xs)) = true := rfl
theorem ite_no {p : Bool} {m : Rs Fl} {Q : QF} {X : QX} : Wp (if p = true then m else .no) Q X = (p = true ∧ Wp m Q X) := by
  cases p
  · simp [Wp]
  · simp
theorem w_app {i : Nat} {a : E} {Q : QF} {X : QX} : Wp (exS C (.app i a) e) Q X = (ownLst e i = true ∧ Wp (ev C a e) (kApp i Q) X) := by
  simp only [exS, fz]
  rw [ite_no]
  congr 1
  cases ev C a e with
  | ok r e1 =>
    show Wp (appM i r.d e1) Q X = kApp2 i Q r.d e1 (slot e1 i)
    unfold appM
    cases slot e1 i with
    | own d => cases d <;> first | rfl | (rename_i xs; show Wp (if xs.length < big then _ else _) Q X = _; by_cases h : xs.length < big <;> simp [h, kApp2, Wp, Slot.put])
    | par d => cases d <;> first | rfl | (rename_i xs; show Wp (if xs.length < big then _ else _) Q X = _; by_cases h : xs.length < big <;> simp [h, kApp2, Wp, Slot.put])
    | _ => rfl
  | ex x e1 => rfl
  | no => rfl
def kExt2 (i : Nat) (Q : QF) (e : Env) : D → Slot → Prop
  | .lst ys, .own (.lst xs) => xs.length + ys.length ≤ big ∧ Q .nx (e.set i (.own (.lst (xs ++ ys))))
  | .lst ys, .par (.lst xs) => xs.length + ys.length ≤ big ∧ Q .nx (e.set i (.par (.lst (xs ++ ys))))
  | _, _ => False
def kExt (i : Nat) (Q : QF) : QR := fun r e => kExt2 i Q e r.d (slot e i)
theorem kExt_u {i : Nat} {Q : QF} {r : Res} : kExt i Q r e = kExt2 i Q e r.d (slot e i) := rfl
theorem kExt2_o {i : Nat} {Q : QF} {xs ys : List D} : kExt2 i Q e (.lst ys) (.own (.lst xs)) = (xs.length + ys.length ≤ big ∧ Q .nx (e.set i (.own (.lst (xs ++ ys))))) := rfl
theorem kExt2_p {i : Nat} {Q : QF} {xs ys : List D} : kExt2 i Q e (.lst ys) (.par (.lst xs)) = (xs.length + ys.length ≤ big ∧ Q .nx (e.set i (.par (.lst (xs ++ ys))))) := rfl
theorem w_ext {i : Nat} {a : E} {Q : QF} {X : QX} : Wp (exS C (.ext i a) e) Q X = (ownLst e i = true ∧ Wp (ev C a e) (kExt i Q) X) := by
  simp only [exS, fz]
  rw [ite_no]
  congr 1
  cases ev C a e with
  | ok r e1 =>
    show Wp (extM i r.d e1) Q X = kExt2 i Q e1 r.d (slot e1 i)
    unfold extM
    cases slot e1 i with
    | own d => cases d <;> cases r.d <;> first | rfl | (rename_i xs ys; show Wp (if xs.length + ys.length ≤ big then _ else _) Q X = _; by_cases h : xs.length + ys.length ≤ big <;> simp [h, kExt2, Wp, Slot.put])
    | par d => cases d <;> cases r.d <;> first | rfl | (rename_i xs ys; show Wp (if xs.length + ys.length ≤ big then _ else _) Q X = _; by_cases h : xs.length + ys.length ≤ big <;> simp [h, kExt2, Wp, Slot.put])
    | _ => cases r.d <;> rfl
  | ex x e1 => rfl
  | no => rfl
/-! the rest of the statements -/
def kEx (Q : QF) : QR := fun _ e => Q .nx e
theorem kEx_u {Q : QF} {r : Res} : kEx Q r e = Q .nx e := rfl
theorem w_ex {a : E} {Q : QF} {X : QX} : Wp (exS C (.ex a) e) Q X = Wp (ev C a e) (kEx Q) X := by
  simp only [exS]
  cases ev C a e <;> rfl
def kRet (Q : QF) : QR := fun r e => Q (.rt r) e
theorem kRet_u {Q : QF} {r : Res} : kRet Q r e = Q (.rt r) e := rfl
theorem w_ret {a : E} {Q : QF} {X : QX} : Wp (exS C (.ret a) e) Q X = Wp (retM a (ev C a) e) (kRet Q) X := by
  simp only [exS]
  cases retM a (ev C a) e <;> rfl
def kRv (i : Nat) (Q : QR) (e : Env) : Slot → Prop
  | .own d => Q (.new d) (e.set i .un)
  | .val d => Q (.val d) e
  | _ => False
theorem w_rv {i : Nat} {m : M Res} {Q : QR} {X : QX} : Wp (retM (.var i) m e) Q X = kRv i Q e (slot e i) := by
  simp only [retM]
  cases slot e i <;> rfl
theorem kRv_own {i : Nat} {Q : QR} {d : D} : kRv i Q e (.own d) = Q (.new d) (e.set i .un) := rfl
theorem kRv_val {i : Nat} {Q : QR} {d : D} : kRv i Q e (.val d) = Q (.val d) e := rfl
theorem rt_cst {d : D} {m : M Res} : retM (.cst d) m = m := rfl
theorem rt_glb {x : Str} {d : D} {m : M Res} : retM (.glb x d) m = m := rfl
theorem rt_op {o : Op} {as : List E} {m : M Res} : retM (.op o as) m = m := rfl
theorem rt_and {a b : E} {m : M Res} : retM (.and a b) m = m := rfl
theorem rt_or {a b : E} {m : M Res} : retM (.or a b) m = m := rfl
theorem rt_not {a : E} {m : M Res} : retM (.not a) m = m := rfl
theorem rt_ite {c a b : E} {m : M Res} : retM (.ite c a b) m = m := rfl
theorem rt_chain {o p : Op} {a b c : E} {m : M Res} : retM (.chain o p a b c) m = m := rfl
theorem rt_chain3 {o p q : Op} {a b c d : E} {m : M Res} : retM (.chain3 o p q a b c d) m = m := rfl
theorem rt_call {f : Nat} {as : List E} {m : M Res} : retM (.call f as) m = m := rfl
theorem rt_callV {f : E} {as : List E} {m : M Res} : retM (.callV f as) m = m := rfl
theorem rt_comp {k : ItK} {as : List E} {tg : Tg} {own : List Nat} {cs : List E} {a : E} {m : M Res} : retM (.comp k as tg own cs a) m = m := rfl
theorem w_retn {Q : QF} {X : QX} : Wp (exS C .retn e) Q X = Q (.rt (.val .non)) e := by simp only [exS]; rfl
theorem w_pass {Q : QF} {X : QX} : Wp (exS C .pass e) Q X = Q .nx e := by simp only [exS]; rfl
def kIf2 (C : Cfg) (a b : List S) (Q : QF) (X : QX) (e : Env) : Bool → Prop
  | true => Wp (exs C a e) Q X
  | false => Wp (exs C b e) Q X
def kIf (C : Cfg) (a b : List S) (Q : QF) (X : QX) : QR
  | .val (.bl t), e => kIf2 C a b Q X e t
  | _, _ => False
theorem kIf_u {a b : List S} {Q : QF} {X : QX} {t : Bool} : kIf C a b Q X (.val (.bl t)) e = kIf2 C a b Q X e t := rfl
theorem kIf_t {a b : List S} {Q : QF} {X : QX} : kIf2 C a b Q X e true = Wp (exs C a e) Q X := rfl
theorem kIf_f {a b : List S} {Q : QF} {X : QX} : kIf2 C a b Q X e false = Wp (exs C b e) Q X := rfl
theorem asB_eq {a : E} {β : Type} {f : Bool → Env → Rs β} {Q : β → Env → Prop} {X : QX} {K : QR} (h1 : ∀ t e1, K (.val (.bl t)) e1 = Wp (f t e1) Q X) (h2 : ∀ r e1, (∀ t, r ≠ .val (.bl t)) → K r e1 = False) :
    Wp ((asB (ev C a) e).bind f) Q X = Wp (ev C a e) K X := by
  unfold asB
  cases ev C a e with
  | ok r e1 =>
    cases r with
    | new d => exact (h2 _ _ (by intro t z; cases z)).symm
    | val d => cases d <;> first | exact (h2 _ _ (by intro t z; cases z)).symm | exact (h1 _ _).symm
  | ex x e1 => rfl
  | no => rfl
theorem not_bl {r : Res} {P : Res → Prop} (h : ∀ t, r ≠ .val (.bl t)) (hn : ∀ d, P (.new d)) (hv : ∀ d, (∀ t, d ≠ .bl t) → P (.val d)) : P r := by
  cases r with
  | new d => exact hn d
  | val d => exact hv d fun t z => h t (by rw [z])
theorem w_ifs {c : E} {a b : List S} {Q : QF} {X : QX} : Wp (exS C (.ifs c a b) e) Q X = Wp (ev C c e) (kIf C a b Q X) X := by
  simp only [exS]
  refine asB_eq (fun t e1 => ?_) (fun r e1 h => ?_)
  · cases t <;> rfl
  · refine not_bl (P := fun r => kIf C a b Q X r e1 = False) h (fun d => rfl) fun d hd => ?_
    cases d <;> first | rfl | exact absurd rfl (hd _)
def kFor4 (C : Cfg) (tg : Tg) (body : List S) (Q : QF) (X : QX) (e : Env) : List D → Prop := fun xs => Wp (forL tg (exs C body) xs e) Q X
theorem kFor4_u {tg : Tg} {body : List S} {Q : QF} {X : QX} {xs : List D} : kFor4 C tg body Q X e xs = Wp (forL tg (exs C body) xs e) Q X := rfl
def kIt2 (k : ItK) (K : Env → List D → Prop) (e : Env) (b : Bool) : Option (List D) → Prop
  | some ds => b = true ∧ Wo (items k ds) (K e)
  | none => False
def kIt (k : ItK) (K : Env → List D → Prop) : List Opd → Env → Prop := fun os e => kIt2 k K e (muts e os).isEmpty (opds e os)
theorem kIt_u {k : ItK} {K : Env → List D → Prop} {os : List Opd} : kIt k K os e = kIt2 k K e (muts e os).isEmpty (opds e os) := rfl
theorem kIt2_s {k : ItK} {K : Env → List D → Prop} {b : Bool} {ds : List D} : kIt2 k K e b (some ds) = (b = true ∧ Wo (items k ds) (K e)) := rfl
theorem it_eq {k : ItK} {m : M (List Opd)} {β : Type} {f : List D → Env → Rs β} {Q : β → Env → Prop} {X : QX} {K : Env → List D → Prop} (h : ∀ e1 xs, K e1 xs = Wp (f xs e1) Q X) : Wp ((itM k m e).bind f) Q X = Wp (m e) (kIt k K) kNo := by
  unfold itM
  cases m e with
  | ok os e1 =>
    show Wp ((match opds e1 os with | some ds => if (muts e1 os).isEmpty then ofO (items k ds) e1 else .no | none => .no : Rs (List D)).bind f) Q X = kIt2 k K e1 (muts e1 os).isEmpty (opds e1 os)
    cases opds e1 os with
    | none => rfl
    | some ds =>
      show Wp ((if (muts e1 os).isEmpty then ofO (items k ds) e1 else .no : Rs (List D)).bind f) Q X = ((muts e1 os).isEmpty = true ∧ Wo (items k ds) (K e1))
      cases (muts e1 os).isEmpty with
      | false => simp [Wp, Rs.bind]
      | true =>
        simp only [if_true, true_and]
        cases items k ds with
        | none => rfl
        | some xs => exact (h e1 xs).symm
  | ex x e1 => rfl
  | no => rfl
theorem w_for {tg : Tg} {k : ItK} {as : List E} {body : List S} {Q : QF} {X : QX} : Wp (exS C (.for tg k as body) e) Q X = Wp (evs C as e) (kIt k (kFor4 C tg body Q X)) kNo := by
  simp only [exS]
  exact it_eq fun e1 xs => rfl
theorem w_whl {n : Nat} {c : E} {body : List S} {Q : QF} {X : QX} : Wp (exS C (.whl n c body) e) Q X = Wp (whlL (asB (ev C c)) (exs C body) n e) Q X := by simp only [exS]
def kRse3 (c : Nat) (X : QX) (e : Env) : List (Str × D) → Prop := fun l => X ⟨c, l⟩ e
theorem kRse3_u {c : Nat} {X : QX} {l : List (Str × D)} : kRse3 c X e l = X ⟨c, l⟩ e := rfl
def kRse2 (c : Nat) (X : QX) (e : Env) (b : Bool) : Option (List D) → Option (List Str) → Prop
  | some ds, some fs => b = true ∧ Wo (zipF fs ds) (kRse3 c X e)
  | _, _ => False
theorem kRse2_s {c : Nat} {X : QX} {b : Bool} {ds : List D} {fs : List Str} : kRse2 c X e b (some ds) (some fs) = (b = true ∧ Wo (zipF fs ds) (kRse3 c X e)) := rfl
def kRse (C : Cfg) (c : Nat) (X : QX) : List Opd → Env → Prop := fun os e => kRse2 c X e (muts e os).isEmpty (opds e os) (C.flds c)
theorem kRse_u {c : Nat} {X : QX} {os : List Opd} : kRse C c X os e = kRse2 c X e (muts e os).isEmpty (opds e os) (C.flds c) := rfl
theorem w_rse {c : Nat} {as : List E} {Q : QF} {X : QX} : Wp (exS C (.rse c as) e) Q X = Wp (evs C as e) (kRse C c X) kNo := by
  simp only [exS, rseM]
  cases evs C as e with
  | ok os e1 =>
    show Wp (if (muts e1 os).isEmpty then _ else _) Q X = kRse2 c X e1 (muts e1 os).isEmpty (opds e1 os) (C.flds c)
    cases hm : (muts e1 os).isEmpty with
    | false => cases opds e1 os <;> cases C.flds c <;> simp [kRse2, Wp]
    | true =>
      simp only [if_true]
      cases opds e1 os with
      | none => cases C.flds c <;> rfl
      | some ds =>
        cases C.flds c with
        | none => rfl
        | some fs =>
          show Wp (match zipF fs ds with | some l => Rs.ex ⟨c, l⟩ e1 | none => .no) Q X = (true = true ∧ Wo (zipF fs ds) (kRse3 c X e1))
          simp only [true_and]
          cases zipF fs ds <;> rfl
  | ex x e1 => rfl
  | no => rfl
def zM (f : Str) (d : D) : Option (List (Str × D)) → Option (List (Str × D))
  | some l => some ((f, d) :: l)
  | none => none
theorem zf_nil : zipF [] [] = some [] := rfl
theorem zf_cons {f : Str} {fs : List Str} {d : D} {ds : List D} : zipF (f :: fs) (d :: ds) = zM f d (zipF fs ds) := by
  show (zipF fs ds).map _ = _
  cases zipF fs ds <;> rfl
theorem zM_s {f : Str} {d : D} {l : List (Str × D)} : zM f d (some l) = some ((f, d) :: l) := rfl
/-! try -/
def kTry (C : Cfg) (cls : List (Nat × Option Nat × Su)) (Q : QF) (X : QX) : QX := fun x e => Wp (catM C x cls e) Q X
theorem kTry_u {cls : List (Nat × Option Nat × Su)} {Q : QF} {X : QX} {x : Xc} : kTry C cls Q X x e = Wp (catM C x cls e) Q X := rfl
theorem w_try {body : List S} {cls : List (Nat × Option Nat × Su)} {Q : QF} {X : QX} : Wp (exS C (.try body cls) e) Q X = Wp (exs C body e) Q (kTry C cls Q X) := by
  simp only [exS, tryM]
  cases exs C body e <;> rfl
theorem w_cat0 {x : Xc} {Q : QF} {X : QX} : Wp (catM C x [] e) Q X = X x e := rfl
def kUn (j : Nat) (Q : QF) : QF
  | .nx, e => Q .nx (e.set j .un)
  | _, _ => False
theorem kUn_nx {j : Nat} {Q : QF} : kUn j Q .nx e = Q .nx (e.set j .un) := rfl
def kSu (C : Cfg) (x : Xc) (su : Su) (Q : QF) (X : QX) (e : Env) (j : Nat) : Slot → Prop
  | .par _ => False
  | _ => j < e.length ∧ Wp (suM C x su (e.set j .un)) (kUn j Q) kNo
def kSuN (C : Cfg) (x : Xc) (su : Su) (Q : QF) (X : QX) (e : Env) : Option Nat → Prop
  | none => Wp (suM C x su e) Q X
  | some j => kSu C x su Q X e j (slot e j)
def kCat (C : Cfg) (x : Xc) (nm : Option Nat) (su : Su) (r : List (Nat × Option Nat × Su)) (Q : QF) (X : QX) (e : Env) : Option Bool → Prop
  | none => False
  | some false => Wp (catM C x r e) Q X
  | some true => kSuN C x su Q X e nm
theorem kCat_f {x : Xc} {nm : Option Nat} {su : Su} {r : List (Nat × Option Nat × Su)} {Q : QF} {X : QX} : kCat C x nm su r Q X e (some false) = Wp (catM C x r e) Q X := rfl
theorem kCat_t {x : Xc} {nm : Option Nat} {su : Su} {r : List (Nat × Option Nat × Su)} {Q : QF} {X : QX} : kCat C x nm su r Q X e (some true) = kSuN C x su Q X e nm := rfl
theorem kSuN_n {x : Xc} {su : Su} {Q : QF} {X : QX} : kSuN C x su Q X e none = Wp (suM C x su e) Q X := rfl
theorem kSuN_s {x : Xc} {su : Su} {Q : QF} {X : QX} {j : Nat} : kSuN C x su Q X e (some j) = kSu C x su Q X e j (slot e j) := rfl
theorem kSu_un {x : Xc} {su : Su} {Q : QF} {X : QX} {j : Nat} : kSu C x su Q X e j .un = (j < e.length ∧ Wp (suM C x su (e.set j .un)) (kUn j Q) kNo) := rfl
theorem kSu_val {x : Xc} {su : Su} {Q : QF} {X : QX} {j : Nat} {d : D} : kSu C x su Q X e j (.val d) = (j < e.length ∧ Wp (suM C x su (e.set j .un)) (kUn j Q) kNo) := rfl
theorem su_noex {x : Xc} {su : Su} {y : Xc} {e' : Env} : suM C x su e ≠ .ex y e' := by
  cases su with
  | cst i d =>
    simp only [suM]
    cases slot e i <;> intro z <;> cases z
  | lst i vs =>
    simp only [suM]
    cases slot e i <;> cases svs C x vs <;> intro z <;> first | (cases z; done) | (simp only at z; split at z <;> cases z)
theorem w_cat {x : Xc} {c : Nat} {nm : Option Nat} {su : Su} {r : List (Nat × Option Nat × Su)} {Q : QF} {X : QX} : Wp (catM C x ((c, nm, su) :: r) e) Q X = kCat C x nm su r Q X e (C.sub x.cls c) := by
  simp only [catM]
  cases C.sub x.cls c with
  | none => rfl
  | some t =>
    cases t with
    | false => rfl
    | true =>
      cases nm with
      | none => rfl
      | some j =>
        have key : Wp (if j < e.length then (suM C x su (e.set j .un)).bind fun f e2 => (match f with
              | .nx => .ok .nx (e2.set j .un)
              | _ => .no) else .no) Q X = (j < e.length ∧ Wp (suM C x su (e.set j .un)) (kUn j Q) kNo) := by
          by_cases h : j < e.length
          · rw [if_pos h]
            simp only [h, true_and]
            cases hs : suM C x su (e.set j .un) with
            | ok f e2 => cases f <;> rfl
            | ex y e2 => exact absurd hs su_noex
            | no => rfl
          · rw [if_neg h]
            simp only [h, false_and]
            rfl
        show Wp (match slot e j with | .par _ => .no | _ => _) Q X = kSu C x su Q X e j (slot e j)
        cases slot e j with
        | par d => rfl
        | _ => exact key
theorem w_suc {x : Xc} {i : Nat} {d : D} {Q : QF} {X : QX} : Wp (suM C x (.cst i d) e) Q X = kOwn2 i Q (.val d) e (slot e i) := by
  simp only [suM]
  cases slot e i <;> rfl
def kSl2 (i : Nat) (Q : QF) (e : Env) (ds : List D) : Slot → Prop
  | .par _ => False
  | _ => ds.length ≤ big ∧ Q .nx (e.set i (.own (.lst ds)))
def kSl (i : Nat) (Q : QF) (e : Env) : List D → Prop := fun ds => kSl2 i Q e ds (slot e i)
theorem kSl_u {i : Nat} {Q : QF} {ds : List D} : kSl i Q e ds = kSl2 i Q e ds (slot e i) := rfl
theorem kSl2_un {i : Nat} {Q : QF} {ds : List D} : kSl2 i Q e ds .un = (ds.length ≤ big ∧ Q .nx (e.set i (.own (.lst ds)))) := rfl
theorem kSl2_val {i : Nat} {Q : QF} {ds : List D} {d : D} : kSl2 i Q e ds (.val d) = (ds.length ≤ big ∧ Q .nx (e.set i (.own (.lst ds)))) := rfl
theorem kSl2_own {i : Nat} {Q : QF} {ds : List D} {d : D} : kSl2 i Q e ds (.own d) = (ds.length ≤ big ∧ Q .nx (e.set i (.own (.lst ds)))) := rfl
theorem ite_le {p : Prop} [Decidable p] {m : Rs Fl} {Q : QF} {X : QX} : Wp (if p then m else .no) Q X = (p ∧ Wp m Q X) := by
  by_cases h : p
  · simp [h]
  · simp [h, Wp]
theorem w_sul {x : Xc} {i : Nat} {vs : List Sv} {Q : QF} {X : QX} : Wp (suM C x (.lst i vs) e) Q X = Wo (svs C x vs) (kSl i Q e) := by
  simp only [suM]
  cases svs C x vs with
  | none => cases slot e i <;> rfl
  | some ds =>
    show _ = kSl2 i Q e ds (slot e i)
    cases slot e i <;> first | rfl | exact ite_le
end Itp
set_option Elab.async false
set_option linter.all false
set_option maxRecDepth 100000
set_option maxHeartbeats 4000000
namespace Itp
open PySem L2
variable {C : Cfg} {e : Env}
/-! ### expressions -/
def kVar (i : Nat) (Q : QR) (e : Env) : Slot → Prop
  | .val d => Q (.val d) e
  | .own d => Q (.val d) (e.set i (.val d))
  | _ => False
theorem w_var {i : Nat} {Q : QR} {X : QX} : Wp (ev C (.var i) e) Q X = kVar i Q e (slot e i) := by
  simp only [ev, rdVar]
  cases slot e i <;> rfl
theorem kVar_val {i : Nat} {Q : QR} {d : D} : kVar i Q e (.val d) = Q (.val d) e := rfl
theorem kVar_own {i : Nat} {Q : QR} {d : D} : kVar i Q e (.own d) = Q (.val d) (e.set i (.val d)) := rfl
theorem w_cst {d : D} {Q : QR} {X : QX} : Wp (ev C (.cst d) e) Q X = Q (.val d) e := by simp only [ev]; rfl
theorem w_glb {x : Str} {d : D} {Q : QR} {X : QX} : Wp (ev C (.glb x d) e) Q X = Q (.val d) e := by simp only [ev]; rfl
theorem w_fnv {x : Str} {g : Nat} {Q : QR} {X : QX} : Wp (ev C (.fnv x g) e) Q X = Q (.val (.fn g)) e := by simp only [ev]; rfl
def kE (Q : QR) (e : Env) : Res → Prop := fun r => Q r e
theorem kE_u {Q : QR} {r : Res} : kE Q e r = Q r e := rfl
def kOpX (b : Bool) (X : QX) : QX := fun x e => b = false ∧ X x e
theorem kOpX_u {b : Bool} {X : QX} {x : Xc} : kOpX b X x e = (b = false ∧ X x e) := rfl
def kOp3 (Q : QR) (e : Env) (r : Option Res) : Bool → Bool → Prop
  | false, false => Wo r (kE Q e)
  | _, _ => False
theorem kOp3_ff {Q : QR} {r : Option Res} : kOp3 Q e r false false = Wo r (kE Q e) := rfl
def kOp2 (o : Op) (Q : QR) (e : Env) (ms : List Nat) (os : List Opd) : Option (List D) → Prop
  | some ds => kOp3 Q e (prim o ds) (disp o && !ms.isEmpty) (midOp o && os.any isPk)
  | none => False
theorem kOp2_s {o : Op} {Q : QR} {ms : List Nat} {os : List Opd} {ds : List D} : kOp2 o Q e ms os (some ds) = kOp3 Q e (prim o ds) (disp o && !ms.isEmpty) (midOp o && os.any isPk) := rfl
def kOp (o : Op) (Q : QR) : List Opd → Env → Prop := fun os e => kOp2 o Q e (muts e os) os (opds e os)
theorem kOp_u {o : Op} {Q : QR} {os : List Opd} : kOp o Q os e = kOp2 o Q e (muts e os) os (opds e os) := rfl
theorem w_op {o : Op} {as : List E} {Q : QR} {X : QX} : Wp (ev C (.op o as) e) Q X = Wp (evs C as e) (kOp o Q) (kOpX (midOp o) X) := by
  simp only [ev, opM]
  cases evs C as e with
  | no => rfl
  | ex x e1 =>
    show Wp (if midOp o = true then .no else .ex x e1) Q X = (midOp o = false ∧ X x e1)
    cases midOp o
    · simp [Wp]
    · simp [Wp]
  | ok os e1 =>
    show Wp (match opds e1 os with | some ds => if (disp o && !(muts e1 os).isEmpty) = true then .no else if (midOp o && os.any isPk) = true then .no else ofO (prim o ds) e1 | none => .no) Q X = kOp2 o Q e1 (muts e1 os) os (opds e1 os)
    cases opds e1 os with
    | none => rfl
    | some ds =>
      show Wp (if (disp o && !(muts e1 os).isEmpty) = true then .no else if (midOp o && os.any isPk) = true then .no else ofO (prim o ds) e1) Q X = kOp3 Q e1 (prim o ds) (disp o && !(muts e1 os).isEmpty) (midOp o && os.any isPk)
      cases (disp o && !(muts e1 os).isEmpty) <;> cases (midOp o && os.any isPk) <;> first | rfl | skip
      show Wp (ofO (prim o ds) e1) Q X = Wo (prim o ds) (kE Q e1)
      cases prim o ds <;> rfl
def kBl (Q : QR) : QR
  | .val (.bl t), e => Q (.val (.bl t)) e
  | _, _ => False
theorem kBl_u {Q : QR} {t : Bool} : kBl Q (.val (.bl t)) e = Q (.val (.bl t)) e := rfl
theorem bl_eq {a : E} {Q : QR} {X : QX} : Wp ((asB (ev C a) e).bind fun b2 e2 => .ok (.val (.bl b2)) e2) Q X = Wp (ev C a e) (kBl Q) X :=
  asB_eq (fun t e1 => rfl) fun r e1 h => not_bl (P := fun r => kBl Q r e1 = False) h (fun d => rfl) fun d hd => by cases d <;> first | rfl | exact absurd rfl (hd _)
def kAnd2 (C : Cfg) (b : E) (Q : QR) (X : QX) (e : Env) : Bool → Prop
  | true => Wp (ev C b e) (kBl Q) X
  | false => Q (.val (.bl false)) e
def kAnd (C : Cfg) (b : E) (Q : QR) (X : QX) : QR
  | .val (.bl t), e => kAnd2 C b Q X e t
  | _, _ => False
theorem kAnd_u {b : E} {Q : QR} {X : QX} {t : Bool} : kAnd C b Q X (.val (.bl t)) e = kAnd2 C b Q X e t := rfl
theorem kAnd_t {b : E} {Q : QR} {X : QX} : kAnd2 C b Q X e true = Wp (ev C b e) (kBl Q) X := rfl
theorem kAnd_f {b : E} {Q : QR} {X : QX} : kAnd2 C b Q X e false = Q (.val (.bl false)) e := rfl
theorem w_and {a b : E} {Q : QR} {X : QX} : Wp (ev C (.and a b) e) Q X = Wp (ev C a e) (kAnd C b Q X) X := by
  simp only [ev]
  refine asB_eq (fun t e1 => ?_) fun r e1 h => not_bl (P := fun r => kAnd C b Q X r e1 = False) h (fun d => rfl) fun d hd => by cases d <;> first | rfl | exact absurd rfl (hd _)
  cases t with
  | false => rfl
  | true => exact bl_eq.symm
def kOr2 (C : Cfg) (b : E) (Q : QR) (X : QX) (e : Env) : Bool → Prop
  | false => Wp (ev C b e) (kBl Q) X
  | true => Q (.val (.bl true)) e
def kOr (C : Cfg) (b : E) (Q : QR) (X : QX) : QR
  | .val (.bl t), e => kOr2 C b Q X e t
  | _, _ => False
theorem kOr_u {b : E} {Q : QR} {X : QX} {t : Bool} : kOr C b Q X (.val (.bl t)) e = kOr2 C b Q X e t := rfl
theorem kOr_f {b : E} {Q : QR} {X : QX} : kOr2 C b Q X e false = Wp (ev C b e) (kBl Q) X := rfl
theorem kOr_t {b : E} {Q : QR} {X : QX} : kOr2 C b Q X e true = Q (.val (.bl true)) e := rfl
theorem w_or {a b : E} {Q : QR} {X : QX} : Wp (ev C (.or a b) e) Q X = Wp (ev C a e) (kOr C b Q X) X := by
  simp only [ev]
  refine asB_eq (fun t e1 => ?_) fun r e1 h => not_bl (P := fun r => kOr C b Q X r e1 = False) h (fun d => rfl) fun d hd => by cases d <;> first | rfl | exact absurd rfl (hd _)
  cases t with
  | true => rfl
  | false => exact bl_eq.symm
def kNot (Q : QR) : QR
  | .val (.bl t), e => Q (.val (.bl (!t))) e
  | _, _ => False
theorem kNot_u {Q : QR} {t : Bool} : kNot Q (.val (.bl t)) e = Q (.val (.bl (!t))) e := rfl
theorem w_not {a : E} {Q : QR} {X : QX} : Wp (ev C (.not a) e) Q X = Wp (ev C a e) (kNot Q) X := by
  simp only [ev]
  exact asB_eq (fun t e1 => rfl) fun r e1 h => not_bl (P := fun r => kNot Q r e1 = False) h (fun d => rfl) fun d hd => by cases d <;> first | rfl | exact absurd rfl (hd _)
def kIte2 (C : Cfg) (a b : E) (Q : QR) (X : QX) (e : Env) : Bool → Prop
  | true => Wp (ev C a e) Q X
  | false => Wp (ev C b e) Q X
def kIte (C : Cfg) (a b : E) (Q : QR) (X : QX) : QR
  | .val (.bl t), e => kIte2 C a b Q X e t
  | _, _ => False
theorem kIte_u {a b : E} {Q : QR} {X : QX} {t : Bool} : kIte C a b Q X (.val (.bl t)) e = kIte2 C a b Q X e t := rfl
theorem kIte_t {a b : E} {Q : QR} {X : QX} : kIte2 C a b Q X e true = Wp (ev C a e) Q X := rfl
theorem kIte_f {a b : E} {Q : QR} {X : QX} : kIte2 C a b Q X e false = Wp (ev C b e) Q X := rfl
theorem w_ite {c a b : E} {Q : QR} {X : QX} : Wp (ev C (.ite c a b) e) Q X = Wp (ev C c e) (kIte C a b Q X) X := by
  simp only [ev]
  refine asB_eq (fun t e1 => ?_) fun r e1 h => not_bl (P := fun r => kIte C a b Q X r e1 = False) h (fun d => rfl) fun d hd => by cases d <;> first | rfl | exact absurd rfl (hd _)
  cases t <;> rfl
/-! chains -/
def kCh5 (p : Op) (y : D) (Q : QR) : QR := fun r e => Wo (prim p [y, r.d]) (kE Q e)
theorem kCh5_u {p : Op} {y : D} {Q : QR} {r : Res} : kCh5 p y Q r e = Wo (prim p [y, r.d]) (kE Q e) := rfl
def kCh4 (P : Prop) (Q : QR) (e : Env) : Bool → Prop
  | true => P
  | false => Q (.val (.bl false)) e
theorem kCh4_t {P : Prop} {Q : QR} : kCh4 P Q e true = P := rfl
theorem kCh4_f {P : Prop} {Q : QR} : kCh4 P Q e false = Q (.val (.bl false)) e := rfl
/-- the next link, put off -/
def kLk (C : Cfg) (c : E) (K : QR) (X : QX) (e : Env) : Prop := Wp (ev C c e) K X
def kLk4 (C : Cfg) (c : E) (K : QR) (X : QX) (Q : QR) (e : Env) : Bool → Prop
  | true => Wp (ev C c e) K X
  | false => Q (.val (.bl false)) e
theorem kLk4_t {c : E} {K Q : QR} {X : QX} : kLk4 C c K X Q e true = Wp (ev C c e) K X := rfl
theorem kLk4_f {c : E} {K Q : QR} {X : QX} : kLk4 C c K X Q e false = Q (.val (.bl false)) e := rfl
def kLk3 (C : Cfg) (c : E) (K : QR) (X : QX) (Q : QR) (e : Env) : Res → Prop
  | .val (.bl t) => kLk4 C c K X Q e t
  | _ => False
theorem kLk3_u {c : E} {K Q : QR} {X : QX} {t : Bool} : kLk3 C c K X Q e (.val (.bl t)) = kLk4 C c K X Q e t := rfl
def kCh2 (C : Cfg) (o p : Op) (x : D) (c : E) (Q : QR) (X : QX) : QR := fun r e => Wo (prim o [x, r.d]) (kLk3 C c (kCh5 p r.d Q) X Q e)
theorem kCh2_u {o p : Op} {x : D} {c : E} {Q : QR} {X : QX} {r : Res} : kCh2 C o p x c Q X r e = Wo (prim o [x, r.d]) (kLk3 C c (kCh5 p r.d Q) X Q e) := rfl
def kCh1 (C : Cfg) (o p : Op) (b c : E) (Q : QR) (X : QX) : QR := fun r e => Wp (ev C b e) (kCh2 C o p r.d c Q X) X
theorem kCh1_u {o p : Op} {b c : E} {Q : QR} {X : QX} {r : Res} : kCh1 C o p b c Q X r e = Wp (ev C b e) (kCh2 C o p r.d c Q X) X := rfl
theorem fz_eq {m : M Res} {β : Type} {f : D → Env → Rs β} {Q : β → Env → Prop} {X : QX} {K : QR} (h : ∀ r e1, K r e1 = Wp (f r.d e1) Q X) : Wp ((fz m e).bind f) Q X = Wp (m e) K X := by
  unfold fz
  cases m e with
  | ok r e1 => exact (h r e1).symm
  | ex x e1 => rfl
  | no => rfl
theorem lk_eq {o : Option Res} {c : E} {K Q : QR} {X : QX} {f : D → Env → Rs Res} (h : ∀ r e1, K r e1 = Wp (f r.d e1) Q X) : Wp (match o with
    | some (.val (.bl true)) => (fz (ev C c) e).bind f
    | some (.val (.bl false)) => .ok (.val (.bl false)) e
    | _ => .no) Q X = Wo o (kLk3 C c K X Q e) := by
  cases o with
  | none => rfl
  | some r =>
    cases r with
    | new d => rfl
    | val d =>
      cases d <;> first | rfl | skip
      rename_i t
      cases t
      · rfl
      · exact fz_eq h
theorem of_eq {o : Option Res} {Q : QR} {X : QX} : Wp (ofO o e) Q X = Wo o (kE Q e) := by cases o <;> rfl
theorem w_chain {o p : Op} {a b c : E} {Q : QR} {X : QX} : Wp (ev C (.chain o p a b c) e) Q X = Wp (ev C a e) (kCh1 C o p b c Q X) X := by
  simp only [ev]
  refine fz_eq fun r e1 => ?_
  show Wp (ev C b e1) (kCh2 C o p r.d c Q X) X = _
  refine (fz_eq fun r2 e2 => ?_).symm
  exact (lk_eq fun r3 e3 => of_eq.symm).symm
def kC5 (C : Cfg) (p q : Op) (y : D) (d : E) (Q : QR) (X : QX) : QR := fun r e => Wo (prim p [y, r.d]) (kLk3 C d (kCh5 q r.d Q) X Q e)
theorem kC5_u {p q : Op} {y : D} {d : E} {Q : QR} {X : QX} {r : Res} : kC5 C p q y d Q X r e = Wo (prim p [y, r.d]) (kLk3 C d (kCh5 q r.d Q) X Q e) := rfl
def kC2 (C : Cfg) (o p q : Op) (x : D) (c d : E) (Q : QR) (X : QX) : QR := fun r e => Wo (prim o [x, r.d]) (kLk3 C c (kC5 C p q r.d d Q X) X Q e)
theorem kC2_u {o p q : Op} {x : D} {c d : E} {Q : QR} {X : QX} {r : Res} : kC2 C o p q x c d Q X r e = Wo (prim o [x, r.d]) (kLk3 C c (kC5 C p q r.d d Q X) X Q e) := rfl
def kC1 (C : Cfg) (o p q : Op) (b c d : E) (Q : QR) (X : QX) : QR := fun r e => Wp (ev C b e) (kC2 C o p q r.d c d Q X) X
theorem kC1_u {o p q : Op} {b c d : E} {Q : QR} {X : QX} {r : Res} : kC1 C o p q b c d Q X r e = Wp (ev C b e) (kC2 C o p q r.d c d Q X) X := rfl
theorem w_chain3 {o p q : Op} {a b c d : E} {Q : QR} {X : QX} : Wp (ev C (.chain3 o p q a b c d) e) Q X = Wp (ev C a e) (kC1 C o p q b c d Q X) X := by
  simp only [ev]
  refine fz_eq fun r e1 => ?_
  show Wp (ev C b e1) (kC2 C o p q r.d c d Q X) X = _
  refine (fz_eq fun r2 e2 => ?_).symm
  refine (lk_eq fun r3 e3 => ?_).symm
  exact (lk_eq fun r4 e4 => of_eq.symm).symm
/-! calls -/
def kB2 (Q : QR) (r : Res) : Env → Prop := fun e => Q r e
theorem kB2_u {Q : QR} {r : Res} : kB2 Q r e = Q r e := rfl
def kBack (Q : QR) (e : Env) (is : List Nat) : Res → List D → Prop := fun r fin => Wo (putBack e is fin) (kB2 Q r)
theorem kBack_u {Q : QR} {is : List Nat} {r : Res} {fin : List D} : kBack Q e is r fin = Wo (putBack e is fin) (kB2 Q r) := rfl
def kBackX (X : QX) (e : Env) (is : List Nat) : Xc → List D → Prop := fun x fin => Wo (putBack e is fin) (X x)
theorem kBackX_u {X : QX} {is : List Nat} {x : Xc} {fin : List D} : kBackX X e is x fin = Wo (putBack e is fin) (X x) := rfl
def kCall2 (F : Fn) (Q : QR) (X : QX) (e : Env) (is : List Nat) : Option (List Arg) → Prop
  | some as => nodup is = true ∧ Wf (F as) (kBack Q e is) (kBackX X e is)
  | none => False
theorem kCall2_s {F : Fn} {Q : QR} {X : QX} {is : List Nat} {as : List Arg} : kCall2 F Q X e is (some as) = (nodup is = true ∧ Wf (F as) (kBack Q e is) (kBackX X e is)) := rfl
def kCall (F : Fn) (Q : QR) (X : QX) : List Opd → Env → Prop := fun os e => kCall2 F Q X e (muts e os) (toArgs e os)
theorem kCall_u {F : Fn} {Q : QR} {X : QX} {os : List Opd} : kCall F Q X os e = kCall2 F Q X e (muts e os) (toArgs e os) := rfl
theorem call_eq {F : Fn} {m : M (List Opd)} {Q : QR} {X : QX} : Wp (callM F m e) Q X = Wp (m e) (kCall F Q X) X := by
  unfold callM
  cases m e with
  | ok os e1 =>
    show Wp (match toArgs e1 os with | none => .no | some as => _) Q X = kCall2 F Q X e1 (muts e1 os) (toArgs e1 os)
    cases toArgs e1 os with
    | none => rfl
    | some as =>
      show Wp (if nodup (muts e1 os) = true then _ else _) Q X = (nodup (muts e1 os) = true ∧ _)
      cases nodup (muts e1 os) with
      | false => simp [Wp]
      | true =>
        simp only [if_true, true_and]
        cases F as with
        | no => rfl
        | ok r fin =>
          show Wp (match putBack e1 (muts e1 os) fin with | some e2 => Rs.ok r e2 | none => .no) Q X = Wo (putBack e1 (muts e1 os) fin) (kB2 Q r)
          cases putBack e1 (muts e1 os) fin <;> rfl
        | ex x fin =>
          show Wp (match putBack e1 (muts e1 os) fin with | some e2 => Rs.ex x e2 | none => .no) Q X = Wo (putBack e1 (muts e1 os) fin) (X x)
          cases putBack e1 (muts e1 os) fin <;> rfl
  | ex x e1 => rfl
  | no => rfl
theorem w_call {f : Nat} {as : List E} {Q : QR} {X : QX} : Wp (ev C (.call f as) e) Q X = Wp (evs C as e) (kCall (C.fns f) Q X) X := by
  simp only [ev]
  exact call_eq
def kCv2 (C : Cfg) (as : List E) (Q : QR) (X : QX) (e : Env) : Option Fn → Prop
  | some F => Wp (evs C as e) (kCall F Q X) X
  | none => False
theorem kCv2_s {as : List E} {Q : QR} {X : QX} {F : Fn} : kCv2 C as Q X e (some F) = Wp (evs C as e) (kCall F Q X) X := rfl
def kCv (C : Cfg) (as : List E) (Q : QR) (X : QX) : QR
  | .val (.fn g), e => kCv2 C as Q X e (C.fv g)
  | _, _ => False
theorem kCv_u {as : List E} {Q : QR} {X : QX} {g : Nat} : kCv C as Q X (.val (.fn g)) e = kCv2 C as Q X e (C.fv g) := rfl
theorem w_callV {f : E} {as : List E} {Q : QR} {X : QX} : Wp (ev C (.callV f as) e) Q X = Wp (ev C f e) (kCv C as Q X) X := by
  simp only [ev]
  cases ev C f e with
  | ok r e1 =>
    cases r with
    | new d => rfl
    | val d =>
      cases d <;> first | rfl | skip
      rename_i g
      show Wp (match C.fv g with | some F => callM F (evs C as) e1 | none => .no) Q X = kCv2 C as Q X e1 (C.fv g)
      cases C.fv g with
      | none => rfl
      | some F => exact call_eq
  | ex x e1 => rfl
  | no => rfl
/-! comprehensions -/
def kCm4 (Q : QR) (e0 : Env) (own : List Nat) : List D → Env → Prop := fun ds e2 => Q (.new (.lst ds)) (backE e2 e0 own)
theorem kCm4_u {Q : QR} {e0 : Env} {own : List Nat} {ds : List D} : kCm4 Q e0 own ds e = Q (.new (.lst ds)) (backE e e0 own) := rfl
def kCm (C : Cfg) (tg : Tg) (own : List Nat) (cs : List E) (elt : E) (Q : QR) : Env → List D → Prop := fun e xs => Wp (compL tg own (evAll C cs) (fz (ev C elt)) xs [] (hideE e own)) (kCm4 Q e own) kNo
theorem kCm_u {tg : Tg} {own : List Nat} {cs : List E} {elt : E} {Q : QR} {xs : List D} : kCm C tg own cs elt Q e xs = Wp (compL tg own (evAll C cs) (fz (ev C elt)) xs [] (hideE e own)) (kCm4 Q e own) kNo := rfl
theorem w_comp {k : ItK} {as : List E} {tg : Tg} {own : List Nat} {cs : List E} {elt : E} {Q : QR} {X : QX} : Wp (ev C (.comp k as tg own cs elt) e) Q X = Wp (evs C as e) (kIt k (kCm C tg own cs elt Q)) kNo := by
  simp only [ev, compM]
  refine it_eq fun e1 xs => ?_
  show Wp (compL tg own (evAll C cs) (fz (ev C elt)) xs [] (hideE e1 own)) (kCm4 Q e1 own) kNo = _
  cases compL tg own (evAll C cs) (fz (ev C elt)) xs [] (hideE e1 own) <;> rfl
/-! operands -/
theorem w_en {Q : List Opd → Env → Prop} {X : QX} : Wp (evs C [] e) Q X = Q [] e := by simp only [evs]; rfl
def kCo (o : Opd) (Q : List Opd → Env → Prop) : List Opd → Env → Prop := fun os e => Q (o :: os) e
theorem kCo_u {o : Opd} {os : List Opd} {Q : List Opd → Env → Prop} : kCo o Q os e = Q (o :: os) e := rfl
def kEv (C : Cfg) (as : List E) (Q : List Opd → Env → Prop) (X : QX) : Opd → Env → Prop := fun o e => Wp (evs C as e) (kCo o Q) X
theorem kEv_u {as : List E} {Q : List Opd → Env → Prop} {X : QX} {o : Opd} : kEv C as Q X o e = Wp (evs C as e) (kCo o Q) X := rfl
theorem w_ec {a : E} {as : List E} {Q : List Opd → Env → Prop} {X : QX} : Wp (evs C (a :: as) e) Q X = Wp (opdM a (ev C a) e) (kEv C as Q X) X := by
  simp only [evs]
  cases opdM a (ev C a) e with
  | ok o e1 =>
    show Wp ((evs C as e1).bind fun os e2 => .ok (o :: os) e2) Q X = Wp (evs C as e1) (kCo o Q) X
    cases evs C as e1 <;> rfl
  | ex x e1 => rfl
  | no => rfl
def kPk (i : Nat) (Q : Opd → Env → Prop) (e : Env) : Slot → Prop
  | .un => False
  | _ => Q (.pk i) e
theorem w_pk {i : Nat} {m : M Res} {Q : Opd → Env → Prop} {X : QX} : Wp (opdM (.pk i) m e) Q X = kPk i Q e (slot e i) := by
  simp only [opdM]
  cases slot e i <;> rfl
theorem kPk_val {i : Nat} {Q : Opd → Env → Prop} {d : D} : kPk i Q e (.val d) = Q (.pk i) e := rfl
theorem kPk_own {i : Nat} {Q : Opd → Env → Prop} {d : D} : kPk i Q e (.own d) = Q (.pk i) e := rfl
theorem kPk_par {i : Nat} {Q : Opd → Env → Prop} {d : D} : kPk i Q e (.par d) = Q (.pk i) e := rfl
def kD (Q : Opd → Env → Prop) : QR := fun r e => Q (.d r.d) e
theorem kD_u {Q : Opd → Env → Prop} {r : Res} : kD Q r e = Q (.d r.d) e := rfl
theorem opd_eq {m : M Res} {Q : Opd → Env → Prop} {X : QX} : Wp ((fz m e).bind fun d e1 => .ok (.d d) e1) Q X = Wp (m e) (kD Q) X := fz_eq fun r e1 => rfl
section
variable {m : M Res} {Q : Opd → Env → Prop} {X : QX}
theorem od_var {i : Nat} : Wp (opdM (.var i) m e) Q X = Wp (m e) (kD Q) X := opd_eq
theorem od_cst {d : D} : Wp (opdM (.cst d) m e) Q X = Wp (m e) (kD Q) X := opd_eq
theorem od_glb {x : Str} {d : D} : Wp (opdM (.glb x d) m e) Q X = Wp (m e) (kD Q) X := opd_eq
theorem od_op {o : Op} {as : List E} : Wp (opdM (.op o as) m e) Q X = Wp (m e) (kD Q) X := opd_eq
theorem od_and {a b : E} : Wp (opdM (.and a b) m e) Q X = Wp (m e) (kD Q) X := opd_eq
theorem od_or {a b : E} : Wp (opdM (.or a b) m e) Q X = Wp (m e) (kD Q) X := opd_eq
theorem od_not {a : E} : Wp (opdM (.not a) m e) Q X = Wp (m e) (kD Q) X := opd_eq
theorem od_ite {c a b : E} : Wp (opdM (.ite c a b) m e) Q X = Wp (m e) (kD Q) X := opd_eq
theorem od_chain {o p : Op} {a b c : E} : Wp (opdM (.chain o p a b c) m e) Q X = Wp (m e) (kD Q) X := opd_eq
theorem od_chain3 {o p q : Op} {a b c d : E} : Wp (opdM (.chain3 o p q a b c d) m e) Q X = Wp (m e) (kD Q) X := opd_eq
theorem od_fnv {x : Str} {g : Nat} : Wp (opdM (.fnv x g) m e) Q X = Wp (m e) (kD Q) X := opd_eq
theorem od_callV {f : E} {as : List E} : Wp (opdM (.callV f as) m e) Q X = Wp (m e) (kD Q) X := opd_eq
theorem od_call {f : Nat} {as : List E} : Wp (opdM (.call f as) m e) Q X = Wp (m e) (kD Q) X := opd_eq
theorem od_comp {k : ItK} {as : List E} {tg : Tg} {own : List Nat} {cs : List E} {a : E} : Wp (opdM (.comp k as tg own cs a) m e) Q X = Wp (m e) (kD Q) X := opd_eq
end
def kFz (Q : D → Env → Prop) : QR := fun r e => Q r.d e
theorem kFz_u {Q : D → Env → Prop} {r : Res} : kFz Q r e = Q r.d e := rfl
theorem w_fz {m : M Res} {Q : D → Env → Prop} {X : QX} : Wp (fz m e) Q X = Wp (m e) (kFz Q) X := by
  unfold fz
  cases m e <;> rfl
theorem w_an {Q : Bool → Env → Prop} {X : QX} : Wp (evAll C [] e) Q X = Q true e := by simp only [evAll]; rfl
def kAl2 (C : Cfg) (cs : List E) (Q : Bool → Env → Prop) (X : QX) (e : Env) : Bool → Prop
  | true => Wp (evAll C cs e) Q X
  | false => Q false e
def kAl (C : Cfg) (cs : List E) (Q : Bool → Env → Prop) (X : QX) : QR
  | .val (.bl t), e => kAl2 C cs Q X e t
  | _, _ => False
theorem kAl_u {cs : List E} {Q : Bool → Env → Prop} {X : QX} {t : Bool} : kAl C cs Q X (.val (.bl t)) e = kAl2 C cs Q X e t := rfl
theorem kAl_t {cs : List E} {Q : Bool → Env → Prop} {X : QX} : kAl2 C cs Q X e true = Wp (evAll C cs e) Q X := rfl
theorem kAl_f {cs : List E} {Q : Bool → Env → Prop} {X : QX} : kAl2 C cs Q X e false = Q false e := rfl
theorem w_ac {c : E} {cs : List E} {Q : Bool → Env → Prop} {X : QX} : Wp (evAll C (c :: cs) e) Q X = Wp (ev C c e) (kAl C cs Q X) X := by
  simp only [evAll]
  refine asB_eq (fun t e1 => ?_) fun r e1 h => not_bl (P := fun r => kAl C cs Q X r e1 = False) h (fun d => rfl) fun d hd => by cases d <;> first | rfl | exact absurd rfl (hd _)
  cases t <;> rfl
/-! defs -/
def kRun (as : List Arg) (Q : Res → List D → Prop) : QF
  | .nx, e => Wo (fins e as 0) (Q (.val .non))
  | .rt r, e => Wo (fins e as 0) (Q r)
  | _, _ => False
def kRunX (as : List Arg) (X : Xc → List D → Prop) : QX := fun x e => Wo (fins e as 0) (X x)
theorem kRun_nx {as : List Arg} {Q : Res → List D → Prop} : kRun as Q .nx e = Wo (fins e as 0) (Q (.val .non)) := rfl
theorem kRun_rt {as : List Arg} {Q : Res → List D → Prop} {r : Res} : kRun as Q (.rt r) e = Wo (fins e as 0) (Q r) := rfl
theorem kRunX_u {as : List Arg} {X : Xc → List D → Prop} {x : Xc} : kRunX as X x e = Wo (fins e as 0) (X x) := rfl
theorem w_run {np n : Nat} {body : List S} {as : List Arg} {Q : Res → List D → Prop} {X : Xc → List D → Prop} (h : as.length = np) : Wf (runD C np n body as) Q X = Wp (exs C body (as.map argSlot ++ List.replicate (n - np) .un)) (kRun as Q) (kRunX as X) := by
  unfold runD
  rw [if_pos h]
  cases exs C body (as.map argSlot ++ List.replicate (n - np) .un) with
  | ok f e1 =>
    cases f with
    | nx => show Wf (match fins e1 as 0 with | some l => _ | none => _) Q X = Wo (fins e1 as 0) _; cases fins e1 as 0 <;> rfl
    | rt r => show Wf (match fins e1 as 0 with | some l => _ | none => _) Q X = Wo (fins e1 as 0) _; cases fins e1 as 0 <;> rfl
    | bk => rfl
    | ct => rfl
  | ex x e1 => show Wf (match fins e1 as 0 with | some l => _ | none => _) Q X = Wo (fins e1 as 0) _; cases fins e1 as 0 <;> rfl
  | no => rfl
def kF2 (i : Nat) (l : List D → Prop) : Slot → Option (List D) → Prop
  | .par d, some r => l (d :: r)
  | _, _ => False
theorem w_fn {K : List D → Prop} {i : Nat} : Wo (fins e [] i) K = K [] := rfl
theorem w_fv {K : List D → Prop} {i : Nat} {d : D} {as : List Arg} : Wo (fins e (.val d :: as) i) K = Wo (fins e as (i + 1)) K := rfl
def kFl (d : D) (K : List D → Prop) : List D → Prop := fun l => K (d :: l)
theorem kFl_u {d : D} {l : List D} {K : List D → Prop} : kFl d K l = K (d :: l) := rfl
def kFs (as : List Arg) (i : Nat) (K : List D → Prop) (e : Env) : Slot → Prop
  | .par d => Wo (fins e as (i + 1)) (kFl d K)
  | _ => False
theorem kFs_p {as : List Arg} {i : Nat} {K : List D → Prop} {d : D} : kFs as i K e (.par d) = Wo (fins e as (i + 1)) (kFl d K) := rfl
theorem w_fl {K : List D → Prop} {i : Nat} {d : D} {as : List Arg} : Wo (fins e (.lent d :: as) i) K = kFs as i K e (slot e i) := by
  simp only [fins]
  cases hs : slot e i <;> cases hf : fins e as (i + 1) <;> simp [kFs, Wo, kFl, hf]
theorem wf_ok {r : FRes} {v : Res} {l : List D} (h : Wf r (fun a b => a = v ∧ b = l) kNo) : r = .ok v l := by
  cases r with
  | ok a b => obtain ⟨rfl, rfl⟩ := h; rfl
  | ex x b => exact h.elim
  | no => exact h.elim
theorem wf_mono {r : FRes} {Q Q' : Res → List D → Prop} {X X' : Xc → List D → Prop} (h : Wf r Q X) (h1 : ∀ a l, Q a l → Q' a l) (h2 : ∀ x l, X x l → X' x l) : Wf r Q' X' := by
  cases r with
  | ok a b => exact h1 _ _ h
  | ex x b => exact h2 _ _ h
  | no => exact h
theorem wp_mono {α : Type} {r : Rs α} {Q Q' : α → Env → Prop} {X X' : QX} (h : Wp r Q X) (h1 : ∀ a l, Q a l → Q' a l) (h2 : ∀ x l, X x l → X' x l) : Wp r Q' X' := by
  cases r with
  | ok a b => exact h1 _ _ h
  | ex x b => exact h2 _ _ h
  | no => exact h
end Itp
set_option Elab.async false
set_option linter.all false
set_option maxRecDepth 100000
set_option maxHeartbeats 4000000
namespace Itp
open PySem L2
variable {C : Cfg} {e : Env}
/-! ### slots and operands -/
theorem sl_0 {s : Slot} {r : List Slot} : slot (s :: r) 0 = s := rfl
theorem sl_S {s : Slot} {r : List Slot} {n : Nat} : slot (s :: r) (n + 1) = slot r n := rfl
def opC (a : Option D) (b : Option (List D)) : Option (List D) := match a, b with
  | some x, some xs => some (x :: xs)
  | _, _ => none
theorem opds_nil : opds e [] = some [] := rfl
theorem opds_cons {o : Opd} {os : List Opd} : opds e (o :: os) = opC (opd e o) (opds e os) := by
  simp only [opds, opC]
  all_goals (cases opd e o <;> cases opds e os <;> rfl)
theorem opC_s {x : D} {xs : List D} : opC (some x) (some xs) = some (x :: xs) := rfl
theorem opd_d {x : D} : opd e (.d x) = some x := rfl
theorem opd_pk {i : Nat} : opd e (.pk i) = (slot e i).d? := rfl
def arC (a : Option Arg) (b : Option (List Arg)) : Option (List Arg) := match a, b with
  | some x, some xs => some (x :: xs)
  | _, _ => none
def arS : Slot → Option Arg
  | .un => none
  | .val d => some (.val d)
  | .own d => some (.lent d)
  | .par d => some (.lent d)
theorem toArgs_nil : toArgs e [] = some [] := rfl
theorem toArgs_cons {o : Opd} {os : List Opd} : toArgs e (o :: os) = arC (toArg e o) (toArgs e os) := by
  simp only [toArgs, arC]
  all_goals (cases toArg e o <;> cases toArgs e os <;> rfl)
theorem arC_s {x : Arg} {xs : List Arg} : arC (some x) (some xs) = some (x :: xs) := rfl
theorem toArg_d {x : D} : toArg e (.d x) = some (.val x) := rfl
theorem toArg_k {i : Nat} : toArg e (.pk i) = arS (slot e i) := by
  simp only [toArg, arS]
  all_goals (cases slot e i <;> rfl)
theorem arS_val {d : D} : arS (.val d) = some (.val d) := rfl
theorem arS_own {d : D} : arS (.own d) = some (.lent d) := rfl
theorem arS_par {d : D} : arS (.par d) = some (.lent d) := rfl
theorem d_val {d : D} : (Slot.val d).d? = some d := rfl
theorem d_own {d : D} : (Slot.own d).d? = some d := rfl
theorem d_par {d : D} : (Slot.par d).d? = some d := rfl
theorem muts_nil : muts e [] = [] := rfl
theorem muts_d {x : D} {os : List Opd} : muts e (.d x :: os) = muts e os := rfl
def mutC (i : Nat) (b : Bool) (l : List Nat) : List Nat := if b then i :: l else l
theorem muts_pk {i : Nat} {os : List Opd} : muts e (.pk i :: os) = mutC i (slot e i).isMut (muts e os) := rfl
theorem mutC_t {i : Nat} {l : List Nat} : mutC i true l = i :: l := rfl
theorem mutC_f {i : Nat} {l : List Nat} : mutC i false l = l := rfl
theorem m_val {d : D} : (Slot.val d).isMut = false := rfl
theorem m_own {d : D} : (Slot.own d).isMut = true := rfl
theorem m_par {d : D} : (Slot.par d).isMut = true := rfl
theorem pb_nil : putBack e [] [] = some e := rfl
theorem pb_cons {i : Nat} {is : List Nat} {d : D} {ds : List D} : putBack e (i :: is) (d :: ds) = putBack (e.set i ((slot e i).put d)) is ds := rfl
theorem put_own {d d' : D} : (Slot.own d).put d' = .own d' := rfl
theorem put_par {d d' : D} : (Slot.par d).put d' = .par d' := rfl
theorem nd_nil : nodup [] = true := rfl
theorem nd_one {i : Nat} : nodup [i] = true := rfl
theorem ie_nil : ([] : List Nat).isEmpty = true := rfl
theorem ie_cons {i : Nat} {l : List Nat} : (i :: l).isEmpty = false := rfl
theorem as_v {d : D} : argSlot (.val d) = .val d := rfl
theorem as_l {d : D} : argSlot (.lent d) = .par d := rfl
theorem rd_v {d : D} : (Res.val d).d = d := rfl
theorem rd_n {d : D} : (Res.new d).d = d := rfl
theorem rs_v {d : D} : (Res.val d).slot = .val d := rfl
theorem rs_n {d : D} : (Res.new d).slot = .own d := rfl
theorem ip_pk {i : Nat} : isPk (.pk i) = true := rfl
theorem ip_d {d : D} : isPk (.d d) = false := rfl
/-! ### operations -/
section
variable {K : Res → Prop}
theorem wo_small {α : Type} {c : Bool} {a : α} {Q : α → Prop} : Wo (small c a) Q = (c = true ∧ Q a) := by
  unfold small
  cases c <;> simp [Wo]
def kV (K : Res → Prop) : D → Prop := fun d => K (.val d)
theorem kV_u {d : D} : kV K d = K (.val d) := rfl
def kVI (K : Res → Prop) : Int → Prop := fun d => K (.val (.int d))
theorem kVI_u {d : Int} : kVI K d = K (.val (.int d)) := rfl
def kVC (K : Res → Prop) : Nat → Prop := fun d => K (.val (.str [d]))
theorem kVC_u {d : Nat} : kVC K d = K (.val (.str [d])) := rfl
theorem beq_dec {α : Type} [BEq α] [LawfulBEq α] [DecidableEq α] (a b : α) : (a == b) = decide (a = b) := by
  by_cases h : a = b
  · simp [h]
  · simp [h]
theorem p_addI {a b : Int} : Wo (prim .add [.int a, .int b]) K = K (.val (.int (a + b))) := rfl
theorem p_addS {a b : List Nat} : Wo (prim .add [.str a, .str b]) K = (a.length + b.length ≤ big ∧ K (.val (.str (a ++ b)))) := by
  simp only [prim, pAdd, wo_small, decide_eq_true_eq]
theorem p_addL {a b : List D} : Wo (prim .add [.lst a, .lst b]) K = (a.length + b.length ≤ big ∧ K (.new (.lst (a ++ b)))) := by
  simp only [prim, pAdd, wo_small, decide_eq_true_eq]
theorem p_addT {a b : List D} : Wo (prim .add [.tup a, .tup b]) K = (a.length + b.length ≤ big ∧ K (.val (.tup (a ++ b)))) := by
  simp only [prim, pAdd, wo_small, decide_eq_true_eq]
theorem p_subI {a b : Int} : Wo (prim .sub [.int a, .int b]) K = K (.val (.int (a - b))) := rfl
theorem p_mulI {a b : Int} : Wo (prim .mul [.int a, .int b]) K = ((-(2 ^ 64) < b ∧ b < 2 ^ 64) ∧ K (.val (.int (a * b)))) := by
  simp only [prim, pMul, wo_small, Bool.and_eq_true, decide_eq_true_eq]
theorem p_mulS {a : List Nat} {k : Int} : Wo (prim .mul [.str a, .int k]) K = (((-100000 ≤ k ∧ k ≤ 100000) ∧ a.length * k.toNat ≤ big) ∧ K (.val (.str (List.replicate k.toNat a).flatten))) := by
  have hb : ((big : Nat) : Int) = 100000 := rfl
  simp only [prim, pMul, wo_small, Bool.and_eq_true, decide_eq_true_eq, hb]
theorem p_mulL {a : List D} {k : Int} : Wo (prim .mul [.lst a, .int k]) K = (((-100000 ≤ k ∧ k ≤ 100000) ∧ a.length * k.toNat ≤ big) ∧ K (.new (.lst (List.replicate k.toNat a).flatten))) := by
  have hb : ((big : Nat) : Int) = 100000 := rfl
  simp only [prim, pMul, wo_small, Bool.and_eq_true, decide_eq_true_eq, hb]
theorem p_mulT {a : List D} {k : Int} : Wo (prim .mul [.tup a, .int k]) K = ((((2 ≤ k ∧ k ≤ 1000) ∧ a.length ≤ 1000) ∧ a ≠ []) ∧ K (.val (.tup (List.replicate k.toNat a).flatten))) := by
  simp only [prim, pMul, wo_small, Bool.and_eq_true, decide_eq_true_eq, Bool.not_eq_true', List.isEmpty_eq_false_iff]
theorem p_fdiv {a b : Int} : Wo (prim .fdiv [.int a, .int b]) K = ((0 < b ∧ b < 1073741824) ∧ K (.val (.int (a / b)))) := by
  simp only [prim, pFdiv, wo_small, Bool.and_eq_true, decide_eq_true_eq]
theorem p_mod {a b : Int} : Wo (prim .mod [.int a, .int b]) K = (0 < b ∧ K (.val (.int (a % b)))) := by
  simp only [prim, pMod, wo_small, decide_eq_true_eq]
theorem p_pow {a b : Int} : Wo (prim .pow [.int a, .int b]) K = (((0 ≤ b ∧ b ≤ 1000) ∧ (-(2 ^ 64) < a ∧ a < 2 ^ 64)) ∧ K (.val (.int (a ^ b.toNat)))) := by
  simp only [prim, pPow, wo_small, Bool.and_eq_true, decide_eq_true_eq]
  have : a.natAbs < 2 ^ 64 ↔ (-(2 ^ 64) < a ∧ a < 2 ^ 64) := by omega
  rw [this]
theorem p_neg {a : Int} : Wo (prim .neg [.int a]) K = K (.val (.int (-a))) := rfl
theorem p_eqI {a b : Int} : Wo (prim .eq [.int a, .int b]) K = K (.val (.bl (decide (a = b)))) := by
  rw [← beq_dec]; rfl
theorem p_eqS {a b : List Nat} : Wo (prim .eq [.str a, .str b]) K = K (.val (.bl (decide (a = b)))) := by
  rw [← beq_dec]; rfl
theorem p_neI {a b : Int} : Wo (prim .ne [.int a, .int b]) K = K (.val (.bl (!decide (a = b)))) := by
  rw [← beq_dec]; rfl
theorem p_neS {a b : List Nat} : Wo (prim .ne [.str a, .str b]) K = K (.val (.bl (!decide (a = b)))) := by
  rw [← beq_dec]; rfl
theorem p_eqL {a : List D} {b : D} : Wo (prim .eq [.lst a, b]) K = (((D.lst a).plain 64 = true ∧ b.plain 64 = true) ∧ K (.val (.bl (D.eqv (.lst a) b)))) := by
  simp only [prim, pEq, wo_small, Bool.and_eq_true]
theorem p_eqT {a : List D} {b : D} : Wo (prim .eq [.tup a, b]) K = (((D.tup a).plain 64 = true ∧ b.plain 64 = true) ∧ K (.val (.bl (D.eqv (.tup a) b)))) := by
  simp only [prim, pEq, wo_small, Bool.and_eq_true]
theorem p_eqN {b : D} : Wo (prim .eq [.non, b]) K = ((D.non.plain 64 = true ∧ b.plain 64 = true) ∧ K (.val (.bl (D.eqv .non b)))) := by
  simp only [prim, pEq, wo_small, Bool.and_eq_true]
theorem p_eqB {a : Bool} {b : D} : Wo (prim .eq [.bl a, b]) K = (((D.bl a).plain 64 = true ∧ b.plain 64 = true) ∧ K (.val (.bl (D.eqv (.bl a) b)))) := by
  simp only [prim, pEq, wo_small, Bool.and_eq_true]
theorem p_neL {a : List D} {b : D} : Wo (prim .ne [.lst a, b]) K = (((D.lst a).plain 64 = true ∧ b.plain 64 = true) ∧ K (.val (.bl (!D.eqv (.lst a) b)))) := by
  simp only [prim, pNe, wo_small, Bool.and_eq_true]
theorem p_neT {a : List D} {b : D} : Wo (prim .ne [.tup a, b]) K = (((D.tup a).plain 64 = true ∧ b.plain 64 = true) ∧ K (.val (.bl (!D.eqv (.tup a) b)))) := by
  simp only [prim, pNe, wo_small, Bool.and_eq_true]
theorem p_neN {b : D} : Wo (prim .ne [.non, b]) K = ((D.non.plain 64 = true ∧ b.plain 64 = true) ∧ K (.val (.bl (!D.eqv .non b)))) := by
  simp only [prim, pNe, wo_small, Bool.and_eq_true]
theorem p_neB {a : Bool} {b : D} : Wo (prim .ne [.bl a, b]) K = (((D.bl a).plain 64 = true ∧ b.plain 64 = true) ∧ K (.val (.bl (!D.eqv (.bl a) b)))) := by
  simp only [prim, pNe, wo_small, Bool.and_eq_true]
theorem p_lt {a b : Int} : Wo (prim .lt [.int a, .int b]) K = K (.val (.bl (decide (a < b)))) := rfl
theorem p_le {a b : Int} : Wo (prim .le [.int a, .int b]) K = K (.val (.bl (decide (a ≤ b)))) := rfl
theorem p_gt {a b : Int} : Wo (prim .gt [.int a, .int b]) K = K (.val (.bl (decide (b < a)))) := rfl
theorem p_ge {a b : Int} : Wo (prim .ge [.int a, .int b]) K = K (.val (.bl (decide (b ≤ a)))) := rfl
def isNonB : D → Bool
  | .non => true
  | _ => false
theorem p_isN {a : D} : Wo (prim .isN [a]) K = K (.val (.bl (isNonB a))) := by cases a <;> rfl
theorem p_notN {a : D} : Wo (prim .notN [a]) K = K (.val (.bl (!isNonB a))) := by cases a <;> rfl
theorem n_non : isNonB .non = true := rfl
theorem n_int {i : Int} : isNonB (.int i) = false := rfl
theorem n_str {i : List Nat} : isNonB (.str i) = false := rfl
theorem n_tup {i : List D} : isNonB (.tup i) = false := rfl
theorem n_lst {i : List D} : isNonB (.lst i) = false := rfl
theorem n_bl {i : Bool} : isNonB (.bl i) = false := rfl
theorem p_inC {c : Nat} {s : List Nat} : Wo (prim .inn [.str [c], .str s]) K = K (.val (.bl (decide (c ∈ s)))) := rfl
theorem p_inL {x : D} {ys : List D} : Wo (prim .inn [x, .lst ys]) K = ((x.plain 64 = true ∧ (D.lst ys).plain 64 = true) ∧ K (.val (.bl (ys.any fun y => D.eqv y x)))) := by
  have h : prim .inn [x, .lst ys] = small (x.plain 64 && (D.lst ys).plain 64) (.val (.bl (ys.any fun y => D.eqv y x))) := by
    cases x <;> first | rfl | (rename_i s; match s with | [] => rfl | [_] => rfl | _ :: _ :: _ => rfl)
  rw [h, wo_small, Bool.and_eq_true]
theorem p_inT {x : D} {ys : List D} : Wo (prim .inn [x, .tup ys]) K = ((x.flat = true ∧ ys.all D.flat = true) ∧ K (.val (.bl (ys.any fun y => D.eqv y x)))) := by
  have h : prim .inn [x, .tup ys] = small (x.flat && ys.all D.flat) (.val (.bl (ys.any fun y => D.eqv y x))) := by
    cases x <;> first | rfl | (rename_i s; match s with | [] => rfl | [_] => rfl | _ :: _ :: _ => rfl)
  rw [h, wo_small, Bool.and_eq_true]
theorem p_niC {c : Nat} {s : List Nat} : Wo (prim .nin [.str [c], .str s]) K = K (.val (.bl (!decide (c ∈ s)))) := rfl
theorem p_niL {x : D} {ys : List D} : Wo (prim .nin [x, .lst ys]) K = ((x.plain 64 = true ∧ (D.lst ys).plain 64 = true) ∧ K (.val (.bl (!ys.any fun y => D.eqv y x)))) := by
  have h : prim .nin [x, .lst ys] = small (x.plain 64 && (D.lst ys).plain 64) (.val (.bl (!ys.any fun y => D.eqv y x))) := by
    cases x <;> first | rfl | (rename_i s; match s with | [] => rfl | [_] => rfl | _ :: _ :: _ => rfl)
  rw [h, wo_small, Bool.and_eq_true]
theorem p_niT {x : D} {ys : List D} : Wo (prim .nin [x, .tup ys]) K = ((x.flat = true ∧ ys.all D.flat = true) ∧ K (.val (.bl (!ys.any fun y => D.eqv y x)))) := by
  have h : prim .nin [x, .tup ys] = small (x.flat && ys.all D.flat) (.val (.bl (!ys.any fun y => D.eqv y x))) := by
    cases x <;> first | rfl | (rename_i s; match s with | [] => rfl | [_] => rfl | _ :: _ :: _ => rfl)
  rw [h, wo_small, Bool.and_eq_true]
theorem p_ixL {xs : List D} {i : Int} : Wo (prim .ix [.lst xs, .int i]) K = Wo (at? xs i) (kV K) := by
  show Wo ((at? xs i).map Res.val) K = _
  cases at? xs i <;> rfl
theorem p_ixT {xs : List D} {i : Int} : Wo (prim .ix [.tup xs, .int i]) K = Wo (at? xs i) (kV K) := by
  show Wo ((at? xs i).map Res.val) K = _
  cases at? xs i <;> rfl
theorem p_ixR {xs : List Int} {i : Int} : Wo (prim .ix [.scr xs, .int i]) K = Wo (at? xs i) (kVI K) := by
  show Wo ((at? xs i).map fun n => Res.val (.int n)) K = _
  cases at? xs i <;> rfl
theorem p_ixS {xs : List Nat} {i : Int} : Wo (prim .ix [.str xs, .int i]) K = (xs.length ≤ big ∧ Wo (at? xs i) (kVC K)) := by
  simp only [prim, pIx, small]
  by_cases h : xs.length ≤ big
  · simp only [decide_eq_true h, if_true, h, true_and]
    show Wo ((at? xs i).map fun c => Res.val (.str [c])) K = _
    cases at? xs i <;> rfl
  · simp only [decide_eq_false h, h, false_and]
    rfl
theorem p_slS {a b : Option Int} {xs : List Nat} {lo hi : Bool} {l : List D} (h : prim (.slc lo hi) (.str xs :: l) = small (decide (xs.length ≤ big)) (.val (.str (cut xs a b)))) : Wo (prim (.slc lo hi) (.str xs :: l)) K = (xs.length ≤ big ∧ K (.val (.str (cut xs a b)))) := by
  rw [h, wo_small, decide_eq_true_eq]
theorem p_sS0 {xs : List Nat} : Wo (prim (.slc false false) [.str xs]) K = (xs.length ≤ big ∧ K (.val (.str (cut xs none none)))) := p_slS rfl
theorem p_sS1 {xs : List Nat} {a : Int} : Wo (prim (.slc true false) [.str xs, .int a]) K = (xs.length ≤ big ∧ K (.val (.str (cut xs (some a) none)))) := p_slS rfl
theorem p_sS2 {xs : List Nat} {a : Int} : Wo (prim (.slc false true) [.str xs, .int a]) K = (xs.length ≤ big ∧ K (.val (.str (cut xs none (some a))))) := p_slS rfl
theorem p_sS3 {xs : List Nat} {a b : Int} : Wo (prim (.slc true true) [.str xs, .int a, .int b]) K = (xs.length ≤ big ∧ K (.val (.str (cut xs (some a) (some b))))) := p_slS rfl
theorem p_sL1 {xs : List D} {a : Int} : Wo (prim (.slc true false) [.lst xs, .int a]) K = K (.new (.lst (cut xs (some a) none))) := rfl
theorem p_sL2 {xs : List D} {a : Int} : Wo (prim (.slc false true) [.lst xs, .int a]) K = K (.new (.lst (cut xs none (some a)))) := rfl
theorem p_sL3 {xs : List D} {a b : Int} : Wo (prim (.slc true true) [.lst xs, .int a, .int b]) K = K (.new (.lst (cut xs (some a) (some b)))) := rfl
theorem p_sT1 {xs : List D} {a : Int} : Wo (prim (.slc true false) [.tup xs, .int a]) K = K (.val (.tup (cut xs (some a) none))) := rfl
theorem p_sT2 {xs : List D} {a : Int} : Wo (prim (.slc false true) [.tup xs, .int a]) K = K (.val (.tup (cut xs none (some a)))) := rfl
theorem p_sT3 {xs : List D} {a b : Int} : Wo (prim (.slc true true) [.tup xs, .int a, .int b]) K = K (.val (.tup (cut xs (some a) (some b)))) := rfl
theorem p_revL {xs : List D} : Wo (prim .rev [.lst xs]) K = K (.new (.lst xs.reverse)) := rfl
theorem p_tup {xs : List D} : Wo (prim .tup xs) K = (xs.length ≤ big ∧ K (.val (.tup xs))) := by
  simp only [prim, pTup, wo_small, decide_eq_true_eq]
theorem p_lst {xs : List D} : Wo (prim .lst xs) K = (xs.length ≤ big ∧ K (.new (.lst xs))) := by
  simp only [prim, pLst, wo_small, decide_eq_true_eq]
theorem p_lenS {xs : List Nat} : Wo (prim .len [.str xs]) K = (xs.length ≤ big ∧ K (.val (.int xs.length))) := by
  simp only [prim, pLen, wo_small, decide_eq_true_eq]
theorem p_lenL {xs : List D} : Wo (prim .len [.lst xs]) K = K (.val (.int xs.length)) := rfl
theorem p_lenT {xs : List D} : Wo (prim .len [.tup xs]) K = K (.val (.int xs.length)) := rfl
theorem p_lenR {xs : List Int} : Wo (prim .len [.scr xs]) K = K (.val (.int xs.length)) := rfl
theorem p_int {a : Int} : Wo (prim .int [.int a]) K = K (.val (.int a)) := rfl
theorem p_intB {a : Bool} : Wo (prim .int [.bl a]) K = K (.val (.int (if a then 1 else 0))) := rfl
theorem p_listL {xs : List D} : Wo (prim .list [.lst xs]) K = K (.new (.lst xs)) := rfl
theorem p_listT {xs : List D} : Wo (prim .list [.tup xs]) K = K (.new (.lst xs)) := rfl
theorem p_tupleL {xs : List D} : Wo (prim .tuple [.lst xs]) K = K (.val (.tup xs)) := rfl
theorem p_tupleT {xs : List D} : Wo (prim .tuple [.tup xs]) K = K (.val (.tup xs)) := rfl
theorem p_min {a b : Int} : Wo (prim .min [.int a, .int b]) K = K (.val (.int (if b < a then b else a))) := rfl
theorem p_max {a b : Int} : Wo (prim .max [.int a, .int b]) K = K (.val (.int (if b > a then b else a))) := rfl
def kAB (K : Res → Prop) : List Bool → Prop := fun l => K (.val (.bl (l.all id)))
theorem kAB_u {l : List Bool} : kAB K l = K (.val (.bl (l.all id))) := rfl
def kNB (K : Res → Prop) : List Bool → Prop := fun l => K (.val (.bl (l.any id)))
theorem kNB_u {l : List Bool} : kNB K l = K (.val (.bl (l.any id))) := rfl
theorem p_all {xs : List D} : Wo (prim .all [.lst xs]) K = Wo (bls? xs) (kAB K) := by
  show Wo ((bls? xs).map _) K = _
  cases bls? xs <;> rfl
theorem p_any {xs : List D} : Wo (prim .any [.lst xs]) K = Wo (bls? xs) (kNB K) := by
  show Wo ((bls? xs).map _) K = _
  cases bls? xs <;> rfl
theorem p_isi {ts : List Ty} {x : D} : Wo (prim (.isi ts) [x]) K = (typed x = true ∧ K (.val (.bl (ts.any (typOf x))))) := by
  simp only [prim, pIsi, wo_small]
def kJn (K : Res → Prop) (a : List Nat) : List (List Nat) → Prop := fun l => (l.map (·.length)).sum + l.length * a.length ≤ big ∧ K (.val (.str (joinL a l)))
theorem kJn_u {a : List Nat} {l : List (List Nat)} : kJn K a l = ((l.map (·.length)).sum + l.length * a.length ≤ big ∧ K (.val (.str (joinL a l)))) := rfl
theorem p_join {a : List Nat} {xs : List D} : Wo (prim .join [.str a, .lst xs]) K = Wo (strs? xs) (kJn K a) := by
  show Wo ((strs? xs).bind _) K = _
  cases strs? xs with
  | none => rfl
  | some l => simp only [Option.bind_some, wo_small, decide_eq_true_eq]; rfl
end
section
variable {K : List D → Prop}
theorem i_lst {xs : List D} : Wo (items .seq [.lst xs]) K = K xs := rfl
theorem i_tup {xs : List D} : Wo (items .seq [.tup xs]) K = K xs := rfl
theorem i_str {s : List Nat} : Wo (items .seq [.str s]) K = K (s.map fun c => .str [c]) := rfl
theorem i_eL {xs : List D} : Wo (items .enum [.lst xs]) K = K (enumF 0 xs) := rfl
theorem i_eT {xs : List D} : Wo (items .enum [.tup xs]) K = K (enumF 0 xs) := rfl
theorem i_eS {s : List Nat} : Wo (items .enum [.str s]) K = K (enumF 0 (s.map fun c => .str [c])) := rfl
theorem i_r1 {n : Int} : Wo (items .rng [.int n]) K = (okI n = true ∧ K (rngs 0 n.toNat)) := by simp only [items, wo_small]
theorem i_r2 {a b : Int} : Wo (items .rng [.int a, .int b]) K = ((okI a = true ∧ okI b = true) ∧ K (rngs a (b - a).toNat)) := by simp only [items, wo_small, Bool.and_eq_true]
theorem i_r3 {a b : Int} : Wo (items .rng [.int a, .int b, .int (-1)]) K = ((okI a = true ∧ okI b = true) ∧ K (rngc a (-1) (a - b).toNat)) := by simp only [items, wo_small, Bool.and_eq_true, decide_true, and_true]
end
theorem okI_c {n : Int} (h1 : -1000000 ≤ n) (h2 : n ≤ 1000000) : okI n = true := by
  unfold okI
  simp only [Bool.and_eq_true, decide_eq_true_eq]
  omega
theorem cut_n {α : Type} {xs : List α} : cut xs none none = xs := by
  unfold cut HT.sIx
  simp
theorem cut_p {α : Type} {xs : List α} {b : Int} (h0 : 0 ≤ b) : cut xs none (some b) = xs.take b.toNat := by
  unfold cut HT.sIx
  simp only [List.drop_zero, Nat.sub_zero]
  rw [if_neg (by omega), List.take_eq_take_iff]
  omega
theorem cut_s {α : Type} {xs : List α} {a : Int} (h0 : 0 ≤ a) : cut xs (some a) none = xs.drop a.toNat := by
  unfold cut HT.sIx
  simp only
  rw [if_neg (by omega)]
  by_cases h : a.toNat ≤ xs.length
  · rw [Nat.min_eq_left h, List.take_of_length_le (by rw [List.length_drop]; omega)]
  · rw [Nat.min_eq_right (by omega), List.drop_of_length_le (Nat.le_refl _), List.drop_of_length_le (by omega), List.take_nil]
theorem at_nat {α : Type} {xs : List α} {i : Int} (h0 : 0 ≤ i) : at? xs i = xs[i.toNat]? := by
  unfold at? ixOf
  rw [if_pos h0]
  split
  · rfl
  · rename_i h
    show none = _
    rw [List.getElem?_eq_none (by omega)]
theorem at_mem {α : Type} {xs : List α} {i : Int} (h0 : 0 ≤ i) (h1 : i < xs.length) : ∃ a, at? xs i = some a ∧ a ∈ xs := by
  rw [at_nat h0]
  exact ⟨xs[i.toNat]'(by omega), List.getElem?_eq_getElem (by omega), List.getElem_mem _⟩
/-! ### loops -/
def kL (I : List D → Env → Prop) (Q : QF) (r : List D) : QF
  | .nx, e => I r e
  | .ct, e => I r e
  | .bk, e => Q .nx e
  | .rt v, e => Q (.rt v) e
theorem kL_nx {I : List D → Env → Prop} {Q : QF} {r : List D} : kL I Q r .nx e = I r e := rfl
theorem kL_ct {I : List D → Env → Prop} {Q : QF} {r : List D} : kL I Q r .ct e = I r e := rfl
theorem kL_bk {I : List D → Env → Prop} {Q : QF} {r : List D} : kL I Q r .bk e = Q .nx e := rfl
theorem kL_rt {I : List D → Env → Prop} {Q : QF} {r : List D} {v : Res} : kL I Q r (.rt v) e = Q (.rt v) e := rfl
def kBd (C : Cfg) (body : List S) (Q : QF) (X : QX) : Env → Prop := fun e => Wp (exs C body e) Q X
theorem kBd_u {body : List S} {Q : QF} {X : QX} : kBd C body Q X e = Wp (exs C body e) Q X := rfl
theorem w_forI {tg : Tg} {body : List S} {Q : QF} {X : QX} (I : List D → Env → Prop) : ∀ (xs : List D) (e : Env), I xs e → (∀ x r e, I (x :: r) e → Wo (bindT tg x e) (kBd C body (kL I Q r) X)) → (∀ e, I [] e → Q .nx e) → Wp (forL tg (exs C body) xs e) Q X
  | [], e, h0, st, en => en e h0
  | x :: xs, e, h0, st, en => by
    have s := st x xs e h0
    simp only [forL]
    cases hb : bindT tg x e with
    | none => rw [hb] at s; exact s.elim
    | some e1 =>
      rw [hb] at s
      have s : Wp (exs C body e1) (kL I Q xs) X := s
      show Wp ((exs C body e1).bind _) Q X
      cases hx : exs C body e1 with
      | no => rw [hx] at s; exact s
      | ex y e2 => rw [hx] at s; exact s
      | ok f e2 =>
        rw [hx] at s
        cases f with
        | nx => exact w_forI I xs e2 s st en
        | ct => exact w_forI I xs e2 s st en
        | bk => exact s
        | rt v => exact s
/-- one turn of a comprehension -/
def kCi2 (I : List D → List D → Env → Prop) (own : List Nat) (r acc : List D) : D → Env → Prop := fun d e => acc.length < big ∧ I r (acc ++ [d]) (hideE e own)
theorem kCi2_u {I : List D → List D → Env → Prop} {own : List Nat} {r acc : List D} {d : D} : kCi2 I own r acc d e = (acc.length < big ∧ I r (acc ++ [d]) (hideE e own)) := rfl
def kCi1 (C : Cfg) (I : List D → List D → Env → Prop) (own : List Nat) (elt : E) (r acc : List D) : Bool → Env → Prop
  | true, e => Wp (ev C elt e) (kFz (kCi2 I own r acc)) kNo
  | false, e => I r acc (hideE e own)
theorem kCi1_t {I : List D → List D → Env → Prop} {own : List Nat} {elt : E} {r acc : List D} : kCi1 C I own elt r acc true e = Wp (ev C elt e) (kFz (kCi2 I own r acc)) kNo := rfl
theorem kCi1_f {I : List D → List D → Env → Prop} {own : List Nat} {elt : E} {r acc : List D} : kCi1 C I own elt r acc false e = I r acc (hideE e own) := rfl
def kCi (C : Cfg) (I : List D → List D → Env → Prop) (own : List Nat) (cs : List E) (elt : E) (r acc : List D) : Env → Prop := fun e => Wp (evAll C cs e) (kCi1 C I own elt r acc) kNo
theorem kCi_u {I : List D → List D → Env → Prop} {own : List Nat} {cs : List E} {elt : E} {r acc : List D} : kCi C I own cs elt r acc e = Wp (evAll C cs e) (kCi1 C I own elt r acc) kNo := rfl
theorem w_compI {tg : Tg} {own : List Nat} {cs : List E} {elt : E} {Q : List D → Env → Prop} {X : QX} (I : List D → List D → Env → Prop) : ∀ (xs acc : List D) (e : Env), I xs acc e → (∀ x r acc e, I (x :: r) acc e → Wo (bindT tg x e) (kCi C I own cs elt r acc)) → (∀ acc e, I [] acc e → Q acc e) →
    Wp (compL tg own (evAll C cs) (fz (ev C elt)) xs acc e) Q X
  | [], acc, e, h0, st, en => en acc e h0
  | x :: xs, acc, e, h0, st, en => by
    have s := st x xs acc e h0
    simp only [compL]
    cases hb : bindT tg x e with
    | none => rw [hb] at s; exact s.elim
    | some e1 =>
      rw [hb] at s
      have s : Wp (evAll C cs e1) (kCi1 C I own elt xs acc) kNo := s
      simp only
      cases hc : evAll C cs e1 with
      | no => rw [hc] at s; exact s
      | ex y e2 => rw [hc] at s; exact s.elim
      | ok b e2 =>
        rw [hc] at s
        cases b with
        | false => exact w_compI I xs acc _ s st en
        | true =>
          have s : Wp (ev C elt e2) (kFz (kCi2 I own xs acc)) kNo := s
          rw [← w_fz] at s
          simp only
          cases hm : fz (ev C elt) e2 with
          | no => rw [hm] at s; exact s
          | ex y e3 => rw [hm] at s; exact s.elim
          | ok d e3 =>
            rw [hm] at s
            obtain ⟨s1, s2⟩ : acc.length < big ∧ I xs (acc ++ [d]) (hideE e3 own) := s
            simp only [if_pos s1]
            exact w_compI I xs _ _ s2 st en
end Itp
set_option Elab.async false
set_option linter.all false
set_option maxRecDepth 100000
set_option maxHeartbeats 4000000
namespace Itp
open PySem L2
abbrev prg := PySem.Challenge.pw_dipsoverdips_k29_changes_refused
def topS (i : Nat) : Stmt := prg.main.body.getD i (.Pass ⟨0, 0, 0, 0⟩)
def clsBody : Stmt → List Stmt
  | .ClassDef _ _ _ b _ _ _ _ _ _ _ => b
  | _ => []
def fldsC : Nat → Option (List Str)
  | 1 => some []
  | 2 => some ["n"]
  | 3 => some ["most"]
  | _ => none
abbrev q_DipError : Nat := 0
abbrev q_BadRow : Nat := 1
abbrev q_BadNumber : Nat := 2
abbrev q_TooLong : Nat := 3
theorem fl_1 : fldsC 1 = some ([] : List Str) := rfl
theorem fl_2 : fldsC 2 = some (["n"] : List Str) := rfl
theorem fl_3 : fldsC 3 = some (["most"] : List Str) := rfl
def subC : Nat → Nat → Option Bool
  | 1, 3 => some false
  | 1, 2 => some false
  | 3, 3 => some true
  | 3, 2 => some false
  | 2, 3 => some false
  | 2, 2 => some true
  | _, _ => none
theorem su_1_3 : subC 1 3 = some false := rfl
theorem su_1_2 : subC 1 2 = some false := rfl
theorem su_3_3 : subC 3 3 = some true := rfl
theorem su_3_2 : subC 3 2 = some false := rfl
theorem su_2_3 : subC 2 3 = some false := rfl
theorem su_2_2 : subC 2 2 = some true := rfl
/-! is_from -/
abbrev s_is_from : Stmt := topS 9
def n_is_from : List Str := ["value", "low", "high"]
def b_is_from : List S := [.ret (.and (.op (.isi [.int]) [(.var 0)]) (.and (.not (.op (.isi [.bool]) [(.var 0)])) (.chain .le .le (.var 1) (.var 0) (.var 2))))]
def t_is_from : Tab := ⟨[], [], [], []⟩
def c_is_from : Cfg := ⟨fun _ _ => .no, fun _ => none, fldsC, subC⟩
theorem cg_is_from : c_is_from.flds = fldsC := rfl
theorem ch_is_from : c_is_from.sub = subC := rfl
def f_is_from : Fn := runD c_is_from 3 3 b_is_from
theorem w_is_from {Q : Res → List D → Prop} {X : Xc → List D → Prop} {a0 a1 a2 : Arg} : Wf (f_is_from [a0, a1, a2]) Q X = Wp (exs c_is_from b_is_from [argSlot a0, argSlot a1, argSlot a2]) (kRun [a0, a1, a2] Q) (kRunX [a0, a1, a2] X) := w_run rfl
theorem k_is_from : chkSs t_is_from n_is_from (defScope s_is_from) b_is_from (defBody s_is_from) = true := by decide +kernel
theorem sc_is_from : FnScope n_is_from ["value", "low", "high"] (defScope s_is_from) := ⟨rfl, rfl, rfl, by decide +kernel, rfl, by decide +kernel, by decide +kernel⟩
/-! is_row -/
abbrev s_is_row : Stmt := topS 10
def n_is_row : List Str := ["value", "sign"]
def b_is_row : List S := [.ifs (.or (.not (.op (.isi [.str]) [(.var 0)])) (.not (.chain .le .le (.cst (.int 1)) (.op .len [(.var 0)]) (.glb "MOST_CELLS" (.int 12))))) [.ret (.cst (.bl false))] [], .ret (.op .all [(.comp .seq [(.var 0)] (.nm 1) [1] [] (.op .inn [(.var 1), (.op .add [(.glb "LETTERS" (.str [97, 98, 99, 100, 101, 102, 103, 104])), (.glb "BLANK" (.str [46]))])]))])]
def t_is_row : Tab := ⟨[], [("MOST_CELLS", (.int 12)), ("LETTERS", (.str [97, 98, 99, 100, 101, 102, 103, 104])), ("BLANK", (.str [46]))], [], []⟩
def c_is_row : Cfg := ⟨fun _ _ => .no, fun _ => none, fldsC, subC⟩
theorem cg_is_row : c_is_row.flds = fldsC := rfl
theorem ch_is_row : c_is_row.sub = subC := rfl
def f_is_row : Fn := runD c_is_row 1 2 b_is_row
theorem w_is_row {Q : Res → List D → Prop} {X : Xc → List D → Prop} {a0 : Arg} : Wf (f_is_row [a0]) Q X = Wp (exs c_is_row b_is_row [argSlot a0, .un]) (kRun [a0] Q) (kRunX [a0] X) := w_run rfl
theorem k_is_row : chkSs t_is_row n_is_row (defScope s_is_row) b_is_row (defBody s_is_row) = true := by decide +kernel
theorem sc_is_row : FnScope n_is_row ["value"] (defScope s_is_row) := ⟨rfl, rfl, rfl, by decide +kernel, rfl, by decide +kernel, by decide +kernel⟩
/-! need_row -/
abbrev s_need_row : Stmt := topS 11
def n_need_row : List Str := ["row"]
def b_need_row : List S := [.ifs (.not (.call 0 [(.var 0)])) [.rse 1 []] []]
def t_need_row : Tab := ⟨[("is_row", 0)], [], [("BadRow", 1)], []⟩
def c_need_row : Cfg := ⟨fun n => [f_is_row].getD n fun _ => .no, fun _ => none, fldsC, subC⟩
theorem cf_need_row_0 : c_need_row.fns 0 = f_is_row := rfl
theorem cg_need_row : c_need_row.flds = fldsC := rfl
theorem ch_need_row : c_need_row.sub = subC := rfl
def f_need_row : Fn := runD c_need_row 1 1 b_need_row
theorem w_need_row {Q : Res → List D → Prop} {X : Xc → List D → Prop} {a0 : Arg} : Wf (f_need_row [a0]) Q X = Wp (exs c_need_row b_need_row [argSlot a0]) (kRun [a0] Q) (kRunX [a0] X) := w_run rfl
theorem k_need_row : chkSs t_need_row n_need_row (defScope s_need_row) b_need_row (defBody s_need_row) = true := by decide +kernel
theorem sc_need_row : FnScope n_need_row ["row"] (defScope s_need_row) := ⟨rfl, rfl, rfl, by decide +kernel, rfl, by decide +kernel, by decide +kernel⟩
/-! lots_of -/
abbrev s_lots_of : Stmt := topS 14
def n_lots_of : List Str := ["many", "found", "cell", "longer", "told", "open_ones", "top", "at", "number"]
def b_lots_of : List S := [.own 1 (.op .lst [(.op .tup [(.op .tup []), (.op .tup [])])]), .for (.nm 2) .rng [(.var 0)] [.own 3 (.op .lst []), .for (.tp [(.nm 4), (.nm 5)]) .seq [(.var 1)] [.own 6 (.ite (.op .ne [(.var 4), (.op .tup [])]) (.op .add [(.op .max [(.var 4)]), (.cst (.int 1))]) (.cst (.int 0))), .app 3 (.op .tup [(.op .add [(.var 4), (.op .tup [(.var 6)])]), (.op .add [(.var 5), (.op .tup [(.var 6)])])]), .for (.tp [(.nm 7), (.nm 8)]) .enum [(.var 5)] [.app 3 (.op .tup [(.op .add [(.var 4), (.op .tup [(.var 8)])]), (.op (.slc false true) [(.var 5), (.op .add [(.var 7), (.cst (.int 1))])])])]], .own 1 (.var 3)], .ret (.comp .seq [(.var 1)] (.tp [(.nm 4), (.nm 5)]) [4, 5] [] (.var 4))]
def t_lots_of : Tab := ⟨[], [], [], []⟩
def c_lots_of : Cfg := ⟨fun _ _ => .no, fun _ => none, fldsC, subC⟩
theorem cg_lots_of : c_lots_of.flds = fldsC := rfl
theorem ch_lots_of : c_lots_of.sub = subC := rfl
def f_lots_of : Fn := runD c_lots_of 1 9 b_lots_of
theorem w_lots_of {Q : Res → List D → Prop} {X : Xc → List D → Prop} {a0 : Arg} : Wf (f_lots_of [a0]) Q X = Wp (exs c_lots_of b_lots_of [argSlot a0, .un, .un, .un, .un, .un, .un, .un, .un]) (kRun [a0] Q) (kRunX [a0] X) := w_run rfl
theorem k_lots_of : chkSs t_lots_of n_lots_of (defScope s_lots_of) b_lots_of (defBody s_lots_of) = true := by decide +kernel
theorem sc_lots_of : FnScope n_lots_of ["many"] (defScope s_lots_of) := ⟨rfl, rfl, rfl, by decide +kernel, rfl, by decide +kernel, by decide +kernel⟩
/-! best_letter -/
abbrev s_best_letter : Stmt := topS 15
def n_best_letter : List Str := ["letters", "counts", "letter"]
def b_best_letter : List S := [.never, .ret (.op .ix [(.op .min [(.var 1)]), (.cst (.int 1))])]
def t_best_letter : Tab := ⟨[], [("LETTERS", (.str [97, 98, 99, 100, 101, 102, 103, 104]))], [], []⟩
def c_best_letter : Cfg := ⟨fun _ _ => .no, fun _ => none, fldsC, subC⟩
theorem cg_best_letter : c_best_letter.flds = fldsC := rfl
theorem ch_best_letter : c_best_letter.sub = subC := rfl
def f_best_letter : Fn := runD c_best_letter 1 3 b_best_letter
theorem w_best_letter {Q : Res → List D → Prop} {X : Xc → List D → Prop} {a0 : Arg} : Wf (f_best_letter [a0]) Q X = Wp (exs c_best_letter b_best_letter [argSlot a0, .un, .un]) (kRun [a0] Q) (kRunX [a0] X) := w_run rfl
theorem k_best_letter : chkSs t_best_letter n_best_letter (defScope s_best_letter) b_best_letter (defBody s_best_letter) = true := by decide +kernel
theorem sc_best_letter : FnScope n_best_letter ["letters"] (defScope s_best_letter) := ⟨rfl, rfl, rfl, by decide +kernel, rfl, by decide +kernel, by decide +kernel⟩
/-! made_by -/
abbrev s_made_by : Stmt := topS 16
def n_made_by : List Str := ["part", "told", "found", "changes", "number", "cells", "cell", "other", "letter"]
def b_made_by : List S := [.never, .for (.nm 4) .rng [(.op .add [(.op .max [(.var 1)]), (.cst (.int 1))])] [.own 5 (.comp .enum [(.var 1)] (.tp [(.nm 6), (.nm 7)]) [6, 7] [(.op .eq [(.var 7), (.var 4)])] (.var 6)), .own 8 (.call 0 [(.comp .seq [(.var 5)] (.nm 6) [6] [] (.op .ix [(.var 0), (.var 6)]))]), .for (.nm 6) .seq [(.var 5)] [.own 3 (.op .add [(.var 3), (.op .int [(.op .ne [(.op .ix [(.var 0), (.var 6)]), (.var 8)])])]), .seti 2 (.var 6) (.var 8)]], .ret (.op .tup [(.var 3), (.op .join [(.cst (.str [])), (.pk 2)])])]
def t_made_by : Tab := ⟨[("best_letter", 0)], [], [], []⟩
def c_made_by : Cfg := ⟨fun n => [f_best_letter].getD n fun _ => .no, fun _ => none, fldsC, subC⟩
theorem cf_made_by_0 : c_made_by.fns 0 = f_best_letter := rfl
theorem cg_made_by : c_made_by.flds = fldsC := rfl
theorem ch_made_by : c_made_by.sub = subC := rfl
def f_made_by : Fn := runD c_made_by 2 9 b_made_by
theorem w_made_by {Q : Res → List D → Prop} {X : Xc → List D → Prop} {a0 a1 : Arg} : Wf (f_made_by [a0, a1]) Q X = Wp (exs c_made_by b_made_by [argSlot a0, argSlot a1, .un, .un, .un, .un, .un, .un, .un]) (kRun [a0, a1] Q) (kRunX [a0, a1] X) := w_run rfl
theorem k_made_by : chkSs t_made_by n_made_by (defScope s_made_by) b_made_by (defBody s_made_by) = true := by decide +kernel
theorem sc_made_by : FnScope n_made_by ["part", "told"] (defScope s_made_by) := ⟨rfl, rfl, rfl, by decide +kernel, rfl, by decide +kernel, by decide +kernel⟩
/-! part_choices -/
abbrev s_part_choices : Stmt := topS 17
def n_part_choices : List Str := ["part", "found", "told", "many", "made"]
def b_part_choices : List S := [.ifs (.op .eq [(.var 0), (.cst (.str []))]) [.never] [], .own 1 (.op .dct []), .for (.nm 2) .seq [(.call 0 [(.op .len [(.var 0)])])] [.never, .ifs (.or (.op .nin [(.var 3), (.pk 1)]) (.op .lt [(.var 4), (.op .ix [(.pk 1), (.var 3)])])) [.seti 1 (.var 3) (.var 4)] []], .ret (.var 1)]
def t_part_choices : Tab := ⟨[("lots_of", 0)], [], [], []⟩
def c_part_choices : Cfg := ⟨fun n => [f_lots_of].getD n fun _ => .no, fun _ => none, fldsC, subC⟩
theorem cf_part_choices_0 : c_part_choices.fns 0 = f_lots_of := rfl
theorem cg_part_choices : c_part_choices.flds = fldsC := rfl
theorem ch_part_choices : c_part_choices.sub = subC := rfl
def f_part_choices : Fn := runD c_part_choices 1 5 b_part_choices
theorem w_part_choices {Q : Res → List D → Prop} {X : Xc → List D → Prop} {a0 : Arg} : Wf (f_part_choices [a0]) Q X = Wp (exs c_part_choices b_part_choices [argSlot a0, .un, .un, .un, .un]) (kRun [a0] Q) (kRunX [a0] X) := w_run rfl
theorem k_part_choices : chkSs t_part_choices n_part_choices (defScope s_part_choices) b_part_choices (defBody s_part_choices) = true := by decide +kernel
theorem sc_part_choices : FnScope n_part_choices ["part"] (defScope s_part_choices) := ⟨rfl, rfl, rfl, by decide +kernel, rfl, by decide +kernel, by decide +kernel⟩
/-! joined -/
abbrev s_joined : Stmt := topS 18
def n_joined : List Str := ["lots", "choices", "between", "found", "many", "changes", "row", "more", "others", "part", "made"]
def b_joined : List S := [.own 3 (.op .dct []), .never, .ret (.var 3)]
def t_joined : Tab := ⟨[], [], [], []⟩
def c_joined : Cfg := ⟨fun _ _ => .no, fun _ => none, fldsC, subC⟩
theorem cg_joined : c_joined.flds = fldsC := rfl
theorem ch_joined : c_joined.sub = subC := rfl
def f_joined : Fn := runD c_joined 3 11 b_joined
theorem w_joined {Q : Res → List D → Prop} {X : Xc → List D → Prop} {a0 a1 a2 : Arg} : Wf (f_joined [a0, a1, a2]) Q X = Wp (exs c_joined b_joined [argSlot a0, argSlot a1, argSlot a2, .un, .un, .un, .un, .un, .un, .un, .un]) (kRun [a0, a1, a2] Q) (kRunX [a0, a1, a2] X) := w_run rfl
theorem k_joined : chkSs t_joined n_joined (defScope s_joined) b_joined (defBody s_joined) = true := by decide +kernel
theorem sc_joined : FnScope n_joined ["lots", "choices", "between"] (defScope s_joined) := ⟨rfl, rfl, rfl, by decide +kernel, rfl, by decide +kernel, by decide +kernel⟩
/-! nearest -/
abbrev s_nearest : Stmt := topS 19
def n_nearest : List Str := ["row", "many", "lots", "at", "part", "some", "number"]
def b_nearest : List S := [.ex (.call 0 [(.var 0)]), .ifs (.op .gt [(.op .len [(.var 0)]), (.glb "MOST_CHANGED" (.int 8))]) [.rse 3 [(.glb "MOST_CHANGED" (.int 8))]] [], .ifs (.not (.call 1 [(.var 1), (.cst (.int 0)), (.glb "MOST_CELLS" (.int 12))])) [.rse 2 [(.var 1)]] [], .never, .never, .own 5 (.comp .seq [(.var 2)] (.nm 6) [6] [(.op .le [(.var 6), (.var 1)])] (.op .ix [(.var 2), (.var 6)])), .ret (.ite (.op .ne [(.var 5), (.op .lst [])]) (.op .min [(.var 5)]) (.cst .non))]
def t_nearest : Tab := ⟨[("need_row", 0), ("is_from", 1)], [("MOST_CHANGED", (.int 8)), ("MOST_CELLS", (.int 12))], [("TooLong", 3), ("BadNumber", 2)], []⟩
def c_nearest : Cfg := ⟨fun n => [f_need_row, f_is_from].getD n fun _ => .no, fun _ => none, fldsC, subC⟩
theorem cf_nearest_0 : c_nearest.fns 0 = f_need_row := rfl
theorem cf_nearest_1 : c_nearest.fns 1 = f_is_from := rfl
theorem cg_nearest : c_nearest.flds = fldsC := rfl
theorem ch_nearest : c_nearest.sub = subC := rfl
def f_nearest : Fn := runD c_nearest 2 7 b_nearest
theorem w_nearest {Q : Res → List D → Prop} {X : Xc → List D → Prop} {a0 a1 : Arg} : Wf (f_nearest [a0, a1]) Q X = Wp (exs c_nearest b_nearest [argSlot a0, argSlot a1, .un, .un, .un, .un, .un]) (kRun [a0, a1] Q) (kRunX [a0, a1] X) := w_run rfl
theorem k_nearest : chkSs t_nearest n_nearest (defScope s_nearest) b_nearest (defBody s_nearest) = true := by decide +kernel
theorem sc_nearest : FnScope n_nearest ["row", "many"] (defScope s_nearest) := ⟨rfl, rfl, rfl, by decide +kernel, rfl, by decide +kernel, by decide +kernel⟩
/-! _law_taken -/
abbrev s__law_taken : Stmt := topS 21
def n__law_taken : List Str := ["_law_row_here", "_law_many", "_law_found", "_law_cell"]
def b__law_taken : List S := [.ifs (.op .gt [(.op .ix [(.pk 0), (.cst (.int 3))]), (.cst (.int 0))]) [.own 2 (.op .mod [(.op .int [(.op .ix [(.pk 0), (.cst (.int 3))])]), (.var 1)]), .seti 0 (.cst (.int 3)) (.op .fdiv [(.op .ix [(.pk 0), (.cst (.int 3))]), (.var 1)]), .ret (.var 2)] [], .seti 0 (.cst (.int 1)) (.op .add [(.op .ix [(.pk 0), (.cst (.int 1))]), (.cst (.int 1))]), .ifs (.op .gt [(.op .ix [(.pk 0), (.cst (.int 1))]), (.op .len [(.op .ix [(.pk 0), (.cst (.int 0))])])]) [.seti 0 (.cst (.int 2)) (.op .mod [(.op .int [(.op .add [(.op .mul [(.op .ix [(.pk 0), (.cst (.int 2))]), (.cst (.int 48271))]), (.cst (.int 11))])]), (.cst (.int 2147483647))]), .ret (.op .mod [(.op .int [(.op .fdiv [(.op .ix [(.pk 0), (.cst (.int 2))]), (.cst (.int 7))])]), (.var 1)])] [], .own 3 (.op .ix [(.op .ix [(.pk 0), (.cst (.int 0))]), (.op .sub [(.op .ix [(.pk 0), (.cst (.int 1))]), (.cst (.int 1))])]), .seti 0 (.cst (.int 2)) (.op .mod [(.op .int [(.op .add [(.op .add [(.op .mul [(.op .ix [(.pk 0), (.cst (.int 2))]), (.cst (.int 48271))]), (.var 3)]), (.cst (.int 11))])]), (.cst (.int 2147483647))]), .ifs (.op .ge [(.var 3), (.op .pow [(.cst (.int 10)), (.cst (.int 18))])]) [.seti 0 (.cst (.int 3)) (.op .fdiv [(.var 3), (.var 1)])] [], .ret (.op .mod [(.op .int [(.var 3)]), (.var 1)])]
def t__law_taken : Tab := ⟨[], [], [], []⟩
def c__law_taken : Cfg := ⟨fun _ _ => .no, fun _ => none, fldsC, subC⟩
theorem cg__law_taken : c__law_taken.flds = fldsC := rfl
theorem ch__law_taken : c__law_taken.sub = subC := rfl
def f__law_taken : Fn := runD c__law_taken 2 4 b__law_taken
theorem w__law_taken {Q : Res → List D → Prop} {X : Xc → List D → Prop} {a0 a1 : Arg} : Wf (f__law_taken [a0, a1]) Q X = Wp (exs c__law_taken b__law_taken [argSlot a0, argSlot a1, .un, .un]) (kRun [a0, a1] Q) (kRunX [a0, a1] X) := w_run rfl
theorem k__law_taken : chkSs t__law_taken n__law_taken (defScope s__law_taken) b__law_taken (defBody s__law_taken) = true := by decide +kernel
theorem sc__law_taken : FnScope n__law_taken ["_law_row_here", "_law_many"] (defScope s__law_taken) := ⟨rfl, rfl, rfl, by decide +kernel, rfl, by decide +kernel, by decide +kernel⟩
/-! _law_row -/
abbrev s__law_row : Stmt := topS 22
def n__law_row : List Str := ["_law_row_here", "_law_most", "_law_many", "_law_signs", "_law_cell", "_law_found", "_law_turn", "_law_first", "_law_last"]
def b__law_row : List S := [.own 2 (.op .add [(.cst (.int 1)), (.call 0 [(.pk 0), (.var 1)])]), .own 3 (.op (.slc false true) [(.cst (.str [97, 98, 99, 100, 101, 102, 103, 104])), (.op .add [(.cst (.int 1)), (.call 0 [(.pk 0), (.op .ix [(.op .lst [(.cst (.int 2)), (.cst (.int 4)), (.cst (.int 8))]), (.call 0 [(.pk 0), (.cst (.int 3))])])])])]), .ifs (.op .eq [(.call 0 [(.pk 0), (.cst (.int 3))]), (.cst (.int 0))]) [.own 3 (.op .add [(.var 3), (.cst (.str [46]))])] [], .ifs (.op .eq [(.call 0 [(.pk 0), (.cst (.int 2))]), (.cst (.int 0))]) [.ret (.op .join [(.cst (.str [])), (.comp .rng [(.var 2)] (.nm 4) [4] [] (.op .ix [(.var 3), (.call 0 [(.pk 0), (.op .len [(.var 3)])])]))])] [], .own 5 (.ite (.op .eq [(.call 0 [(.pk 0), (.cst (.int 3))]), (.cst (.int 0))]) (.op .mul [(.cst (.str [46])), (.var 2)]) (.op .mul [(.op .ix [(.var 3), (.cst (.int 0))]), (.var 2)])), .for (.nm 6) .rng [(.op .add [(.cst (.int 1)), (.call 0 [(.pk 0), (.cst (.int 6))])])] [.own 7 (.call 0 [(.pk 0), (.var 2)]), .own 8 (.op .add [(.var 7), (.call 0 [(.pk 0), (.op .sub [(.var 2), (.var 7)])])]), .own 5 (.op .add [(.op .add [(.op (.slc false true) [(.var 5), (.var 7)]), (.op .mul [(.op .ix [(.var 3), (.call 0 [(.pk 0), (.op .len [(.var 3)])])]), (.op .add [(.op .sub [(.var 8), (.var 7)]), (.cst (.int 1))])])]), (.op (.slc true false) [(.var 5), (.op .add [(.var 8), (.cst (.int 1))])])])], .ret (.var 5)]
def t__law_row : Tab := ⟨[("_law_taken", 0)], [], [], []⟩
def c__law_row : Cfg := ⟨fun n => [f__law_taken].getD n fun _ => .no, fun _ => none, fldsC, subC⟩
theorem cf__law_row_0 : c__law_row.fns 0 = f__law_taken := rfl
theorem cg__law_row : c__law_row.flds = fldsC := rfl
theorem ch__law_row : c__law_row.sub = subC := rfl
def f__law_row : Fn := runD c__law_row 2 9 b__law_row
theorem w__law_row {Q : Res → List D → Prop} {X : Xc → List D → Prop} {a0 a1 : Arg} : Wf (f__law_row [a0, a1]) Q X = Wp (exs c__law_row b__law_row [argSlot a0, argSlot a1, .un, .un, .un, .un, .un, .un, .un]) (kRun [a0, a1] Q) (kRunX [a0, a1] X) := w_run rfl
theorem k__law_row : chkSs t__law_row n__law_row (defScope s__law_row) b__law_row (defBody s__law_row) = true := by decide +kernel
theorem sc__law_row : FnScope n__law_row ["_law_row_here", "_law_most"] (defScope s__law_row) := ⟨rfl, rfl, rfl, by decide +kernel, rfl, by decide +kernel, by decide +kernel⟩
/-! _law_refused -/
abbrev s__law_refused : Stmt := topS 23
def n__law_refused : List Str := ["_law_told", "_law_many", "_law_found", "e"]
def b__law_refused : List S := [.own 2 (.cst .non), .try [.ex (.call 0 [(.var 0), (.var 1)])] [(3, some 3, .lst 2 [.cst (.str [108, 111, 110, 103]), .fld "most"]), (2, some 3, .lst 2 [.fld "n"])], .ret (.var 2)]
def t__law_refused : Tab := ⟨[("nearest", 0)], [], [("TooLong", 3), ("BadNumber", 2)], []⟩
def c__law_refused : Cfg := ⟨fun n => [f_nearest].getD n fun _ => .no, fun _ => none, fldsC, subC⟩
theorem cf__law_refused_0 : c__law_refused.fns 0 = f_nearest := rfl
theorem cg__law_refused : c__law_refused.flds = fldsC := rfl
theorem ch__law_refused : c__law_refused.sub = subC := rfl
def f__law_refused : Fn := runD c__law_refused 2 4 b__law_refused
theorem w__law_refused {Q : Res → List D → Prop} {X : Xc → List D → Prop} {a0 a1 : Arg} : Wf (f__law_refused [a0, a1]) Q X = Wp (exs c__law_refused b__law_refused [argSlot a0, argSlot a1, .un, .un]) (kRun [a0, a1] Q) (kRunX [a0, a1] X) := w_run rfl
theorem k__law_refused : chkSs t__law_refused n__law_refused (defScope s__law_refused) b__law_refused (defBody s__law_refused) = true := by decide +kernel
theorem sc__law_refused : FnScope n__law_refused ["_law_told", "_law_many"] (defScope s__law_refused) := ⟨rfl, rfl, rfl, by decide +kernel, rfl, by decide +kernel, by decide +kernel⟩
/-! law -/
abbrev s_law : Stmt := topS 24
def n_law : List Str := ["_law_script", "_law_row_here", "_law_turn", "_law_bad", "_law_wide"]
def b_law : List S := [.own 1 (.op .lst [(.var 0), (.cst (.int 0)), (.cst (.int 529)), (.cst (.int 0))]), .for (.nm 2) .rng [(.cst (.int 6))] [.own 3 (.op .ix [(.op .lst [(.cst .non), (.op .neg [(.cst (.int 1))]), (.cst (.int 13)), (.cst (.bl true)), (.cst (.str [49])), (.op .tup [(.cst (.int 1))])]), (.call 0 [(.pk 1), (.cst (.int 6))])]), .own 4 (.op (.slc false true) [(.op .add [(.call 1 [(.pk 1), (.cst (.int 12))]), (.cst (.str [97, 98, 97, 99, 97, 98, 97, 99]))]), (.op .add [(.cst (.int 9)), (.call 0 [(.pk 1), (.cst (.int 4))])])]), .ifs (.or (.op .ne [(.call 2 [(.op (.slc false true) [(.var 4), (.cst (.int 9))]), (.var 3)]), (.op .lst [(.cst (.str [108, 111, 110, 103])), (.cst (.int 8))])]) (.and (.op .gt [(.op .len [(.var 4)]), (.cst (.int 8))]) (.op .ne [(.call 2 [(.var 4), (.var 3)]), (.op .lst [(.cst (.str [108, 111, 110, 103])), (.cst (.int 8))])]))) [.ret (.cst (.bl false))] [], .ifs (.op .ne [(.call 2 [(.call 1 [(.pk 1), (.cst (.int 8))]), (.var 3)]), (.op .lst [(.var 3)])]) [.ret (.cst (.bl false))] []], .ret (.cst (.bl true))]
def t_law : Tab := ⟨[("_law_taken", 0), ("_law_row", 1), ("_law_refused", 2)], [], [], []⟩
def c_law : Cfg := ⟨fun n => [f__law_taken, f__law_row, f__law_refused].getD n fun _ => .no, fun _ => none, fldsC, subC⟩
theorem cf_law_0 : c_law.fns 0 = f__law_taken := rfl
theorem cf_law_1 : c_law.fns 1 = f__law_row := rfl
theorem cf_law_2 : c_law.fns 2 = f__law_refused := rfl
theorem cg_law : c_law.flds = fldsC := rfl
theorem ch_law : c_law.sub = subC := rfl
def f_law : Fn := runD c_law 1 5 b_law
theorem w_law {Q : Res → List D → Prop} {X : Xc → List D → Prop} {a0 : Arg} : Wf (f_law [a0]) Q X = Wp (exs c_law b_law [argSlot a0, .un, .un, .un, .un]) (kRun [a0] Q) (kRunX [a0] X) := w_run rfl
theorem k_law : chkSs t_law n_law (defScope s_law) b_law (defBody s_law) = true := by decide +kernel
theorem sc_law : FnScope n_law ["_law_script"] (defScope s_law) := ⟨rfl, rfl, rfl, by decide +kernel, rfl, by decide +kernel, by decide +kernel⟩
end Itp
set_option Elab.async false
set_option linter.all false
set_option maxRecDepth 100000
set_option maxHeartbeats 4000000
namespace Itp
open PySem L2
theorem at4_0 {α : Type} {a b c d : α} : at? [a, b, c, d] 0 = some a := rfl
theorem at4_1 {α : Type} {a b c d : α} : at? [a, b, c, d] 1 = some b := rfl
theorem at4_2 {α : Type} {a b c d : α} : at? [a, b, c, d] 2 = some c := rfl
theorem at4_3 {α : Type} {a b c d : α} : at? [a, b, c, d] 3 = some d := rfl
theorem ix4_1 : ixOf 4 1 = some 1 := rfl
theorem ix4_2 : ixOf 4 2 = some 2 := rfl
theorem ix4_3 : ixOf 4 3 = some 3 := rfl
theorem tf_or {p : Prop} [Decidable p] : decide p = true ∨ decide p = false := by cases decide p <;> simp
def rowD (ns : List Int) (i s t : Int) : D := .lst [.scr ns, .int i, .int s, .int t]
def IsRow (ns : List Int) (d : D) : Prop := ∃ i s t, d = rowD ns i s t ∧ 0 ≤ i
theorem taken_w {ns : List Int} {d : D} {m : Int} {Q : Res → List D → Prop} {X : Xc → List D → Prop} (hd : IsRow ns d) (h0 : 0 < m) (h1 : m < 1073741824) (k : ∀ v d', IsRow ns d' → 0 ≤ v → v < m → Q (.val (.int v)) [d']) :
    Wf (f__law_taken [.lent d, .val (.int m)]) Q X := by
  obtain ⟨i, s, t, rfl, hi⟩ := hd
  have hv : ∀ a : Int, 0 ≤ a % m ∧ a % m < m := fun a => ⟨Int.emod_nonneg _ (by omega), Int.emod_lt_of_pos _ h0⟩
  rw [w__law_taken]
  unfold b__law_taken rowD
  by_cases c1 : 0 < t
  · simp only [w_nil, w_cons, kS_nx, kS_rt, kS_bk, kS_ct, kOwn_u, kOwn2_un, kOwn2_val, kOwn2_own, w_own, kAsg_u, w_asg, w_nm, kT_un, kT_val, kT_own, kTs_u, w_tpt, w_tpl, w_tn, w_tc, kSt_o, kSt_p, kSet3_u, kSet4_o, kSet4_p, kSet1_u, w_seti, kApp_u, kApp2_o, kApp2_p, oL_u, oL_o, oL_p, w_app, kExt_u, kExt2_o, kExt2_p, w_ext, kEx_u, w_ex, kRet_u, w_ret, w_rv, kRv_own, kRv_val, rt_cst, rt_glb, rt_op, rt_and, rt_or, rt_not, rt_ite, rt_chain, rt_chain3, rt_call, rt_callV, rt_comp, w_retn, w_pass, kIf_u, kIf_t, kIf_f, w_ifs, kFor4_u, kIt_u, kIt2_s, w_for, w_whl, kRse3_u, kRse2_s, kRse_u, w_rse, zf_nil, zf_cons, zM_s, kTry_u, w_try, w_cat0, kUn_nx, kCat_f, kCat_t, kSuN_n, kSuN_s, kSu_un, kSu_val, w_cat, w_suc, kSl_u, kSl2_un, kSl2_val, kSl2_own, w_sul, w_var, kVar_val, kVar_own, w_cst, w_glb, w_fnv, kE_u, kOpX_u, kOp3_ff, kOp2_s, kOp_u, w_op, kBl_u, kAnd_u, kAnd_t, kAnd_f, w_and, kOr_u, kOr_f, kOr_t, w_or, kNot_u, w_not, kIte_u, kIte_t, kIte_f, w_ite, kCh5_u, kLk4_t, kLk4_f, kLk3_u, kCh2_u, kCh1_u, w_chain, kC5_u, kC2_u, kC1_u, w_chain3, kB2_u, kBack_u, kBackX_u, kCall2_s, kCall_u, w_call, kCv2_s, kCv_u, w_callV, kCm4_u, kCm_u, w_comp, w_en, kCo_u, kEv_u, w_ec, w_pk, kPk_val, kPk_own, kPk_par, kD_u, od_var, od_cst, od_glb, od_op, od_and, od_or, od_not, od_ite, od_chain, od_chain3, od_fnv, od_callV, od_call, od_comp, kFz_u, w_fz, w_an, kAl_u, kAl_t, kAl_f, w_ac, kRun_nx, kRun_rt, kRunX_u, w_fn, w_fv, kFl_u, kFs_p, w_fl, wo_some, wp_ok, wp_ex, sl_0, sl_S, rd_v, rd_n, rs_v, rs_n, opds_nil, opds_cons, opC_s, opd_d, opd_pk, toArgs_nil, toArgs_cons, arC_s, toArg_d, toArg_k, arS_val, arS_own, arS_par, d_val, d_own, d_par, muts_nil, muts_d, muts_pk, mutC_t, mutC_f, m_val, m_own, m_par, pb_nil, pb_cons, put_own, put_par, nd_nil, nd_one, ie_nil, ie_cons, as_v, as_l, ip_pk, ip_d, List.set_cons_zero, List.set_cons_succ, hideE, backE, disp, midOp, mthd, kV_u, kVI_u, kVC_u, p_addI, p_addS, p_addL, p_addT, p_subI, p_mulI, p_mulS, p_mulL, p_mulT, p_fdiv, p_mod, p_pow, p_neg, p_eqI, p_eqS, p_neI, p_neS, p_eqL, p_eqT, p_eqN, p_eqB, p_neL, p_neT, p_neN, p_neB, p_lt, p_le, p_gt, p_ge, p_isN, p_notN, n_non, n_int, n_str, n_tup, n_lst, n_bl, p_inC, p_inL, p_inT, p_niC, p_niL, p_niT, p_ixL, p_ixT, p_ixR, p_ixS, p_sS0, p_sS1, p_sS2, p_sS3, p_sL1, p_sL2, p_sL3, p_sT1, p_sT2, p_sT3, p_revL, p_tup, p_lst, p_lenS, p_lenL, p_lenT, p_lenR, p_int, p_intB, p_listL, p_listT, p_tupleL, p_tupleT, p_min, p_max, kAB_u, kNB_u, p_all, p_any, p_isi, kJn_u, p_join, i_lst, i_tup, i_str, i_eL, i_eT, i_eS, i_r1, i_r2, i_r3, cut_n, kL_nx, kL_ct, kL_bk, kL_rt, kBd_u, kCi2_u, kCi1_t, kCi1_f, kCi_u, List.any_cons, List.any_nil, Bool.or_false, Bool.or_true, Bool.true_or, Bool.false_or, Bool.and_false, Bool.false_and, Bool.and_true, Bool.true_and, Bool.not_true, Bool.not_false, decide_true, decide_false, true_and, and_true, Nat.reduceAdd, Nat.zero_add, List.length_cons, List.length_nil, Int.reduceLT, Int.reduceLE, Int.reduceNeg, Int.reducePow, Int.reduceAdd, Int.reduceSub, Int.reduceMul, Nat.reduceLeDiff, Nat.reduceLT, Nat.reducePow, Nat.reduceMul, Int.reduceEq, Int.reduceToNat, typed, typOf, big, ne_eq, not_false_eq_true, reduceCtorEq, List.cons_append, List.nil_append, cg_is_from, ch_is_from, cg_is_row, ch_is_row, cf_need_row_0, cg_need_row, ch_need_row, cg_lots_of, ch_lots_of, cg_best_letter, ch_best_letter, cf_made_by_0, cg_made_by, ch_made_by, cf_part_choices_0, cg_part_choices, ch_part_choices, cg_joined, ch_joined, cf_nearest_0, cf_nearest_1, cg_nearest, ch_nearest, cg__law_taken, ch__law_taken, cf__law_row_0, cg__law_row, ch__law_row, cf__law_refused_0, cg__law_refused, ch__law_refused, cf_law_0, cf_law_1, cf_law_2, cg_law, ch_law, fl_1, fl_2, fl_3, su_1_3, su_1_2, su_3_3, su_3_2, su_2_3, su_2_2, at4_0, at4_1, at4_2, at4_3, ix4_1, ix4_2, ix4_3, c1, h0, h1]
    exact k _ _ ⟨i, s, _, rfl, hi⟩ (hv _).1 (hv _).2
  · by_cases c2 : (ns.length : Int) < i + 1
    · simp only [w_nil, w_cons, kS_nx, kS_rt, kS_bk, kS_ct, kOwn_u, kOwn2_un, kOwn2_val, kOwn2_own, w_own, kAsg_u, w_asg, w_nm, kT_un, kT_val, kT_own, kTs_u, w_tpt, w_tpl, w_tn, w_tc, kSt_o, kSt_p, kSet3_u, kSet4_o, kSet4_p, kSet1_u, w_seti, kApp_u, kApp2_o, kApp2_p, oL_u, oL_o, oL_p, w_app, kExt_u, kExt2_o, kExt2_p, w_ext, kEx_u, w_ex, kRet_u, w_ret, w_rv, kRv_own, kRv_val, rt_cst, rt_glb, rt_op, rt_and, rt_or, rt_not, rt_ite, rt_chain, rt_chain3, rt_call, rt_callV, rt_comp, w_retn, w_pass, kIf_u, kIf_t, kIf_f, w_ifs, kFor4_u, kIt_u, kIt2_s, w_for, w_whl, kRse3_u, kRse2_s, kRse_u, w_rse, zf_nil, zf_cons, zM_s, kTry_u, w_try, w_cat0, kUn_nx, kCat_f, kCat_t, kSuN_n, kSuN_s, kSu_un, kSu_val, w_cat, w_suc, kSl_u, kSl2_un, kSl2_val, kSl2_own, w_sul, w_var, kVar_val, kVar_own, w_cst, w_glb, w_fnv, kE_u, kOpX_u, kOp3_ff, kOp2_s, kOp_u, w_op, kBl_u, kAnd_u, kAnd_t, kAnd_f, w_and, kOr_u, kOr_f, kOr_t, w_or, kNot_u, w_not, kIte_u, kIte_t, kIte_f, w_ite, kCh5_u, kLk4_t, kLk4_f, kLk3_u, kCh2_u, kCh1_u, w_chain, kC5_u, kC2_u, kC1_u, w_chain3, kB2_u, kBack_u, kBackX_u, kCall2_s, kCall_u, w_call, kCv2_s, kCv_u, w_callV, kCm4_u, kCm_u, w_comp, w_en, kCo_u, kEv_u, w_ec, w_pk, kPk_val, kPk_own, kPk_par, kD_u, od_var, od_cst, od_glb, od_op, od_and, od_or, od_not, od_ite, od_chain, od_chain3, od_fnv, od_callV, od_call, od_comp, kFz_u, w_fz, w_an, kAl_u, kAl_t, kAl_f, w_ac, kRun_nx, kRun_rt, kRunX_u, w_fn, w_fv, kFl_u, kFs_p, w_fl, wo_some, wp_ok, wp_ex, sl_0, sl_S, rd_v, rd_n, rs_v, rs_n, opds_nil, opds_cons, opC_s, opd_d, opd_pk, toArgs_nil, toArgs_cons, arC_s, toArg_d, toArg_k, arS_val, arS_own, arS_par, d_val, d_own, d_par, muts_nil, muts_d, muts_pk, mutC_t, mutC_f, m_val, m_own, m_par, pb_nil, pb_cons, put_own, put_par, nd_nil, nd_one, ie_nil, ie_cons, as_v, as_l, ip_pk, ip_d, List.set_cons_zero, List.set_cons_succ, hideE, backE, disp, midOp, mthd, kV_u, kVI_u, kVC_u, p_addI, p_addS, p_addL, p_addT, p_subI, p_mulI, p_mulS, p_mulL, p_mulT, p_fdiv, p_mod, p_pow, p_neg, p_eqI, p_eqS, p_neI, p_neS, p_eqL, p_eqT, p_eqN, p_eqB, p_neL, p_neT, p_neN, p_neB, p_lt, p_le, p_gt, p_ge, p_isN, p_notN, n_non, n_int, n_str, n_tup, n_lst, n_bl, p_inC, p_inL, p_inT, p_niC, p_niL, p_niT, p_ixL, p_ixT, p_ixR, p_ixS, p_sS0, p_sS1, p_sS2, p_sS3, p_sL1, p_sL2, p_sL3, p_sT1, p_sT2, p_sT3, p_revL, p_tup, p_lst, p_lenS, p_lenL, p_lenT, p_lenR, p_int, p_intB, p_listL, p_listT, p_tupleL, p_tupleT, p_min, p_max, kAB_u, kNB_u, p_all, p_any, p_isi, kJn_u, p_join, i_lst, i_tup, i_str, i_eL, i_eT, i_eS, i_r1, i_r2, i_r3, cut_n, kL_nx, kL_ct, kL_bk, kL_rt, kBd_u, kCi2_u, kCi1_t, kCi1_f, kCi_u, List.any_cons, List.any_nil, Bool.or_false, Bool.or_true, Bool.true_or, Bool.false_or, Bool.and_false, Bool.false_and, Bool.and_true, Bool.true_and, Bool.not_true, Bool.not_false, decide_true, decide_false, true_and, and_true, Nat.reduceAdd, Nat.zero_add, List.length_cons, List.length_nil, Int.reduceLT, Int.reduceLE, Int.reduceNeg, Int.reducePow, Int.reduceAdd, Int.reduceSub, Int.reduceMul, Nat.reduceLeDiff, Nat.reduceLT, Nat.reducePow, Nat.reduceMul, Int.reduceEq, Int.reduceToNat, typed, typOf, big, ne_eq, not_false_eq_true, reduceCtorEq, List.cons_append, List.nil_append, cg_is_from, ch_is_from, cg_is_row, ch_is_row, cf_need_row_0, cg_need_row, ch_need_row, cg_lots_of, ch_lots_of, cg_best_letter, ch_best_letter, cf_made_by_0, cg_made_by, ch_made_by, cf_part_choices_0, cg_part_choices, ch_part_choices, cg_joined, ch_joined, cf_nearest_0, cf_nearest_1, cg_nearest, ch_nearest, cg__law_taken, ch__law_taken, cf__law_row_0, cg__law_row, ch__law_row, cf__law_refused_0, cg__law_refused, ch__law_refused, cf_law_0, cf_law_1, cf_law_2, cg_law, ch_law, fl_1, fl_2, fl_3, su_1_3, su_1_2, su_3_3, su_3_2, su_2_3, su_2_2, at4_0, at4_1, at4_2, at4_3, ix4_1, ix4_2, ix4_3, c1, c2, h0, h1]
      exact k _ _ ⟨i + 1, _, t, rfl, by omega⟩ (hv _).1 (hv _).2
    · obtain ⟨x, hx, _⟩ := at_mem (xs := ns) hi (by omega)
      have e : i + 1 - 1 = i := by omega
      by_cases c3 : 1000000000000000000 ≤ x
      · simp only [w_nil, w_cons, kS_nx, kS_rt, kS_bk, kS_ct, kOwn_u, kOwn2_un, kOwn2_val, kOwn2_own, w_own, kAsg_u, w_asg, w_nm, kT_un, kT_val, kT_own, kTs_u, w_tpt, w_tpl, w_tn, w_tc, kSt_o, kSt_p, kSet3_u, kSet4_o, kSet4_p, kSet1_u, w_seti, kApp_u, kApp2_o, kApp2_p, oL_u, oL_o, oL_p, w_app, kExt_u, kExt2_o, kExt2_p, w_ext, kEx_u, w_ex, kRet_u, w_ret, w_rv, kRv_own, kRv_val, rt_cst, rt_glb, rt_op, rt_and, rt_or, rt_not, rt_ite, rt_chain, rt_chain3, rt_call, rt_callV, rt_comp, w_retn, w_pass, kIf_u, kIf_t, kIf_f, w_ifs, kFor4_u, kIt_u, kIt2_s, w_for, w_whl, kRse3_u, kRse2_s, kRse_u, w_rse, zf_nil, zf_cons, zM_s, kTry_u, w_try, w_cat0, kUn_nx, kCat_f, kCat_t, kSuN_n, kSuN_s, kSu_un, kSu_val, w_cat, w_suc, kSl_u, kSl2_un, kSl2_val, kSl2_own, w_sul, w_var, kVar_val, kVar_own, w_cst, w_glb, w_fnv, kE_u, kOpX_u, kOp3_ff, kOp2_s, kOp_u, w_op, kBl_u, kAnd_u, kAnd_t, kAnd_f, w_and, kOr_u, kOr_f, kOr_t, w_or, kNot_u, w_not, kIte_u, kIte_t, kIte_f, w_ite, kCh5_u, kLk4_t, kLk4_f, kLk3_u, kCh2_u, kCh1_u, w_chain, kC5_u, kC2_u, kC1_u, w_chain3, kB2_u, kBack_u, kBackX_u, kCall2_s, kCall_u, w_call, kCv2_s, kCv_u, w_callV, kCm4_u, kCm_u, w_comp, w_en, kCo_u, kEv_u, w_ec, w_pk, kPk_val, kPk_own, kPk_par, kD_u, od_var, od_cst, od_glb, od_op, od_and, od_or, od_not, od_ite, od_chain, od_chain3, od_fnv, od_callV, od_call, od_comp, kFz_u, w_fz, w_an, kAl_u, kAl_t, kAl_f, w_ac, kRun_nx, kRun_rt, kRunX_u, w_fn, w_fv, kFl_u, kFs_p, w_fl, wo_some, wp_ok, wp_ex, sl_0, sl_S, rd_v, rd_n, rs_v, rs_n, opds_nil, opds_cons, opC_s, opd_d, opd_pk, toArgs_nil, toArgs_cons, arC_s, toArg_d, toArg_k, arS_val, arS_own, arS_par, d_val, d_own, d_par, muts_nil, muts_d, muts_pk, mutC_t, mutC_f, m_val, m_own, m_par, pb_nil, pb_cons, put_own, put_par, nd_nil, nd_one, ie_nil, ie_cons, as_v, as_l, ip_pk, ip_d, List.set_cons_zero, List.set_cons_succ, hideE, backE, disp, midOp, mthd, kV_u, kVI_u, kVC_u, p_addI, p_addS, p_addL, p_addT, p_subI, p_mulI, p_mulS, p_mulL, p_mulT, p_fdiv, p_mod, p_pow, p_neg, p_eqI, p_eqS, p_neI, p_neS, p_eqL, p_eqT, p_eqN, p_eqB, p_neL, p_neT, p_neN, p_neB, p_lt, p_le, p_gt, p_ge, p_isN, p_notN, n_non, n_int, n_str, n_tup, n_lst, n_bl, p_inC, p_inL, p_inT, p_niC, p_niL, p_niT, p_ixL, p_ixT, p_ixR, p_ixS, p_sS0, p_sS1, p_sS2, p_sS3, p_sL1, p_sL2, p_sL3, p_sT1, p_sT2, p_sT3, p_revL, p_tup, p_lst, p_lenS, p_lenL, p_lenT, p_lenR, p_int, p_intB, p_listL, p_listT, p_tupleL, p_tupleT, p_min, p_max, kAB_u, kNB_u, p_all, p_any, p_isi, kJn_u, p_join, i_lst, i_tup, i_str, i_eL, i_eT, i_eS, i_r1, i_r2, i_r3, cut_n, kL_nx, kL_ct, kL_bk, kL_rt, kBd_u, kCi2_u, kCi1_t, kCi1_f, kCi_u, List.any_cons, List.any_nil, Bool.or_false, Bool.or_true, Bool.true_or, Bool.false_or, Bool.and_false, Bool.false_and, Bool.and_true, Bool.true_and, Bool.not_true, Bool.not_false, decide_true, decide_false, true_and, and_true, Nat.reduceAdd, Nat.zero_add, List.length_cons, List.length_nil, Int.reduceLT, Int.reduceLE, Int.reduceNeg, Int.reducePow, Int.reduceAdd, Int.reduceSub, Int.reduceMul, Nat.reduceLeDiff, Nat.reduceLT, Nat.reducePow, Nat.reduceMul, Int.reduceEq, Int.reduceToNat, typed, typOf, big, ne_eq, not_false_eq_true, reduceCtorEq, List.cons_append, List.nil_append, cg_is_from, ch_is_from, cg_is_row, ch_is_row, cf_need_row_0, cg_need_row, ch_need_row, cg_lots_of, ch_lots_of, cg_best_letter, ch_best_letter, cf_made_by_0, cg_made_by, ch_made_by, cf_part_choices_0, cg_part_choices, ch_part_choices, cg_joined, ch_joined, cf_nearest_0, cf_nearest_1, cg_nearest, ch_nearest, cg__law_taken, ch__law_taken, cf__law_row_0, cg__law_row, ch__law_row, cf__law_refused_0, cg__law_refused, ch__law_refused, cf_law_0, cf_law_1, cf_law_2, cg_law, ch_law, fl_1, fl_2, fl_3, su_1_3, su_1_2, su_3_3, su_3_2, su_2_3, su_2_2, at4_0, at4_1, at4_2, at4_3, ix4_1, ix4_2, ix4_3, c1, c2, c3, e, hx, h0, h1]
        exact k _ _ ⟨i + 1, _, _, rfl, by omega⟩ (hv _).1 (hv _).2
      · simp only [w_nil, w_cons, kS_nx, kS_rt, kS_bk, kS_ct, kOwn_u, kOwn2_un, kOwn2_val, kOwn2_own, w_own, kAsg_u, w_asg, w_nm, kT_un, kT_val, kT_own, kTs_u, w_tpt, w_tpl, w_tn, w_tc, kSt_o, kSt_p, kSet3_u, kSet4_o, kSet4_p, kSet1_u, w_seti, kApp_u, kApp2_o, kApp2_p, oL_u, oL_o, oL_p, w_app, kExt_u, kExt2_o, kExt2_p, w_ext, kEx_u, w_ex, kRet_u, w_ret, w_rv, kRv_own, kRv_val, rt_cst, rt_glb, rt_op, rt_and, rt_or, rt_not, rt_ite, rt_chain, rt_chain3, rt_call, rt_callV, rt_comp, w_retn, w_pass, kIf_u, kIf_t, kIf_f, w_ifs, kFor4_u, kIt_u, kIt2_s, w_for, w_whl, kRse3_u, kRse2_s, kRse_u, w_rse, zf_nil, zf_cons, zM_s, kTry_u, w_try, w_cat0, kUn_nx, kCat_f, kCat_t, kSuN_n, kSuN_s, kSu_un, kSu_val, w_cat, w_suc, kSl_u, kSl2_un, kSl2_val, kSl2_own, w_sul, w_var, kVar_val, kVar_own, w_cst, w_glb, w_fnv, kE_u, kOpX_u, kOp3_ff, kOp2_s, kOp_u, w_op, kBl_u, kAnd_u, kAnd_t, kAnd_f, w_and, kOr_u, kOr_f, kOr_t, w_or, kNot_u, w_not, kIte_u, kIte_t, kIte_f, w_ite, kCh5_u, kLk4_t, kLk4_f, kLk3_u, kCh2_u, kCh1_u, w_chain, kC5_u, kC2_u, kC1_u, w_chain3, kB2_u, kBack_u, kBackX_u, kCall2_s, kCall_u, w_call, kCv2_s, kCv_u, w_callV, kCm4_u, kCm_u, w_comp, w_en, kCo_u, kEv_u, w_ec, w_pk, kPk_val, kPk_own, kPk_par, kD_u, od_var, od_cst, od_glb, od_op, od_and, od_or, od_not, od_ite, od_chain, od_chain3, od_fnv, od_callV, od_call, od_comp, kFz_u, w_fz, w_an, kAl_u, kAl_t, kAl_f, w_ac, kRun_nx, kRun_rt, kRunX_u, w_fn, w_fv, kFl_u, kFs_p, w_fl, wo_some, wp_ok, wp_ex, sl_0, sl_S, rd_v, rd_n, rs_v, rs_n, opds_nil, opds_cons, opC_s, opd_d, opd_pk, toArgs_nil, toArgs_cons, arC_s, toArg_d, toArg_k, arS_val, arS_own, arS_par, d_val, d_own, d_par, muts_nil, muts_d, muts_pk, mutC_t, mutC_f, m_val, m_own, m_par, pb_nil, pb_cons, put_own, put_par, nd_nil, nd_one, ie_nil, ie_cons, as_v, as_l, ip_pk, ip_d, List.set_cons_zero, List.set_cons_succ, hideE, backE, disp, midOp, mthd, kV_u, kVI_u, kVC_u, p_addI, p_addS, p_addL, p_addT, p_subI, p_mulI, p_mulS, p_mulL, p_mulT, p_fdiv, p_mod, p_pow, p_neg, p_eqI, p_eqS, p_neI, p_neS, p_eqL, p_eqT, p_eqN, p_eqB, p_neL, p_neT, p_neN, p_neB, p_lt, p_le, p_gt, p_ge, p_isN, p_notN, n_non, n_int, n_str, n_tup, n_lst, n_bl, p_inC, p_inL, p_inT, p_niC, p_niL, p_niT, p_ixL, p_ixT, p_ixR, p_ixS, p_sS0, p_sS1, p_sS2, p_sS3, p_sL1, p_sL2, p_sL3, p_sT1, p_sT2, p_sT3, p_revL, p_tup, p_lst, p_lenS, p_lenL, p_lenT, p_lenR, p_int, p_intB, p_listL, p_listT, p_tupleL, p_tupleT, p_min, p_max, kAB_u, kNB_u, p_all, p_any, p_isi, kJn_u, p_join, i_lst, i_tup, i_str, i_eL, i_eT, i_eS, i_r1, i_r2, i_r3, cut_n, kL_nx, kL_ct, kL_bk, kL_rt, kBd_u, kCi2_u, kCi1_t, kCi1_f, kCi_u, List.any_cons, List.any_nil, Bool.or_false, Bool.or_true, Bool.true_or, Bool.false_or, Bool.and_false, Bool.false_and, Bool.and_true, Bool.true_and, Bool.not_true, Bool.not_false, decide_true, decide_false, true_and, and_true, Nat.reduceAdd, Nat.zero_add, List.length_cons, List.length_nil, Int.reduceLT, Int.reduceLE, Int.reduceNeg, Int.reducePow, Int.reduceAdd, Int.reduceSub, Int.reduceMul, Nat.reduceLeDiff, Nat.reduceLT, Nat.reducePow, Nat.reduceMul, Int.reduceEq, Int.reduceToNat, typed, typOf, big, ne_eq, not_false_eq_true, reduceCtorEq, List.cons_append, List.nil_append, cg_is_from, ch_is_from, cg_is_row, ch_is_row, cf_need_row_0, cg_need_row, ch_need_row, cg_lots_of, ch_lots_of, cg_best_letter, ch_best_letter, cf_made_by_0, cg_made_by, ch_made_by, cf_part_choices_0, cg_part_choices, ch_part_choices, cg_joined, ch_joined, cf_nearest_0, cf_nearest_1, cg_nearest, ch_nearest, cg__law_taken, ch__law_taken, cf__law_row_0, cg__law_row, ch__law_row, cf__law_refused_0, cg__law_refused, ch__law_refused, cf_law_0, cf_law_1, cf_law_2, cg_law, ch_law, fl_1, fl_2, fl_3, su_1_3, su_1_2, su_3_3, su_3_2, su_2_3, su_2_2, at4_0, at4_1, at4_2, at4_3, ix4_1, ix4_2, ix4_3, c1, c2, c3, e, hx, h0, h1]
        exact k _ _ ⟨i + 1, _, _, rfl, by omega⟩ (hv _).1 (hv _).2
/-- an integer from lo to hi, no truth value -/
def fromB (d : D) (lo hi : Int) : Bool := match d with
  | .int v => decide (lo ≤ v) && decide (v ≤ hi)
  | _ => false
theorem is_from_w {d : D} {lo hi : Int} {Q : Res → List D → Prop} {X : Xc → List D → Prop} (td : typed d = true) (k : Q (.val (.bl (fromB d lo hi))) []) : Wf (f_is_from [.val d, .val (.int lo), .val (.int hi)]) Q X := by
  rw [w_is_from]
  unfold b_is_from
  cases d with
  | int v =>
    by_cases h : lo ≤ v
    · simp only [w_nil, w_cons, kS_nx, kS_rt, kS_bk, kS_ct, kOwn_u, kOwn2_un, kOwn2_val, kOwn2_own, w_own, kAsg_u, w_asg, w_nm, kT_un, kT_val, kT_own, kTs_u, w_tpt, w_tpl, w_tn, w_tc, kSt_o, kSt_p, kSet3_u, kSet4_o, kSet4_p, kSet1_u, w_seti, kApp_u, kApp2_o, kApp2_p, oL_u, oL_o, oL_p, w_app, kExt_u, kExt2_o, kExt2_p, w_ext, kEx_u, w_ex, kRet_u, w_ret, w_rv, kRv_own, kRv_val, rt_cst, rt_glb, rt_op, rt_and, rt_or, rt_not, rt_ite, rt_chain, rt_chain3, rt_call, rt_callV, rt_comp, w_retn, w_pass, kIf_u, kIf_t, kIf_f, w_ifs, kFor4_u, kIt_u, kIt2_s, w_for, w_whl, kRse3_u, kRse2_s, kRse_u, w_rse, zf_nil, zf_cons, zM_s, kTry_u, w_try, w_cat0, kUn_nx, kCat_f, kCat_t, kSuN_n, kSuN_s, kSu_un, kSu_val, w_cat, w_suc, kSl_u, kSl2_un, kSl2_val, kSl2_own, w_sul, w_var, kVar_val, kVar_own, w_cst, w_glb, w_fnv, kE_u, kOpX_u, kOp3_ff, kOp2_s, kOp_u, w_op, kBl_u, kAnd_u, kAnd_t, kAnd_f, w_and, kOr_u, kOr_f, kOr_t, w_or, kNot_u, w_not, kIte_u, kIte_t, kIte_f, w_ite, kCh5_u, kLk4_t, kLk4_f, kLk3_u, kCh2_u, kCh1_u, w_chain, kC5_u, kC2_u, kC1_u, w_chain3, kB2_u, kBack_u, kBackX_u, kCall2_s, kCall_u, w_call, kCv2_s, kCv_u, w_callV, kCm4_u, kCm_u, w_comp, w_en, kCo_u, kEv_u, w_ec, w_pk, kPk_val, kPk_own, kPk_par, kD_u, od_var, od_cst, od_glb, od_op, od_and, od_or, od_not, od_ite, od_chain, od_chain3, od_fnv, od_callV, od_call, od_comp, kFz_u, w_fz, w_an, kAl_u, kAl_t, kAl_f, w_ac, kRun_nx, kRun_rt, kRunX_u, w_fn, w_fv, kFl_u, kFs_p, w_fl, wo_some, wp_ok, wp_ex, sl_0, sl_S, rd_v, rd_n, rs_v, rs_n, opds_nil, opds_cons, opC_s, opd_d, opd_pk, toArgs_nil, toArgs_cons, arC_s, toArg_d, toArg_k, arS_val, arS_own, arS_par, d_val, d_own, d_par, muts_nil, muts_d, muts_pk, mutC_t, mutC_f, m_val, m_own, m_par, pb_nil, pb_cons, put_own, put_par, nd_nil, nd_one, ie_nil, ie_cons, as_v, as_l, ip_pk, ip_d, List.set_cons_zero, List.set_cons_succ, hideE, backE, disp, midOp, mthd, kV_u, kVI_u, kVC_u, p_addI, p_addS, p_addL, p_addT, p_subI, p_mulI, p_mulS, p_mulL, p_mulT, p_fdiv, p_mod, p_pow, p_neg, p_eqI, p_eqS, p_neI, p_neS, p_eqL, p_eqT, p_eqN, p_eqB, p_neL, p_neT, p_neN, p_neB, p_lt, p_le, p_gt, p_ge, p_isN, p_notN, n_non, n_int, n_str, n_tup, n_lst, n_bl, p_inC, p_inL, p_inT, p_niC, p_niL, p_niT, p_ixL, p_ixT, p_ixR, p_ixS, p_sS0, p_sS1, p_sS2, p_sS3, p_sL1, p_sL2, p_sL3, p_sT1, p_sT2, p_sT3, p_revL, p_tup, p_lst, p_lenS, p_lenL, p_lenT, p_lenR, p_int, p_intB, p_listL, p_listT, p_tupleL, p_tupleT, p_min, p_max, kAB_u, kNB_u, p_all, p_any, p_isi, kJn_u, p_join, i_lst, i_tup, i_str, i_eL, i_eT, i_eS, i_r1, i_r2, i_r3, cut_n, kL_nx, kL_ct, kL_bk, kL_rt, kBd_u, kCi2_u, kCi1_t, kCi1_f, kCi_u, List.any_cons, List.any_nil, Bool.or_false, Bool.or_true, Bool.true_or, Bool.false_or, Bool.and_false, Bool.false_and, Bool.and_true, Bool.true_and, Bool.not_true, Bool.not_false, decide_true, decide_false, true_and, and_true, Nat.reduceAdd, Nat.zero_add, List.length_cons, List.length_nil, Int.reduceLT, Int.reduceLE, Int.reduceNeg, Int.reducePow, Int.reduceAdd, Int.reduceSub, Int.reduceMul, Nat.reduceLeDiff, Nat.reduceLT, Nat.reducePow, Nat.reduceMul, Int.reduceEq, Int.reduceToNat, typed, typOf, big, ne_eq, not_false_eq_true, reduceCtorEq, List.cons_append, List.nil_append, cg_is_from, ch_is_from, cg_is_row, ch_is_row, cf_need_row_0, cg_need_row, ch_need_row, cg_lots_of, ch_lots_of, cg_best_letter, ch_best_letter, cf_made_by_0, cg_made_by, ch_made_by, cf_part_choices_0, cg_part_choices, ch_part_choices, cg_joined, ch_joined, cf_nearest_0, cf_nearest_1, cg_nearest, ch_nearest, cg__law_taken, ch__law_taken, cf__law_row_0, cg__law_row, ch__law_row, cf__law_refused_0, cg__law_refused, ch__law_refused, cf_law_0, cf_law_1, cf_law_2, cg_law, ch_law, fl_1, fl_2, fl_3, su_1_3, su_1_2, su_3_3, su_3_2, su_2_3, su_2_2, h]
      simpa only [fromB, h, decide_true, Bool.true_and] using k
    · simp only [w_nil, w_cons, kS_nx, kS_rt, kS_bk, kS_ct, kOwn_u, kOwn2_un, kOwn2_val, kOwn2_own, w_own, kAsg_u, w_asg, w_nm, kT_un, kT_val, kT_own, kTs_u, w_tpt, w_tpl, w_tn, w_tc, kSt_o, kSt_p, kSet3_u, kSet4_o, kSet4_p, kSet1_u, w_seti, kApp_u, kApp2_o, kApp2_p, oL_u, oL_o, oL_p, w_app, kExt_u, kExt2_o, kExt2_p, w_ext, kEx_u, w_ex, kRet_u, w_ret, w_rv, kRv_own, kRv_val, rt_cst, rt_glb, rt_op, rt_and, rt_or, rt_not, rt_ite, rt_chain, rt_chain3, rt_call, rt_callV, rt_comp, w_retn, w_pass, kIf_u, kIf_t, kIf_f, w_ifs, kFor4_u, kIt_u, kIt2_s, w_for, w_whl, kRse3_u, kRse2_s, kRse_u, w_rse, zf_nil, zf_cons, zM_s, kTry_u, w_try, w_cat0, kUn_nx, kCat_f, kCat_t, kSuN_n, kSuN_s, kSu_un, kSu_val, w_cat, w_suc, kSl_u, kSl2_un, kSl2_val, kSl2_own, w_sul, w_var, kVar_val, kVar_own, w_cst, w_glb, w_fnv, kE_u, kOpX_u, kOp3_ff, kOp2_s, kOp_u, w_op, kBl_u, kAnd_u, kAnd_t, kAnd_f, w_and, kOr_u, kOr_f, kOr_t, w_or, kNot_u, w_not, kIte_u, kIte_t, kIte_f, w_ite, kCh5_u, kLk4_t, kLk4_f, kLk3_u, kCh2_u, kCh1_u, w_chain, kC5_u, kC2_u, kC1_u, w_chain3, kB2_u, kBack_u, kBackX_u, kCall2_s, kCall_u, w_call, kCv2_s, kCv_u, w_callV, kCm4_u, kCm_u, w_comp, w_en, kCo_u, kEv_u, w_ec, w_pk, kPk_val, kPk_own, kPk_par, kD_u, od_var, od_cst, od_glb, od_op, od_and, od_or, od_not, od_ite, od_chain, od_chain3, od_fnv, od_callV, od_call, od_comp, kFz_u, w_fz, w_an, kAl_u, kAl_t, kAl_f, w_ac, kRun_nx, kRun_rt, kRunX_u, w_fn, w_fv, kFl_u, kFs_p, w_fl, wo_some, wp_ok, wp_ex, sl_0, sl_S, rd_v, rd_n, rs_v, rs_n, opds_nil, opds_cons, opC_s, opd_d, opd_pk, toArgs_nil, toArgs_cons, arC_s, toArg_d, toArg_k, arS_val, arS_own, arS_par, d_val, d_own, d_par, muts_nil, muts_d, muts_pk, mutC_t, mutC_f, m_val, m_own, m_par, pb_nil, pb_cons, put_own, put_par, nd_nil, nd_one, ie_nil, ie_cons, as_v, as_l, ip_pk, ip_d, List.set_cons_zero, List.set_cons_succ, hideE, backE, disp, midOp, mthd, kV_u, kVI_u, kVC_u, p_addI, p_addS, p_addL, p_addT, p_subI, p_mulI, p_mulS, p_mulL, p_mulT, p_fdiv, p_mod, p_pow, p_neg, p_eqI, p_eqS, p_neI, p_neS, p_eqL, p_eqT, p_eqN, p_eqB, p_neL, p_neT, p_neN, p_neB, p_lt, p_le, p_gt, p_ge, p_isN, p_notN, n_non, n_int, n_str, n_tup, n_lst, n_bl, p_inC, p_inL, p_inT, p_niC, p_niL, p_niT, p_ixL, p_ixT, p_ixR, p_ixS, p_sS0, p_sS1, p_sS2, p_sS3, p_sL1, p_sL2, p_sL3, p_sT1, p_sT2, p_sT3, p_revL, p_tup, p_lst, p_lenS, p_lenL, p_lenT, p_lenR, p_int, p_intB, p_listL, p_listT, p_tupleL, p_tupleT, p_min, p_max, kAB_u, kNB_u, p_all, p_any, p_isi, kJn_u, p_join, i_lst, i_tup, i_str, i_eL, i_eT, i_eS, i_r1, i_r2, i_r3, cut_n, kL_nx, kL_ct, kL_bk, kL_rt, kBd_u, kCi2_u, kCi1_t, kCi1_f, kCi_u, List.any_cons, List.any_nil, Bool.or_false, Bool.or_true, Bool.true_or, Bool.false_or, Bool.and_false, Bool.false_and, Bool.and_true, Bool.true_and, Bool.not_true, Bool.not_false, decide_true, decide_false, true_and, and_true, Nat.reduceAdd, Nat.zero_add, List.length_cons, List.length_nil, Int.reduceLT, Int.reduceLE, Int.reduceNeg, Int.reducePow, Int.reduceAdd, Int.reduceSub, Int.reduceMul, Nat.reduceLeDiff, Nat.reduceLT, Nat.reducePow, Nat.reduceMul, Int.reduceEq, Int.reduceToNat, typed, typOf, big, ne_eq, not_false_eq_true, reduceCtorEq, List.cons_append, List.nil_append, cg_is_from, ch_is_from, cg_is_row, ch_is_row, cf_need_row_0, cg_need_row, ch_need_row, cg_lots_of, ch_lots_of, cg_best_letter, ch_best_letter, cf_made_by_0, cg_made_by, ch_made_by, cf_part_choices_0, cg_part_choices, ch_part_choices, cg_joined, ch_joined, cf_nearest_0, cf_nearest_1, cg_nearest, ch_nearest, cg__law_taken, ch__law_taken, cf__law_row_0, cg__law_row, ch__law_row, cf__law_refused_0, cg__law_refused, ch__law_refused, cf_law_0, cf_law_1, cf_law_2, cg_law, ch_law, fl_1, fl_2, fl_3, su_1_3, su_1_2, su_3_3, su_3_2, su_2_3, su_2_2, h]
      simpa only [fromB, h, decide_false, Bool.false_and] using k
  | fn g => cases td
  | scr g => cases td
  | _ => simp only [w_nil, w_cons, kS_nx, kS_rt, kS_bk, kS_ct, kOwn_u, kOwn2_un, kOwn2_val, kOwn2_own, w_own, kAsg_u, w_asg, w_nm, kT_un, kT_val, kT_own, kTs_u, w_tpt, w_tpl, w_tn, w_tc, kSt_o, kSt_p, kSet3_u, kSet4_o, kSet4_p, kSet1_u, w_seti, kApp_u, kApp2_o, kApp2_p, oL_u, oL_o, oL_p, w_app, kExt_u, kExt2_o, kExt2_p, w_ext, kEx_u, w_ex, kRet_u, w_ret, w_rv, kRv_own, kRv_val, rt_cst, rt_glb, rt_op, rt_and, rt_or, rt_not, rt_ite, rt_chain, rt_chain3, rt_call, rt_callV, rt_comp, w_retn, w_pass, kIf_u, kIf_t, kIf_f, w_ifs, kFor4_u, kIt_u, kIt2_s, w_for, w_whl, kRse3_u, kRse2_s, kRse_u, w_rse, zf_nil, zf_cons, zM_s, kTry_u, w_try, w_cat0, kUn_nx, kCat_f, kCat_t, kSuN_n, kSuN_s, kSu_un, kSu_val, w_cat, w_suc, kSl_u, kSl2_un, kSl2_val, kSl2_own, w_sul, w_var, kVar_val, kVar_own, w_cst, w_glb, w_fnv, kE_u, kOpX_u, kOp3_ff, kOp2_s, kOp_u, w_op, kBl_u, kAnd_u, kAnd_t, kAnd_f, w_and, kOr_u, kOr_f, kOr_t, w_or, kNot_u, w_not, kIte_u, kIte_t, kIte_f, w_ite, kCh5_u, kLk4_t, kLk4_f, kLk3_u, kCh2_u, kCh1_u, w_chain, kC5_u, kC2_u, kC1_u, w_chain3, kB2_u, kBack_u, kBackX_u, kCall2_s, kCall_u, w_call, kCv2_s, kCv_u, w_callV, kCm4_u, kCm_u, w_comp, w_en, kCo_u, kEv_u, w_ec, w_pk, kPk_val, kPk_own, kPk_par, kD_u, od_var, od_cst, od_glb, od_op, od_and, od_or, od_not, od_ite, od_chain, od_chain3, od_fnv, od_callV, od_call, od_comp, kFz_u, w_fz, w_an, kAl_u, kAl_t, kAl_f, w_ac, kRun_nx, kRun_rt, kRunX_u, w_fn, w_fv, kFl_u, kFs_p, w_fl, wo_some, wp_ok, wp_ex, sl_0, sl_S, rd_v, rd_n, rs_v, rs_n, opds_nil, opds_cons, opC_s, opd_d, opd_pk, toArgs_nil, toArgs_cons, arC_s, toArg_d, toArg_k, arS_val, arS_own, arS_par, d_val, d_own, d_par, muts_nil, muts_d, muts_pk, mutC_t, mutC_f, m_val, m_own, m_par, pb_nil, pb_cons, put_own, put_par, nd_nil, nd_one, ie_nil, ie_cons, as_v, as_l, ip_pk, ip_d, List.set_cons_zero, List.set_cons_succ, hideE, backE, disp, midOp, mthd, kV_u, kVI_u, kVC_u, p_addI, p_addS, p_addL, p_addT, p_subI, p_mulI, p_mulS, p_mulL, p_mulT, p_fdiv, p_mod, p_pow, p_neg, p_eqI, p_eqS, p_neI, p_neS, p_eqL, p_eqT, p_eqN, p_eqB, p_neL, p_neT, p_neN, p_neB, p_lt, p_le, p_gt, p_ge, p_isN, p_notN, n_non, n_int, n_str, n_tup, n_lst, n_bl, p_inC, p_inL, p_inT, p_niC, p_niL, p_niT, p_ixL, p_ixT, p_ixR, p_ixS, p_sS0, p_sS1, p_sS2, p_sS3, p_sL1, p_sL2, p_sL3, p_sT1, p_sT2, p_sT3, p_revL, p_tup, p_lst, p_lenS, p_lenL, p_lenT, p_lenR, p_int, p_intB, p_listL, p_listT, p_tupleL, p_tupleT, p_min, p_max, kAB_u, kNB_u, p_all, p_any, p_isi, kJn_u, p_join, i_lst, i_tup, i_str, i_eL, i_eT, i_eS, i_r1, i_r2, i_r3, cut_n, kL_nx, kL_ct, kL_bk, kL_rt, kBd_u, kCi2_u, kCi1_t, kCi1_f, kCi_u, List.any_cons, List.any_nil, Bool.or_false, Bool.or_true, Bool.true_or, Bool.false_or, Bool.and_false, Bool.false_and, Bool.and_true, Bool.true_and, Bool.not_true, Bool.not_false, decide_true, decide_false, true_and, and_true, Nat.reduceAdd, Nat.zero_add, List.length_cons, List.length_nil, Int.reduceLT, Int.reduceLE, Int.reduceNeg, Int.reducePow, Int.reduceAdd, Int.reduceSub, Int.reduceMul, Nat.reduceLeDiff, Nat.reduceLT, Nat.reducePow, Nat.reduceMul, Int.reduceEq, Int.reduceToNat, typed, typOf, big, ne_eq, not_false_eq_true, reduceCtorEq, List.cons_append, List.nil_append, cg_is_from, ch_is_from, cg_is_row, ch_is_row, cf_need_row_0, cg_need_row, ch_need_row, cg_lots_of, ch_lots_of, cg_best_letter, ch_best_letter, cf_made_by_0, cg_made_by, ch_made_by, cf_part_choices_0, cg_part_choices, ch_part_choices, cg_joined, ch_joined, cf_nearest_0, cf_nearest_1, cg_nearest, ch_nearest, cg__law_taken, ch__law_taken, cf__law_row_0, cg__law_row, ch__law_row, cf__law_refused_0, cg__law_refused, ch__law_refused, cf_law_0, cf_law_1, cf_law_2, cg_law, ch_law, fl_1, fl_2, fl_3, su_1_3, su_1_2, su_3_3, su_3_2, su_2_3, su_2_2]; exact k
def abc : List Nat := [97, 98, 99, 100, 101, 102, 103, 104, 46]
/-- a row of cells -/
def rowB (s : List Nat) : Bool := decide (1 ≤ s.length) && decide (s.length ≤ 12) && s.all (abc.contains ·)
def rowV (d : D) : Bool := match d with
  | .str s => rowB s
  | _ => false
def RowOk (s : List Nat) : Prop := 1 ≤ s.length ∧ s.length ≤ 12 ∧ ∀ c ∈ s, c ∈ abc
theorem rowB_t {s : List Nat} : rowB s = true ↔ RowOk s := by
  simp only [rowB, RowOk, Bool.and_eq_true, decide_eq_true_eq, List.all_eq_true, List.contains_iff_mem, and_assoc]
theorem is_row_w {d : D} {Q : Res → List D → Prop} {X : Xc → List D → Prop} (td : typed d = true) (hs : ∀ s, d = .str s → s.length ≤ 1000) (k : Q (.val (.bl (rowV d))) []) : Wf (f_is_row [.val d]) Q X := by
  rw [w_is_row]
  unfold b_is_row
  cases d with
  | str s =>
    have h2 := hs s rfl
    have hb : s.length ≤ 100000 := by omega
    have k : Q (.val (.bl (rowB s))) [] := k
    by_cases h1 : 1 ≤ s.length
    · by_cases h3 : s.length ≤ 12
      · have c1 : (1 : Int) ≤ s.length := by omega
        have c3 : (s.length : Int) ≤ 12 := by omega
        simp only [w_nil, w_cons, kS_nx, kS_rt, kS_bk, kS_ct, kOwn_u, kOwn2_un, kOwn2_val, kOwn2_own, w_own, kAsg_u, w_asg, w_nm, kT_un, kT_val, kT_own, kTs_u, w_tpt, w_tpl, w_tn, w_tc, kSt_o, kSt_p, kSet3_u, kSet4_o, kSet4_p, kSet1_u, w_seti, kApp_u, kApp2_o, kApp2_p, oL_u, oL_o, oL_p, w_app, kExt_u, kExt2_o, kExt2_p, w_ext, kEx_u, w_ex, kRet_u, w_ret, w_rv, kRv_own, kRv_val, rt_cst, rt_glb, rt_op, rt_and, rt_or, rt_not, rt_ite, rt_chain, rt_chain3, rt_call, rt_callV, rt_comp, w_retn, w_pass, kIf_u, kIf_t, kIf_f, w_ifs, kFor4_u, kIt_u, kIt2_s, w_for, w_whl, kRse3_u, kRse2_s, kRse_u, w_rse, zf_nil, zf_cons, zM_s, kTry_u, w_try, w_cat0, kUn_nx, kCat_f, kCat_t, kSuN_n, kSuN_s, kSu_un, kSu_val, w_cat, w_suc, kSl_u, kSl2_un, kSl2_val, kSl2_own, w_sul, w_var, kVar_val, kVar_own, w_cst, w_glb, w_fnv, kE_u, kOpX_u, kOp3_ff, kOp2_s, kOp_u, w_op, kBl_u, kAnd_u, kAnd_t, kAnd_f, w_and, kOr_u, kOr_f, kOr_t, w_or, kNot_u, w_not, kIte_u, kIte_t, kIte_f, w_ite, kCh5_u, kLk4_t, kLk4_f, kLk3_u, kCh2_u, kCh1_u, w_chain, kC5_u, kC2_u, kC1_u, w_chain3, kB2_u, kBack_u, kBackX_u, kCall2_s, kCall_u, w_call, kCv2_s, kCv_u, w_callV, kCm4_u, kCm_u, w_comp, w_en, kCo_u, kEv_u, w_ec, w_pk, kPk_val, kPk_own, kPk_par, kD_u, od_var, od_cst, od_glb, od_op, od_and, od_or, od_not, od_ite, od_chain, od_chain3, od_fnv, od_callV, od_call, od_comp, kFz_u, w_fz, w_an, kAl_u, kAl_t, kAl_f, w_ac, kRun_nx, kRun_rt, kRunX_u, w_fn, w_fv, kFl_u, kFs_p, w_fl, wo_some, wp_ok, wp_ex, sl_0, sl_S, rd_v, rd_n, rs_v, rs_n, opds_nil, opds_cons, opC_s, opd_d, opd_pk, toArgs_nil, toArgs_cons, arC_s, toArg_d, toArg_k, arS_val, arS_own, arS_par, d_val, d_own, d_par, muts_nil, muts_d, muts_pk, mutC_t, mutC_f, m_val, m_own, m_par, pb_nil, pb_cons, put_own, put_par, nd_nil, nd_one, ie_nil, ie_cons, as_v, as_l, ip_pk, ip_d, List.set_cons_zero, List.set_cons_succ, hideE, backE, disp, midOp, mthd, kV_u, kVI_u, kVC_u, p_addI, p_addS, p_addL, p_addT, p_subI, p_mulI, p_mulS, p_mulL, p_mulT, p_fdiv, p_mod, p_pow, p_neg, p_eqI, p_eqS, p_neI, p_neS, p_eqL, p_eqT, p_eqN, p_eqB, p_neL, p_neT, p_neN, p_neB, p_lt, p_le, p_gt, p_ge, p_isN, p_notN, n_non, n_int, n_str, n_tup, n_lst, n_bl, p_inC, p_inL, p_inT, p_niC, p_niL, p_niT, p_ixL, p_ixT, p_ixR, p_ixS, p_sS0, p_sS1, p_sS2, p_sS3, p_sL1, p_sL2, p_sL3, p_sT1, p_sT2, p_sT3, p_revL, p_tup, p_lst, p_lenS, p_lenL, p_lenT, p_lenR, p_int, p_intB, p_listL, p_listT, p_tupleL, p_tupleT, p_min, p_max, kAB_u, kNB_u, p_all, p_any, p_isi, kJn_u, p_join, i_lst, i_tup, i_str, i_eL, i_eT, i_eS, i_r1, i_r2, i_r3, cut_n, kL_nx, kL_ct, kL_bk, kL_rt, kBd_u, kCi2_u, kCi1_t, kCi1_f, kCi_u, List.any_cons, List.any_nil, Bool.or_false, Bool.or_true, Bool.true_or, Bool.false_or, Bool.and_false, Bool.false_and, Bool.and_true, Bool.true_and, Bool.not_true, Bool.not_false, decide_true, decide_false, true_and, and_true, Nat.reduceAdd, Nat.zero_add, List.length_cons, List.length_nil, Int.reduceLT, Int.reduceLE, Int.reduceNeg, Int.reducePow, Int.reduceAdd, Int.reduceSub, Int.reduceMul, Nat.reduceLeDiff, Nat.reduceLT, Nat.reducePow, Nat.reduceMul, Int.reduceEq, Int.reduceToNat, typed, typOf, big, ne_eq, not_false_eq_true, reduceCtorEq, List.cons_append, List.nil_append, cg_is_from, ch_is_from, cg_is_row, ch_is_row, cf_need_row_0, cg_need_row, ch_need_row, cg_lots_of, ch_lots_of, cg_best_letter, ch_best_letter, cf_made_by_0, cg_made_by, ch_made_by, cf_part_choices_0, cg_part_choices, ch_part_choices, cg_joined, ch_joined, cf_nearest_0, cf_nearest_1, cg_nearest, ch_nearest, cg__law_taken, ch__law_taken, cf__law_row_0, cg__law_row, ch__law_row, cf__law_refused_0, cg__law_refused, ch__law_refused, cf_law_0, cf_law_1, cf_law_2, cg_law, ch_law, fl_1, fl_2, fl_3, su_1_3, su_1_2, su_3_3, su_3_2, su_2_3, su_2_2, hb, c1, c3]
        refine w_compI (fun r acc e => ∃ a b, s = a ++ b ∧ r = (b.map fun c => D.str [c]) ∧ acc = (a.map fun c => D.bl (abc.contains c)) ∧ e = [.val (.str s), .un]) _ _ _ ⟨[], s, rfl, rfl, rfl, rfl⟩ ?_ ?_
        · intro x r acc e ⟨a, b, e1, e2, e3, e4⟩
          subst e4
          cases b with
          | nil => cases e2
          | cons c b =>
            rw [List.map_cons] at e2
            obtain ⟨rfl, rfl⟩ := List.cons.inj e2
            simp only [w_nil, w_cons, kS_nx, kS_rt, kS_bk, kS_ct, kOwn_u, kOwn2_un, kOwn2_val, kOwn2_own, w_own, kAsg_u, w_asg, w_nm, kT_un, kT_val, kT_own, kTs_u, w_tpt, w_tpl, w_tn, w_tc, kSt_o, kSt_p, kSet3_u, kSet4_o, kSet4_p, kSet1_u, w_seti, kApp_u, kApp2_o, kApp2_p, oL_u, oL_o, oL_p, w_app, kExt_u, kExt2_o, kExt2_p, w_ext, kEx_u, w_ex, kRet_u, w_ret, w_rv, kRv_own, kRv_val, rt_cst, rt_glb, rt_op, rt_and, rt_or, rt_not, rt_ite, rt_chain, rt_chain3, rt_call, rt_callV, rt_comp, w_retn, w_pass, kIf_u, kIf_t, kIf_f, w_ifs, kFor4_u, kIt_u, kIt2_s, w_for, w_whl, kRse3_u, kRse2_s, kRse_u, w_rse, zf_nil, zf_cons, zM_s, kTry_u, w_try, w_cat0, kUn_nx, kCat_f, kCat_t, kSuN_n, kSuN_s, kSu_un, kSu_val, w_cat, w_suc, kSl_u, kSl2_un, kSl2_val, kSl2_own, w_sul, w_var, kVar_val, kVar_own, w_cst, w_glb, w_fnv, kE_u, kOpX_u, kOp3_ff, kOp2_s, kOp_u, w_op, kBl_u, kAnd_u, kAnd_t, kAnd_f, w_and, kOr_u, kOr_f, kOr_t, w_or, kNot_u, w_not, kIte_u, kIte_t, kIte_f, w_ite, kCh5_u, kLk4_t, kLk4_f, kLk3_u, kCh2_u, kCh1_u, w_chain, kC5_u, kC2_u, kC1_u, w_chain3, kB2_u, kBack_u, kBackX_u, kCall2_s, kCall_u, w_call, kCv2_s, kCv_u, w_callV, kCm4_u, kCm_u, w_comp, w_en, kCo_u, kEv_u, w_ec, w_pk, kPk_val, kPk_own, kPk_par, kD_u, od_var, od_cst, od_glb, od_op, od_and, od_or, od_not, od_ite, od_chain, od_chain3, od_fnv, od_callV, od_call, od_comp, kFz_u, w_fz, w_an, kAl_u, kAl_t, kAl_f, w_ac, kRun_nx, kRun_rt, kRunX_u, w_fn, w_fv, kFl_u, kFs_p, w_fl, wo_some, wp_ok, wp_ex, sl_0, sl_S, rd_v, rd_n, rs_v, rs_n, opds_nil, opds_cons, opC_s, opd_d, opd_pk, toArgs_nil, toArgs_cons, arC_s, toArg_d, toArg_k, arS_val, arS_own, arS_par, d_val, d_own, d_par, muts_nil, muts_d, muts_pk, mutC_t, mutC_f, m_val, m_own, m_par, pb_nil, pb_cons, put_own, put_par, nd_nil, nd_one, ie_nil, ie_cons, as_v, as_l, ip_pk, ip_d, List.set_cons_zero, List.set_cons_succ, hideE, backE, disp, midOp, mthd, kV_u, kVI_u, kVC_u, p_addI, p_addS, p_addL, p_addT, p_subI, p_mulI, p_mulS, p_mulL, p_mulT, p_fdiv, p_mod, p_pow, p_neg, p_eqI, p_eqS, p_neI, p_neS, p_eqL, p_eqT, p_eqN, p_eqB, p_neL, p_neT, p_neN, p_neB, p_lt, p_le, p_gt, p_ge, p_isN, p_notN, n_non, n_int, n_str, n_tup, n_lst, n_bl, p_inC, p_inL, p_inT, p_niC, p_niL, p_niT, p_ixL, p_ixT, p_ixR, p_ixS, p_sS0, p_sS1, p_sS2, p_sS3, p_sL1, p_sL2, p_sL3, p_sT1, p_sT2, p_sT3, p_revL, p_tup, p_lst, p_lenS, p_lenL, p_lenT, p_lenR, p_int, p_intB, p_listL, p_listT, p_tupleL, p_tupleT, p_min, p_max, kAB_u, kNB_u, p_all, p_any, p_isi, kJn_u, p_join, i_lst, i_tup, i_str, i_eL, i_eT, i_eS, i_r1, i_r2, i_r3, cut_n, kL_nx, kL_ct, kL_bk, kL_rt, kBd_u, kCi2_u, kCi1_t, kCi1_f, kCi_u, List.any_cons, List.any_nil, Bool.or_false, Bool.or_true, Bool.true_or, Bool.false_or, Bool.and_false, Bool.false_and, Bool.and_true, Bool.true_and, Bool.not_true, Bool.not_false, decide_true, decide_false, true_and, and_true, Nat.reduceAdd, Nat.zero_add, List.length_cons, List.length_nil, Int.reduceLT, Int.reduceLE, Int.reduceNeg, Int.reducePow, Int.reduceAdd, Int.reduceSub, Int.reduceMul, Nat.reduceLeDiff, Nat.reduceLT, Nat.reducePow, Nat.reduceMul, Int.reduceEq, Int.reduceToNat, typed, typOf, big, ne_eq, not_false_eq_true, reduceCtorEq, List.cons_append, List.nil_append, cg_is_from, ch_is_from, cg_is_row, ch_is_row, cf_need_row_0, cg_need_row, ch_need_row, cg_lots_of, ch_lots_of, cg_best_letter, ch_best_letter, cf_made_by_0, cg_made_by, ch_made_by, cf_part_choices_0, cg_part_choices, ch_part_choices, cg_joined, ch_joined, cf_nearest_0, cf_nearest_1, cg_nearest, ch_nearest, cg__law_taken, ch__law_taken, cf__law_row_0, cg__law_row, ch__law_row, cf__law_refused_0, cg__law_refused, ch__law_refused, cf_law_0, cf_law_1, cf_law_2, cg_law, ch_law, fl_1, fl_2, fl_3, su_1_3, su_1_2, su_3_3, su_3_2, su_2_3, su_2_2]
            refine ⟨?_, a ++ [c], b, by rw [e1, List.append_assoc]; rfl, rfl, ?_⟩
            · rw [e3, List.length_map]
              have := congrArg List.length e1
              rw [List.length_append] at this
              omega
            · rw [e3, List.map_append]
              congr 1
              simp only [List.map_cons, List.map_nil, List.cons.injEq, D.bl.injEq, and_true]
              by_cases hc : c ∈ abc
              · rw [decide_eq_true (show c ∈ [97, 98, 99, 100, 101, 102, 103, 104, 46] from hc), List.contains_iff_mem.mpr hc]
              · rw [decide_eq_false (show c ∉ [97, 98, 99, 100, 101, 102, 103, 104, 46] from hc)]
                cases hh : abc.contains c with
                | false => rfl
                | true => exact absurd (List.contains_iff_mem.mp hh) hc
        · intro acc e ⟨a, b, e1, e2, e3, e4⟩
          cases b with
          | cons c b => cases e2
          | nil =>
            subst e4
            have bls : ∀ l : List Nat, bls? (l.map fun c => D.bl (abc.contains c)) = some (l.map fun c => abc.contains c) := fun l => by
              induction l with
              | nil => rfl
              | cons c l ih => simp only [List.map_cons, bls?, ih]; rfl
            simp only [w_nil, w_cons, kS_nx, kS_rt, kS_bk, kS_ct, kOwn_u, kOwn2_un, kOwn2_val, kOwn2_own, w_own, kAsg_u, w_asg, w_nm, kT_un, kT_val, kT_own, kTs_u, w_tpt, w_tpl, w_tn, w_tc, kSt_o, kSt_p, kSet3_u, kSet4_o, kSet4_p, kSet1_u, w_seti, kApp_u, kApp2_o, kApp2_p, oL_u, oL_o, oL_p, w_app, kExt_u, kExt2_o, kExt2_p, w_ext, kEx_u, w_ex, kRet_u, w_ret, w_rv, kRv_own, kRv_val, rt_cst, rt_glb, rt_op, rt_and, rt_or, rt_not, rt_ite, rt_chain, rt_chain3, rt_call, rt_callV, rt_comp, w_retn, w_pass, kIf_u, kIf_t, kIf_f, w_ifs, kFor4_u, kIt_u, kIt2_s, w_for, w_whl, kRse3_u, kRse2_s, kRse_u, w_rse, zf_nil, zf_cons, zM_s, kTry_u, w_try, w_cat0, kUn_nx, kCat_f, kCat_t, kSuN_n, kSuN_s, kSu_un, kSu_val, w_cat, w_suc, kSl_u, kSl2_un, kSl2_val, kSl2_own, w_sul, w_var, kVar_val, kVar_own, w_cst, w_glb, w_fnv, kE_u, kOpX_u, kOp3_ff, kOp2_s, kOp_u, w_op, kBl_u, kAnd_u, kAnd_t, kAnd_f, w_and, kOr_u, kOr_f, kOr_t, w_or, kNot_u, w_not, kIte_u, kIte_t, kIte_f, w_ite, kCh5_u, kLk4_t, kLk4_f, kLk3_u, kCh2_u, kCh1_u, w_chain, kC5_u, kC2_u, kC1_u, w_chain3, kB2_u, kBack_u, kBackX_u, kCall2_s, kCall_u, w_call, kCv2_s, kCv_u, w_callV, kCm4_u, kCm_u, w_comp, w_en, kCo_u, kEv_u, w_ec, w_pk, kPk_val, kPk_own, kPk_par, kD_u, od_var, od_cst, od_glb, od_op, od_and, od_or, od_not, od_ite, od_chain, od_chain3, od_fnv, od_callV, od_call, od_comp, kFz_u, w_fz, w_an, kAl_u, kAl_t, kAl_f, w_ac, kRun_nx, kRun_rt, kRunX_u, w_fn, w_fv, kFl_u, kFs_p, w_fl, wo_some, wp_ok, wp_ex, sl_0, sl_S, rd_v, rd_n, rs_v, rs_n, opds_nil, opds_cons, opC_s, opd_d, opd_pk, toArgs_nil, toArgs_cons, arC_s, toArg_d, toArg_k, arS_val, arS_own, arS_par, d_val, d_own, d_par, muts_nil, muts_d, muts_pk, mutC_t, mutC_f, m_val, m_own, m_par, pb_nil, pb_cons, put_own, put_par, nd_nil, nd_one, ie_nil, ie_cons, as_v, as_l, ip_pk, ip_d, List.set_cons_zero, List.set_cons_succ, hideE, backE, disp, midOp, mthd, kV_u, kVI_u, kVC_u, p_addI, p_addS, p_addL, p_addT, p_subI, p_mulI, p_mulS, p_mulL, p_mulT, p_fdiv, p_mod, p_pow, p_neg, p_eqI, p_eqS, p_neI, p_neS, p_eqL, p_eqT, p_eqN, p_eqB, p_neL, p_neT, p_neN, p_neB, p_lt, p_le, p_gt, p_ge, p_isN, p_notN, n_non, n_int, n_str, n_tup, n_lst, n_bl, p_inC, p_inL, p_inT, p_niC, p_niL, p_niT, p_ixL, p_ixT, p_ixR, p_ixS, p_sS0, p_sS1, p_sS2, p_sS3, p_sL1, p_sL2, p_sL3, p_sT1, p_sT2, p_sT3, p_revL, p_tup, p_lst, p_lenS, p_lenL, p_lenT, p_lenR, p_int, p_intB, p_listL, p_listT, p_tupleL, p_tupleT, p_min, p_max, kAB_u, kNB_u, p_all, p_any, p_isi, kJn_u, p_join, i_lst, i_tup, i_str, i_eL, i_eT, i_eS, i_r1, i_r2, i_r3, cut_n, kL_nx, kL_ct, kL_bk, kL_rt, kBd_u, kCi2_u, kCi1_t, kCi1_f, kCi_u, List.any_cons, List.any_nil, Bool.or_false, Bool.or_true, Bool.true_or, Bool.false_or, Bool.and_false, Bool.false_and, Bool.and_true, Bool.true_and, Bool.not_true, Bool.not_false, decide_true, decide_false, true_and, and_true, Nat.reduceAdd, Nat.zero_add, List.length_cons, List.length_nil, Int.reduceLT, Int.reduceLE, Int.reduceNeg, Int.reducePow, Int.reduceAdd, Int.reduceSub, Int.reduceMul, Nat.reduceLeDiff, Nat.reduceLT, Nat.reducePow, Nat.reduceMul, Int.reduceEq, Int.reduceToNat, typed, typOf, big, ne_eq, not_false_eq_true, reduceCtorEq, List.cons_append, List.nil_append, cg_is_from, ch_is_from, cg_is_row, ch_is_row, cf_need_row_0, cg_need_row, ch_need_row, cg_lots_of, ch_lots_of, cg_best_letter, ch_best_letter, cf_made_by_0, cg_made_by, ch_made_by, cf_part_choices_0, cg_part_choices, ch_part_choices, cg_joined, ch_joined, cf_nearest_0, cf_nearest_1, cg_nearest, ch_nearest, cg__law_taken, ch__law_taken, cf__law_row_0, cg__law_row, ch__law_row, cf__law_refused_0, cg__law_refused, ch__law_refused, cf_law_0, cf_law_1, cf_law_2, cg_law, ch_law, fl_1, fl_2, fl_3, su_1_3, su_1_2, su_3_3, su_3_2, su_2_3, su_2_2, e3, bls]
            rw [List.append_nil] at e1
            rw [← e1]
            have : (List.map (fun c => abc.contains c) s).all id = rowB s := by
              simp only [rowB, decide_eq_true h1, decide_eq_true h3, Bool.true_and, List.all_map]
              rfl
            rw [this]
            exact k
      · have c1 : (1 : Int) ≤ s.length := by omega
        have c3 : ¬ (s.length : Int) ≤ 12 := by omega
        simp only [w_nil, w_cons, kS_nx, kS_rt, kS_bk, kS_ct, kOwn_u, kOwn2_un, kOwn2_val, kOwn2_own, w_own, kAsg_u, w_asg, w_nm, kT_un, kT_val, kT_own, kTs_u, w_tpt, w_tpl, w_tn, w_tc, kSt_o, kSt_p, kSet3_u, kSet4_o, kSet4_p, kSet1_u, w_seti, kApp_u, kApp2_o, kApp2_p, oL_u, oL_o, oL_p, w_app, kExt_u, kExt2_o, kExt2_p, w_ext, kEx_u, w_ex, kRet_u, w_ret, w_rv, kRv_own, kRv_val, rt_cst, rt_glb, rt_op, rt_and, rt_or, rt_not, rt_ite, rt_chain, rt_chain3, rt_call, rt_callV, rt_comp, w_retn, w_pass, kIf_u, kIf_t, kIf_f, w_ifs, kFor4_u, kIt_u, kIt2_s, w_for, w_whl, kRse3_u, kRse2_s, kRse_u, w_rse, zf_nil, zf_cons, zM_s, kTry_u, w_try, w_cat0, kUn_nx, kCat_f, kCat_t, kSuN_n, kSuN_s, kSu_un, kSu_val, w_cat, w_suc, kSl_u, kSl2_un, kSl2_val, kSl2_own, w_sul, w_var, kVar_val, kVar_own, w_cst, w_glb, w_fnv, kE_u, kOpX_u, kOp3_ff, kOp2_s, kOp_u, w_op, kBl_u, kAnd_u, kAnd_t, kAnd_f, w_and, kOr_u, kOr_f, kOr_t, w_or, kNot_u, w_not, kIte_u, kIte_t, kIte_f, w_ite, kCh5_u, kLk4_t, kLk4_f, kLk3_u, kCh2_u, kCh1_u, w_chain, kC5_u, kC2_u, kC1_u, w_chain3, kB2_u, kBack_u, kBackX_u, kCall2_s, kCall_u, w_call, kCv2_s, kCv_u, w_callV, kCm4_u, kCm_u, w_comp, w_en, kCo_u, kEv_u, w_ec, w_pk, kPk_val, kPk_own, kPk_par, kD_u, od_var, od_cst, od_glb, od_op, od_and, od_or, od_not, od_ite, od_chain, od_chain3, od_fnv, od_callV, od_call, od_comp, kFz_u, w_fz, w_an, kAl_u, kAl_t, kAl_f, w_ac, kRun_nx, kRun_rt, kRunX_u, w_fn, w_fv, kFl_u, kFs_p, w_fl, wo_some, wp_ok, wp_ex, sl_0, sl_S, rd_v, rd_n, rs_v, rs_n, opds_nil, opds_cons, opC_s, opd_d, opd_pk, toArgs_nil, toArgs_cons, arC_s, toArg_d, toArg_k, arS_val, arS_own, arS_par, d_val, d_own, d_par, muts_nil, muts_d, muts_pk, mutC_t, mutC_f, m_val, m_own, m_par, pb_nil, pb_cons, put_own, put_par, nd_nil, nd_one, ie_nil, ie_cons, as_v, as_l, ip_pk, ip_d, List.set_cons_zero, List.set_cons_succ, hideE, backE, disp, midOp, mthd, kV_u, kVI_u, kVC_u, p_addI, p_addS, p_addL, p_addT, p_subI, p_mulI, p_mulS, p_mulL, p_mulT, p_fdiv, p_mod, p_pow, p_neg, p_eqI, p_eqS, p_neI, p_neS, p_eqL, p_eqT, p_eqN, p_eqB, p_neL, p_neT, p_neN, p_neB, p_lt, p_le, p_gt, p_ge, p_isN, p_notN, n_non, n_int, n_str, n_tup, n_lst, n_bl, p_inC, p_inL, p_inT, p_niC, p_niL, p_niT, p_ixL, p_ixT, p_ixR, p_ixS, p_sS0, p_sS1, p_sS2, p_sS3, p_sL1, p_sL2, p_sL3, p_sT1, p_sT2, p_sT3, p_revL, p_tup, p_lst, p_lenS, p_lenL, p_lenT, p_lenR, p_int, p_intB, p_listL, p_listT, p_tupleL, p_tupleT, p_min, p_max, kAB_u, kNB_u, p_all, p_any, p_isi, kJn_u, p_join, i_lst, i_tup, i_str, i_eL, i_eT, i_eS, i_r1, i_r2, i_r3, cut_n, kL_nx, kL_ct, kL_bk, kL_rt, kBd_u, kCi2_u, kCi1_t, kCi1_f, kCi_u, List.any_cons, List.any_nil, Bool.or_false, Bool.or_true, Bool.true_or, Bool.false_or, Bool.and_false, Bool.false_and, Bool.and_true, Bool.true_and, Bool.not_true, Bool.not_false, decide_true, decide_false, true_and, and_true, Nat.reduceAdd, Nat.zero_add, List.length_cons, List.length_nil, Int.reduceLT, Int.reduceLE, Int.reduceNeg, Int.reducePow, Int.reduceAdd, Int.reduceSub, Int.reduceMul, Nat.reduceLeDiff, Nat.reduceLT, Nat.reducePow, Nat.reduceMul, Int.reduceEq, Int.reduceToNat, typed, typOf, big, ne_eq, not_false_eq_true, reduceCtorEq, List.cons_append, List.nil_append, cg_is_from, ch_is_from, cg_is_row, ch_is_row, cf_need_row_0, cg_need_row, ch_need_row, cg_lots_of, ch_lots_of, cg_best_letter, ch_best_letter, cf_made_by_0, cg_made_by, ch_made_by, cf_part_choices_0, cg_part_choices, ch_part_choices, cg_joined, ch_joined, cf_nearest_0, cf_nearest_1, cg_nearest, ch_nearest, cg__law_taken, ch__law_taken, cf__law_row_0, cg__law_row, ch__law_row, cf__law_refused_0, cg__law_refused, ch__law_refused, cf_law_0, cf_law_1, cf_law_2, cg_law, ch_law, fl_1, fl_2, fl_3, su_1_3, su_1_2, su_3_3, su_3_2, su_2_3, su_2_2, hb, c1, c3]
        simpa only [rowB, decide_eq_false h3, Bool.and_false, Bool.false_and] using k
    · have c1 : ¬ (1 : Int) ≤ s.length := by omega
      simp only [w_nil, w_cons, kS_nx, kS_rt, kS_bk, kS_ct, kOwn_u, kOwn2_un, kOwn2_val, kOwn2_own, w_own, kAsg_u, w_asg, w_nm, kT_un, kT_val, kT_own, kTs_u, w_tpt, w_tpl, w_tn, w_tc, kSt_o, kSt_p, kSet3_u, kSet4_o, kSet4_p, kSet1_u, w_seti, kApp_u, kApp2_o, kApp2_p, oL_u, oL_o, oL_p, w_app, kExt_u, kExt2_o, kExt2_p, w_ext, kEx_u, w_ex, kRet_u, w_ret, w_rv, kRv_own, kRv_val, rt_cst, rt_glb, rt_op, rt_and, rt_or, rt_not, rt_ite, rt_chain, rt_chain3, rt_call, rt_callV, rt_comp, w_retn, w_pass, kIf_u, kIf_t, kIf_f, w_ifs, kFor4_u, kIt_u, kIt2_s, w_for, w_whl, kRse3_u, kRse2_s, kRse_u, w_rse, zf_nil, zf_cons, zM_s, kTry_u, w_try, w_cat0, kUn_nx, kCat_f, kCat_t, kSuN_n, kSuN_s, kSu_un, kSu_val, w_cat, w_suc, kSl_u, kSl2_un, kSl2_val, kSl2_own, w_sul, w_var, kVar_val, kVar_own, w_cst, w_glb, w_fnv, kE_u, kOpX_u, kOp3_ff, kOp2_s, kOp_u, w_op, kBl_u, kAnd_u, kAnd_t, kAnd_f, w_and, kOr_u, kOr_f, kOr_t, w_or, kNot_u, w_not, kIte_u, kIte_t, kIte_f, w_ite, kCh5_u, kLk4_t, kLk4_f, kLk3_u, kCh2_u, kCh1_u, w_chain, kC5_u, kC2_u, kC1_u, w_chain3, kB2_u, kBack_u, kBackX_u, kCall2_s, kCall_u, w_call, kCv2_s, kCv_u, w_callV, kCm4_u, kCm_u, w_comp, w_en, kCo_u, kEv_u, w_ec, w_pk, kPk_val, kPk_own, kPk_par, kD_u, od_var, od_cst, od_glb, od_op, od_and, od_or, od_not, od_ite, od_chain, od_chain3, od_fnv, od_callV, od_call, od_comp, kFz_u, w_fz, w_an, kAl_u, kAl_t, kAl_f, w_ac, kRun_nx, kRun_rt, kRunX_u, w_fn, w_fv, kFl_u, kFs_p, w_fl, wo_some, wp_ok, wp_ex, sl_0, sl_S, rd_v, rd_n, rs_v, rs_n, opds_nil, opds_cons, opC_s, opd_d, opd_pk, toArgs_nil, toArgs_cons, arC_s, toArg_d, toArg_k, arS_val, arS_own, arS_par, d_val, d_own, d_par, muts_nil, muts_d, muts_pk, mutC_t, mutC_f, m_val, m_own, m_par, pb_nil, pb_cons, put_own, put_par, nd_nil, nd_one, ie_nil, ie_cons, as_v, as_l, ip_pk, ip_d, List.set_cons_zero, List.set_cons_succ, hideE, backE, disp, midOp, mthd, kV_u, kVI_u, kVC_u, p_addI, p_addS, p_addL, p_addT, p_subI, p_mulI, p_mulS, p_mulL, p_mulT, p_fdiv, p_mod, p_pow, p_neg, p_eqI, p_eqS, p_neI, p_neS, p_eqL, p_eqT, p_eqN, p_eqB, p_neL, p_neT, p_neN, p_neB, p_lt, p_le, p_gt, p_ge, p_isN, p_notN, n_non, n_int, n_str, n_tup, n_lst, n_bl, p_inC, p_inL, p_inT, p_niC, p_niL, p_niT, p_ixL, p_ixT, p_ixR, p_ixS, p_sS0, p_sS1, p_sS2, p_sS3, p_sL1, p_sL2, p_sL3, p_sT1, p_sT2, p_sT3, p_revL, p_tup, p_lst, p_lenS, p_lenL, p_lenT, p_lenR, p_int, p_intB, p_listL, p_listT, p_tupleL, p_tupleT, p_min, p_max, kAB_u, kNB_u, p_all, p_any, p_isi, kJn_u, p_join, i_lst, i_tup, i_str, i_eL, i_eT, i_eS, i_r1, i_r2, i_r3, cut_n, kL_nx, kL_ct, kL_bk, kL_rt, kBd_u, kCi2_u, kCi1_t, kCi1_f, kCi_u, List.any_cons, List.any_nil, Bool.or_false, Bool.or_true, Bool.true_or, Bool.false_or, Bool.and_false, Bool.false_and, Bool.and_true, Bool.true_and, Bool.not_true, Bool.not_false, decide_true, decide_false, true_and, and_true, Nat.reduceAdd, Nat.zero_add, List.length_cons, List.length_nil, Int.reduceLT, Int.reduceLE, Int.reduceNeg, Int.reducePow, Int.reduceAdd, Int.reduceSub, Int.reduceMul, Nat.reduceLeDiff, Nat.reduceLT, Nat.reducePow, Nat.reduceMul, Int.reduceEq, Int.reduceToNat, typed, typOf, big, ne_eq, not_false_eq_true, reduceCtorEq, List.cons_append, List.nil_append, cg_is_from, ch_is_from, cg_is_row, ch_is_row, cf_need_row_0, cg_need_row, ch_need_row, cg_lots_of, ch_lots_of, cg_best_letter, ch_best_letter, cf_made_by_0, cg_made_by, ch_made_by, cf_part_choices_0, cg_part_choices, ch_part_choices, cg_joined, ch_joined, cf_nearest_0, cf_nearest_1, cg_nearest, ch_nearest, cg__law_taken, ch__law_taken, cf__law_row_0, cg__law_row, ch__law_row, cf__law_refused_0, cg__law_refused, ch__law_refused, cf_law_0, cf_law_1, cf_law_2, cg_law, ch_law, fl_1, fl_2, fl_3, su_1_3, su_1_2, su_3_3, su_3_2, su_2_3, su_2_2, hb, c1]
      simpa only [rowB, decide_eq_false h1, Bool.false_and] using k
  | fn g => cases td
  | scr g => cases td
  | _ => simp only [w_nil, w_cons, kS_nx, kS_rt, kS_bk, kS_ct, kOwn_u, kOwn2_un, kOwn2_val, kOwn2_own, w_own, kAsg_u, w_asg, w_nm, kT_un, kT_val, kT_own, kTs_u, w_tpt, w_tpl, w_tn, w_tc, kSt_o, kSt_p, kSet3_u, kSet4_o, kSet4_p, kSet1_u, w_seti, kApp_u, kApp2_o, kApp2_p, oL_u, oL_o, oL_p, w_app, kExt_u, kExt2_o, kExt2_p, w_ext, kEx_u, w_ex, kRet_u, w_ret, w_rv, kRv_own, kRv_val, rt_cst, rt_glb, rt_op, rt_and, rt_or, rt_not, rt_ite, rt_chain, rt_chain3, rt_call, rt_callV, rt_comp, w_retn, w_pass, kIf_u, kIf_t, kIf_f, w_ifs, kFor4_u, kIt_u, kIt2_s, w_for, w_whl, kRse3_u, kRse2_s, kRse_u, w_rse, zf_nil, zf_cons, zM_s, kTry_u, w_try, w_cat0, kUn_nx, kCat_f, kCat_t, kSuN_n, kSuN_s, kSu_un, kSu_val, w_cat, w_suc, kSl_u, kSl2_un, kSl2_val, kSl2_own, w_sul, w_var, kVar_val, kVar_own, w_cst, w_glb, w_fnv, kE_u, kOpX_u, kOp3_ff, kOp2_s, kOp_u, w_op, kBl_u, kAnd_u, kAnd_t, kAnd_f, w_and, kOr_u, kOr_f, kOr_t, w_or, kNot_u, w_not, kIte_u, kIte_t, kIte_f, w_ite, kCh5_u, kLk4_t, kLk4_f, kLk3_u, kCh2_u, kCh1_u, w_chain, kC5_u, kC2_u, kC1_u, w_chain3, kB2_u, kBack_u, kBackX_u, kCall2_s, kCall_u, w_call, kCv2_s, kCv_u, w_callV, kCm4_u, kCm_u, w_comp, w_en, kCo_u, kEv_u, w_ec, w_pk, kPk_val, kPk_own, kPk_par, kD_u, od_var, od_cst, od_glb, od_op, od_and, od_or, od_not, od_ite, od_chain, od_chain3, od_fnv, od_callV, od_call, od_comp, kFz_u, w_fz, w_an, kAl_u, kAl_t, kAl_f, w_ac, kRun_nx, kRun_rt, kRunX_u, w_fn, w_fv, kFl_u, kFs_p, w_fl, wo_some, wp_ok, wp_ex, sl_0, sl_S, rd_v, rd_n, rs_v, rs_n, opds_nil, opds_cons, opC_s, opd_d, opd_pk, toArgs_nil, toArgs_cons, arC_s, toArg_d, toArg_k, arS_val, arS_own, arS_par, d_val, d_own, d_par, muts_nil, muts_d, muts_pk, mutC_t, mutC_f, m_val, m_own, m_par, pb_nil, pb_cons, put_own, put_par, nd_nil, nd_one, ie_nil, ie_cons, as_v, as_l, ip_pk, ip_d, List.set_cons_zero, List.set_cons_succ, hideE, backE, disp, midOp, mthd, kV_u, kVI_u, kVC_u, p_addI, p_addS, p_addL, p_addT, p_subI, p_mulI, p_mulS, p_mulL, p_mulT, p_fdiv, p_mod, p_pow, p_neg, p_eqI, p_eqS, p_neI, p_neS, p_eqL, p_eqT, p_eqN, p_eqB, p_neL, p_neT, p_neN, p_neB, p_lt, p_le, p_gt, p_ge, p_isN, p_notN, n_non, n_int, n_str, n_tup, n_lst, n_bl, p_inC, p_inL, p_inT, p_niC, p_niL, p_niT, p_ixL, p_ixT, p_ixR, p_ixS, p_sS0, p_sS1, p_sS2, p_sS3, p_sL1, p_sL2, p_sL3, p_sT1, p_sT2, p_sT3, p_revL, p_tup, p_lst, p_lenS, p_lenL, p_lenT, p_lenR, p_int, p_intB, p_listL, p_listT, p_tupleL, p_tupleT, p_min, p_max, kAB_u, kNB_u, p_all, p_any, p_isi, kJn_u, p_join, i_lst, i_tup, i_str, i_eL, i_eT, i_eS, i_r1, i_r2, i_r3, cut_n, kL_nx, kL_ct, kL_bk, kL_rt, kBd_u, kCi2_u, kCi1_t, kCi1_f, kCi_u, List.any_cons, List.any_nil, Bool.or_false, Bool.or_true, Bool.true_or, Bool.false_or, Bool.and_false, Bool.false_and, Bool.and_true, Bool.true_and, Bool.not_true, Bool.not_false, decide_true, decide_false, true_and, and_true, Nat.reduceAdd, Nat.zero_add, List.length_cons, List.length_nil, Int.reduceLT, Int.reduceLE, Int.reduceNeg, Int.reducePow, Int.reduceAdd, Int.reduceSub, Int.reduceMul, Nat.reduceLeDiff, Nat.reduceLT, Nat.reducePow, Nat.reduceMul, Int.reduceEq, Int.reduceToNat, typed, typOf, big, ne_eq, not_false_eq_true, reduceCtorEq, List.cons_append, List.nil_append, cg_is_from, ch_is_from, cg_is_row, ch_is_row, cf_need_row_0, cg_need_row, ch_need_row, cg_lots_of, ch_lots_of, cg_best_letter, ch_best_letter, cf_made_by_0, cg_made_by, ch_made_by, cf_part_choices_0, cg_part_choices, ch_part_choices, cg_joined, ch_joined, cf_nearest_0, cf_nearest_1, cg_nearest, ch_nearest, cg__law_taken, ch__law_taken, cf__law_row_0, cg__law_row, ch__law_row, cf__law_refused_0, cg__law_refused, ch__law_refused, cf_law_0, cf_law_1, cf_law_2, cg_law, ch_law, fl_1, fl_2, fl_3, su_1_3, su_1_2, su_3_3, su_3_2, su_2_3, su_2_2]; exact k
theorem need_row_w {d : D} {Q : Res → List D → Prop} {X : Xc → List D → Prop} (td : typed d = true) (hs : ∀ s, d = .str s → s.length ≤ 1000) (k1 : rowV d = true → Q (.val .non) []) (k2 : rowV d = false → X ⟨q_BadRow, []⟩ []) : Wf (f_need_row [.val d]) Q X := by
  rw [w_need_row]
  unfold b_need_row
  simp only [w_nil, w_cons, kS_nx, kS_rt, kS_bk, kS_ct, kOwn_u, kOwn2_un, kOwn2_val, kOwn2_own, w_own, kAsg_u, w_asg, w_nm, kT_un, kT_val, kT_own, kTs_u, w_tpt, w_tpl, w_tn, w_tc, kSt_o, kSt_p, kSet3_u, kSet4_o, kSet4_p, kSet1_u, w_seti, kApp_u, kApp2_o, kApp2_p, oL_u, oL_o, oL_p, w_app, kExt_u, kExt2_o, kExt2_p, w_ext, kEx_u, w_ex, kRet_u, w_ret, w_rv, kRv_own, kRv_val, rt_cst, rt_glb, rt_op, rt_and, rt_or, rt_not, rt_ite, rt_chain, rt_chain3, rt_call, rt_callV, rt_comp, w_retn, w_pass, kIf_u, kIf_t, kIf_f, w_ifs, kFor4_u, kIt_u, kIt2_s, w_for, w_whl, kRse3_u, kRse2_s, kRse_u, w_rse, zf_nil, zf_cons, zM_s, kTry_u, w_try, w_cat0, kUn_nx, kCat_f, kCat_t, kSuN_n, kSuN_s, kSu_un, kSu_val, w_cat, w_suc, kSl_u, kSl2_un, kSl2_val, kSl2_own, w_sul, w_var, kVar_val, kVar_own, w_cst, w_glb, w_fnv, kE_u, kOpX_u, kOp3_ff, kOp2_s, kOp_u, w_op, kBl_u, kAnd_u, kAnd_t, kAnd_f, w_and, kOr_u, kOr_f, kOr_t, w_or, kNot_u, w_not, kIte_u, kIte_t, kIte_f, w_ite, kCh5_u, kLk4_t, kLk4_f, kLk3_u, kCh2_u, kCh1_u, w_chain, kC5_u, kC2_u, kC1_u, w_chain3, kB2_u, kBack_u, kBackX_u, kCall2_s, kCall_u, w_call, kCv2_s, kCv_u, w_callV, kCm4_u, kCm_u, w_comp, w_en, kCo_u, kEv_u, w_ec, w_pk, kPk_val, kPk_own, kPk_par, kD_u, od_var, od_cst, od_glb, od_op, od_and, od_or, od_not, od_ite, od_chain, od_chain3, od_fnv, od_callV, od_call, od_comp, kFz_u, w_fz, w_an, kAl_u, kAl_t, kAl_f, w_ac, kRun_nx, kRun_rt, kRunX_u, w_fn, w_fv, kFl_u, kFs_p, w_fl, wo_some, wp_ok, wp_ex, sl_0, sl_S, rd_v, rd_n, rs_v, rs_n, opds_nil, opds_cons, opC_s, opd_d, opd_pk, toArgs_nil, toArgs_cons, arC_s, toArg_d, toArg_k, arS_val, arS_own, arS_par, d_val, d_own, d_par, muts_nil, muts_d, muts_pk, mutC_t, mutC_f, m_val, m_own, m_par, pb_nil, pb_cons, put_own, put_par, nd_nil, nd_one, ie_nil, ie_cons, as_v, as_l, ip_pk, ip_d, List.set_cons_zero, List.set_cons_succ, hideE, backE, disp, midOp, mthd, kV_u, kVI_u, kVC_u, p_addI, p_addS, p_addL, p_addT, p_subI, p_mulI, p_mulS, p_mulL, p_mulT, p_fdiv, p_mod, p_pow, p_neg, p_eqI, p_eqS, p_neI, p_neS, p_eqL, p_eqT, p_eqN, p_eqB, p_neL, p_neT, p_neN, p_neB, p_lt, p_le, p_gt, p_ge, p_isN, p_notN, n_non, n_int, n_str, n_tup, n_lst, n_bl, p_inC, p_inL, p_inT, p_niC, p_niL, p_niT, p_ixL, p_ixT, p_ixR, p_ixS, p_sS0, p_sS1, p_sS2, p_sS3, p_sL1, p_sL2, p_sL3, p_sT1, p_sT2, p_sT3, p_revL, p_tup, p_lst, p_lenS, p_lenL, p_lenT, p_lenR, p_int, p_intB, p_listL, p_listT, p_tupleL, p_tupleT, p_min, p_max, kAB_u, kNB_u, p_all, p_any, p_isi, kJn_u, p_join, i_lst, i_tup, i_str, i_eL, i_eT, i_eS, i_r1, i_r2, i_r3, cut_n, kL_nx, kL_ct, kL_bk, kL_rt, kBd_u, kCi2_u, kCi1_t, kCi1_f, kCi_u, List.any_cons, List.any_nil, Bool.or_false, Bool.or_true, Bool.true_or, Bool.false_or, Bool.and_false, Bool.false_and, Bool.and_true, Bool.true_and, Bool.not_true, Bool.not_false, decide_true, decide_false, true_and, and_true, Nat.reduceAdd, Nat.zero_add, List.length_cons, List.length_nil, Int.reduceLT, Int.reduceLE, Int.reduceNeg, Int.reducePow, Int.reduceAdd, Int.reduceSub, Int.reduceMul, Nat.reduceLeDiff, Nat.reduceLT, Nat.reducePow, Nat.reduceMul, Int.reduceEq, Int.reduceToNat, typed, typOf, big, ne_eq, not_false_eq_true, reduceCtorEq, List.cons_append, List.nil_append, cg_is_from, ch_is_from, cg_is_row, ch_is_row, cf_need_row_0, cg_need_row, ch_need_row, cg_lots_of, ch_lots_of, cg_best_letter, ch_best_letter, cf_made_by_0, cg_made_by, ch_made_by, cf_part_choices_0, cg_part_choices, ch_part_choices, cg_joined, ch_joined, cf_nearest_0, cf_nearest_1, cg_nearest, ch_nearest, cg__law_taken, ch__law_taken, cf__law_row_0, cg__law_row, ch__law_row, cf__law_refused_0, cg__law_refused, ch__law_refused, cf_law_0, cf_law_1, cf_law_2, cg_law, ch_law, fl_1, fl_2, fl_3, su_1_3, su_1_2, su_3_3, su_3_2, su_2_3, su_2_2]
  refine is_row_w td hs ?_
  cases h : rowV d with
  | true => simp only [w_nil, w_cons, kS_nx, kS_rt, kS_bk, kS_ct, kOwn_u, kOwn2_un, kOwn2_val, kOwn2_own, w_own, kAsg_u, w_asg, w_nm, kT_un, kT_val, kT_own, kTs_u, w_tpt, w_tpl, w_tn, w_tc, kSt_o, kSt_p, kSet3_u, kSet4_o, kSet4_p, kSet1_u, w_seti, kApp_u, kApp2_o, kApp2_p, oL_u, oL_o, oL_p, w_app, kExt_u, kExt2_o, kExt2_p, w_ext, kEx_u, w_ex, kRet_u, w_ret, w_rv, kRv_own, kRv_val, rt_cst, rt_glb, rt_op, rt_and, rt_or, rt_not, rt_ite, rt_chain, rt_chain3, rt_call, rt_callV, rt_comp, w_retn, w_pass, kIf_u, kIf_t, kIf_f, w_ifs, kFor4_u, kIt_u, kIt2_s, w_for, w_whl, kRse3_u, kRse2_s, kRse_u, w_rse, zf_nil, zf_cons, zM_s, kTry_u, w_try, w_cat0, kUn_nx, kCat_f, kCat_t, kSuN_n, kSuN_s, kSu_un, kSu_val, w_cat, w_suc, kSl_u, kSl2_un, kSl2_val, kSl2_own, w_sul, w_var, kVar_val, kVar_own, w_cst, w_glb, w_fnv, kE_u, kOpX_u, kOp3_ff, kOp2_s, kOp_u, w_op, kBl_u, kAnd_u, kAnd_t, kAnd_f, w_and, kOr_u, kOr_f, kOr_t, w_or, kNot_u, w_not, kIte_u, kIte_t, kIte_f, w_ite, kCh5_u, kLk4_t, kLk4_f, kLk3_u, kCh2_u, kCh1_u, w_chain, kC5_u, kC2_u, kC1_u, w_chain3, kB2_u, kBack_u, kBackX_u, kCall2_s, kCall_u, w_call, kCv2_s, kCv_u, w_callV, kCm4_u, kCm_u, w_comp, w_en, kCo_u, kEv_u, w_ec, w_pk, kPk_val, kPk_own, kPk_par, kD_u, od_var, od_cst, od_glb, od_op, od_and, od_or, od_not, od_ite, od_chain, od_chain3, od_fnv, od_callV, od_call, od_comp, kFz_u, w_fz, w_an, kAl_u, kAl_t, kAl_f, w_ac, kRun_nx, kRun_rt, kRunX_u, w_fn, w_fv, kFl_u, kFs_p, w_fl, wo_some, wp_ok, wp_ex, sl_0, sl_S, rd_v, rd_n, rs_v, rs_n, opds_nil, opds_cons, opC_s, opd_d, opd_pk, toArgs_nil, toArgs_cons, arC_s, toArg_d, toArg_k, arS_val, arS_own, arS_par, d_val, d_own, d_par, muts_nil, muts_d, muts_pk, mutC_t, mutC_f, m_val, m_own, m_par, pb_nil, pb_cons, put_own, put_par, nd_nil, nd_one, ie_nil, ie_cons, as_v, as_l, ip_pk, ip_d, List.set_cons_zero, List.set_cons_succ, hideE, backE, disp, midOp, mthd, kV_u, kVI_u, kVC_u, p_addI, p_addS, p_addL, p_addT, p_subI, p_mulI, p_mulS, p_mulL, p_mulT, p_fdiv, p_mod, p_pow, p_neg, p_eqI, p_eqS, p_neI, p_neS, p_eqL, p_eqT, p_eqN, p_eqB, p_neL, p_neT, p_neN, p_neB, p_lt, p_le, p_gt, p_ge, p_isN, p_notN, n_non, n_int, n_str, n_tup, n_lst, n_bl, p_inC, p_inL, p_inT, p_niC, p_niL, p_niT, p_ixL, p_ixT, p_ixR, p_ixS, p_sS0, p_sS1, p_sS2, p_sS3, p_sL1, p_sL2, p_sL3, p_sT1, p_sT2, p_sT3, p_revL, p_tup, p_lst, p_lenS, p_lenL, p_lenT, p_lenR, p_int, p_intB, p_listL, p_listT, p_tupleL, p_tupleT, p_min, p_max, kAB_u, kNB_u, p_all, p_any, p_isi, kJn_u, p_join, i_lst, i_tup, i_str, i_eL, i_eT, i_eS, i_r1, i_r2, i_r3, cut_n, kL_nx, kL_ct, kL_bk, kL_rt, kBd_u, kCi2_u, kCi1_t, kCi1_f, kCi_u, List.any_cons, List.any_nil, Bool.or_false, Bool.or_true, Bool.true_or, Bool.false_or, Bool.and_false, Bool.false_and, Bool.and_true, Bool.true_and, Bool.not_true, Bool.not_false, decide_true, decide_false, true_and, and_true, Nat.reduceAdd, Nat.zero_add, List.length_cons, List.length_nil, Int.reduceLT, Int.reduceLE, Int.reduceNeg, Int.reducePow, Int.reduceAdd, Int.reduceSub, Int.reduceMul, Nat.reduceLeDiff, Nat.reduceLT, Nat.reducePow, Nat.reduceMul, Int.reduceEq, Int.reduceToNat, typed, typOf, big, ne_eq, not_false_eq_true, reduceCtorEq, List.cons_append, List.nil_append, cg_is_from, ch_is_from, cg_is_row, ch_is_row, cf_need_row_0, cg_need_row, ch_need_row, cg_lots_of, ch_lots_of, cg_best_letter, ch_best_letter, cf_made_by_0, cg_made_by, ch_made_by, cf_part_choices_0, cg_part_choices, ch_part_choices, cg_joined, ch_joined, cf_nearest_0, cf_nearest_1, cg_nearest, ch_nearest, cg__law_taken, ch__law_taken, cf__law_row_0, cg__law_row, ch__law_row, cf__law_refused_0, cg__law_refused, ch__law_refused, cf_law_0, cf_law_1, cf_law_2, cg_law, ch_law, fl_1, fl_2, fl_3, su_1_3, su_1_2, su_3_3, su_3_2, su_2_3, su_2_2]; exact k1 h
  | false => simp only [w_nil, w_cons, kS_nx, kS_rt, kS_bk, kS_ct, kOwn_u, kOwn2_un, kOwn2_val, kOwn2_own, w_own, kAsg_u, w_asg, w_nm, kT_un, kT_val, kT_own, kTs_u, w_tpt, w_tpl, w_tn, w_tc, kSt_o, kSt_p, kSet3_u, kSet4_o, kSet4_p, kSet1_u, w_seti, kApp_u, kApp2_o, kApp2_p, oL_u, oL_o, oL_p, w_app, kExt_u, kExt2_o, kExt2_p, w_ext, kEx_u, w_ex, kRet_u, w_ret, w_rv, kRv_own, kRv_val, rt_cst, rt_glb, rt_op, rt_and, rt_or, rt_not, rt_ite, rt_chain, rt_chain3, rt_call, rt_callV, rt_comp, w_retn, w_pass, kIf_u, kIf_t, kIf_f, w_ifs, kFor4_u, kIt_u, kIt2_s, w_for, w_whl, kRse3_u, kRse2_s, kRse_u, w_rse, zf_nil, zf_cons, zM_s, kTry_u, w_try, w_cat0, kUn_nx, kCat_f, kCat_t, kSuN_n, kSuN_s, kSu_un, kSu_val, w_cat, w_suc, kSl_u, kSl2_un, kSl2_val, kSl2_own, w_sul, w_var, kVar_val, kVar_own, w_cst, w_glb, w_fnv, kE_u, kOpX_u, kOp3_ff, kOp2_s, kOp_u, w_op, kBl_u, kAnd_u, kAnd_t, kAnd_f, w_and, kOr_u, kOr_f, kOr_t, w_or, kNot_u, w_not, kIte_u, kIte_t, kIte_f, w_ite, kCh5_u, kLk4_t, kLk4_f, kLk3_u, kCh2_u, kCh1_u, w_chain, kC5_u, kC2_u, kC1_u, w_chain3, kB2_u, kBack_u, kBackX_u, kCall2_s, kCall_u, w_call, kCv2_s, kCv_u, w_callV, kCm4_u, kCm_u, w_comp, w_en, kCo_u, kEv_u, w_ec, w_pk, kPk_val, kPk_own, kPk_par, kD_u, od_var, od_cst, od_glb, od_op, od_and, od_or, od_not, od_ite, od_chain, od_chain3, od_fnv, od_callV, od_call, od_comp, kFz_u, w_fz, w_an, kAl_u, kAl_t, kAl_f, w_ac, kRun_nx, kRun_rt, kRunX_u, w_fn, w_fv, kFl_u, kFs_p, w_fl, wo_some, wp_ok, wp_ex, sl_0, sl_S, rd_v, rd_n, rs_v, rs_n, opds_nil, opds_cons, opC_s, opd_d, opd_pk, toArgs_nil, toArgs_cons, arC_s, toArg_d, toArg_k, arS_val, arS_own, arS_par, d_val, d_own, d_par, muts_nil, muts_d, muts_pk, mutC_t, mutC_f, m_val, m_own, m_par, pb_nil, pb_cons, put_own, put_par, nd_nil, nd_one, ie_nil, ie_cons, as_v, as_l, ip_pk, ip_d, List.set_cons_zero, List.set_cons_succ, hideE, backE, disp, midOp, mthd, kV_u, kVI_u, kVC_u, p_addI, p_addS, p_addL, p_addT, p_subI, p_mulI, p_mulS, p_mulL, p_mulT, p_fdiv, p_mod, p_pow, p_neg, p_eqI, p_eqS, p_neI, p_neS, p_eqL, p_eqT, p_eqN, p_eqB, p_neL, p_neT, p_neN, p_neB, p_lt, p_le, p_gt, p_ge, p_isN, p_notN, n_non, n_int, n_str, n_tup, n_lst, n_bl, p_inC, p_inL, p_inT, p_niC, p_niL, p_niT, p_ixL, p_ixT, p_ixR, p_ixS, p_sS0, p_sS1, p_sS2, p_sS3, p_sL1, p_sL2, p_sL3, p_sT1, p_sT2, p_sT3, p_revL, p_tup, p_lst, p_lenS, p_lenL, p_lenT, p_lenR, p_int, p_intB, p_listL, p_listT, p_tupleL, p_tupleT, p_min, p_max, kAB_u, kNB_u, p_all, p_any, p_isi, kJn_u, p_join, i_lst, i_tup, i_str, i_eL, i_eT, i_eS, i_r1, i_r2, i_r3, cut_n, kL_nx, kL_ct, kL_bk, kL_rt, kBd_u, kCi2_u, kCi1_t, kCi1_f, kCi_u, List.any_cons, List.any_nil, Bool.or_false, Bool.or_true, Bool.true_or, Bool.false_or, Bool.and_false, Bool.false_and, Bool.and_true, Bool.true_and, Bool.not_true, Bool.not_false, decide_true, decide_false, true_and, and_true, Nat.reduceAdd, Nat.zero_add, List.length_cons, List.length_nil, Int.reduceLT, Int.reduceLE, Int.reduceNeg, Int.reducePow, Int.reduceAdd, Int.reduceSub, Int.reduceMul, Nat.reduceLeDiff, Nat.reduceLT, Nat.reducePow, Nat.reduceMul, Int.reduceEq, Int.reduceToNat, typed, typOf, big, ne_eq, not_false_eq_true, reduceCtorEq, List.cons_append, List.nil_append, cg_is_from, ch_is_from, cg_is_row, ch_is_row, cf_need_row_0, cg_need_row, ch_need_row, cg_lots_of, ch_lots_of, cg_best_letter, ch_best_letter, cf_made_by_0, cg_made_by, ch_made_by, cf_part_choices_0, cg_part_choices, ch_part_choices, cg_joined, ch_joined, cf_nearest_0, cf_nearest_1, cg_nearest, ch_nearest, cg__law_taken, ch__law_taken, cf__law_row_0, cg__law_row, ch__law_row, cf__law_refused_0, cg__law_refused, ch__law_refused, cf_law_0, cf_law_1, cf_law_2, cg_law, ch_law, fl_1, fl_2, fl_3, su_1_3, su_1_2, su_3_3, su_3_2, su_2_3, su_2_2]; exact k2 h
end Itp
set_option Elab.async false
set_option linter.all false
set_option maxRecDepth 100000
set_option maxHeartbeats 4000000
namespace Itp
open PySem L2
def SgOk (s : List Nat) : Prop := 1 ≤ s.length ∧ s.length ≤ 9 ∧ ∀ c ∈ s, c ∈ abc
theorem flat_rep {c : Nat} : ∀ n : Nat, (List.replicate n [c]).flatten = List.replicate n c
  | 0 => rfl
  | n + 1 => by rw [List.replicate_succ, List.replicate_succ, List.flatten_cons, flat_rep n]; rfl
theorem strs_c : ∀ cs : List Nat, strs? (cs.map fun c => D.str [c]) = some (cs.map fun c => [c])
  | [] => rfl
  | c :: cs => by simp only [List.map_cons, strs?, strs_c cs]; rfl
theorem join_e (cs : List Nat) : joinL [] (cs.map fun c => [c]) = cs := by
  have key : ∀ (l : List Nat) (acc : List Nat), (l.map fun c => [c]).foldl (fun acc p => acc ++ [] ++ p) acc = acc ++ l := by
    intro l
    induction l with
    | nil => intro acc; simp
    | cons x l ih => intro acc; simp only [List.map_cons, List.foldl_cons, ih]; simp
  unfold joinL
  cases cs with
  | nil => rfl
  | cons c cs =>
    simp only [List.map_cons, List.drop_succ_cons, List.drop_zero, List.headD_cons]
    rw [key]
    rfl
theorem sum_ones : ∀ cs : List Nat, ((cs.map fun c => [c]).map (·.length)).sum = cs.length
  | [] => rfl
  | c :: cs => by simp only [List.map_cons, List.sum_cons, sum_ones cs, List.length_cons, List.length_nil]; omega
theorem rngs_len' (a : Int) : ∀ n, (rngs a n).length = n
  | 0 => rfl
  | n + 1 => by simp [rngs, rngs_len' (a + 1) n]
theorem sg_take {v : Int} (h0 : 0 ≤ v) (h1 : v < 8) : SgOk (([97, 98, 99, 100, 101, 102, 103, 104] : List Nat).take (1 + v).toNat) ∧ (([97, 98, 99, 100, 101, 102, 103, 104] : List Nat).take (1 + v).toNat).length ≤ 8 := by
  refine ⟨⟨?_, ?_, fun c hc => ?_⟩, ?_⟩
  · rw [List.length_take]; simp only [List.length_cons, List.length_nil]; omega
  · rw [List.length_take]; simp only [List.length_cons, List.length_nil]; omega
  · have := List.mem_of_mem_take hc
    unfold abc
    simp only [List.mem_cons, List.not_mem_nil, or_false] at this ⊢
    omega
  · rw [List.length_take]; simp only [List.length_cons, List.length_nil]; omega
theorem sg_dot {s : List Nat} (h : SgOk s) (h8 : s.length ≤ 8) : SgOk (s ++ [46]) := by
  obtain ⟨g1, g2, g3⟩ := h
  refine ⟨by rw [List.length_append]; omega, by rw [List.length_append]; simp only [List.length_cons, List.length_nil]; omega, fun c hc => ?_⟩
  rcases List.mem_append.mp hc with z | z
  · exact g3 c z
  · simp only [List.mem_cons, List.not_mem_nil, or_false] at z
    subst z
    decide
theorem dip_len {r : List Nat} {c : Nat} {a b n : Int} (h0 : 0 ≤ a) (h1 : a ≤ b) (h2 : b < n) (hn : (r.length : Int) = n) : ((r.take a.toNat ++ List.replicate (b - a + 1).toNat c) ++ r.drop (b + 1).toNat).length = r.length := by
  rw [List.length_append, List.length_append, List.length_take, List.length_replicate, List.length_drop]
  omega
theorem dip_mem {r : List Nat} {c : Nat} {a b : Int} {P : Nat → Prop} (hr : ∀ x ∈ r, P x) (hc : P c) : ∀ x ∈ ((r.take a.toNat ++ List.replicate (b - a + 1).toNat c) ++ r.drop (b + 1).toNat), P x := fun x hx => by
  rcases List.mem_append.mp hx with z | z
  · rcases List.mem_append.mp z with z | z
    · exact hr x (List.mem_of_mem_take z)
    · rw [List.eq_of_mem_replicate z]; exact hc
  · exact hr x (List.mem_of_mem_drop z)
/-- a drawn row -/
theorem row_w {ns : List Int} {d : D} {m : Int} {Q : Res → List D → Prop} {X : Xc → List D → Prop} (hd : IsRow ns d) (h0 : 0 < m) (h1 : m ≤ 12) (k : ∀ r d', IsRow ns d' → RowOk r → (r.length : Int) ≤ m → Q (.val (.str r)) [d']) :
    Wf (f__law_row [.lent d, .val (.int m)]) Q X := by
  rw [w__law_row]
  unfold b__law_row
  simp only [w_nil, w_cons, kS_nx, kS_rt, kS_bk, kS_ct, kOwn_u, kOwn2_un, kOwn2_val, kOwn2_own, w_own, kAsg_u, w_asg, w_nm, kT_un, kT_val, kT_own, kTs_u, w_tpt, w_tpl, w_tn, w_tc, kSt_o, kSt_p, kSet3_u, kSet4_o, kSet4_p, kSet1_u, w_seti, kApp_u, kApp2_o, kApp2_p, oL_u, oL_o, oL_p, w_app, kExt_u, kExt2_o, kExt2_p, w_ext, kEx_u, w_ex, kRet_u, w_ret, w_rv, kRv_own, kRv_val, rt_cst, rt_glb, rt_op, rt_and, rt_or, rt_not, rt_ite, rt_chain, rt_chain3, rt_call, rt_callV, rt_comp, w_retn, w_pass, kIf_u, kIf_t, kIf_f, w_ifs, kFor4_u, kIt_u, kIt2_s, w_for, w_whl, kRse3_u, kRse2_s, kRse_u, w_rse, zf_nil, zf_cons, zM_s, kTry_u, w_try, w_cat0, kUn_nx, kCat_f, kCat_t, kSuN_n, kSuN_s, kSu_un, kSu_val, w_cat, w_suc, kSl_u, kSl2_un, kSl2_val, kSl2_own, w_sul, w_var, kVar_val, kVar_own, w_cst, w_glb, w_fnv, kE_u, kOpX_u, kOp3_ff, kOp2_s, kOp_u, w_op, kBl_u, kAnd_u, kAnd_t, kAnd_f, w_and, kOr_u, kOr_f, kOr_t, w_or, kNot_u, w_not, kIte_u, kIte_t, kIte_f, w_ite, kCh5_u, kLk4_t, kLk4_f, kLk3_u, kCh2_u, kCh1_u, w_chain, kC5_u, kC2_u, kC1_u, w_chain3, kB2_u, kBack_u, kBackX_u, kCall2_s, kCall_u, w_call, kCv2_s, kCv_u, w_callV, kCm4_u, kCm_u, w_comp, w_en, kCo_u, kEv_u, w_ec, w_pk, kPk_val, kPk_own, kPk_par, kD_u, od_var, od_cst, od_glb, od_op, od_and, od_or, od_not, od_ite, od_chain, od_chain3, od_fnv, od_callV, od_call, od_comp, kFz_u, w_fz, w_an, kAl_u, kAl_t, kAl_f, w_ac, kRun_nx, kRun_rt, kRunX_u, w_fn, w_fv, kFl_u, kFs_p, w_fl, wo_some, wp_ok, wp_ex, sl_0, sl_S, rd_v, rd_n, rs_v, rs_n, opds_nil, opds_cons, opC_s, opd_d, opd_pk, toArgs_nil, toArgs_cons, arC_s, toArg_d, toArg_k, arS_val, arS_own, arS_par, d_val, d_own, d_par, muts_nil, muts_d, muts_pk, mutC_t, mutC_f, m_val, m_own, m_par, pb_nil, pb_cons, put_own, put_par, nd_nil, nd_one, ie_nil, ie_cons, as_v, as_l, ip_pk, ip_d, List.set_cons_zero, List.set_cons_succ, hideE, backE, disp, midOp, mthd, kV_u, kVI_u, kVC_u, p_addI, p_addS, p_addL, p_addT, p_subI, p_mulI, p_mulS, p_mulL, p_mulT, p_fdiv, p_mod, p_pow, p_neg, p_eqI, p_eqS, p_neI, p_neS, p_eqL, p_eqT, p_eqN, p_eqB, p_neL, p_neT, p_neN, p_neB, p_lt, p_le, p_gt, p_ge, p_isN, p_notN, n_non, n_int, n_str, n_tup, n_lst, n_bl, p_inC, p_inL, p_inT, p_niC, p_niL, p_niT, p_ixL, p_ixT, p_ixR, p_ixS, p_sS0, p_sS1, p_sS2, p_sS3, p_sL1, p_sL2, p_sL3, p_sT1, p_sT2, p_sT3, p_revL, p_tup, p_lst, p_lenS, p_lenL, p_lenT, p_lenR, p_int, p_intB, p_listL, p_listT, p_tupleL, p_tupleT, p_min, p_max, kAB_u, kNB_u, p_all, p_any, p_isi, kJn_u, p_join, i_lst, i_tup, i_str, i_eL, i_eT, i_eS, i_r1, i_r2, i_r3, cut_n, kL_nx, kL_ct, kL_bk, kL_rt, kBd_u, kCi2_u, kCi1_t, kCi1_f, kCi_u, List.any_cons, List.any_nil, Bool.or_false, Bool.or_true, Bool.true_or, Bool.false_or, Bool.and_false, Bool.false_and, Bool.and_true, Bool.true_and, Bool.not_true, Bool.not_false, decide_true, decide_false, true_and, and_true, Nat.reduceAdd, Nat.zero_add, List.length_cons, List.length_nil, Int.reduceLT, Int.reduceLE, Int.reduceNeg, Int.reducePow, Int.reduceAdd, Int.reduceSub, Int.reduceMul, Nat.reduceLeDiff, Nat.reduceLT, Nat.reducePow, Nat.reduceMul, Int.reduceEq, Int.reduceToNat, typed, typOf, big, ne_eq, not_false_eq_true, reduceCtorEq, List.cons_append, List.nil_append, cg_is_from, ch_is_from, cg_is_row, ch_is_row, cf_need_row_0, cg_need_row, ch_need_row, cg_lots_of, ch_lots_of, cg_best_letter, ch_best_letter, cf_made_by_0, cg_made_by, ch_made_by, cf_part_choices_0, cg_part_choices, ch_part_choices, cg_joined, ch_joined, cf_nearest_0, cf_nearest_1, cg_nearest, ch_nearest, cg__law_taken, ch__law_taken, cf__law_row_0, cg__law_row, ch__law_row, cf__law_refused_0, cg__law_refused, ch__law_refused, cf_law_0, cf_law_1, cf_law_2, cg_law, ch_law, fl_1, fl_2, fl_3, su_1_3, su_1_2, su_3_3, su_3_2, su_2_3, su_2_2]
  refine taken_w hd h0 (by omega) fun v1 d1 i1 a1 b1 => ?_
  simp only [w_nil, w_cons, kS_nx, kS_rt, kS_bk, kS_ct, kOwn_u, kOwn2_un, kOwn2_val, kOwn2_own, w_own, kAsg_u, w_asg, w_nm, kT_un, kT_val, kT_own, kTs_u, w_tpt, w_tpl, w_tn, w_tc, kSt_o, kSt_p, kSet3_u, kSet4_o, kSet4_p, kSet1_u, w_seti, kApp_u, kApp2_o, kApp2_p, oL_u, oL_o, oL_p, w_app, kExt_u, kExt2_o, kExt2_p, w_ext, kEx_u, w_ex, kRet_u, w_ret, w_rv, kRv_own, kRv_val, rt_cst, rt_glb, rt_op, rt_and, rt_or, rt_not, rt_ite, rt_chain, rt_chain3, rt_call, rt_callV, rt_comp, w_retn, w_pass, kIf_u, kIf_t, kIf_f, w_ifs, kFor4_u, kIt_u, kIt2_s, w_for, w_whl, kRse3_u, kRse2_s, kRse_u, w_rse, zf_nil, zf_cons, zM_s, kTry_u, w_try, w_cat0, kUn_nx, kCat_f, kCat_t, kSuN_n, kSuN_s, kSu_un, kSu_val, w_cat, w_suc, kSl_u, kSl2_un, kSl2_val, kSl2_own, w_sul, w_var, kVar_val, kVar_own, w_cst, w_glb, w_fnv, kE_u, kOpX_u, kOp3_ff, kOp2_s, kOp_u, w_op, kBl_u, kAnd_u, kAnd_t, kAnd_f, w_and, kOr_u, kOr_f, kOr_t, w_or, kNot_u, w_not, kIte_u, kIte_t, kIte_f, w_ite, kCh5_u, kLk4_t, kLk4_f, kLk3_u, kCh2_u, kCh1_u, w_chain, kC5_u, kC2_u, kC1_u, w_chain3, kB2_u, kBack_u, kBackX_u, kCall2_s, kCall_u, w_call, kCv2_s, kCv_u, w_callV, kCm4_u, kCm_u, w_comp, w_en, kCo_u, kEv_u, w_ec, w_pk, kPk_val, kPk_own, kPk_par, kD_u, od_var, od_cst, od_glb, od_op, od_and, od_or, od_not, od_ite, od_chain, od_chain3, od_fnv, od_callV, od_call, od_comp, kFz_u, w_fz, w_an, kAl_u, kAl_t, kAl_f, w_ac, kRun_nx, kRun_rt, kRunX_u, w_fn, w_fv, kFl_u, kFs_p, w_fl, wo_some, wp_ok, wp_ex, sl_0, sl_S, rd_v, rd_n, rs_v, rs_n, opds_nil, opds_cons, opC_s, opd_d, opd_pk, toArgs_nil, toArgs_cons, arC_s, toArg_d, toArg_k, arS_val, arS_own, arS_par, d_val, d_own, d_par, muts_nil, muts_d, muts_pk, mutC_t, mutC_f, m_val, m_own, m_par, pb_nil, pb_cons, put_own, put_par, nd_nil, nd_one, ie_nil, ie_cons, as_v, as_l, ip_pk, ip_d, List.set_cons_zero, List.set_cons_succ, hideE, backE, disp, midOp, mthd, kV_u, kVI_u, kVC_u, p_addI, p_addS, p_addL, p_addT, p_subI, p_mulI, p_mulS, p_mulL, p_mulT, p_fdiv, p_mod, p_pow, p_neg, p_eqI, p_eqS, p_neI, p_neS, p_eqL, p_eqT, p_eqN, p_eqB, p_neL, p_neT, p_neN, p_neB, p_lt, p_le, p_gt, p_ge, p_isN, p_notN, n_non, n_int, n_str, n_tup, n_lst, n_bl, p_inC, p_inL, p_inT, p_niC, p_niL, p_niT, p_ixL, p_ixT, p_ixR, p_ixS, p_sS0, p_sS1, p_sS2, p_sS3, p_sL1, p_sL2, p_sL3, p_sT1, p_sT2, p_sT3, p_revL, p_tup, p_lst, p_lenS, p_lenL, p_lenT, p_lenR, p_int, p_intB, p_listL, p_listT, p_tupleL, p_tupleT, p_min, p_max, kAB_u, kNB_u, p_all, p_any, p_isi, kJn_u, p_join, i_lst, i_tup, i_str, i_eL, i_eT, i_eS, i_r1, i_r2, i_r3, cut_n, kL_nx, kL_ct, kL_bk, kL_rt, kBd_u, kCi2_u, kCi1_t, kCi1_f, kCi_u, List.any_cons, List.any_nil, Bool.or_false, Bool.or_true, Bool.true_or, Bool.false_or, Bool.and_false, Bool.false_and, Bool.and_true, Bool.true_and, Bool.not_true, Bool.not_false, decide_true, decide_false, true_and, and_true, Nat.reduceAdd, Nat.zero_add, List.length_cons, List.length_nil, Int.reduceLT, Int.reduceLE, Int.reduceNeg, Int.reducePow, Int.reduceAdd, Int.reduceSub, Int.reduceMul, Nat.reduceLeDiff, Nat.reduceLT, Nat.reducePow, Nat.reduceMul, Int.reduceEq, Int.reduceToNat, typed, typOf, big, ne_eq, not_false_eq_true, reduceCtorEq, List.cons_append, List.nil_append, cg_is_from, ch_is_from, cg_is_row, ch_is_row, cf_need_row_0, cg_need_row, ch_need_row, cg_lots_of, ch_lots_of, cg_best_letter, ch_best_letter, cf_made_by_0, cg_made_by, ch_made_by, cf_part_choices_0, cg_part_choices, ch_part_choices, cg_joined, ch_joined, cf_nearest_0, cf_nearest_1, cg_nearest, ch_nearest, cg__law_taken, ch__law_taken, cf__law_row_0, cg__law_row, ch__law_row, cf__law_refused_0, cg__law_refused, ch__law_refused, cf_law_0, cf_law_1, cf_law_2, cg_law, ch_law, fl_1, fl_2, fl_3, su_1_3, su_1_2, su_3_3, su_3_2, su_2_3, su_2_2]
  refine taken_w i1 (by omega) (by omega) fun v2 d2 i2 a2 b2 => ?_
  obtain ⟨z, hz, z1, z2⟩ : ∃ z, at? [D.int 2, .int 4, .int 8] v2 = some (.int z) ∧ 2 ≤ z ∧ z ≤ 8 := by
    have : v2 = 0 ∨ v2 = 1 ∨ v2 = 2 := by omega
    rcases this with rfl | rfl | rfl
    · exact ⟨2, rfl, by omega, by omega⟩
    · exact ⟨4, rfl, by omega, by omega⟩
    · exact ⟨8, rfl, by omega, by omega⟩
  simp only [w_nil, w_cons, kS_nx, kS_rt, kS_bk, kS_ct, kOwn_u, kOwn2_un, kOwn2_val, kOwn2_own, w_own, kAsg_u, w_asg, w_nm, kT_un, kT_val, kT_own, kTs_u, w_tpt, w_tpl, w_tn, w_tc, kSt_o, kSt_p, kSet3_u, kSet4_o, kSet4_p, kSet1_u, w_seti, kApp_u, kApp2_o, kApp2_p, oL_u, oL_o, oL_p, w_app, kExt_u, kExt2_o, kExt2_p, w_ext, kEx_u, w_ex, kRet_u, w_ret, w_rv, kRv_own, kRv_val, rt_cst, rt_glb, rt_op, rt_and, rt_or, rt_not, rt_ite, rt_chain, rt_chain3, rt_call, rt_callV, rt_comp, w_retn, w_pass, kIf_u, kIf_t, kIf_f, w_ifs, kFor4_u, kIt_u, kIt2_s, w_for, w_whl, kRse3_u, kRse2_s, kRse_u, w_rse, zf_nil, zf_cons, zM_s, kTry_u, w_try, w_cat0, kUn_nx, kCat_f, kCat_t, kSuN_n, kSuN_s, kSu_un, kSu_val, w_cat, w_suc, kSl_u, kSl2_un, kSl2_val, kSl2_own, w_sul, w_var, kVar_val, kVar_own, w_cst, w_glb, w_fnv, kE_u, kOpX_u, kOp3_ff, kOp2_s, kOp_u, w_op, kBl_u, kAnd_u, kAnd_t, kAnd_f, w_and, kOr_u, kOr_f, kOr_t, w_or, kNot_u, w_not, kIte_u, kIte_t, kIte_f, w_ite, kCh5_u, kLk4_t, kLk4_f, kLk3_u, kCh2_u, kCh1_u, w_chain, kC5_u, kC2_u, kC1_u, w_chain3, kB2_u, kBack_u, kBackX_u, kCall2_s, kCall_u, w_call, kCv2_s, kCv_u, w_callV, kCm4_u, kCm_u, w_comp, w_en, kCo_u, kEv_u, w_ec, w_pk, kPk_val, kPk_own, kPk_par, kD_u, od_var, od_cst, od_glb, od_op, od_and, od_or, od_not, od_ite, od_chain, od_chain3, od_fnv, od_callV, od_call, od_comp, kFz_u, w_fz, w_an, kAl_u, kAl_t, kAl_f, w_ac, kRun_nx, kRun_rt, kRunX_u, w_fn, w_fv, kFl_u, kFs_p, w_fl, wo_some, wp_ok, wp_ex, sl_0, sl_S, rd_v, rd_n, rs_v, rs_n, opds_nil, opds_cons, opC_s, opd_d, opd_pk, toArgs_nil, toArgs_cons, arC_s, toArg_d, toArg_k, arS_val, arS_own, arS_par, d_val, d_own, d_par, muts_nil, muts_d, muts_pk, mutC_t, mutC_f, m_val, m_own, m_par, pb_nil, pb_cons, put_own, put_par, nd_nil, nd_one, ie_nil, ie_cons, as_v, as_l, ip_pk, ip_d, List.set_cons_zero, List.set_cons_succ, hideE, backE, disp, midOp, mthd, kV_u, kVI_u, kVC_u, p_addI, p_addS, p_addL, p_addT, p_subI, p_mulI, p_mulS, p_mulL, p_mulT, p_fdiv, p_mod, p_pow, p_neg, p_eqI, p_eqS, p_neI, p_neS, p_eqL, p_eqT, p_eqN, p_eqB, p_neL, p_neT, p_neN, p_neB, p_lt, p_le, p_gt, p_ge, p_isN, p_notN, n_non, n_int, n_str, n_tup, n_lst, n_bl, p_inC, p_inL, p_inT, p_niC, p_niL, p_niT, p_ixL, p_ixT, p_ixR, p_ixS, p_sS0, p_sS1, p_sS2, p_sS3, p_sL1, p_sL2, p_sL3, p_sT1, p_sT2, p_sT3, p_revL, p_tup, p_lst, p_lenS, p_lenL, p_lenT, p_lenR, p_int, p_intB, p_listL, p_listT, p_tupleL, p_tupleT, p_min, p_max, kAB_u, kNB_u, p_all, p_any, p_isi, kJn_u, p_join, i_lst, i_tup, i_str, i_eL, i_eT, i_eS, i_r1, i_r2, i_r3, cut_n, kL_nx, kL_ct, kL_bk, kL_rt, kBd_u, kCi2_u, kCi1_t, kCi1_f, kCi_u, List.any_cons, List.any_nil, Bool.or_false, Bool.or_true, Bool.true_or, Bool.false_or, Bool.and_false, Bool.false_and, Bool.and_true, Bool.true_and, Bool.not_true, Bool.not_false, decide_true, decide_false, true_and, and_true, Nat.reduceAdd, Nat.zero_add, List.length_cons, List.length_nil, Int.reduceLT, Int.reduceLE, Int.reduceNeg, Int.reducePow, Int.reduceAdd, Int.reduceSub, Int.reduceMul, Nat.reduceLeDiff, Nat.reduceLT, Nat.reducePow, Nat.reduceMul, Int.reduceEq, Int.reduceToNat, typed, typOf, big, ne_eq, not_false_eq_true, reduceCtorEq, List.cons_append, List.nil_append, cg_is_from, ch_is_from, cg_is_row, ch_is_row, cf_need_row_0, cg_need_row, ch_need_row, cg_lots_of, ch_lots_of, cg_best_letter, ch_best_letter, cf_made_by_0, cg_made_by, ch_made_by, cf_part_choices_0, cg_part_choices, ch_part_choices, cg_joined, ch_joined, cf_nearest_0, cf_nearest_1, cg_nearest, ch_nearest, cg__law_taken, ch__law_taken, cf__law_row_0, cg__law_row, ch__law_row, cf__law_refused_0, cg__law_refused, ch__law_refused, cf_law_0, cf_law_1, cf_law_2, cg_law, ch_law, fl_1, fl_2, fl_3, su_1_3, su_1_2, su_3_3, su_3_2, su_2_3, su_2_2, hz]
  refine taken_w i2 (by omega) (by omega) fun v3 d3 i3 a3 b3 => ?_
  have s0 : 0 ≤ 1 + v3 := by omega
  obtain ⟨g1, g8⟩ := sg_take a3 (by omega)
  simp only [w_nil, w_cons, kS_nx, kS_rt, kS_bk, kS_ct, kOwn_u, kOwn2_un, kOwn2_val, kOwn2_own, w_own, kAsg_u, w_asg, w_nm, kT_un, kT_val, kT_own, kTs_u, w_tpt, w_tpl, w_tn, w_tc, kSt_o, kSt_p, kSet3_u, kSet4_o, kSet4_p, kSet1_u, w_seti, kApp_u, kApp2_o, kApp2_p, oL_u, oL_o, oL_p, w_app, kExt_u, kExt2_o, kExt2_p, w_ext, kEx_u, w_ex, kRet_u, w_ret, w_rv, kRv_own, kRv_val, rt_cst, rt_glb, rt_op, rt_and, rt_or, rt_not, rt_ite, rt_chain, rt_chain3, rt_call, rt_callV, rt_comp, w_retn, w_pass, kIf_u, kIf_t, kIf_f, w_ifs, kFor4_u, kIt_u, kIt2_s, w_for, w_whl, kRse3_u, kRse2_s, kRse_u, w_rse, zf_nil, zf_cons, zM_s, kTry_u, w_try, w_cat0, kUn_nx, kCat_f, kCat_t, kSuN_n, kSuN_s, kSu_un, kSu_val, w_cat, w_suc, kSl_u, kSl2_un, kSl2_val, kSl2_own, w_sul, w_var, kVar_val, kVar_own, w_cst, w_glb, w_fnv, kE_u, kOpX_u, kOp3_ff, kOp2_s, kOp_u, w_op, kBl_u, kAnd_u, kAnd_t, kAnd_f, w_and, kOr_u, kOr_f, kOr_t, w_or, kNot_u, w_not, kIte_u, kIte_t, kIte_f, w_ite, kCh5_u, kLk4_t, kLk4_f, kLk3_u, kCh2_u, kCh1_u, w_chain, kC5_u, kC2_u, kC1_u, w_chain3, kB2_u, kBack_u, kBackX_u, kCall2_s, kCall_u, w_call, kCv2_s, kCv_u, w_callV, kCm4_u, kCm_u, w_comp, w_en, kCo_u, kEv_u, w_ec, w_pk, kPk_val, kPk_own, kPk_par, kD_u, od_var, od_cst, od_glb, od_op, od_and, od_or, od_not, od_ite, od_chain, od_chain3, od_fnv, od_callV, od_call, od_comp, kFz_u, w_fz, w_an, kAl_u, kAl_t, kAl_f, w_ac, kRun_nx, kRun_rt, kRunX_u, w_fn, w_fv, kFl_u, kFs_p, w_fl, wo_some, wp_ok, wp_ex, sl_0, sl_S, rd_v, rd_n, rs_v, rs_n, opds_nil, opds_cons, opC_s, opd_d, opd_pk, toArgs_nil, toArgs_cons, arC_s, toArg_d, toArg_k, arS_val, arS_own, arS_par, d_val, d_own, d_par, muts_nil, muts_d, muts_pk, mutC_t, mutC_f, m_val, m_own, m_par, pb_nil, pb_cons, put_own, put_par, nd_nil, nd_one, ie_nil, ie_cons, as_v, as_l, ip_pk, ip_d, List.set_cons_zero, List.set_cons_succ, hideE, backE, disp, midOp, mthd, kV_u, kVI_u, kVC_u, p_addI, p_addS, p_addL, p_addT, p_subI, p_mulI, p_mulS, p_mulL, p_mulT, p_fdiv, p_mod, p_pow, p_neg, p_eqI, p_eqS, p_neI, p_neS, p_eqL, p_eqT, p_eqN, p_eqB, p_neL, p_neT, p_neN, p_neB, p_lt, p_le, p_gt, p_ge, p_isN, p_notN, n_non, n_int, n_str, n_tup, n_lst, n_bl, p_inC, p_inL, p_inT, p_niC, p_niL, p_niT, p_ixL, p_ixT, p_ixR, p_ixS, p_sS0, p_sS1, p_sS2, p_sS3, p_sL1, p_sL2, p_sL3, p_sT1, p_sT2, p_sT3, p_revL, p_tup, p_lst, p_lenS, p_lenL, p_lenT, p_lenR, p_int, p_intB, p_listL, p_listT, p_tupleL, p_tupleT, p_min, p_max, kAB_u, kNB_u, p_all, p_any, p_isi, kJn_u, p_join, i_lst, i_tup, i_str, i_eL, i_eT, i_eS, i_r1, i_r2, i_r3, cut_n, kL_nx, kL_ct, kL_bk, kL_rt, kBd_u, kCi2_u, kCi1_t, kCi1_f, kCi_u, List.any_cons, List.any_nil, Bool.or_false, Bool.or_true, Bool.true_or, Bool.false_or, Bool.and_false, Bool.false_and, Bool.and_true, Bool.true_and, Bool.not_true, Bool.not_false, decide_true, decide_false, true_and, and_true, Nat.reduceAdd, Nat.zero_add, List.length_cons, List.length_nil, Int.reduceLT, Int.reduceLE, Int.reduceNeg, Int.reducePow, Int.reduceAdd, Int.reduceSub, Int.reduceMul, Nat.reduceLeDiff, Nat.reduceLT, Nat.reducePow, Nat.reduceMul, Int.reduceEq, Int.reduceToNat, typed, typOf, big, ne_eq, not_false_eq_true, reduceCtorEq, List.cons_append, List.nil_append, cg_is_from, ch_is_from, cg_is_row, ch_is_row, cf_need_row_0, cg_need_row, ch_need_row, cg_lots_of, ch_lots_of, cg_best_letter, ch_best_letter, cf_made_by_0, cg_made_by, ch_made_by, cf_part_choices_0, cg_part_choices, ch_part_choices, cg_joined, ch_joined, cf_nearest_0, cf_nearest_1, cg_nearest, ch_nearest, cg__law_taken, ch__law_taken, cf__law_row_0, cg__law_row, ch__law_row, cf__law_refused_0, cg__law_refused, ch__law_refused, cf_law_0, cf_law_1, cf_law_2, cg_law, ch_law, fl_1, fl_2, fl_3, su_1_3, su_1_2, su_3_3, su_3_2, su_2_3, su_2_2, cut_p s0]
  generalize List.take (1 + v3).toNat [97, 98, 99, 100, 101, 102, 103, 104] = sg0 at g1 g8 ⊢
  refine taken_w i3 (by omega) (by omega) fun v4 d4 i4 a4 b4 => ?_
  -- what follows, for any signs
  have rest : ∀ sg d5, SgOk sg → IsRow ns d5 → Wp (exs c__law_row (b__law_row.drop 3) [.par d5, .val (.int m), .val (.int (1 + v1)), .val (.str sg), .un, .un, .un, .un, .un]) (kRun [.lent d, .val (.int m)] Q) (kRunX [.lent d, .val (.int m)] X) := by
    intro sg d5 gs i5
    obtain ⟨gs1, gs2, gs3⟩ := gs
    have gb : sg.length ≤ 100000 := by omega
    simp only [b__law_row, List.drop]
    simp only [w_nil, w_cons, kS_nx, kS_rt, kS_bk, kS_ct, kOwn_u, kOwn2_un, kOwn2_val, kOwn2_own, w_own, kAsg_u, w_asg, w_nm, kT_un, kT_val, kT_own, kTs_u, w_tpt, w_tpl, w_tn, w_tc, kSt_o, kSt_p, kSet3_u, kSet4_o, kSet4_p, kSet1_u, w_seti, kApp_u, kApp2_o, kApp2_p, oL_u, oL_o, oL_p, w_app, kExt_u, kExt2_o, kExt2_p, w_ext, kEx_u, w_ex, kRet_u, w_ret, w_rv, kRv_own, kRv_val, rt_cst, rt_glb, rt_op, rt_and, rt_or, rt_not, rt_ite, rt_chain, rt_chain3, rt_call, rt_callV, rt_comp, w_retn, w_pass, kIf_u, kIf_t, kIf_f, w_ifs, kFor4_u, kIt_u, kIt2_s, w_for, w_whl, kRse3_u, kRse2_s, kRse_u, w_rse, zf_nil, zf_cons, zM_s, kTry_u, w_try, w_cat0, kUn_nx, kCat_f, kCat_t, kSuN_n, kSuN_s, kSu_un, kSu_val, w_cat, w_suc, kSl_u, kSl2_un, kSl2_val, kSl2_own, w_sul, w_var, kVar_val, kVar_own, w_cst, w_glb, w_fnv, kE_u, kOpX_u, kOp3_ff, kOp2_s, kOp_u, w_op, kBl_u, kAnd_u, kAnd_t, kAnd_f, w_and, kOr_u, kOr_f, kOr_t, w_or, kNot_u, w_not, kIte_u, kIte_t, kIte_f, w_ite, kCh5_u, kLk4_t, kLk4_f, kLk3_u, kCh2_u, kCh1_u, w_chain, kC5_u, kC2_u, kC1_u, w_chain3, kB2_u, kBack_u, kBackX_u, kCall2_s, kCall_u, w_call, kCv2_s, kCv_u, w_callV, kCm4_u, kCm_u, w_comp, w_en, kCo_u, kEv_u, w_ec, w_pk, kPk_val, kPk_own, kPk_par, kD_u, od_var, od_cst, od_glb, od_op, od_and, od_or, od_not, od_ite, od_chain, od_chain3, od_fnv, od_callV, od_call, od_comp, kFz_u, w_fz, w_an, kAl_u, kAl_t, kAl_f, w_ac, kRun_nx, kRun_rt, kRunX_u, w_fn, w_fv, kFl_u, kFs_p, w_fl, wo_some, wp_ok, wp_ex, sl_0, sl_S, rd_v, rd_n, rs_v, rs_n, opds_nil, opds_cons, opC_s, opd_d, opd_pk, toArgs_nil, toArgs_cons, arC_s, toArg_d, toArg_k, arS_val, arS_own, arS_par, d_val, d_own, d_par, muts_nil, muts_d, muts_pk, mutC_t, mutC_f, m_val, m_own, m_par, pb_nil, pb_cons, put_own, put_par, nd_nil, nd_one, ie_nil, ie_cons, as_v, as_l, ip_pk, ip_d, List.set_cons_zero, List.set_cons_succ, hideE, backE, disp, midOp, mthd, kV_u, kVI_u, kVC_u, p_addI, p_addS, p_addL, p_addT, p_subI, p_mulI, p_mulS, p_mulL, p_mulT, p_fdiv, p_mod, p_pow, p_neg, p_eqI, p_eqS, p_neI, p_neS, p_eqL, p_eqT, p_eqN, p_eqB, p_neL, p_neT, p_neN, p_neB, p_lt, p_le, p_gt, p_ge, p_isN, p_notN, n_non, n_int, n_str, n_tup, n_lst, n_bl, p_inC, p_inL, p_inT, p_niC, p_niL, p_niT, p_ixL, p_ixT, p_ixR, p_ixS, p_sS0, p_sS1, p_sS2, p_sS3, p_sL1, p_sL2, p_sL3, p_sT1, p_sT2, p_sT3, p_revL, p_tup, p_lst, p_lenS, p_lenL, p_lenT, p_lenR, p_int, p_intB, p_listL, p_listT, p_tupleL, p_tupleT, p_min, p_max, kAB_u, kNB_u, p_all, p_any, p_isi, kJn_u, p_join, i_lst, i_tup, i_str, i_eL, i_eT, i_eS, i_r1, i_r2, i_r3, cut_n, kL_nx, kL_ct, kL_bk, kL_rt, kBd_u, kCi2_u, kCi1_t, kCi1_f, kCi_u, List.any_cons, List.any_nil, Bool.or_false, Bool.or_true, Bool.true_or, Bool.false_or, Bool.and_false, Bool.false_and, Bool.and_true, Bool.true_and, Bool.not_true, Bool.not_false, decide_true, decide_false, true_and, and_true, Nat.reduceAdd, Nat.zero_add, List.length_cons, List.length_nil, Int.reduceLT, Int.reduceLE, Int.reduceNeg, Int.reducePow, Int.reduceAdd, Int.reduceSub, Int.reduceMul, Nat.reduceLeDiff, Nat.reduceLT, Nat.reducePow, Nat.reduceMul, Int.reduceEq, Int.reduceToNat, typed, typOf, big, ne_eq, not_false_eq_true, reduceCtorEq, List.cons_append, List.nil_append, cg_is_from, ch_is_from, cg_is_row, ch_is_row, cf_need_row_0, cg_need_row, ch_need_row, cg_lots_of, ch_lots_of, cg_best_letter, ch_best_letter, cf_made_by_0, cg_made_by, ch_made_by, cf_part_choices_0, cg_part_choices, ch_part_choices, cg_joined, ch_joined, cf_nearest_0, cf_nearest_1, cg_nearest, ch_nearest, cg__law_taken, ch__law_taken, cf__law_row_0, cg__law_row, ch__law_row, cf__law_refused_0, cg__law_refused, ch__law_refused, cf_law_0, cf_law_1, cf_law_2, cg_law, ch_law, fl_1, fl_2, fl_3, su_1_3, su_1_2, su_3_3, su_3_2, su_2_3, su_2_2]
    refine taken_w i5 (by omega) (by omega) fun v5 d6 i6 a5 b5 => ?_
    have ok1 : okI (1 + v1) = true := okI_c (by omega) (by omega)
    by_cases c5 : v5 = 0
    · simp only [w_nil, w_cons, kS_nx, kS_rt, kS_bk, kS_ct, kOwn_u, kOwn2_un, kOwn2_val, kOwn2_own, w_own, kAsg_u, w_asg, w_nm, kT_un, kT_val, kT_own, kTs_u, w_tpt, w_tpl, w_tn, w_tc, kSt_o, kSt_p, kSet3_u, kSet4_o, kSet4_p, kSet1_u, w_seti, kApp_u, kApp2_o, kApp2_p, oL_u, oL_o, oL_p, w_app, kExt_u, kExt2_o, kExt2_p, w_ext, kEx_u, w_ex, kRet_u, w_ret, w_rv, kRv_own, kRv_val, rt_cst, rt_glb, rt_op, rt_and, rt_or, rt_not, rt_ite, rt_chain, rt_chain3, rt_call, rt_callV, rt_comp, w_retn, w_pass, kIf_u, kIf_t, kIf_f, w_ifs, kFor4_u, kIt_u, kIt2_s, w_for, w_whl, kRse3_u, kRse2_s, kRse_u, w_rse, zf_nil, zf_cons, zM_s, kTry_u, w_try, w_cat0, kUn_nx, kCat_f, kCat_t, kSuN_n, kSuN_s, kSu_un, kSu_val, w_cat, w_suc, kSl_u, kSl2_un, kSl2_val, kSl2_own, w_sul, w_var, kVar_val, kVar_own, w_cst, w_glb, w_fnv, kE_u, kOpX_u, kOp3_ff, kOp2_s, kOp_u, w_op, kBl_u, kAnd_u, kAnd_t, kAnd_f, w_and, kOr_u, kOr_f, kOr_t, w_or, kNot_u, w_not, kIte_u, kIte_t, kIte_f, w_ite, kCh5_u, kLk4_t, kLk4_f, kLk3_u, kCh2_u, kCh1_u, w_chain, kC5_u, kC2_u, kC1_u, w_chain3, kB2_u, kBack_u, kBackX_u, kCall2_s, kCall_u, w_call, kCv2_s, kCv_u, w_callV, kCm4_u, kCm_u, w_comp, w_en, kCo_u, kEv_u, w_ec, w_pk, kPk_val, kPk_own, kPk_par, kD_u, od_var, od_cst, od_glb, od_op, od_and, od_or, od_not, od_ite, od_chain, od_chain3, od_fnv, od_callV, od_call, od_comp, kFz_u, w_fz, w_an, kAl_u, kAl_t, kAl_f, w_ac, kRun_nx, kRun_rt, kRunX_u, w_fn, w_fv, kFl_u, kFs_p, w_fl, wo_some, wp_ok, wp_ex, sl_0, sl_S, rd_v, rd_n, rs_v, rs_n, opds_nil, opds_cons, opC_s, opd_d, opd_pk, toArgs_nil, toArgs_cons, arC_s, toArg_d, toArg_k, arS_val, arS_own, arS_par, d_val, d_own, d_par, muts_nil, muts_d, muts_pk, mutC_t, mutC_f, m_val, m_own, m_par, pb_nil, pb_cons, put_own, put_par, nd_nil, nd_one, ie_nil, ie_cons, as_v, as_l, ip_pk, ip_d, List.set_cons_zero, List.set_cons_succ, hideE, backE, disp, midOp, mthd, kV_u, kVI_u, kVC_u, p_addI, p_addS, p_addL, p_addT, p_subI, p_mulI, p_mulS, p_mulL, p_mulT, p_fdiv, p_mod, p_pow, p_neg, p_eqI, p_eqS, p_neI, p_neS, p_eqL, p_eqT, p_eqN, p_eqB, p_neL, p_neT, p_neN, p_neB, p_lt, p_le, p_gt, p_ge, p_isN, p_notN, n_non, n_int, n_str, n_tup, n_lst, n_bl, p_inC, p_inL, p_inT, p_niC, p_niL, p_niT, p_ixL, p_ixT, p_ixR, p_ixS, p_sS0, p_sS1, p_sS2, p_sS3, p_sL1, p_sL2, p_sL3, p_sT1, p_sT2, p_sT3, p_revL, p_tup, p_lst, p_lenS, p_lenL, p_lenT, p_lenR, p_int, p_intB, p_listL, p_listT, p_tupleL, p_tupleT, p_min, p_max, kAB_u, kNB_u, p_all, p_any, p_isi, kJn_u, p_join, i_lst, i_tup, i_str, i_eL, i_eT, i_eS, i_r1, i_r2, i_r3, cut_n, kL_nx, kL_ct, kL_bk, kL_rt, kBd_u, kCi2_u, kCi1_t, kCi1_f, kCi_u, List.any_cons, List.any_nil, Bool.or_false, Bool.or_true, Bool.true_or, Bool.false_or, Bool.and_false, Bool.false_and, Bool.and_true, Bool.true_and, Bool.not_true, Bool.not_false, decide_true, decide_false, true_and, and_true, Nat.reduceAdd, Nat.zero_add, List.length_cons, List.length_nil, Int.reduceLT, Int.reduceLE, Int.reduceNeg, Int.reducePow, Int.reduceAdd, Int.reduceSub, Int.reduceMul, Nat.reduceLeDiff, Nat.reduceLT, Nat.reducePow, Nat.reduceMul, Int.reduceEq, Int.reduceToNat, typed, typOf, big, ne_eq, not_false_eq_true, reduceCtorEq, List.cons_append, List.nil_append, cg_is_from, ch_is_from, cg_is_row, ch_is_row, cf_need_row_0, cg_need_row, ch_need_row, cg_lots_of, ch_lots_of, cg_best_letter, ch_best_letter, cf_made_by_0, cg_made_by, ch_made_by, cf_part_choices_0, cg_part_choices, ch_part_choices, cg_joined, ch_joined, cf_nearest_0, cf_nearest_1, cg_nearest, ch_nearest, cg__law_taken, ch__law_taken, cf__law_row_0, cg__law_row, ch__law_row, cf__law_refused_0, cg__law_refused, ch__law_refused, cf_law_0, cf_law_1, cf_law_2, cg_law, ch_law, fl_1, fl_2, fl_3, su_1_3, su_1_2, su_3_3, su_3_2, su_2_3, su_2_2, c5, ok1]
      refine w_compI (fun r acc e => ∃ d' cs, IsRow ns d' ∧ acc = (cs.map fun c => D.str [c]) ∧ (∀ c ∈ cs, c ∈ sg) ∧ cs.length + r.length = (1 + v1).toNat ∧ e = [.par d', .val (.int m), .val (.int (1 + v1)), .val (.str sg), .un, .un, .un, .un, .un]) _ _ _ ⟨d6, [], i6, rfl, fun c hc => (by cases hc), by rw [rngs_len']; simp, rfl⟩ ?_ ?_
      · intro x r acc e ⟨d', cs, j1, j2, j3, j4, j5⟩
        subst j5
        simp only [w_nil, w_cons, kS_nx, kS_rt, kS_bk, kS_ct, kOwn_u, kOwn2_un, kOwn2_val, kOwn2_own, w_own, kAsg_u, w_asg, w_nm, kT_un, kT_val, kT_own, kTs_u, w_tpt, w_tpl, w_tn, w_tc, kSt_o, kSt_p, kSet3_u, kSet4_o, kSet4_p, kSet1_u, w_seti, kApp_u, kApp2_o, kApp2_p, oL_u, oL_o, oL_p, w_app, kExt_u, kExt2_o, kExt2_p, w_ext, kEx_u, w_ex, kRet_u, w_ret, w_rv, kRv_own, kRv_val, rt_cst, rt_glb, rt_op, rt_and, rt_or, rt_not, rt_ite, rt_chain, rt_chain3, rt_call, rt_callV, rt_comp, w_retn, w_pass, kIf_u, kIf_t, kIf_f, w_ifs, kFor4_u, kIt_u, kIt2_s, w_for, w_whl, kRse3_u, kRse2_s, kRse_u, w_rse, zf_nil, zf_cons, zM_s, kTry_u, w_try, w_cat0, kUn_nx, kCat_f, kCat_t, kSuN_n, kSuN_s, kSu_un, kSu_val, w_cat, w_suc, kSl_u, kSl2_un, kSl2_val, kSl2_own, w_sul, w_var, kVar_val, kVar_own, w_cst, w_glb, w_fnv, kE_u, kOpX_u, kOp3_ff, kOp2_s, kOp_u, w_op, kBl_u, kAnd_u, kAnd_t, kAnd_f, w_and, kOr_u, kOr_f, kOr_t, w_or, kNot_u, w_not, kIte_u, kIte_t, kIte_f, w_ite, kCh5_u, kLk4_t, kLk4_f, kLk3_u, kCh2_u, kCh1_u, w_chain, kC5_u, kC2_u, kC1_u, w_chain3, kB2_u, kBack_u, kBackX_u, kCall2_s, kCall_u, w_call, kCv2_s, kCv_u, w_callV, kCm4_u, kCm_u, w_comp, w_en, kCo_u, kEv_u, w_ec, w_pk, kPk_val, kPk_own, kPk_par, kD_u, od_var, od_cst, od_glb, od_op, od_and, od_or, od_not, od_ite, od_chain, od_chain3, od_fnv, od_callV, od_call, od_comp, kFz_u, w_fz, w_an, kAl_u, kAl_t, kAl_f, w_ac, kRun_nx, kRun_rt, kRunX_u, w_fn, w_fv, kFl_u, kFs_p, w_fl, wo_some, wp_ok, wp_ex, sl_0, sl_S, rd_v, rd_n, rs_v, rs_n, opds_nil, opds_cons, opC_s, opd_d, opd_pk, toArgs_nil, toArgs_cons, arC_s, toArg_d, toArg_k, arS_val, arS_own, arS_par, d_val, d_own, d_par, muts_nil, muts_d, muts_pk, mutC_t, mutC_f, m_val, m_own, m_par, pb_nil, pb_cons, put_own, put_par, nd_nil, nd_one, ie_nil, ie_cons, as_v, as_l, ip_pk, ip_d, List.set_cons_zero, List.set_cons_succ, hideE, backE, disp, midOp, mthd, kV_u, kVI_u, kVC_u, p_addI, p_addS, p_addL, p_addT, p_subI, p_mulI, p_mulS, p_mulL, p_mulT, p_fdiv, p_mod, p_pow, p_neg, p_eqI, p_eqS, p_neI, p_neS, p_eqL, p_eqT, p_eqN, p_eqB, p_neL, p_neT, p_neN, p_neB, p_lt, p_le, p_gt, p_ge, p_isN, p_notN, n_non, n_int, n_str, n_tup, n_lst, n_bl, p_inC, p_inL, p_inT, p_niC, p_niL, p_niT, p_ixL, p_ixT, p_ixR, p_ixS, p_sS0, p_sS1, p_sS2, p_sS3, p_sL1, p_sL2, p_sL3, p_sT1, p_sT2, p_sT3, p_revL, p_tup, p_lst, p_lenS, p_lenL, p_lenT, p_lenR, p_int, p_intB, p_listL, p_listT, p_tupleL, p_tupleT, p_min, p_max, kAB_u, kNB_u, p_all, p_any, p_isi, kJn_u, p_join, i_lst, i_tup, i_str, i_eL, i_eT, i_eS, i_r1, i_r2, i_r3, cut_n, kL_nx, kL_ct, kL_bk, kL_rt, kBd_u, kCi2_u, kCi1_t, kCi1_f, kCi_u, List.any_cons, List.any_nil, Bool.or_false, Bool.or_true, Bool.true_or, Bool.false_or, Bool.and_false, Bool.false_and, Bool.and_true, Bool.true_and, Bool.not_true, Bool.not_false, decide_true, decide_false, true_and, and_true, Nat.reduceAdd, Nat.zero_add, List.length_cons, List.length_nil, Int.reduceLT, Int.reduceLE, Int.reduceNeg, Int.reducePow, Int.reduceAdd, Int.reduceSub, Int.reduceMul, Nat.reduceLeDiff, Nat.reduceLT, Nat.reducePow, Nat.reduceMul, Int.reduceEq, Int.reduceToNat, typed, typOf, big, ne_eq, not_false_eq_true, reduceCtorEq, List.cons_append, List.nil_append, cg_is_from, ch_is_from, cg_is_row, ch_is_row, cf_need_row_0, cg_need_row, ch_need_row, cg_lots_of, ch_lots_of, cg_best_letter, ch_best_letter, cf_made_by_0, cg_made_by, ch_made_by, cf_part_choices_0, cg_part_choices, ch_part_choices, cg_joined, ch_joined, cf_nearest_0, cf_nearest_1, cg_nearest, ch_nearest, cg__law_taken, ch__law_taken, cf__law_row_0, cg__law_row, ch__law_row, cf__law_refused_0, cg__law_refused, ch__law_refused, cf_law_0, cf_law_1, cf_law_2, cg_law, ch_law, fl_1, fl_2, fl_3, su_1_3, su_1_2, su_3_3, su_3_2, su_2_3, su_2_2, gb]
        refine taken_w j1 (by omega) (by omega) fun v6 d7 i7 a6 b6 => ?_
        obtain ⟨c, hc, hm⟩ := at_mem (xs := sg) a6 b6
        simp only [w_nil, w_cons, kS_nx, kS_rt, kS_bk, kS_ct, kOwn_u, kOwn2_un, kOwn2_val, kOwn2_own, w_own, kAsg_u, w_asg, w_nm, kT_un, kT_val, kT_own, kTs_u, w_tpt, w_tpl, w_tn, w_tc, kSt_o, kSt_p, kSet3_u, kSet4_o, kSet4_p, kSet1_u, w_seti, kApp_u, kApp2_o, kApp2_p, oL_u, oL_o, oL_p, w_app, kExt_u, kExt2_o, kExt2_p, w_ext, kEx_u, w_ex, kRet_u, w_ret, w_rv, kRv_own, kRv_val, rt_cst, rt_glb, rt_op, rt_and, rt_or, rt_not, rt_ite, rt_chain, rt_chain3, rt_call, rt_callV, rt_comp, w_retn, w_pass, kIf_u, kIf_t, kIf_f, w_ifs, kFor4_u, kIt_u, kIt2_s, w_for, w_whl, kRse3_u, kRse2_s, kRse_u, w_rse, zf_nil, zf_cons, zM_s, kTry_u, w_try, w_cat0, kUn_nx, kCat_f, kCat_t, kSuN_n, kSuN_s, kSu_un, kSu_val, w_cat, w_suc, kSl_u, kSl2_un, kSl2_val, kSl2_own, w_sul, w_var, kVar_val, kVar_own, w_cst, w_glb, w_fnv, kE_u, kOpX_u, kOp3_ff, kOp2_s, kOp_u, w_op, kBl_u, kAnd_u, kAnd_t, kAnd_f, w_and, kOr_u, kOr_f, kOr_t, w_or, kNot_u, w_not, kIte_u, kIte_t, kIte_f, w_ite, kCh5_u, kLk4_t, kLk4_f, kLk3_u, kCh2_u, kCh1_u, w_chain, kC5_u, kC2_u, kC1_u, w_chain3, kB2_u, kBack_u, kBackX_u, kCall2_s, kCall_u, w_call, kCv2_s, kCv_u, w_callV, kCm4_u, kCm_u, w_comp, w_en, kCo_u, kEv_u, w_ec, w_pk, kPk_val, kPk_own, kPk_par, kD_u, od_var, od_cst, od_glb, od_op, od_and, od_or, od_not, od_ite, od_chain, od_chain3, od_fnv, od_callV, od_call, od_comp, kFz_u, w_fz, w_an, kAl_u, kAl_t, kAl_f, w_ac, kRun_nx, kRun_rt, kRunX_u, w_fn, w_fv, kFl_u, kFs_p, w_fl, wo_some, wp_ok, wp_ex, sl_0, sl_S, rd_v, rd_n, rs_v, rs_n, opds_nil, opds_cons, opC_s, opd_d, opd_pk, toArgs_nil, toArgs_cons, arC_s, toArg_d, toArg_k, arS_val, arS_own, arS_par, d_val, d_own, d_par, muts_nil, muts_d, muts_pk, mutC_t, mutC_f, m_val, m_own, m_par, pb_nil, pb_cons, put_own, put_par, nd_nil, nd_one, ie_nil, ie_cons, as_v, as_l, ip_pk, ip_d, List.set_cons_zero, List.set_cons_succ, hideE, backE, disp, midOp, mthd, kV_u, kVI_u, kVC_u, p_addI, p_addS, p_addL, p_addT, p_subI, p_mulI, p_mulS, p_mulL, p_mulT, p_fdiv, p_mod, p_pow, p_neg, p_eqI, p_eqS, p_neI, p_neS, p_eqL, p_eqT, p_eqN, p_eqB, p_neL, p_neT, p_neN, p_neB, p_lt, p_le, p_gt, p_ge, p_isN, p_notN, n_non, n_int, n_str, n_tup, n_lst, n_bl, p_inC, p_inL, p_inT, p_niC, p_niL, p_niT, p_ixL, p_ixT, p_ixR, p_ixS, p_sS0, p_sS1, p_sS2, p_sS3, p_sL1, p_sL2, p_sL3, p_sT1, p_sT2, p_sT3, p_revL, p_tup, p_lst, p_lenS, p_lenL, p_lenT, p_lenR, p_int, p_intB, p_listL, p_listT, p_tupleL, p_tupleT, p_min, p_max, kAB_u, kNB_u, p_all, p_any, p_isi, kJn_u, p_join, i_lst, i_tup, i_str, i_eL, i_eT, i_eS, i_r1, i_r2, i_r3, cut_n, kL_nx, kL_ct, kL_bk, kL_rt, kBd_u, kCi2_u, kCi1_t, kCi1_f, kCi_u, List.any_cons, List.any_nil, Bool.or_false, Bool.or_true, Bool.true_or, Bool.false_or, Bool.and_false, Bool.false_and, Bool.and_true, Bool.true_and, Bool.not_true, Bool.not_false, decide_true, decide_false, true_and, and_true, Nat.reduceAdd, Nat.zero_add, List.length_cons, List.length_nil, Int.reduceLT, Int.reduceLE, Int.reduceNeg, Int.reducePow, Int.reduceAdd, Int.reduceSub, Int.reduceMul, Nat.reduceLeDiff, Nat.reduceLT, Nat.reducePow, Nat.reduceMul, Int.reduceEq, Int.reduceToNat, typed, typOf, big, ne_eq, not_false_eq_true, reduceCtorEq, List.cons_append, List.nil_append, cg_is_from, ch_is_from, cg_is_row, ch_is_row, cf_need_row_0, cg_need_row, ch_need_row, cg_lots_of, ch_lots_of, cg_best_letter, ch_best_letter, cf_made_by_0, cg_made_by, ch_made_by, cf_part_choices_0, cg_part_choices, ch_part_choices, cg_joined, ch_joined, cf_nearest_0, cf_nearest_1, cg_nearest, ch_nearest, cg__law_taken, ch__law_taken, cf__law_row_0, cg__law_row, ch__law_row, cf__law_refused_0, cg__law_refused, ch__law_refused, cf_law_0, cf_law_1, cf_law_2, cg_law, ch_law, fl_1, fl_2, fl_3, su_1_3, su_1_2, su_3_3, su_3_2, su_2_3, su_2_2, hc, gb]
        refine ⟨?_, d7, cs ++ [c], i7, by rw [j2, List.map_append]; rfl, fun y hy => ?_, by simp only [List.length_append, List.length_cons, List.length_nil] at j4 ⊢; omega, rfl⟩
        · rw [j2, List.length_map]
          simp only [List.length_cons] at j4
          omega
        · rcases List.mem_append.mp hy with z | z
          · exact j3 y z
          · simp only [List.mem_cons, List.not_mem_nil, or_false] at z
            rw [z]; exact hm
      · intro acc e ⟨d', cs, j1, j2, j3, j4, j5⟩
        subst j5
        rw [List.length_nil, Nat.add_zero] at j4
        simp only [w_nil, w_cons, kS_nx, kS_rt, kS_bk, kS_ct, kOwn_u, kOwn2_un, kOwn2_val, kOwn2_own, w_own, kAsg_u, w_asg, w_nm, kT_un, kT_val, kT_own, kTs_u, w_tpt, w_tpl, w_tn, w_tc, kSt_o, kSt_p, kSet3_u, kSet4_o, kSet4_p, kSet1_u, w_seti, kApp_u, kApp2_o, kApp2_p, oL_u, oL_o, oL_p, w_app, kExt_u, kExt2_o, kExt2_p, w_ext, kEx_u, w_ex, kRet_u, w_ret, w_rv, kRv_own, kRv_val, rt_cst, rt_glb, rt_op, rt_and, rt_or, rt_not, rt_ite, rt_chain, rt_chain3, rt_call, rt_callV, rt_comp, w_retn, w_pass, kIf_u, kIf_t, kIf_f, w_ifs, kFor4_u, kIt_u, kIt2_s, w_for, w_whl, kRse3_u, kRse2_s, kRse_u, w_rse, zf_nil, zf_cons, zM_s, kTry_u, w_try, w_cat0, kUn_nx, kCat_f, kCat_t, kSuN_n, kSuN_s, kSu_un, kSu_val, w_cat, w_suc, kSl_u, kSl2_un, kSl2_val, kSl2_own, w_sul, w_var, kVar_val, kVar_own, w_cst, w_glb, w_fnv, kE_u, kOpX_u, kOp3_ff, kOp2_s, kOp_u, w_op, kBl_u, kAnd_u, kAnd_t, kAnd_f, w_and, kOr_u, kOr_f, kOr_t, w_or, kNot_u, w_not, kIte_u, kIte_t, kIte_f, w_ite, kCh5_u, kLk4_t, kLk4_f, kLk3_u, kCh2_u, kCh1_u, w_chain, kC5_u, kC2_u, kC1_u, w_chain3, kB2_u, kBack_u, kBackX_u, kCall2_s, kCall_u, w_call, kCv2_s, kCv_u, w_callV, kCm4_u, kCm_u, w_comp, w_en, kCo_u, kEv_u, w_ec, w_pk, kPk_val, kPk_own, kPk_par, kD_u, od_var, od_cst, od_glb, od_op, od_and, od_or, od_not, od_ite, od_chain, od_chain3, od_fnv, od_callV, od_call, od_comp, kFz_u, w_fz, w_an, kAl_u, kAl_t, kAl_f, w_ac, kRun_nx, kRun_rt, kRunX_u, w_fn, w_fv, kFl_u, kFs_p, w_fl, wo_some, wp_ok, wp_ex, sl_0, sl_S, rd_v, rd_n, rs_v, rs_n, opds_nil, opds_cons, opC_s, opd_d, opd_pk, toArgs_nil, toArgs_cons, arC_s, toArg_d, toArg_k, arS_val, arS_own, arS_par, d_val, d_own, d_par, muts_nil, muts_d, muts_pk, mutC_t, mutC_f, m_val, m_own, m_par, pb_nil, pb_cons, put_own, put_par, nd_nil, nd_one, ie_nil, ie_cons, as_v, as_l, ip_pk, ip_d, List.set_cons_zero, List.set_cons_succ, hideE, backE, disp, midOp, mthd, kV_u, kVI_u, kVC_u, p_addI, p_addS, p_addL, p_addT, p_subI, p_mulI, p_mulS, p_mulL, p_mulT, p_fdiv, p_mod, p_pow, p_neg, p_eqI, p_eqS, p_neI, p_neS, p_eqL, p_eqT, p_eqN, p_eqB, p_neL, p_neT, p_neN, p_neB, p_lt, p_le, p_gt, p_ge, p_isN, p_notN, n_non, n_int, n_str, n_tup, n_lst, n_bl, p_inC, p_inL, p_inT, p_niC, p_niL, p_niT, p_ixL, p_ixT, p_ixR, p_ixS, p_sS0, p_sS1, p_sS2, p_sS3, p_sL1, p_sL2, p_sL3, p_sT1, p_sT2, p_sT3, p_revL, p_tup, p_lst, p_lenS, p_lenL, p_lenT, p_lenR, p_int, p_intB, p_listL, p_listT, p_tupleL, p_tupleT, p_min, p_max, kAB_u, kNB_u, p_all, p_any, p_isi, kJn_u, p_join, i_lst, i_tup, i_str, i_eL, i_eT, i_eS, i_r1, i_r2, i_r3, cut_n, kL_nx, kL_ct, kL_bk, kL_rt, kBd_u, kCi2_u, kCi1_t, kCi1_f, kCi_u, List.any_cons, List.any_nil, Bool.or_false, Bool.or_true, Bool.true_or, Bool.false_or, Bool.and_false, Bool.false_and, Bool.and_true, Bool.true_and, Bool.not_true, Bool.not_false, decide_true, decide_false, true_and, and_true, Nat.reduceAdd, Nat.zero_add, List.length_cons, List.length_nil, Int.reduceLT, Int.reduceLE, Int.reduceNeg, Int.reducePow, Int.reduceAdd, Int.reduceSub, Int.reduceMul, Nat.reduceLeDiff, Nat.reduceLT, Nat.reducePow, Nat.reduceMul, Int.reduceEq, Int.reduceToNat, typed, typOf, big, ne_eq, not_false_eq_true, reduceCtorEq, List.cons_append, List.nil_append, cg_is_from, ch_is_from, cg_is_row, ch_is_row, cf_need_row_0, cg_need_row, ch_need_row, cg_lots_of, ch_lots_of, cg_best_letter, ch_best_letter, cf_made_by_0, cg_made_by, ch_made_by, cf_part_choices_0, cg_part_choices, ch_part_choices, cg_joined, ch_joined, cf_nearest_0, cf_nearest_1, cg_nearest, ch_nearest, cg__law_taken, ch__law_taken, cf__law_row_0, cg__law_row, ch__law_row, cf__law_refused_0, cg__law_refused, ch__law_refused, cf_law_0, cf_law_1, cf_law_2, cg_law, ch_law, fl_1, fl_2, fl_3, su_1_3, su_1_2, su_3_3, su_3_2, su_2_3, su_2_2, j2, strs_c, sum_ones, join_e]
        refine ⟨by simp only [List.length_nil, Nat.mul_zero]; omega, k cs d' j1 ⟨by omega, by omega, fun c hc => gs3 c (j3 c hc)⟩ (by omega)⟩
    · simp only [w_nil, w_cons, kS_nx, kS_rt, kS_bk, kS_ct, kOwn_u, kOwn2_un, kOwn2_val, kOwn2_own, w_own, kAsg_u, w_asg, w_nm, kT_un, kT_val, kT_own, kTs_u, w_tpt, w_tpl, w_tn, w_tc, kSt_o, kSt_p, kSet3_u, kSet4_o, kSet4_p, kSet1_u, w_seti, kApp_u, kApp2_o, kApp2_p, oL_u, oL_o, oL_p, w_app, kExt_u, kExt2_o, kExt2_p, w_ext, kEx_u, w_ex, kRet_u, w_ret, w_rv, kRv_own, kRv_val, rt_cst, rt_glb, rt_op, rt_and, rt_or, rt_not, rt_ite, rt_chain, rt_chain3, rt_call, rt_callV, rt_comp, w_retn, w_pass, kIf_u, kIf_t, kIf_f, w_ifs, kFor4_u, kIt_u, kIt2_s, w_for, w_whl, kRse3_u, kRse2_s, kRse_u, w_rse, zf_nil, zf_cons, zM_s, kTry_u, w_try, w_cat0, kUn_nx, kCat_f, kCat_t, kSuN_n, kSuN_s, kSu_un, kSu_val, w_cat, w_suc, kSl_u, kSl2_un, kSl2_val, kSl2_own, w_sul, w_var, kVar_val, kVar_own, w_cst, w_glb, w_fnv, kE_u, kOpX_u, kOp3_ff, kOp2_s, kOp_u, w_op, kBl_u, kAnd_u, kAnd_t, kAnd_f, w_and, kOr_u, kOr_f, kOr_t, w_or, kNot_u, w_not, kIte_u, kIte_t, kIte_f, w_ite, kCh5_u, kLk4_t, kLk4_f, kLk3_u, kCh2_u, kCh1_u, w_chain, kC5_u, kC2_u, kC1_u, w_chain3, kB2_u, kBack_u, kBackX_u, kCall2_s, kCall_u, w_call, kCv2_s, kCv_u, w_callV, kCm4_u, kCm_u, w_comp, w_en, kCo_u, kEv_u, w_ec, w_pk, kPk_val, kPk_own, kPk_par, kD_u, od_var, od_cst, od_glb, od_op, od_and, od_or, od_not, od_ite, od_chain, od_chain3, od_fnv, od_callV, od_call, od_comp, kFz_u, w_fz, w_an, kAl_u, kAl_t, kAl_f, w_ac, kRun_nx, kRun_rt, kRunX_u, w_fn, w_fv, kFl_u, kFs_p, w_fl, wo_some, wp_ok, wp_ex, sl_0, sl_S, rd_v, rd_n, rs_v, rs_n, opds_nil, opds_cons, opC_s, opd_d, opd_pk, toArgs_nil, toArgs_cons, arC_s, toArg_d, toArg_k, arS_val, arS_own, arS_par, d_val, d_own, d_par, muts_nil, muts_d, muts_pk, mutC_t, mutC_f, m_val, m_own, m_par, pb_nil, pb_cons, put_own, put_par, nd_nil, nd_one, ie_nil, ie_cons, as_v, as_l, ip_pk, ip_d, List.set_cons_zero, List.set_cons_succ, hideE, backE, disp, midOp, mthd, kV_u, kVI_u, kVC_u, p_addI, p_addS, p_addL, p_addT, p_subI, p_mulI, p_mulS, p_mulL, p_mulT, p_fdiv, p_mod, p_pow, p_neg, p_eqI, p_eqS, p_neI, p_neS, p_eqL, p_eqT, p_eqN, p_eqB, p_neL, p_neT, p_neN, p_neB, p_lt, p_le, p_gt, p_ge, p_isN, p_notN, n_non, n_int, n_str, n_tup, n_lst, n_bl, p_inC, p_inL, p_inT, p_niC, p_niL, p_niT, p_ixL, p_ixT, p_ixR, p_ixS, p_sS0, p_sS1, p_sS2, p_sS3, p_sL1, p_sL2, p_sL3, p_sT1, p_sT2, p_sT3, p_revL, p_tup, p_lst, p_lenS, p_lenL, p_lenT, p_lenR, p_int, p_intB, p_listL, p_listT, p_tupleL, p_tupleT, p_min, p_max, kAB_u, kNB_u, p_all, p_any, p_isi, kJn_u, p_join, i_lst, i_tup, i_str, i_eL, i_eT, i_eS, i_r1, i_r2, i_r3, cut_n, kL_nx, kL_ct, kL_bk, kL_rt, kBd_u, kCi2_u, kCi1_t, kCi1_f, kCi_u, List.any_cons, List.any_nil, Bool.or_false, Bool.or_true, Bool.true_or, Bool.false_or, Bool.and_false, Bool.false_and, Bool.and_true, Bool.true_and, Bool.not_true, Bool.not_false, decide_true, decide_false, true_and, and_true, Nat.reduceAdd, Nat.zero_add, List.length_cons, List.length_nil, Int.reduceLT, Int.reduceLE, Int.reduceNeg, Int.reducePow, Int.reduceAdd, Int.reduceSub, Int.reduceMul, Nat.reduceLeDiff, Nat.reduceLT, Nat.reducePow, Nat.reduceMul, Int.reduceEq, Int.reduceToNat, typed, typOf, big, ne_eq, not_false_eq_true, reduceCtorEq, List.cons_append, List.nil_append, cg_is_from, ch_is_from, cg_is_row, ch_is_row, cf_need_row_0, cg_need_row, ch_need_row, cg_lots_of, ch_lots_of, cg_best_letter, ch_best_letter, cf_made_by_0, cg_made_by, ch_made_by, cf_part_choices_0, cg_part_choices, ch_part_choices, cg_joined, ch_joined, cf_nearest_0, cf_nearest_1, cg_nearest, ch_nearest, cg__law_taken, ch__law_taken, cf__law_row_0, cg__law_row, ch__law_row, cf__law_refused_0, cg__law_refused, ch__law_refused, cf_law_0, cf_law_1, cf_law_2, cg_law, ch_law, fl_1, fl_2, fl_3, su_1_3, su_1_2, su_3_3, su_3_2, su_2_3, su_2_2, c5]
      refine taken_w i6 (by omega) (by omega) fun v6 d7 i7 a6 b6 => ?_
      have loop : ∀ r d8, IsRow ns d8 → (r.length : Int) = 1 + v1 → (∀ c ∈ r, c ∈ abc) → Wp (exs c__law_row (b__law_row.drop 5) [.par d8, .val (.int m), .val (.int (1 + v1)), .val (.str sg), .un, .val (.str r), .un, .un, .un]) (kRun [.lent d, .val (.int m)] Q) (kRunX [.lent d, .val (.int m)] X) := by
        intro r d8 i8 rl rc
        simp only [b__law_row, List.drop]
        simp only [w_nil, w_cons, kS_nx, kS_rt, kS_bk, kS_ct, kOwn_u, kOwn2_un, kOwn2_val, kOwn2_own, w_own, kAsg_u, w_asg, w_nm, kT_un, kT_val, kT_own, kTs_u, w_tpt, w_tpl, w_tn, w_tc, kSt_o, kSt_p, kSet3_u, kSet4_o, kSet4_p, kSet1_u, w_seti, kApp_u, kApp2_o, kApp2_p, oL_u, oL_o, oL_p, w_app, kExt_u, kExt2_o, kExt2_p, w_ext, kEx_u, w_ex, kRet_u, w_ret, w_rv, kRv_own, kRv_val, rt_cst, rt_glb, rt_op, rt_and, rt_or, rt_not, rt_ite, rt_chain, rt_chain3, rt_call, rt_callV, rt_comp, w_retn, w_pass, kIf_u, kIf_t, kIf_f, w_ifs, kFor4_u, kIt_u, kIt2_s, w_for, w_whl, kRse3_u, kRse2_s, kRse_u, w_rse, zf_nil, zf_cons, zM_s, kTry_u, w_try, w_cat0, kUn_nx, kCat_f, kCat_t, kSuN_n, kSuN_s, kSu_un, kSu_val, w_cat, w_suc, kSl_u, kSl2_un, kSl2_val, kSl2_own, w_sul, w_var, kVar_val, kVar_own, w_cst, w_glb, w_fnv, kE_u, kOpX_u, kOp3_ff, kOp2_s, kOp_u, w_op, kBl_u, kAnd_u, kAnd_t, kAnd_f, w_and, kOr_u, kOr_f, kOr_t, w_or, kNot_u, w_not, kIte_u, kIte_t, kIte_f, w_ite, kCh5_u, kLk4_t, kLk4_f, kLk3_u, kCh2_u, kCh1_u, w_chain, kC5_u, kC2_u, kC1_u, w_chain3, kB2_u, kBack_u, kBackX_u, kCall2_s, kCall_u, w_call, kCv2_s, kCv_u, w_callV, kCm4_u, kCm_u, w_comp, w_en, kCo_u, kEv_u, w_ec, w_pk, kPk_val, kPk_own, kPk_par, kD_u, od_var, od_cst, od_glb, od_op, od_and, od_or, od_not, od_ite, od_chain, od_chain3, od_fnv, od_callV, od_call, od_comp, kFz_u, w_fz, w_an, kAl_u, kAl_t, kAl_f, w_ac, kRun_nx, kRun_rt, kRunX_u, w_fn, w_fv, kFl_u, kFs_p, w_fl, wo_some, wp_ok, wp_ex, sl_0, sl_S, rd_v, rd_n, rs_v, rs_n, opds_nil, opds_cons, opC_s, opd_d, opd_pk, toArgs_nil, toArgs_cons, arC_s, toArg_d, toArg_k, arS_val, arS_own, arS_par, d_val, d_own, d_par, muts_nil, muts_d, muts_pk, mutC_t, mutC_f, m_val, m_own, m_par, pb_nil, pb_cons, put_own, put_par, nd_nil, nd_one, ie_nil, ie_cons, as_v, as_l, ip_pk, ip_d, List.set_cons_zero, List.set_cons_succ, hideE, backE, disp, midOp, mthd, kV_u, kVI_u, kVC_u, p_addI, p_addS, p_addL, p_addT, p_subI, p_mulI, p_mulS, p_mulL, p_mulT, p_fdiv, p_mod, p_pow, p_neg, p_eqI, p_eqS, p_neI, p_neS, p_eqL, p_eqT, p_eqN, p_eqB, p_neL, p_neT, p_neN, p_neB, p_lt, p_le, p_gt, p_ge, p_isN, p_notN, n_non, n_int, n_str, n_tup, n_lst, n_bl, p_inC, p_inL, p_inT, p_niC, p_niL, p_niT, p_ixL, p_ixT, p_ixR, p_ixS, p_sS0, p_sS1, p_sS2, p_sS3, p_sL1, p_sL2, p_sL3, p_sT1, p_sT2, p_sT3, p_revL, p_tup, p_lst, p_lenS, p_lenL, p_lenT, p_lenR, p_int, p_intB, p_listL, p_listT, p_tupleL, p_tupleT, p_min, p_max, kAB_u, kNB_u, p_all, p_any, p_isi, kJn_u, p_join, i_lst, i_tup, i_str, i_eL, i_eT, i_eS, i_r1, i_r2, i_r3, cut_n, kL_nx, kL_ct, kL_bk, kL_rt, kBd_u, kCi2_u, kCi1_t, kCi1_f, kCi_u, List.any_cons, List.any_nil, Bool.or_false, Bool.or_true, Bool.true_or, Bool.false_or, Bool.and_false, Bool.false_and, Bool.and_true, Bool.true_and, Bool.not_true, Bool.not_false, decide_true, decide_false, true_and, and_true, Nat.reduceAdd, Nat.zero_add, List.length_cons, List.length_nil, Int.reduceLT, Int.reduceLE, Int.reduceNeg, Int.reducePow, Int.reduceAdd, Int.reduceSub, Int.reduceMul, Nat.reduceLeDiff, Nat.reduceLT, Nat.reducePow, Nat.reduceMul, Int.reduceEq, Int.reduceToNat, typed, typOf, big, ne_eq, not_false_eq_true, reduceCtorEq, List.cons_append, List.nil_append, cg_is_from, ch_is_from, cg_is_row, ch_is_row, cf_need_row_0, cg_need_row, ch_need_row, cg_lots_of, ch_lots_of, cg_best_letter, ch_best_letter, cf_made_by_0, cg_made_by, ch_made_by, cf_part_choices_0, cg_part_choices, ch_part_choices, cg_joined, ch_joined, cf_nearest_0, cf_nearest_1, cg_nearest, ch_nearest, cg__law_taken, ch__law_taken, cf__law_row_0, cg__law_row, ch__law_row, cf__law_refused_0, cg__law_refused, ch__law_refused, cf_law_0, cf_law_1, cf_law_2, cg_law, ch_law, fl_1, fl_2, fl_3, su_1_3, su_1_2, su_3_3, su_3_2, su_2_3, su_2_2]
        refine taken_w i8 (by omega) (by omega) fun v7 d9 i9 a7 b7 => ?_
        have ok2 : okI (1 + v7) = true := okI_c (by omega) (by omega)
        simp only [w_nil, w_cons, kS_nx, kS_rt, kS_bk, kS_ct, kOwn_u, kOwn2_un, kOwn2_val, kOwn2_own, w_own, kAsg_u, w_asg, w_nm, kT_un, kT_val, kT_own, kTs_u, w_tpt, w_tpl, w_tn, w_tc, kSt_o, kSt_p, kSet3_u, kSet4_o, kSet4_p, kSet1_u, w_seti, kApp_u, kApp2_o, kApp2_p, oL_u, oL_o, oL_p, w_app, kExt_u, kExt2_o, kExt2_p, w_ext, kEx_u, w_ex, kRet_u, w_ret, w_rv, kRv_own, kRv_val, rt_cst, rt_glb, rt_op, rt_and, rt_or, rt_not, rt_ite, rt_chain, rt_chain3, rt_call, rt_callV, rt_comp, w_retn, w_pass, kIf_u, kIf_t, kIf_f, w_ifs, kFor4_u, kIt_u, kIt2_s, w_for, w_whl, kRse3_u, kRse2_s, kRse_u, w_rse, zf_nil, zf_cons, zM_s, kTry_u, w_try, w_cat0, kUn_nx, kCat_f, kCat_t, kSuN_n, kSuN_s, kSu_un, kSu_val, w_cat, w_suc, kSl_u, kSl2_un, kSl2_val, kSl2_own, w_sul, w_var, kVar_val, kVar_own, w_cst, w_glb, w_fnv, kE_u, kOpX_u, kOp3_ff, kOp2_s, kOp_u, w_op, kBl_u, kAnd_u, kAnd_t, kAnd_f, w_and, kOr_u, kOr_f, kOr_t, w_or, kNot_u, w_not, kIte_u, kIte_t, kIte_f, w_ite, kCh5_u, kLk4_t, kLk4_f, kLk3_u, kCh2_u, kCh1_u, w_chain, kC5_u, kC2_u, kC1_u, w_chain3, kB2_u, kBack_u, kBackX_u, kCall2_s, kCall_u, w_call, kCv2_s, kCv_u, w_callV, kCm4_u, kCm_u, w_comp, w_en, kCo_u, kEv_u, w_ec, w_pk, kPk_val, kPk_own, kPk_par, kD_u, od_var, od_cst, od_glb, od_op, od_and, od_or, od_not, od_ite, od_chain, od_chain3, od_fnv, od_callV, od_call, od_comp, kFz_u, w_fz, w_an, kAl_u, kAl_t, kAl_f, w_ac, kRun_nx, kRun_rt, kRunX_u, w_fn, w_fv, kFl_u, kFs_p, w_fl, wo_some, wp_ok, wp_ex, sl_0, sl_S, rd_v, rd_n, rs_v, rs_n, opds_nil, opds_cons, opC_s, opd_d, opd_pk, toArgs_nil, toArgs_cons, arC_s, toArg_d, toArg_k, arS_val, arS_own, arS_par, d_val, d_own, d_par, muts_nil, muts_d, muts_pk, mutC_t, mutC_f, m_val, m_own, m_par, pb_nil, pb_cons, put_own, put_par, nd_nil, nd_one, ie_nil, ie_cons, as_v, as_l, ip_pk, ip_d, List.set_cons_zero, List.set_cons_succ, hideE, backE, disp, midOp, mthd, kV_u, kVI_u, kVC_u, p_addI, p_addS, p_addL, p_addT, p_subI, p_mulI, p_mulS, p_mulL, p_mulT, p_fdiv, p_mod, p_pow, p_neg, p_eqI, p_eqS, p_neI, p_neS, p_eqL, p_eqT, p_eqN, p_eqB, p_neL, p_neT, p_neN, p_neB, p_lt, p_le, p_gt, p_ge, p_isN, p_notN, n_non, n_int, n_str, n_tup, n_lst, n_bl, p_inC, p_inL, p_inT, p_niC, p_niL, p_niT, p_ixL, p_ixT, p_ixR, p_ixS, p_sS0, p_sS1, p_sS2, p_sS3, p_sL1, p_sL2, p_sL3, p_sT1, p_sT2, p_sT3, p_revL, p_tup, p_lst, p_lenS, p_lenL, p_lenT, p_lenR, p_int, p_intB, p_listL, p_listT, p_tupleL, p_tupleT, p_min, p_max, kAB_u, kNB_u, p_all, p_any, p_isi, kJn_u, p_join, i_lst, i_tup, i_str, i_eL, i_eT, i_eS, i_r1, i_r2, i_r3, cut_n, kL_nx, kL_ct, kL_bk, kL_rt, kBd_u, kCi2_u, kCi1_t, kCi1_f, kCi_u, List.any_cons, List.any_nil, Bool.or_false, Bool.or_true, Bool.true_or, Bool.false_or, Bool.and_false, Bool.false_and, Bool.and_true, Bool.true_and, Bool.not_true, Bool.not_false, decide_true, decide_false, true_and, and_true, Nat.reduceAdd, Nat.zero_add, List.length_cons, List.length_nil, Int.reduceLT, Int.reduceLE, Int.reduceNeg, Int.reducePow, Int.reduceAdd, Int.reduceSub, Int.reduceMul, Nat.reduceLeDiff, Nat.reduceLT, Nat.reducePow, Nat.reduceMul, Int.reduceEq, Int.reduceToNat, typed, typOf, big, ne_eq, not_false_eq_true, reduceCtorEq, List.cons_append, List.nil_append, cg_is_from, ch_is_from, cg_is_row, ch_is_row, cf_need_row_0, cg_need_row, ch_need_row, cg_lots_of, ch_lots_of, cg_best_letter, ch_best_letter, cf_made_by_0, cg_made_by, ch_made_by, cf_part_choices_0, cg_part_choices, ch_part_choices, cg_joined, ch_joined, cf_nearest_0, cf_nearest_1, cg_nearest, ch_nearest, cg__law_taken, ch__law_taken, cf__law_row_0, cg__law_row, ch__law_row, cf__law_refused_0, cg__law_refused, ch__law_refused, cf_law_0, cf_law_1, cf_law_2, cg_law, ch_law, fl_1, fl_2, fl_3, su_1_3, su_1_2, su_3_3, su_3_2, su_2_3, su_2_2, ok2]
        refine w_forI (fun _ e => ∃ d' r' s6 s7 s8, IsRow ns d' ∧ (r'.length : Int) = 1 + v1 ∧ (∀ c ∈ r', c ∈ abc) ∧ (s6 = .un ∨ ∃ a, s6 = .val a) ∧ (s7 = .un ∨ ∃ a, s7 = .val a) ∧ (s8 = .un ∨ ∃ a, s8 = .val a) ∧ e = [.par d', .val (.int m), .val (.int (1 + v1)), .val (.str sg), .un, .val (.str r'), s6, s7, s8]) _ _ ⟨d9, r, .un, .un, .un, i9, rl, rc, .inl rfl, .inl rfl, .inl rfl, rfl⟩ ?_ ?_
        · intro x xs e ⟨d', r', s6, s7, s8, j1, j2, j3, j6, j7, j8, j9⟩
          subst j9
          have rb : r'.length ≤ 100000 := by omega
          rcases j6 with rfl | ⟨y6, rfl⟩ <;> rcases j7 with rfl | ⟨y7, rfl⟩ <;> rcases j8 with rfl | ⟨y8, rfl⟩
          all_goals
            simp only [w_nil, w_cons, kS_nx, kS_rt, kS_bk, kS_ct, kOwn_u, kOwn2_un, kOwn2_val, kOwn2_own, w_own, kAsg_u, w_asg, w_nm, kT_un, kT_val, kT_own, kTs_u, w_tpt, w_tpl, w_tn, w_tc, kSt_o, kSt_p, kSet3_u, kSet4_o, kSet4_p, kSet1_u, w_seti, kApp_u, kApp2_o, kApp2_p, oL_u, oL_o, oL_p, w_app, kExt_u, kExt2_o, kExt2_p, w_ext, kEx_u, w_ex, kRet_u, w_ret, w_rv, kRv_own, kRv_val, rt_cst, rt_glb, rt_op, rt_and, rt_or, rt_not, rt_ite, rt_chain, rt_chain3, rt_call, rt_callV, rt_comp, w_retn, w_pass, kIf_u, kIf_t, kIf_f, w_ifs, kFor4_u, kIt_u, kIt2_s, w_for, w_whl, kRse3_u, kRse2_s, kRse_u, w_rse, zf_nil, zf_cons, zM_s, kTry_u, w_try, w_cat0, kUn_nx, kCat_f, kCat_t, kSuN_n, kSuN_s, kSu_un, kSu_val, w_cat, w_suc, kSl_u, kSl2_un, kSl2_val, kSl2_own, w_sul, w_var, kVar_val, kVar_own, w_cst, w_glb, w_fnv, kE_u, kOpX_u, kOp3_ff, kOp2_s, kOp_u, w_op, kBl_u, kAnd_u, kAnd_t, kAnd_f, w_and, kOr_u, kOr_f, kOr_t, w_or, kNot_u, w_not, kIte_u, kIte_t, kIte_f, w_ite, kCh5_u, kLk4_t, kLk4_f, kLk3_u, kCh2_u, kCh1_u, w_chain, kC5_u, kC2_u, kC1_u, w_chain3, kB2_u, kBack_u, kBackX_u, kCall2_s, kCall_u, w_call, kCv2_s, kCv_u, w_callV, kCm4_u, kCm_u, w_comp, w_en, kCo_u, kEv_u, w_ec, w_pk, kPk_val, kPk_own, kPk_par, kD_u, od_var, od_cst, od_glb, od_op, od_and, od_or, od_not, od_ite, od_chain, od_chain3, od_fnv, od_callV, od_call, od_comp, kFz_u, w_fz, w_an, kAl_u, kAl_t, kAl_f, w_ac, kRun_nx, kRun_rt, kRunX_u, w_fn, w_fv, kFl_u, kFs_p, w_fl, wo_some, wp_ok, wp_ex, sl_0, sl_S, rd_v, rd_n, rs_v, rs_n, opds_nil, opds_cons, opC_s, opd_d, opd_pk, toArgs_nil, toArgs_cons, arC_s, toArg_d, toArg_k, arS_val, arS_own, arS_par, d_val, d_own, d_par, muts_nil, muts_d, muts_pk, mutC_t, mutC_f, m_val, m_own, m_par, pb_nil, pb_cons, put_own, put_par, nd_nil, nd_one, ie_nil, ie_cons, as_v, as_l, ip_pk, ip_d, List.set_cons_zero, List.set_cons_succ, hideE, backE, disp, midOp, mthd, kV_u, kVI_u, kVC_u, p_addI, p_addS, p_addL, p_addT, p_subI, p_mulI, p_mulS, p_mulL, p_mulT, p_fdiv, p_mod, p_pow, p_neg, p_eqI, p_eqS, p_neI, p_neS, p_eqL, p_eqT, p_eqN, p_eqB, p_neL, p_neT, p_neN, p_neB, p_lt, p_le, p_gt, p_ge, p_isN, p_notN, n_non, n_int, n_str, n_tup, n_lst, n_bl, p_inC, p_inL, p_inT, p_niC, p_niL, p_niT, p_ixL, p_ixT, p_ixR, p_ixS, p_sS0, p_sS1, p_sS2, p_sS3, p_sL1, p_sL2, p_sL3, p_sT1, p_sT2, p_sT3, p_revL, p_tup, p_lst, p_lenS, p_lenL, p_lenT, p_lenR, p_int, p_intB, p_listL, p_listT, p_tupleL, p_tupleT, p_min, p_max, kAB_u, kNB_u, p_all, p_any, p_isi, kJn_u, p_join, i_lst, i_tup, i_str, i_eL, i_eT, i_eS, i_r1, i_r2, i_r3, cut_n, kL_nx, kL_ct, kL_bk, kL_rt, kBd_u, kCi2_u, kCi1_t, kCi1_f, kCi_u, List.any_cons, List.any_nil, Bool.or_false, Bool.or_true, Bool.true_or, Bool.false_or, Bool.and_false, Bool.false_and, Bool.and_true, Bool.true_and, Bool.not_true, Bool.not_false, decide_true, decide_false, true_and, and_true, Nat.reduceAdd, Nat.zero_add, List.length_cons, List.length_nil, Int.reduceLT, Int.reduceLE, Int.reduceNeg, Int.reducePow, Int.reduceAdd, Int.reduceSub, Int.reduceMul, Nat.reduceLeDiff, Nat.reduceLT, Nat.reducePow, Nat.reduceMul, Int.reduceEq, Int.reduceToNat, typed, typOf, big, ne_eq, not_false_eq_true, reduceCtorEq, List.cons_append, List.nil_append, cg_is_from, ch_is_from, cg_is_row, ch_is_row, cf_need_row_0, cg_need_row, ch_need_row, cg_lots_of, ch_lots_of, cg_best_letter, ch_best_letter, cf_made_by_0, cg_made_by, ch_made_by, cf_part_choices_0, cg_part_choices, ch_part_choices, cg_joined, ch_joined, cf_nearest_0, cf_nearest_1, cg_nearest, ch_nearest, cg__law_taken, ch__law_taken, cf__law_row_0, cg__law_row, ch__law_row, cf__law_refused_0, cg__law_refused, ch__law_refused, cf_law_0, cf_law_1, cf_law_2, cg_law, ch_law, fl_1, fl_2, fl_3, su_1_3, su_1_2, su_3_3, su_3_2, su_2_3, su_2_2]
            refine taken_w j1 (by omega) (by omega) fun v8 d10 i10 a8 b8 => ?_
            simp only [w_nil, w_cons, kS_nx, kS_rt, kS_bk, kS_ct, kOwn_u, kOwn2_un, kOwn2_val, kOwn2_own, w_own, kAsg_u, w_asg, w_nm, kT_un, kT_val, kT_own, kTs_u, w_tpt, w_tpl, w_tn, w_tc, kSt_o, kSt_p, kSet3_u, kSet4_o, kSet4_p, kSet1_u, w_seti, kApp_u, kApp2_o, kApp2_p, oL_u, oL_o, oL_p, w_app, kExt_u, kExt2_o, kExt2_p, w_ext, kEx_u, w_ex, kRet_u, w_ret, w_rv, kRv_own, kRv_val, rt_cst, rt_glb, rt_op, rt_and, rt_or, rt_not, rt_ite, rt_chain, rt_chain3, rt_call, rt_callV, rt_comp, w_retn, w_pass, kIf_u, kIf_t, kIf_f, w_ifs, kFor4_u, kIt_u, kIt2_s, w_for, w_whl, kRse3_u, kRse2_s, kRse_u, w_rse, zf_nil, zf_cons, zM_s, kTry_u, w_try, w_cat0, kUn_nx, kCat_f, kCat_t, kSuN_n, kSuN_s, kSu_un, kSu_val, w_cat, w_suc, kSl_u, kSl2_un, kSl2_val, kSl2_own, w_sul, w_var, kVar_val, kVar_own, w_cst, w_glb, w_fnv, kE_u, kOpX_u, kOp3_ff, kOp2_s, kOp_u, w_op, kBl_u, kAnd_u, kAnd_t, kAnd_f, w_and, kOr_u, kOr_f, kOr_t, w_or, kNot_u, w_not, kIte_u, kIte_t, kIte_f, w_ite, kCh5_u, kLk4_t, kLk4_f, kLk3_u, kCh2_u, kCh1_u, w_chain, kC5_u, kC2_u, kC1_u, w_chain3, kB2_u, kBack_u, kBackX_u, kCall2_s, kCall_u, w_call, kCv2_s, kCv_u, w_callV, kCm4_u, kCm_u, w_comp, w_en, kCo_u, kEv_u, w_ec, w_pk, kPk_val, kPk_own, kPk_par, kD_u, od_var, od_cst, od_glb, od_op, od_and, od_or, od_not, od_ite, od_chain, od_chain3, od_fnv, od_callV, od_call, od_comp, kFz_u, w_fz, w_an, kAl_u, kAl_t, kAl_f, w_ac, kRun_nx, kRun_rt, kRunX_u, w_fn, w_fv, kFl_u, kFs_p, w_fl, wo_some, wp_ok, wp_ex, sl_0, sl_S, rd_v, rd_n, rs_v, rs_n, opds_nil, opds_cons, opC_s, opd_d, opd_pk, toArgs_nil, toArgs_cons, arC_s, toArg_d, toArg_k, arS_val, arS_own, arS_par, d_val, d_own, d_par, muts_nil, muts_d, muts_pk, mutC_t, mutC_f, m_val, m_own, m_par, pb_nil, pb_cons, put_own, put_par, nd_nil, nd_one, ie_nil, ie_cons, as_v, as_l, ip_pk, ip_d, List.set_cons_zero, List.set_cons_succ, hideE, backE, disp, midOp, mthd, kV_u, kVI_u, kVC_u, p_addI, p_addS, p_addL, p_addT, p_subI, p_mulI, p_mulS, p_mulL, p_mulT, p_fdiv, p_mod, p_pow, p_neg, p_eqI, p_eqS, p_neI, p_neS, p_eqL, p_eqT, p_eqN, p_eqB, p_neL, p_neT, p_neN, p_neB, p_lt, p_le, p_gt, p_ge, p_isN, p_notN, n_non, n_int, n_str, n_tup, n_lst, n_bl, p_inC, p_inL, p_inT, p_niC, p_niL, p_niT, p_ixL, p_ixT, p_ixR, p_ixS, p_sS0, p_sS1, p_sS2, p_sS3, p_sL1, p_sL2, p_sL3, p_sT1, p_sT2, p_sT3, p_revL, p_tup, p_lst, p_lenS, p_lenL, p_lenT, p_lenR, p_int, p_intB, p_listL, p_listT, p_tupleL, p_tupleT, p_min, p_max, kAB_u, kNB_u, p_all, p_any, p_isi, kJn_u, p_join, i_lst, i_tup, i_str, i_eL, i_eT, i_eS, i_r1, i_r2, i_r3, cut_n, kL_nx, kL_ct, kL_bk, kL_rt, kBd_u, kCi2_u, kCi1_t, kCi1_f, kCi_u, List.any_cons, List.any_nil, Bool.or_false, Bool.or_true, Bool.true_or, Bool.false_or, Bool.and_false, Bool.false_and, Bool.and_true, Bool.true_and, Bool.not_true, Bool.not_false, decide_true, decide_false, true_and, and_true, Nat.reduceAdd, Nat.zero_add, List.length_cons, List.length_nil, Int.reduceLT, Int.reduceLE, Int.reduceNeg, Int.reducePow, Int.reduceAdd, Int.reduceSub, Int.reduceMul, Nat.reduceLeDiff, Nat.reduceLT, Nat.reducePow, Nat.reduceMul, Int.reduceEq, Int.reduceToNat, typed, typOf, big, ne_eq, not_false_eq_true, reduceCtorEq, List.cons_append, List.nil_append, cg_is_from, ch_is_from, cg_is_row, ch_is_row, cf_need_row_0, cg_need_row, ch_need_row, cg_lots_of, ch_lots_of, cg_best_letter, ch_best_letter, cf_made_by_0, cg_made_by, ch_made_by, cf_part_choices_0, cg_part_choices, ch_part_choices, cg_joined, ch_joined, cf_nearest_0, cf_nearest_1, cg_nearest, ch_nearest, cg__law_taken, ch__law_taken, cf__law_row_0, cg__law_row, ch__law_row, cf__law_refused_0, cg__law_refused, ch__law_refused, cf_law_0, cf_law_1, cf_law_2, cg_law, ch_law, fl_1, fl_2, fl_3, su_1_3, su_1_2, su_3_3, su_3_2, su_2_3, su_2_2]
            refine taken_w i10 (by omega) (by omega) fun v9 d11 i11 a9 b9 => ?_
            simp only [w_nil, w_cons, kS_nx, kS_rt, kS_bk, kS_ct, kOwn_u, kOwn2_un, kOwn2_val, kOwn2_own, w_own, kAsg_u, w_asg, w_nm, kT_un, kT_val, kT_own, kTs_u, w_tpt, w_tpl, w_tn, w_tc, kSt_o, kSt_p, kSet3_u, kSet4_o, kSet4_p, kSet1_u, w_seti, kApp_u, kApp2_o, kApp2_p, oL_u, oL_o, oL_p, w_app, kExt_u, kExt2_o, kExt2_p, w_ext, kEx_u, w_ex, kRet_u, w_ret, w_rv, kRv_own, kRv_val, rt_cst, rt_glb, rt_op, rt_and, rt_or, rt_not, rt_ite, rt_chain, rt_chain3, rt_call, rt_callV, rt_comp, w_retn, w_pass, kIf_u, kIf_t, kIf_f, w_ifs, kFor4_u, kIt_u, kIt2_s, w_for, w_whl, kRse3_u, kRse2_s, kRse_u, w_rse, zf_nil, zf_cons, zM_s, kTry_u, w_try, w_cat0, kUn_nx, kCat_f, kCat_t, kSuN_n, kSuN_s, kSu_un, kSu_val, w_cat, w_suc, kSl_u, kSl2_un, kSl2_val, kSl2_own, w_sul, w_var, kVar_val, kVar_own, w_cst, w_glb, w_fnv, kE_u, kOpX_u, kOp3_ff, kOp2_s, kOp_u, w_op, kBl_u, kAnd_u, kAnd_t, kAnd_f, w_and, kOr_u, kOr_f, kOr_t, w_or, kNot_u, w_not, kIte_u, kIte_t, kIte_f, w_ite, kCh5_u, kLk4_t, kLk4_f, kLk3_u, kCh2_u, kCh1_u, w_chain, kC5_u, kC2_u, kC1_u, w_chain3, kB2_u, kBack_u, kBackX_u, kCall2_s, kCall_u, w_call, kCv2_s, kCv_u, w_callV, kCm4_u, kCm_u, w_comp, w_en, kCo_u, kEv_u, w_ec, w_pk, kPk_val, kPk_own, kPk_par, kD_u, od_var, od_cst, od_glb, od_op, od_and, od_or, od_not, od_ite, od_chain, od_chain3, od_fnv, od_callV, od_call, od_comp, kFz_u, w_fz, w_an, kAl_u, kAl_t, kAl_f, w_ac, kRun_nx, kRun_rt, kRunX_u, w_fn, w_fv, kFl_u, kFs_p, w_fl, wo_some, wp_ok, wp_ex, sl_0, sl_S, rd_v, rd_n, rs_v, rs_n, opds_nil, opds_cons, opC_s, opd_d, opd_pk, toArgs_nil, toArgs_cons, arC_s, toArg_d, toArg_k, arS_val, arS_own, arS_par, d_val, d_own, d_par, muts_nil, muts_d, muts_pk, mutC_t, mutC_f, m_val, m_own, m_par, pb_nil, pb_cons, put_own, put_par, nd_nil, nd_one, ie_nil, ie_cons, as_v, as_l, ip_pk, ip_d, List.set_cons_zero, List.set_cons_succ, hideE, backE, disp, midOp, mthd, kV_u, kVI_u, kVC_u, p_addI, p_addS, p_addL, p_addT, p_subI, p_mulI, p_mulS, p_mulL, p_mulT, p_fdiv, p_mod, p_pow, p_neg, p_eqI, p_eqS, p_neI, p_neS, p_eqL, p_eqT, p_eqN, p_eqB, p_neL, p_neT, p_neN, p_neB, p_lt, p_le, p_gt, p_ge, p_isN, p_notN, n_non, n_int, n_str, n_tup, n_lst, n_bl, p_inC, p_inL, p_inT, p_niC, p_niL, p_niT, p_ixL, p_ixT, p_ixR, p_ixS, p_sS0, p_sS1, p_sS2, p_sS3, p_sL1, p_sL2, p_sL3, p_sT1, p_sT2, p_sT3, p_revL, p_tup, p_lst, p_lenS, p_lenL, p_lenT, p_lenR, p_int, p_intB, p_listL, p_listT, p_tupleL, p_tupleT, p_min, p_max, kAB_u, kNB_u, p_all, p_any, p_isi, kJn_u, p_join, i_lst, i_tup, i_str, i_eL, i_eT, i_eS, i_r1, i_r2, i_r3, cut_n, kL_nx, kL_ct, kL_bk, kL_rt, kBd_u, kCi2_u, kCi1_t, kCi1_f, kCi_u, List.any_cons, List.any_nil, Bool.or_false, Bool.or_true, Bool.true_or, Bool.false_or, Bool.and_false, Bool.false_and, Bool.and_true, Bool.true_and, Bool.not_true, Bool.not_false, decide_true, decide_false, true_and, and_true, Nat.reduceAdd, Nat.zero_add, List.length_cons, List.length_nil, Int.reduceLT, Int.reduceLE, Int.reduceNeg, Int.reducePow, Int.reduceAdd, Int.reduceSub, Int.reduceMul, Nat.reduceLeDiff, Nat.reduceLT, Nat.reducePow, Nat.reduceMul, Int.reduceEq, Int.reduceToNat, typed, typOf, big, ne_eq, not_false_eq_true, reduceCtorEq, List.cons_append, List.nil_append, cg_is_from, ch_is_from, cg_is_row, ch_is_row, cf_need_row_0, cg_need_row, ch_need_row, cg_lots_of, ch_lots_of, cg_best_letter, ch_best_letter, cf_made_by_0, cg_made_by, ch_made_by, cf_part_choices_0, cg_part_choices, ch_part_choices, cg_joined, ch_joined, cf_nearest_0, cf_nearest_1, cg_nearest, ch_nearest, cg__law_taken, ch__law_taken, cf__law_row_0, cg__law_row, ch__law_row, cf__law_refused_0, cg__law_refused, ch__law_refused, cf_law_0, cf_law_1, cf_law_2, cg_law, ch_law, fl_1, fl_2, fl_3, su_1_3, su_1_2, su_3_3, su_3_2, su_2_3, su_2_2, gb, rb, cut_p a8]
            refine taken_w i11 (by omega) (by omega) fun v10 d12 i12 a10 b10 => ?_
            obtain ⟨c, hc, hm⟩ := at_mem (xs := sg) a10 b10
            have s1 : 0 ≤ v8 + v9 + 1 := by omega
            have m1 : -100000 ≤ v8 + v9 - v8 + 1 := by omega
            have m2 : v8 + v9 - v8 + 1 ≤ 100000 := by omega
            have m3 : 1 * (v8 + v9 - v8 + 1).toNat ≤ 100000 := by omega
            have dl := dip_len (r := r') (c := c) (a := v8) (b := v8 + v9) a8 (by omega) (by omega) j2
            have dm := dip_mem (r := r') (c := c) (a := v8) (b := v8 + v9) (P := fun x => x ∈ abc) j3 (gs3 c hm)
            simp only [w_nil, w_cons, kS_nx, kS_rt, kS_bk, kS_ct, kOwn_u, kOwn2_un, kOwn2_val, kOwn2_own, w_own, kAsg_u, w_asg, w_nm, kT_un, kT_val, kT_own, kTs_u, w_tpt, w_tpl, w_tn, w_tc, kSt_o, kSt_p, kSet3_u, kSet4_o, kSet4_p, kSet1_u, w_seti, kApp_u, kApp2_o, kApp2_p, oL_u, oL_o, oL_p, w_app, kExt_u, kExt2_o, kExt2_p, w_ext, kEx_u, w_ex, kRet_u, w_ret, w_rv, kRv_own, kRv_val, rt_cst, rt_glb, rt_op, rt_and, rt_or, rt_not, rt_ite, rt_chain, rt_chain3, rt_call, rt_callV, rt_comp, w_retn, w_pass, kIf_u, kIf_t, kIf_f, w_ifs, kFor4_u, kIt_u, kIt2_s, w_for, w_whl, kRse3_u, kRse2_s, kRse_u, w_rse, zf_nil, zf_cons, zM_s, kTry_u, w_try, w_cat0, kUn_nx, kCat_f, kCat_t, kSuN_n, kSuN_s, kSu_un, kSu_val, w_cat, w_suc, kSl_u, kSl2_un, kSl2_val, kSl2_own, w_sul, w_var, kVar_val, kVar_own, w_cst, w_glb, w_fnv, kE_u, kOpX_u, kOp3_ff, kOp2_s, kOp_u, w_op, kBl_u, kAnd_u, kAnd_t, kAnd_f, w_and, kOr_u, kOr_f, kOr_t, w_or, kNot_u, w_not, kIte_u, kIte_t, kIte_f, w_ite, kCh5_u, kLk4_t, kLk4_f, kLk3_u, kCh2_u, kCh1_u, w_chain, kC5_u, kC2_u, kC1_u, w_chain3, kB2_u, kBack_u, kBackX_u, kCall2_s, kCall_u, w_call, kCv2_s, kCv_u, w_callV, kCm4_u, kCm_u, w_comp, w_en, kCo_u, kEv_u, w_ec, w_pk, kPk_val, kPk_own, kPk_par, kD_u, od_var, od_cst, od_glb, od_op, od_and, od_or, od_not, od_ite, od_chain, od_chain3, od_fnv, od_callV, od_call, od_comp, kFz_u, w_fz, w_an, kAl_u, kAl_t, kAl_f, w_ac, kRun_nx, kRun_rt, kRunX_u, w_fn, w_fv, kFl_u, kFs_p, w_fl, wo_some, wp_ok, wp_ex, sl_0, sl_S, rd_v, rd_n, rs_v, rs_n, opds_nil, opds_cons, opC_s, opd_d, opd_pk, toArgs_nil, toArgs_cons, arC_s, toArg_d, toArg_k, arS_val, arS_own, arS_par, d_val, d_own, d_par, muts_nil, muts_d, muts_pk, mutC_t, mutC_f, m_val, m_own, m_par, pb_nil, pb_cons, put_own, put_par, nd_nil, nd_one, ie_nil, ie_cons, as_v, as_l, ip_pk, ip_d, List.set_cons_zero, List.set_cons_succ, hideE, backE, disp, midOp, mthd, kV_u, kVI_u, kVC_u, p_addI, p_addS, p_addL, p_addT, p_subI, p_mulI, p_mulS, p_mulL, p_mulT, p_fdiv, p_mod, p_pow, p_neg, p_eqI, p_eqS, p_neI, p_neS, p_eqL, p_eqT, p_eqN, p_eqB, p_neL, p_neT, p_neN, p_neB, p_lt, p_le, p_gt, p_ge, p_isN, p_notN, n_non, n_int, n_str, n_tup, n_lst, n_bl, p_inC, p_inL, p_inT, p_niC, p_niL, p_niT, p_ixL, p_ixT, p_ixR, p_ixS, p_sS0, p_sS1, p_sS2, p_sS3, p_sL1, p_sL2, p_sL3, p_sT1, p_sT2, p_sT3, p_revL, p_tup, p_lst, p_lenS, p_lenL, p_lenT, p_lenR, p_int, p_intB, p_listL, p_listT, p_tupleL, p_tupleT, p_min, p_max, kAB_u, kNB_u, p_all, p_any, p_isi, kJn_u, p_join, i_lst, i_tup, i_str, i_eL, i_eT, i_eS, i_r1, i_r2, i_r3, cut_n, kL_nx, kL_ct, kL_bk, kL_rt, kBd_u, kCi2_u, kCi1_t, kCi1_f, kCi_u, List.any_cons, List.any_nil, Bool.or_false, Bool.or_true, Bool.true_or, Bool.false_or, Bool.and_false, Bool.false_and, Bool.and_true, Bool.true_and, Bool.not_true, Bool.not_false, decide_true, decide_false, true_and, and_true, Nat.reduceAdd, Nat.zero_add, List.length_cons, List.length_nil, Int.reduceLT, Int.reduceLE, Int.reduceNeg, Int.reducePow, Int.reduceAdd, Int.reduceSub, Int.reduceMul, Nat.reduceLeDiff, Nat.reduceLT, Nat.reducePow, Nat.reduceMul, Int.reduceEq, Int.reduceToNat, typed, typOf, big, ne_eq, not_false_eq_true, reduceCtorEq, List.cons_append, List.nil_append, cg_is_from, ch_is_from, cg_is_row, ch_is_row, cf_need_row_0, cg_need_row, ch_need_row, cg_lots_of, ch_lots_of, cg_best_letter, ch_best_letter, cf_made_by_0, cg_made_by, ch_made_by, cf_part_choices_0, cg_part_choices, ch_part_choices, cg_joined, ch_joined, cf_nearest_0, cf_nearest_1, cg_nearest, ch_nearest, cg__law_taken, ch__law_taken, cf__law_row_0, cg__law_row, ch__law_row, cf__law_refused_0, cg__law_refused, ch__law_refused, cf_law_0, cf_law_1, cf_law_2, cg_law, ch_law, fl_1, fl_2, fl_3, su_1_3, su_1_2, su_3_3, su_3_2, su_2_3, su_2_2, hc, gb, rb, cut_p a8, cut_s s1, flat_rep, m1, m2, m3]
            refine ⟨?_, ?_, d12, _, _, _, _, i12, by rw [dl]; exact j2, dm, .inr ⟨_, rfl⟩, .inr ⟨_, rfl⟩, .inr ⟨_, rfl⟩, rfl⟩
            · rw [List.length_take, List.length_replicate]; omega
            · have := dl
              rw [List.length_append] at this
              omega
        · intro e ⟨d', r', s6, s7, s8, j1, j2, j3, j6, j7, j8, j9⟩
          subst j9
          simp only [w_nil, w_cons, kS_nx, kS_rt, kS_bk, kS_ct, kOwn_u, kOwn2_un, kOwn2_val, kOwn2_own, w_own, kAsg_u, w_asg, w_nm, kT_un, kT_val, kT_own, kTs_u, w_tpt, w_tpl, w_tn, w_tc, kSt_o, kSt_p, kSet3_u, kSet4_o, kSet4_p, kSet1_u, w_seti, kApp_u, kApp2_o, kApp2_p, oL_u, oL_o, oL_p, w_app, kExt_u, kExt2_o, kExt2_p, w_ext, kEx_u, w_ex, kRet_u, w_ret, w_rv, kRv_own, kRv_val, rt_cst, rt_glb, rt_op, rt_and, rt_or, rt_not, rt_ite, rt_chain, rt_chain3, rt_call, rt_callV, rt_comp, w_retn, w_pass, kIf_u, kIf_t, kIf_f, w_ifs, kFor4_u, kIt_u, kIt2_s, w_for, w_whl, kRse3_u, kRse2_s, kRse_u, w_rse, zf_nil, zf_cons, zM_s, kTry_u, w_try, w_cat0, kUn_nx, kCat_f, kCat_t, kSuN_n, kSuN_s, kSu_un, kSu_val, w_cat, w_suc, kSl_u, kSl2_un, kSl2_val, kSl2_own, w_sul, w_var, kVar_val, kVar_own, w_cst, w_glb, w_fnv, kE_u, kOpX_u, kOp3_ff, kOp2_s, kOp_u, w_op, kBl_u, kAnd_u, kAnd_t, kAnd_f, w_and, kOr_u, kOr_f, kOr_t, w_or, kNot_u, w_not, kIte_u, kIte_t, kIte_f, w_ite, kCh5_u, kLk4_t, kLk4_f, kLk3_u, kCh2_u, kCh1_u, w_chain, kC5_u, kC2_u, kC1_u, w_chain3, kB2_u, kBack_u, kBackX_u, kCall2_s, kCall_u, w_call, kCv2_s, kCv_u, w_callV, kCm4_u, kCm_u, w_comp, w_en, kCo_u, kEv_u, w_ec, w_pk, kPk_val, kPk_own, kPk_par, kD_u, od_var, od_cst, od_glb, od_op, od_and, od_or, od_not, od_ite, od_chain, od_chain3, od_fnv, od_callV, od_call, od_comp, kFz_u, w_fz, w_an, kAl_u, kAl_t, kAl_f, w_ac, kRun_nx, kRun_rt, kRunX_u, w_fn, w_fv, kFl_u, kFs_p, w_fl, wo_some, wp_ok, wp_ex, sl_0, sl_S, rd_v, rd_n, rs_v, rs_n, opds_nil, opds_cons, opC_s, opd_d, opd_pk, toArgs_nil, toArgs_cons, arC_s, toArg_d, toArg_k, arS_val, arS_own, arS_par, d_val, d_own, d_par, muts_nil, muts_d, muts_pk, mutC_t, mutC_f, m_val, m_own, m_par, pb_nil, pb_cons, put_own, put_par, nd_nil, nd_one, ie_nil, ie_cons, as_v, as_l, ip_pk, ip_d, List.set_cons_zero, List.set_cons_succ, hideE, backE, disp, midOp, mthd, kV_u, kVI_u, kVC_u, p_addI, p_addS, p_addL, p_addT, p_subI, p_mulI, p_mulS, p_mulL, p_mulT, p_fdiv, p_mod, p_pow, p_neg, p_eqI, p_eqS, p_neI, p_neS, p_eqL, p_eqT, p_eqN, p_eqB, p_neL, p_neT, p_neN, p_neB, p_lt, p_le, p_gt, p_ge, p_isN, p_notN, n_non, n_int, n_str, n_tup, n_lst, n_bl, p_inC, p_inL, p_inT, p_niC, p_niL, p_niT, p_ixL, p_ixT, p_ixR, p_ixS, p_sS0, p_sS1, p_sS2, p_sS3, p_sL1, p_sL2, p_sL3, p_sT1, p_sT2, p_sT3, p_revL, p_tup, p_lst, p_lenS, p_lenL, p_lenT, p_lenR, p_int, p_intB, p_listL, p_listT, p_tupleL, p_tupleT, p_min, p_max, kAB_u, kNB_u, p_all, p_any, p_isi, kJn_u, p_join, i_lst, i_tup, i_str, i_eL, i_eT, i_eS, i_r1, i_r2, i_r3, cut_n, kL_nx, kL_ct, kL_bk, kL_rt, kBd_u, kCi2_u, kCi1_t, kCi1_f, kCi_u, List.any_cons, List.any_nil, Bool.or_false, Bool.or_true, Bool.true_or, Bool.false_or, Bool.and_false, Bool.false_and, Bool.and_true, Bool.true_and, Bool.not_true, Bool.not_false, decide_true, decide_false, true_and, and_true, Nat.reduceAdd, Nat.zero_add, List.length_cons, List.length_nil, Int.reduceLT, Int.reduceLE, Int.reduceNeg, Int.reducePow, Int.reduceAdd, Int.reduceSub, Int.reduceMul, Nat.reduceLeDiff, Nat.reduceLT, Nat.reducePow, Nat.reduceMul, Int.reduceEq, Int.reduceToNat, typed, typOf, big, ne_eq, not_false_eq_true, reduceCtorEq, List.cons_append, List.nil_append, cg_is_from, ch_is_from, cg_is_row, ch_is_row, cf_need_row_0, cg_need_row, ch_need_row, cg_lots_of, ch_lots_of, cg_best_letter, ch_best_letter, cf_made_by_0, cg_made_by, ch_made_by, cf_part_choices_0, cg_part_choices, ch_part_choices, cg_joined, ch_joined, cf_nearest_0, cf_nearest_1, cg_nearest, ch_nearest, cg__law_taken, ch__law_taken, cf__law_row_0, cg__law_row, ch__law_row, cf__law_refused_0, cg__law_refused, ch__law_refused, cf_law_0, cf_law_1, cf_law_2, cg_law, ch_law, fl_1, fl_2, fl_3, su_1_3, su_1_2, su_3_3, su_3_2, su_2_3, su_2_2]
          exact k r' d' j1 ⟨by omega, by omega, j3⟩ (by omega)
      have m1 : -100000 ≤ 1 + v1 := by omega
      have m2 : 1 + v1 ≤ 100000 := by omega
      have m3 : 1 * (1 + v1).toNat ≤ 100000 := by omega
      by_cases c6 : v6 = 0
      · have l2 := loop (List.replicate (1 + v1).toNat 46) d7 i7 (by rw [List.length_replicate]; omega) (fun c hc => by rw [List.eq_of_mem_replicate hc]; decide)
        simp only [b__law_row, List.drop] at l2
        simp only [w_nil, w_cons, kS_nx, kS_rt, kS_bk, kS_ct, kOwn_u, kOwn2_un, kOwn2_val, kOwn2_own, w_own, kAsg_u, w_asg, w_nm, kT_un, kT_val, kT_own, kTs_u, w_tpt, w_tpl, w_tn, w_tc, kSt_o, kSt_p, kSet3_u, kSet4_o, kSet4_p, kSet1_u, w_seti, kApp_u, kApp2_o, kApp2_p, oL_u, oL_o, oL_p, w_app, kExt_u, kExt2_o, kExt2_p, w_ext, kEx_u, w_ex, kRet_u, w_ret, w_rv, kRv_own, kRv_val, rt_cst, rt_glb, rt_op, rt_and, rt_or, rt_not, rt_ite, rt_chain, rt_chain3, rt_call, rt_callV, rt_comp, w_retn, w_pass, kIf_u, kIf_t, kIf_f, w_ifs, kFor4_u, kIt_u, kIt2_s, w_for, w_whl, kRse3_u, kRse2_s, kRse_u, w_rse, zf_nil, zf_cons, zM_s, kTry_u, w_try, w_cat0, kUn_nx, kCat_f, kCat_t, kSuN_n, kSuN_s, kSu_un, kSu_val, w_cat, w_suc, kSl_u, kSl2_un, kSl2_val, kSl2_own, w_sul, w_var, kVar_val, kVar_own, w_cst, w_glb, w_fnv, kE_u, kOpX_u, kOp3_ff, kOp2_s, kOp_u, w_op, kBl_u, kAnd_u, kAnd_t, kAnd_f, w_and, kOr_u, kOr_f, kOr_t, w_or, kNot_u, w_not, kIte_u, kIte_t, kIte_f, w_ite, kCh5_u, kLk4_t, kLk4_f, kLk3_u, kCh2_u, kCh1_u, w_chain, kC5_u, kC2_u, kC1_u, w_chain3, kB2_u, kBack_u, kBackX_u, kCall2_s, kCall_u, w_call, kCv2_s, kCv_u, w_callV, kCm4_u, kCm_u, w_comp, w_en, kCo_u, kEv_u, w_ec, w_pk, kPk_val, kPk_own, kPk_par, kD_u, od_var, od_cst, od_glb, od_op, od_and, od_or, od_not, od_ite, od_chain, od_chain3, od_fnv, od_callV, od_call, od_comp, kFz_u, w_fz, w_an, kAl_u, kAl_t, kAl_f, w_ac, kRun_nx, kRun_rt, kRunX_u, w_fn, w_fv, kFl_u, kFs_p, w_fl, wo_some, wp_ok, wp_ex, sl_0, sl_S, rd_v, rd_n, rs_v, rs_n, opds_nil, opds_cons, opC_s, opd_d, opd_pk, toArgs_nil, toArgs_cons, arC_s, toArg_d, toArg_k, arS_val, arS_own, arS_par, d_val, d_own, d_par, muts_nil, muts_d, muts_pk, mutC_t, mutC_f, m_val, m_own, m_par, pb_nil, pb_cons, put_own, put_par, nd_nil, nd_one, ie_nil, ie_cons, as_v, as_l, ip_pk, ip_d, List.set_cons_zero, List.set_cons_succ, hideE, backE, disp, midOp, mthd, kV_u, kVI_u, kVC_u, p_addI, p_addS, p_addL, p_addT, p_subI, p_mulI, p_mulS, p_mulL, p_mulT, p_fdiv, p_mod, p_pow, p_neg, p_eqI, p_eqS, p_neI, p_neS, p_eqL, p_eqT, p_eqN, p_eqB, p_neL, p_neT, p_neN, p_neB, p_lt, p_le, p_gt, p_ge, p_isN, p_notN, n_non, n_int, n_str, n_tup, n_lst, n_bl, p_inC, p_inL, p_inT, p_niC, p_niL, p_niT, p_ixL, p_ixT, p_ixR, p_ixS, p_sS0, p_sS1, p_sS2, p_sS3, p_sL1, p_sL2, p_sL3, p_sT1, p_sT2, p_sT3, p_revL, p_tup, p_lst, p_lenS, p_lenL, p_lenT, p_lenR, p_int, p_intB, p_listL, p_listT, p_tupleL, p_tupleT, p_min, p_max, kAB_u, kNB_u, p_all, p_any, p_isi, kJn_u, p_join, i_lst, i_tup, i_str, i_eL, i_eT, i_eS, i_r1, i_r2, i_r3, cut_n, kL_nx, kL_ct, kL_bk, kL_rt, kBd_u, kCi2_u, kCi1_t, kCi1_f, kCi_u, List.any_cons, List.any_nil, Bool.or_false, Bool.or_true, Bool.true_or, Bool.false_or, Bool.and_false, Bool.false_and, Bool.and_true, Bool.true_and, Bool.not_true, Bool.not_false, decide_true, decide_false, true_and, and_true, Nat.reduceAdd, Nat.zero_add, List.length_cons, List.length_nil, Int.reduceLT, Int.reduceLE, Int.reduceNeg, Int.reducePow, Int.reduceAdd, Int.reduceSub, Int.reduceMul, Nat.reduceLeDiff, Nat.reduceLT, Nat.reducePow, Nat.reduceMul, Int.reduceEq, Int.reduceToNat, typed, typOf, big, ne_eq, not_false_eq_true, reduceCtorEq, List.cons_append, List.nil_append, cg_is_from, ch_is_from, cg_is_row, ch_is_row, cf_need_row_0, cg_need_row, ch_need_row, cg_lots_of, ch_lots_of, cg_best_letter, ch_best_letter, cf_made_by_0, cg_made_by, ch_made_by, cf_part_choices_0, cg_part_choices, ch_part_choices, cg_joined, ch_joined, cf_nearest_0, cf_nearest_1, cg_nearest, ch_nearest, cg__law_taken, ch__law_taken, cf__law_row_0, cg__law_row, ch__law_row, cf__law_refused_0, cg__law_refused, ch__law_refused, cf_law_0, cf_law_1, cf_law_2, cg_law, ch_law, fl_1, fl_2, fl_3, su_1_3, su_1_2, su_3_3, su_3_2, su_2_3, su_2_2, c6, m1, m2, m3, flat_rep] at l2 ⊢
        exact l2
      · obtain ⟨c, hc, hm⟩ := at_mem (xs := sg) (i := 0) (by omega) (by omega)
        have l2 := loop (List.replicate (1 + v1).toNat c) d7 i7 (by rw [List.length_replicate]; omega) (fun y hy => by rw [List.eq_of_mem_replicate hy]; exact gs3 c hm)
        simp only [b__law_row, List.drop] at l2
        simp only [w_nil, w_cons, kS_nx, kS_rt, kS_bk, kS_ct, kOwn_u, kOwn2_un, kOwn2_val, kOwn2_own, w_own, kAsg_u, w_asg, w_nm, kT_un, kT_val, kT_own, kTs_u, w_tpt, w_tpl, w_tn, w_tc, kSt_o, kSt_p, kSet3_u, kSet4_o, kSet4_p, kSet1_u, w_seti, kApp_u, kApp2_o, kApp2_p, oL_u, oL_o, oL_p, w_app, kExt_u, kExt2_o, kExt2_p, w_ext, kEx_u, w_ex, kRet_u, w_ret, w_rv, kRv_own, kRv_val, rt_cst, rt_glb, rt_op, rt_and, rt_or, rt_not, rt_ite, rt_chain, rt_chain3, rt_call, rt_callV, rt_comp, w_retn, w_pass, kIf_u, kIf_t, kIf_f, w_ifs, kFor4_u, kIt_u, kIt2_s, w_for, w_whl, kRse3_u, kRse2_s, kRse_u, w_rse, zf_nil, zf_cons, zM_s, kTry_u, w_try, w_cat0, kUn_nx, kCat_f, kCat_t, kSuN_n, kSuN_s, kSu_un, kSu_val, w_cat, w_suc, kSl_u, kSl2_un, kSl2_val, kSl2_own, w_sul, w_var, kVar_val, kVar_own, w_cst, w_glb, w_fnv, kE_u, kOpX_u, kOp3_ff, kOp2_s, kOp_u, w_op, kBl_u, kAnd_u, kAnd_t, kAnd_f, w_and, kOr_u, kOr_f, kOr_t, w_or, kNot_u, w_not, kIte_u, kIte_t, kIte_f, w_ite, kCh5_u, kLk4_t, kLk4_f, kLk3_u, kCh2_u, kCh1_u, w_chain, kC5_u, kC2_u, kC1_u, w_chain3, kB2_u, kBack_u, kBackX_u, kCall2_s, kCall_u, w_call, kCv2_s, kCv_u, w_callV, kCm4_u, kCm_u, w_comp, w_en, kCo_u, kEv_u, w_ec, w_pk, kPk_val, kPk_own, kPk_par, kD_u, od_var, od_cst, od_glb, od_op, od_and, od_or, od_not, od_ite, od_chain, od_chain3, od_fnv, od_callV, od_call, od_comp, kFz_u, w_fz, w_an, kAl_u, kAl_t, kAl_f, w_ac, kRun_nx, kRun_rt, kRunX_u, w_fn, w_fv, kFl_u, kFs_p, w_fl, wo_some, wp_ok, wp_ex, sl_0, sl_S, rd_v, rd_n, rs_v, rs_n, opds_nil, opds_cons, opC_s, opd_d, opd_pk, toArgs_nil, toArgs_cons, arC_s, toArg_d, toArg_k, arS_val, arS_own, arS_par, d_val, d_own, d_par, muts_nil, muts_d, muts_pk, mutC_t, mutC_f, m_val, m_own, m_par, pb_nil, pb_cons, put_own, put_par, nd_nil, nd_one, ie_nil, ie_cons, as_v, as_l, ip_pk, ip_d, List.set_cons_zero, List.set_cons_succ, hideE, backE, disp, midOp, mthd, kV_u, kVI_u, kVC_u, p_addI, p_addS, p_addL, p_addT, p_subI, p_mulI, p_mulS, p_mulL, p_mulT, p_fdiv, p_mod, p_pow, p_neg, p_eqI, p_eqS, p_neI, p_neS, p_eqL, p_eqT, p_eqN, p_eqB, p_neL, p_neT, p_neN, p_neB, p_lt, p_le, p_gt, p_ge, p_isN, p_notN, n_non, n_int, n_str, n_tup, n_lst, n_bl, p_inC, p_inL, p_inT, p_niC, p_niL, p_niT, p_ixL, p_ixT, p_ixR, p_ixS, p_sS0, p_sS1, p_sS2, p_sS3, p_sL1, p_sL2, p_sL3, p_sT1, p_sT2, p_sT3, p_revL, p_tup, p_lst, p_lenS, p_lenL, p_lenT, p_lenR, p_int, p_intB, p_listL, p_listT, p_tupleL, p_tupleT, p_min, p_max, kAB_u, kNB_u, p_all, p_any, p_isi, kJn_u, p_join, i_lst, i_tup, i_str, i_eL, i_eT, i_eS, i_r1, i_r2, i_r3, cut_n, kL_nx, kL_ct, kL_bk, kL_rt, kBd_u, kCi2_u, kCi1_t, kCi1_f, kCi_u, List.any_cons, List.any_nil, Bool.or_false, Bool.or_true, Bool.true_or, Bool.false_or, Bool.and_false, Bool.false_and, Bool.and_true, Bool.true_and, Bool.not_true, Bool.not_false, decide_true, decide_false, true_and, and_true, Nat.reduceAdd, Nat.zero_add, List.length_cons, List.length_nil, Int.reduceLT, Int.reduceLE, Int.reduceNeg, Int.reducePow, Int.reduceAdd, Int.reduceSub, Int.reduceMul, Nat.reduceLeDiff, Nat.reduceLT, Nat.reducePow, Nat.reduceMul, Int.reduceEq, Int.reduceToNat, typed, typOf, big, ne_eq, not_false_eq_true, reduceCtorEq, List.cons_append, List.nil_append, cg_is_from, ch_is_from, cg_is_row, ch_is_row, cf_need_row_0, cg_need_row, ch_need_row, cg_lots_of, ch_lots_of, cg_best_letter, ch_best_letter, cf_made_by_0, cg_made_by, ch_made_by, cf_part_choices_0, cg_part_choices, ch_part_choices, cg_joined, ch_joined, cf_nearest_0, cf_nearest_1, cg_nearest, ch_nearest, cg__law_taken, ch__law_taken, cf__law_row_0, cg__law_row, ch__law_row, cf__law_refused_0, cg__law_refused, ch__law_refused, cf_law_0, cf_law_1, cf_law_2, cg_law, ch_law, fl_1, fl_2, fl_3, su_1_3, su_1_2, su_3_3, su_3_2, su_2_3, su_2_2, c6, m1, m2, m3, flat_rep, gb, hc] at l2 ⊢
        exact l2
  by_cases c4 : v4 = 0
  · have l2 := rest (sg0 ++ [46]) d4 (sg_dot g1 g8) i4
    simp only [b__law_row, List.drop] at l2
    have lb : sg0.length + 1 ≤ 100000 := by omega
    simp only [w_nil, w_cons, kS_nx, kS_rt, kS_bk, kS_ct, kOwn_u, kOwn2_un, kOwn2_val, kOwn2_own, w_own, kAsg_u, w_asg, w_nm, kT_un, kT_val, kT_own, kTs_u, w_tpt, w_tpl, w_tn, w_tc, kSt_o, kSt_p, kSet3_u, kSet4_o, kSet4_p, kSet1_u, w_seti, kApp_u, kApp2_o, kApp2_p, oL_u, oL_o, oL_p, w_app, kExt_u, kExt2_o, kExt2_p, w_ext, kEx_u, w_ex, kRet_u, w_ret, w_rv, kRv_own, kRv_val, rt_cst, rt_glb, rt_op, rt_and, rt_or, rt_not, rt_ite, rt_chain, rt_chain3, rt_call, rt_callV, rt_comp, w_retn, w_pass, kIf_u, kIf_t, kIf_f, w_ifs, kFor4_u, kIt_u, kIt2_s, w_for, w_whl, kRse3_u, kRse2_s, kRse_u, w_rse, zf_nil, zf_cons, zM_s, kTry_u, w_try, w_cat0, kUn_nx, kCat_f, kCat_t, kSuN_n, kSuN_s, kSu_un, kSu_val, w_cat, w_suc, kSl_u, kSl2_un, kSl2_val, kSl2_own, w_sul, w_var, kVar_val, kVar_own, w_cst, w_glb, w_fnv, kE_u, kOpX_u, kOp3_ff, kOp2_s, kOp_u, w_op, kBl_u, kAnd_u, kAnd_t, kAnd_f, w_and, kOr_u, kOr_f, kOr_t, w_or, kNot_u, w_not, kIte_u, kIte_t, kIte_f, w_ite, kCh5_u, kLk4_t, kLk4_f, kLk3_u, kCh2_u, kCh1_u, w_chain, kC5_u, kC2_u, kC1_u, w_chain3, kB2_u, kBack_u, kBackX_u, kCall2_s, kCall_u, w_call, kCv2_s, kCv_u, w_callV, kCm4_u, kCm_u, w_comp, w_en, kCo_u, kEv_u, w_ec, w_pk, kPk_val, kPk_own, kPk_par, kD_u, od_var, od_cst, od_glb, od_op, od_and, od_or, od_not, od_ite, od_chain, od_chain3, od_fnv, od_callV, od_call, od_comp, kFz_u, w_fz, w_an, kAl_u, kAl_t, kAl_f, w_ac, kRun_nx, kRun_rt, kRunX_u, w_fn, w_fv, kFl_u, kFs_p, w_fl, wo_some, wp_ok, wp_ex, sl_0, sl_S, rd_v, rd_n, rs_v, rs_n, opds_nil, opds_cons, opC_s, opd_d, opd_pk, toArgs_nil, toArgs_cons, arC_s, toArg_d, toArg_k, arS_val, arS_own, arS_par, d_val, d_own, d_par, muts_nil, muts_d, muts_pk, mutC_t, mutC_f, m_val, m_own, m_par, pb_nil, pb_cons, put_own, put_par, nd_nil, nd_one, ie_nil, ie_cons, as_v, as_l, ip_pk, ip_d, List.set_cons_zero, List.set_cons_succ, hideE, backE, disp, midOp, mthd, kV_u, kVI_u, kVC_u, p_addI, p_addS, p_addL, p_addT, p_subI, p_mulI, p_mulS, p_mulL, p_mulT, p_fdiv, p_mod, p_pow, p_neg, p_eqI, p_eqS, p_neI, p_neS, p_eqL, p_eqT, p_eqN, p_eqB, p_neL, p_neT, p_neN, p_neB, p_lt, p_le, p_gt, p_ge, p_isN, p_notN, n_non, n_int, n_str, n_tup, n_lst, n_bl, p_inC, p_inL, p_inT, p_niC, p_niL, p_niT, p_ixL, p_ixT, p_ixR, p_ixS, p_sS0, p_sS1, p_sS2, p_sS3, p_sL1, p_sL2, p_sL3, p_sT1, p_sT2, p_sT3, p_revL, p_tup, p_lst, p_lenS, p_lenL, p_lenT, p_lenR, p_int, p_intB, p_listL, p_listT, p_tupleL, p_tupleT, p_min, p_max, kAB_u, kNB_u, p_all, p_any, p_isi, kJn_u, p_join, i_lst, i_tup, i_str, i_eL, i_eT, i_eS, i_r1, i_r2, i_r3, cut_n, kL_nx, kL_ct, kL_bk, kL_rt, kBd_u, kCi2_u, kCi1_t, kCi1_f, kCi_u, List.any_cons, List.any_nil, Bool.or_false, Bool.or_true, Bool.true_or, Bool.false_or, Bool.and_false, Bool.false_and, Bool.and_true, Bool.true_and, Bool.not_true, Bool.not_false, decide_true, decide_false, true_and, and_true, Nat.reduceAdd, Nat.zero_add, List.length_cons, List.length_nil, Int.reduceLT, Int.reduceLE, Int.reduceNeg, Int.reducePow, Int.reduceAdd, Int.reduceSub, Int.reduceMul, Nat.reduceLeDiff, Nat.reduceLT, Nat.reducePow, Nat.reduceMul, Int.reduceEq, Int.reduceToNat, typed, typOf, big, ne_eq, not_false_eq_true, reduceCtorEq, List.cons_append, List.nil_append, cg_is_from, ch_is_from, cg_is_row, ch_is_row, cf_need_row_0, cg_need_row, ch_need_row, cg_lots_of, ch_lots_of, cg_best_letter, ch_best_letter, cf_made_by_0, cg_made_by, ch_made_by, cf_part_choices_0, cg_part_choices, ch_part_choices, cg_joined, ch_joined, cf_nearest_0, cf_nearest_1, cg_nearest, ch_nearest, cg__law_taken, ch__law_taken, cf__law_row_0, cg__law_row, ch__law_row, cf__law_refused_0, cg__law_refused, ch__law_refused, cf_law_0, cf_law_1, cf_law_2, cg_law, ch_law, fl_1, fl_2, fl_3, su_1_3, su_1_2, su_3_3, su_3_2, su_2_3, su_2_2, c4, lb] at l2 ⊢
    exact l2
  · have l2 := rest sg0 d4 g1 i4
    simp only [b__law_row, List.drop] at l2
    simp only [w_nil, w_cons, kS_nx, kS_rt, kS_bk, kS_ct, kOwn_u, kOwn2_un, kOwn2_val, kOwn2_own, w_own, kAsg_u, w_asg, w_nm, kT_un, kT_val, kT_own, kTs_u, w_tpt, w_tpl, w_tn, w_tc, kSt_o, kSt_p, kSet3_u, kSet4_o, kSet4_p, kSet1_u, w_seti, kApp_u, kApp2_o, kApp2_p, oL_u, oL_o, oL_p, w_app, kExt_u, kExt2_o, kExt2_p, w_ext, kEx_u, w_ex, kRet_u, w_ret, w_rv, kRv_own, kRv_val, rt_cst, rt_glb, rt_op, rt_and, rt_or, rt_not, rt_ite, rt_chain, rt_chain3, rt_call, rt_callV, rt_comp, w_retn, w_pass, kIf_u, kIf_t, kIf_f, w_ifs, kFor4_u, kIt_u, kIt2_s, w_for, w_whl, kRse3_u, kRse2_s, kRse_u, w_rse, zf_nil, zf_cons, zM_s, kTry_u, w_try, w_cat0, kUn_nx, kCat_f, kCat_t, kSuN_n, kSuN_s, kSu_un, kSu_val, w_cat, w_suc, kSl_u, kSl2_un, kSl2_val, kSl2_own, w_sul, w_var, kVar_val, kVar_own, w_cst, w_glb, w_fnv, kE_u, kOpX_u, kOp3_ff, kOp2_s, kOp_u, w_op, kBl_u, kAnd_u, kAnd_t, kAnd_f, w_and, kOr_u, kOr_f, kOr_t, w_or, kNot_u, w_not, kIte_u, kIte_t, kIte_f, w_ite, kCh5_u, kLk4_t, kLk4_f, kLk3_u, kCh2_u, kCh1_u, w_chain, kC5_u, kC2_u, kC1_u, w_chain3, kB2_u, kBack_u, kBackX_u, kCall2_s, kCall_u, w_call, kCv2_s, kCv_u, w_callV, kCm4_u, kCm_u, w_comp, w_en, kCo_u, kEv_u, w_ec, w_pk, kPk_val, kPk_own, kPk_par, kD_u, od_var, od_cst, od_glb, od_op, od_and, od_or, od_not, od_ite, od_chain, od_chain3, od_fnv, od_callV, od_call, od_comp, kFz_u, w_fz, w_an, kAl_u, kAl_t, kAl_f, w_ac, kRun_nx, kRun_rt, kRunX_u, w_fn, w_fv, kFl_u, kFs_p, w_fl, wo_some, wp_ok, wp_ex, sl_0, sl_S, rd_v, rd_n, rs_v, rs_n, opds_nil, opds_cons, opC_s, opd_d, opd_pk, toArgs_nil, toArgs_cons, arC_s, toArg_d, toArg_k, arS_val, arS_own, arS_par, d_val, d_own, d_par, muts_nil, muts_d, muts_pk, mutC_t, mutC_f, m_val, m_own, m_par, pb_nil, pb_cons, put_own, put_par, nd_nil, nd_one, ie_nil, ie_cons, as_v, as_l, ip_pk, ip_d, List.set_cons_zero, List.set_cons_succ, hideE, backE, disp, midOp, mthd, kV_u, kVI_u, kVC_u, p_addI, p_addS, p_addL, p_addT, p_subI, p_mulI, p_mulS, p_mulL, p_mulT, p_fdiv, p_mod, p_pow, p_neg, p_eqI, p_eqS, p_neI, p_neS, p_eqL, p_eqT, p_eqN, p_eqB, p_neL, p_neT, p_neN, p_neB, p_lt, p_le, p_gt, p_ge, p_isN, p_notN, n_non, n_int, n_str, n_tup, n_lst, n_bl, p_inC, p_inL, p_inT, p_niC, p_niL, p_niT, p_ixL, p_ixT, p_ixR, p_ixS, p_sS0, p_sS1, p_sS2, p_sS3, p_sL1, p_sL2, p_sL3, p_sT1, p_sT2, p_sT3, p_revL, p_tup, p_lst, p_lenS, p_lenL, p_lenT, p_lenR, p_int, p_intB, p_listL, p_listT, p_tupleL, p_tupleT, p_min, p_max, kAB_u, kNB_u, p_all, p_any, p_isi, kJn_u, p_join, i_lst, i_tup, i_str, i_eL, i_eT, i_eS, i_r1, i_r2, i_r3, cut_n, kL_nx, kL_ct, kL_bk, kL_rt, kBd_u, kCi2_u, kCi1_t, kCi1_f, kCi_u, List.any_cons, List.any_nil, Bool.or_false, Bool.or_true, Bool.true_or, Bool.false_or, Bool.and_false, Bool.false_and, Bool.and_true, Bool.true_and, Bool.not_true, Bool.not_false, decide_true, decide_false, true_and, and_true, Nat.reduceAdd, Nat.zero_add, List.length_cons, List.length_nil, Int.reduceLT, Int.reduceLE, Int.reduceNeg, Int.reducePow, Int.reduceAdd, Int.reduceSub, Int.reduceMul, Nat.reduceLeDiff, Nat.reduceLT, Nat.reducePow, Nat.reduceMul, Int.reduceEq, Int.reduceToNat, typed, typOf, big, ne_eq, not_false_eq_true, reduceCtorEq, List.cons_append, List.nil_append, cg_is_from, ch_is_from, cg_is_row, ch_is_row, cf_need_row_0, cg_need_row, ch_need_row, cg_lots_of, ch_lots_of, cg_best_letter, ch_best_letter, cf_made_by_0, cg_made_by, ch_made_by, cf_part_choices_0, cg_part_choices, ch_part_choices, cg_joined, ch_joined, cf_nearest_0, cf_nearest_1, cg_nearest, ch_nearest, cg__law_taken, ch__law_taken, cf__law_row_0, cg__law_row, ch__law_row, cf__law_refused_0, cg__law_refused, ch__law_refused, cf_law_0, cf_law_1, cf_law_2, cg_law, ch_law, fl_1, fl_2, fl_3, su_1_3, su_1_2, su_3_3, su_3_2, su_2_3, su_2_2, c4] at l2 ⊢
    exact l2
end Itp
set_option Elab.async false
set_option linter.all false
set_option maxRecDepth 100000
set_option maxHeartbeats 4000000
namespace Itp
open PySem L2
theorem cutp_len {α : Type} {xs : List α} {b : Int} (h0 : 0 ≤ b) (h1 : b ≤ xs.length) : (cut xs none (some b)).length = b.toNat := by
  rw [cut_p h0, List.length_take]
  omega
theorem near_long {s : List Nat} {b : D} {Q : Res → List D → Prop} {X : Xc → List D → Prop} (hr : RowOk s) (h8 : 8 < s.length) (k : X ⟨q_TooLong, [("most", .int 8)]⟩ []) : Wf (f_nearest [.val (.str s), .val b]) Q X := by
  rw [w_nearest]
  unfold b_nearest
  simp only [w_nil, w_cons, kS_nx, kS_rt, kS_bk, kS_ct, kOwn_u, kOwn2_un, kOwn2_val, kOwn2_own, w_own, kAsg_u, w_asg, w_nm, kT_un, kT_val, kT_own, kTs_u, w_tpt, w_tpl, w_tn, w_tc, kSt_o, kSt_p, kSet3_u, kSet4_o, kSet4_p, kSet1_u, w_seti, kApp_u, kApp2_o, kApp2_p, oL_u, oL_o, oL_p, w_app, kExt_u, kExt2_o, kExt2_p, w_ext, kEx_u, w_ex, kRet_u, w_ret, w_rv, kRv_own, kRv_val, rt_cst, rt_glb, rt_op, rt_and, rt_or, rt_not, rt_ite, rt_chain, rt_chain3, rt_call, rt_callV, rt_comp, w_retn, w_pass, kIf_u, kIf_t, kIf_f, w_ifs, kFor4_u, kIt_u, kIt2_s, w_for, w_whl, kRse3_u, kRse2_s, kRse_u, w_rse, zf_nil, zf_cons, zM_s, kTry_u, w_try, w_cat0, kUn_nx, kCat_f, kCat_t, kSuN_n, kSuN_s, kSu_un, kSu_val, w_cat, w_suc, kSl_u, kSl2_un, kSl2_val, kSl2_own, w_sul, w_var, kVar_val, kVar_own, w_cst, w_glb, w_fnv, kE_u, kOpX_u, kOp3_ff, kOp2_s, kOp_u, w_op, kBl_u, kAnd_u, kAnd_t, kAnd_f, w_and, kOr_u, kOr_f, kOr_t, w_or, kNot_u, w_not, kIte_u, kIte_t, kIte_f, w_ite, kCh5_u, kLk4_t, kLk4_f, kLk3_u, kCh2_u, kCh1_u, w_chain, kC5_u, kC2_u, kC1_u, w_chain3, kB2_u, kBack_u, kBackX_u, kCall2_s, kCall_u, w_call, kCv2_s, kCv_u, w_callV, kCm4_u, kCm_u, w_comp, w_en, kCo_u, kEv_u, w_ec, w_pk, kPk_val, kPk_own, kPk_par, kD_u, od_var, od_cst, od_glb, od_op, od_and, od_or, od_not, od_ite, od_chain, od_chain3, od_fnv, od_callV, od_call, od_comp, kFz_u, w_fz, w_an, kAl_u, kAl_t, kAl_f, w_ac, kRun_nx, kRun_rt, kRunX_u, w_fn, w_fv, kFl_u, kFs_p, w_fl, wo_some, wp_ok, wp_ex, sl_0, sl_S, rd_v, rd_n, rs_v, rs_n, opds_nil, opds_cons, opC_s, opd_d, opd_pk, toArgs_nil, toArgs_cons, arC_s, toArg_d, toArg_k, arS_val, arS_own, arS_par, d_val, d_own, d_par, muts_nil, muts_d, muts_pk, mutC_t, mutC_f, m_val, m_own, m_par, pb_nil, pb_cons, put_own, put_par, nd_nil, nd_one, ie_nil, ie_cons, as_v, as_l, ip_pk, ip_d, List.set_cons_zero, List.set_cons_succ, hideE, backE, disp, midOp, mthd, kV_u, kVI_u, kVC_u, p_addI, p_addS, p_addL, p_addT, p_subI, p_mulI, p_mulS, p_mulL, p_mulT, p_fdiv, p_mod, p_pow, p_neg, p_eqI, p_eqS, p_neI, p_neS, p_eqL, p_eqT, p_eqN, p_eqB, p_neL, p_neT, p_neN, p_neB, p_lt, p_le, p_gt, p_ge, p_isN, p_notN, n_non, n_int, n_str, n_tup, n_lst, n_bl, p_inC, p_inL, p_inT, p_niC, p_niL, p_niT, p_ixL, p_ixT, p_ixR, p_ixS, p_sS0, p_sS1, p_sS2, p_sS3, p_sL1, p_sL2, p_sL3, p_sT1, p_sT2, p_sT3, p_revL, p_tup, p_lst, p_lenS, p_lenL, p_lenT, p_lenR, p_int, p_intB, p_listL, p_listT, p_tupleL, p_tupleT, p_min, p_max, kAB_u, kNB_u, p_all, p_any, p_isi, kJn_u, p_join, i_lst, i_tup, i_str, i_eL, i_eT, i_eS, i_r1, i_r2, i_r3, cut_n, kL_nx, kL_ct, kL_bk, kL_rt, kBd_u, kCi2_u, kCi1_t, kCi1_f, kCi_u, List.any_cons, List.any_nil, Bool.or_false, Bool.or_true, Bool.true_or, Bool.false_or, Bool.and_false, Bool.false_and, Bool.and_true, Bool.true_and, Bool.not_true, Bool.not_false, decide_true, decide_false, true_and, and_true, Nat.reduceAdd, Nat.zero_add, List.length_cons, List.length_nil, Int.reduceLT, Int.reduceLE, Int.reduceNeg, Int.reducePow, Int.reduceAdd, Int.reduceSub, Int.reduceMul, Nat.reduceLeDiff, Nat.reduceLT, Nat.reducePow, Nat.reduceMul, Int.reduceEq, Int.reduceToNat, typed, typOf, big, ne_eq, not_false_eq_true, reduceCtorEq, List.cons_append, List.nil_append, cg_is_from, ch_is_from, cg_is_row, ch_is_row, cf_need_row_0, cg_need_row, ch_need_row, cg_lots_of, ch_lots_of, cg_best_letter, ch_best_letter, cf_made_by_0, cg_made_by, ch_made_by, cf_part_choices_0, cg_part_choices, ch_part_choices, cg_joined, ch_joined, cf_nearest_0, cf_nearest_1, cg_nearest, ch_nearest, cg__law_taken, ch__law_taken, cf__law_row_0, cg__law_row, ch__law_row, cf__law_refused_0, cg__law_refused, ch__law_refused, cf_law_0, cf_law_1, cf_law_2, cg_law, ch_law, fl_1, fl_2, fl_3, su_1_3, su_1_2, su_3_3, su_3_2, su_2_3, su_2_2]
  refine need_row_w rfl (fun t e => by cases e; have := hr.2.1; omega) (fun _ => ?_) (fun z => ?_)
  · have g8 : (8 : Int) < s.length := by omega
    have gb : s.length ≤ 100000 := by have := hr.2.1; omega
    simp only [w_nil, w_cons, kS_nx, kS_rt, kS_bk, kS_ct, kOwn_u, kOwn2_un, kOwn2_val, kOwn2_own, w_own, kAsg_u, w_asg, w_nm, kT_un, kT_val, kT_own, kTs_u, w_tpt, w_tpl, w_tn, w_tc, kSt_o, kSt_p, kSet3_u, kSet4_o, kSet4_p, kSet1_u, w_seti, kApp_u, kApp2_o, kApp2_p, oL_u, oL_o, oL_p, w_app, kExt_u, kExt2_o, kExt2_p, w_ext, kEx_u, w_ex, kRet_u, w_ret, w_rv, kRv_own, kRv_val, rt_cst, rt_glb, rt_op, rt_and, rt_or, rt_not, rt_ite, rt_chain, rt_chain3, rt_call, rt_callV, rt_comp, w_retn, w_pass, kIf_u, kIf_t, kIf_f, w_ifs, kFor4_u, kIt_u, kIt2_s, w_for, w_whl, kRse3_u, kRse2_s, kRse_u, w_rse, zf_nil, zf_cons, zM_s, kTry_u, w_try, w_cat0, kUn_nx, kCat_f, kCat_t, kSuN_n, kSuN_s, kSu_un, kSu_val, w_cat, w_suc, kSl_u, kSl2_un, kSl2_val, kSl2_own, w_sul, w_var, kVar_val, kVar_own, w_cst, w_glb, w_fnv, kE_u, kOpX_u, kOp3_ff, kOp2_s, kOp_u, w_op, kBl_u, kAnd_u, kAnd_t, kAnd_f, w_and, kOr_u, kOr_f, kOr_t, w_or, kNot_u, w_not, kIte_u, kIte_t, kIte_f, w_ite, kCh5_u, kLk4_t, kLk4_f, kLk3_u, kCh2_u, kCh1_u, w_chain, kC5_u, kC2_u, kC1_u, w_chain3, kB2_u, kBack_u, kBackX_u, kCall2_s, kCall_u, w_call, kCv2_s, kCv_u, w_callV, kCm4_u, kCm_u, w_comp, w_en, kCo_u, kEv_u, w_ec, w_pk, kPk_val, kPk_own, kPk_par, kD_u, od_var, od_cst, od_glb, od_op, od_and, od_or, od_not, od_ite, od_chain, od_chain3, od_fnv, od_callV, od_call, od_comp, kFz_u, w_fz, w_an, kAl_u, kAl_t, kAl_f, w_ac, kRun_nx, kRun_rt, kRunX_u, w_fn, w_fv, kFl_u, kFs_p, w_fl, wo_some, wp_ok, wp_ex, sl_0, sl_S, rd_v, rd_n, rs_v, rs_n, opds_nil, opds_cons, opC_s, opd_d, opd_pk, toArgs_nil, toArgs_cons, arC_s, toArg_d, toArg_k, arS_val, arS_own, arS_par, d_val, d_own, d_par, muts_nil, muts_d, muts_pk, mutC_t, mutC_f, m_val, m_own, m_par, pb_nil, pb_cons, put_own, put_par, nd_nil, nd_one, ie_nil, ie_cons, as_v, as_l, ip_pk, ip_d, List.set_cons_zero, List.set_cons_succ, hideE, backE, disp, midOp, mthd, kV_u, kVI_u, kVC_u, p_addI, p_addS, p_addL, p_addT, p_subI, p_mulI, p_mulS, p_mulL, p_mulT, p_fdiv, p_mod, p_pow, p_neg, p_eqI, p_eqS, p_neI, p_neS, p_eqL, p_eqT, p_eqN, p_eqB, p_neL, p_neT, p_neN, p_neB, p_lt, p_le, p_gt, p_ge, p_isN, p_notN, n_non, n_int, n_str, n_tup, n_lst, n_bl, p_inC, p_inL, p_inT, p_niC, p_niL, p_niT, p_ixL, p_ixT, p_ixR, p_ixS, p_sS0, p_sS1, p_sS2, p_sS3, p_sL1, p_sL2, p_sL3, p_sT1, p_sT2, p_sT3, p_revL, p_tup, p_lst, p_lenS, p_lenL, p_lenT, p_lenR, p_int, p_intB, p_listL, p_listT, p_tupleL, p_tupleT, p_min, p_max, kAB_u, kNB_u, p_all, p_any, p_isi, kJn_u, p_join, i_lst, i_tup, i_str, i_eL, i_eT, i_eS, i_r1, i_r2, i_r3, cut_n, kL_nx, kL_ct, kL_bk, kL_rt, kBd_u, kCi2_u, kCi1_t, kCi1_f, kCi_u, List.any_cons, List.any_nil, Bool.or_false, Bool.or_true, Bool.true_or, Bool.false_or, Bool.and_false, Bool.false_and, Bool.and_true, Bool.true_and, Bool.not_true, Bool.not_false, decide_true, decide_false, true_and, and_true, Nat.reduceAdd, Nat.zero_add, List.length_cons, List.length_nil, Int.reduceLT, Int.reduceLE, Int.reduceNeg, Int.reducePow, Int.reduceAdd, Int.reduceSub, Int.reduceMul, Nat.reduceLeDiff, Nat.reduceLT, Nat.reducePow, Nat.reduceMul, Int.reduceEq, Int.reduceToNat, typed, typOf, big, ne_eq, not_false_eq_true, reduceCtorEq, List.cons_append, List.nil_append, cg_is_from, ch_is_from, cg_is_row, ch_is_row, cf_need_row_0, cg_need_row, ch_need_row, cg_lots_of, ch_lots_of, cg_best_letter, ch_best_letter, cf_made_by_0, cg_made_by, ch_made_by, cf_part_choices_0, cg_part_choices, ch_part_choices, cg_joined, ch_joined, cf_nearest_0, cf_nearest_1, cg_nearest, ch_nearest, cg__law_taken, ch__law_taken, cf__law_row_0, cg__law_row, ch__law_row, cf__law_refused_0, cg__law_refused, ch__law_refused, cf_law_0, cf_law_1, cf_law_2, cg_law, ch_law, fl_1, fl_2, fl_3, su_1_3, su_1_2, su_3_3, su_3_2, su_2_3, su_2_2, g8, gb]
    exact k
  · rw [show rowV (.str s) = true from rowB_t.mpr hr] at z
    cases z
theorem near_bad {s : List Nat} {b : D} {Q : Res → List D → Prop} {X : Xc → List D → Prop} (hr : RowOk s) (h8 : s.length ≤ 8) (tb : typed b = true) (hb : fromB b 0 12 = false) (k : X ⟨q_BadNumber, [("n", b)]⟩ []) : Wf (f_nearest [.val (.str s), .val b]) Q X := by
  rw [w_nearest]
  unfold b_nearest
  simp only [w_nil, w_cons, kS_nx, kS_rt, kS_bk, kS_ct, kOwn_u, kOwn2_un, kOwn2_val, kOwn2_own, w_own, kAsg_u, w_asg, w_nm, kT_un, kT_val, kT_own, kTs_u, w_tpt, w_tpl, w_tn, w_tc, kSt_o, kSt_p, kSet3_u, kSet4_o, kSet4_p, kSet1_u, w_seti, kApp_u, kApp2_o, kApp2_p, oL_u, oL_o, oL_p, w_app, kExt_u, kExt2_o, kExt2_p, w_ext, kEx_u, w_ex, kRet_u, w_ret, w_rv, kRv_own, kRv_val, rt_cst, rt_glb, rt_op, rt_and, rt_or, rt_not, rt_ite, rt_chain, rt_chain3, rt_call, rt_callV, rt_comp, w_retn, w_pass, kIf_u, kIf_t, kIf_f, w_ifs, kFor4_u, kIt_u, kIt2_s, w_for, w_whl, kRse3_u, kRse2_s, kRse_u, w_rse, zf_nil, zf_cons, zM_s, kTry_u, w_try, w_cat0, kUn_nx, kCat_f, kCat_t, kSuN_n, kSuN_s, kSu_un, kSu_val, w_cat, w_suc, kSl_u, kSl2_un, kSl2_val, kSl2_own, w_sul, w_var, kVar_val, kVar_own, w_cst, w_glb, w_fnv, kE_u, kOpX_u, kOp3_ff, kOp2_s, kOp_u, w_op, kBl_u, kAnd_u, kAnd_t, kAnd_f, w_and, kOr_u, kOr_f, kOr_t, w_or, kNot_u, w_not, kIte_u, kIte_t, kIte_f, w_ite, kCh5_u, kLk4_t, kLk4_f, kLk3_u, kCh2_u, kCh1_u, w_chain, kC5_u, kC2_u, kC1_u, w_chain3, kB2_u, kBack_u, kBackX_u, kCall2_s, kCall_u, w_call, kCv2_s, kCv_u, w_callV, kCm4_u, kCm_u, w_comp, w_en, kCo_u, kEv_u, w_ec, w_pk, kPk_val, kPk_own, kPk_par, kD_u, od_var, od_cst, od_glb, od_op, od_and, od_or, od_not, od_ite, od_chain, od_chain3, od_fnv, od_callV, od_call, od_comp, kFz_u, w_fz, w_an, kAl_u, kAl_t, kAl_f, w_ac, kRun_nx, kRun_rt, kRunX_u, w_fn, w_fv, kFl_u, kFs_p, w_fl, wo_some, wp_ok, wp_ex, sl_0, sl_S, rd_v, rd_n, rs_v, rs_n, opds_nil, opds_cons, opC_s, opd_d, opd_pk, toArgs_nil, toArgs_cons, arC_s, toArg_d, toArg_k, arS_val, arS_own, arS_par, d_val, d_own, d_par, muts_nil, muts_d, muts_pk, mutC_t, mutC_f, m_val, m_own, m_par, pb_nil, pb_cons, put_own, put_par, nd_nil, nd_one, ie_nil, ie_cons, as_v, as_l, ip_pk, ip_d, List.set_cons_zero, List.set_cons_succ, hideE, backE, disp, midOp, mthd, kV_u, kVI_u, kVC_u, p_addI, p_addS, p_addL, p_addT, p_subI, p_mulI, p_mulS, p_mulL, p_mulT, p_fdiv, p_mod, p_pow, p_neg, p_eqI, p_eqS, p_neI, p_neS, p_eqL, p_eqT, p_eqN, p_eqB, p_neL, p_neT, p_neN, p_neB, p_lt, p_le, p_gt, p_ge, p_isN, p_notN, n_non, n_int, n_str, n_tup, n_lst, n_bl, p_inC, p_inL, p_inT, p_niC, p_niL, p_niT, p_ixL, p_ixT, p_ixR, p_ixS, p_sS0, p_sS1, p_sS2, p_sS3, p_sL1, p_sL2, p_sL3, p_sT1, p_sT2, p_sT3, p_revL, p_tup, p_lst, p_lenS, p_lenL, p_lenT, p_lenR, p_int, p_intB, p_listL, p_listT, p_tupleL, p_tupleT, p_min, p_max, kAB_u, kNB_u, p_all, p_any, p_isi, kJn_u, p_join, i_lst, i_tup, i_str, i_eL, i_eT, i_eS, i_r1, i_r2, i_r3, cut_n, kL_nx, kL_ct, kL_bk, kL_rt, kBd_u, kCi2_u, kCi1_t, kCi1_f, kCi_u, List.any_cons, List.any_nil, Bool.or_false, Bool.or_true, Bool.true_or, Bool.false_or, Bool.and_false, Bool.false_and, Bool.and_true, Bool.true_and, Bool.not_true, Bool.not_false, decide_true, decide_false, true_and, and_true, Nat.reduceAdd, Nat.zero_add, List.length_cons, List.length_nil, Int.reduceLT, Int.reduceLE, Int.reduceNeg, Int.reducePow, Int.reduceAdd, Int.reduceSub, Int.reduceMul, Nat.reduceLeDiff, Nat.reduceLT, Nat.reducePow, Nat.reduceMul, Int.reduceEq, Int.reduceToNat, typed, typOf, big, ne_eq, not_false_eq_true, reduceCtorEq, List.cons_append, List.nil_append, cg_is_from, ch_is_from, cg_is_row, ch_is_row, cf_need_row_0, cg_need_row, ch_need_row, cg_lots_of, ch_lots_of, cg_best_letter, ch_best_letter, cf_made_by_0, cg_made_by, ch_made_by, cf_part_choices_0, cg_part_choices, ch_part_choices, cg_joined, ch_joined, cf_nearest_0, cf_nearest_1, cg_nearest, ch_nearest, cg__law_taken, ch__law_taken, cf__law_row_0, cg__law_row, ch__law_row, cf__law_refused_0, cg__law_refused, ch__law_refused, cf_law_0, cf_law_1, cf_law_2, cg_law, ch_law, fl_1, fl_2, fl_3, su_1_3, su_1_2, su_3_3, su_3_2, su_2_3, su_2_2]
  refine need_row_w rfl (fun t e => by cases e; have := hr.2.1; omega) (fun _ => ?_) (fun z => ?_)
  · have g8 : ¬ (8 : Int) < s.length := by omega
    have gb : s.length ≤ 100000 := by have := hr.2.1; omega
    simp only [w_nil, w_cons, kS_nx, kS_rt, kS_bk, kS_ct, kOwn_u, kOwn2_un, kOwn2_val, kOwn2_own, w_own, kAsg_u, w_asg, w_nm, kT_un, kT_val, kT_own, kTs_u, w_tpt, w_tpl, w_tn, w_tc, kSt_o, kSt_p, kSet3_u, kSet4_o, kSet4_p, kSet1_u, w_seti, kApp_u, kApp2_o, kApp2_p, oL_u, oL_o, oL_p, w_app, kExt_u, kExt2_o, kExt2_p, w_ext, kEx_u, w_ex, kRet_u, w_ret, w_rv, kRv_own, kRv_val, rt_cst, rt_glb, rt_op, rt_and, rt_or, rt_not, rt_ite, rt_chain, rt_chain3, rt_call, rt_callV, rt_comp, w_retn, w_pass, kIf_u, kIf_t, kIf_f, w_ifs, kFor4_u, kIt_u, kIt2_s, w_for, w_whl, kRse3_u, kRse2_s, kRse_u, w_rse, zf_nil, zf_cons, zM_s, kTry_u, w_try, w_cat0, kUn_nx, kCat_f, kCat_t, kSuN_n, kSuN_s, kSu_un, kSu_val, w_cat, w_suc, kSl_u, kSl2_un, kSl2_val, kSl2_own, w_sul, w_var, kVar_val, kVar_own, w_cst, w_glb, w_fnv, kE_u, kOpX_u, kOp3_ff, kOp2_s, kOp_u, w_op, kBl_u, kAnd_u, kAnd_t, kAnd_f, w_and, kOr_u, kOr_f, kOr_t, w_or, kNot_u, w_not, kIte_u, kIte_t, kIte_f, w_ite, kCh5_u, kLk4_t, kLk4_f, kLk3_u, kCh2_u, kCh1_u, w_chain, kC5_u, kC2_u, kC1_u, w_chain3, kB2_u, kBack_u, kBackX_u, kCall2_s, kCall_u, w_call, kCv2_s, kCv_u, w_callV, kCm4_u, kCm_u, w_comp, w_en, kCo_u, kEv_u, w_ec, w_pk, kPk_val, kPk_own, kPk_par, kD_u, od_var, od_cst, od_glb, od_op, od_and, od_or, od_not, od_ite, od_chain, od_chain3, od_fnv, od_callV, od_call, od_comp, kFz_u, w_fz, w_an, kAl_u, kAl_t, kAl_f, w_ac, kRun_nx, kRun_rt, kRunX_u, w_fn, w_fv, kFl_u, kFs_p, w_fl, wo_some, wp_ok, wp_ex, sl_0, sl_S, rd_v, rd_n, rs_v, rs_n, opds_nil, opds_cons, opC_s, opd_d, opd_pk, toArgs_nil, toArgs_cons, arC_s, toArg_d, toArg_k, arS_val, arS_own, arS_par, d_val, d_own, d_par, muts_nil, muts_d, muts_pk, mutC_t, mutC_f, m_val, m_own, m_par, pb_nil, pb_cons, put_own, put_par, nd_nil, nd_one, ie_nil, ie_cons, as_v, as_l, ip_pk, ip_d, List.set_cons_zero, List.set_cons_succ, hideE, backE, disp, midOp, mthd, kV_u, kVI_u, kVC_u, p_addI, p_addS, p_addL, p_addT, p_subI, p_mulI, p_mulS, p_mulL, p_mulT, p_fdiv, p_mod, p_pow, p_neg, p_eqI, p_eqS, p_neI, p_neS, p_eqL, p_eqT, p_eqN, p_eqB, p_neL, p_neT, p_neN, p_neB, p_lt, p_le, p_gt, p_ge, p_isN, p_notN, n_non, n_int, n_str, n_tup, n_lst, n_bl, p_inC, p_inL, p_inT, p_niC, p_niL, p_niT, p_ixL, p_ixT, p_ixR, p_ixS, p_sS0, p_sS1, p_sS2, p_sS3, p_sL1, p_sL2, p_sL3, p_sT1, p_sT2, p_sT3, p_revL, p_tup, p_lst, p_lenS, p_lenL, p_lenT, p_lenR, p_int, p_intB, p_listL, p_listT, p_tupleL, p_tupleT, p_min, p_max, kAB_u, kNB_u, p_all, p_any, p_isi, kJn_u, p_join, i_lst, i_tup, i_str, i_eL, i_eT, i_eS, i_r1, i_r2, i_r3, cut_n, kL_nx, kL_ct, kL_bk, kL_rt, kBd_u, kCi2_u, kCi1_t, kCi1_f, kCi_u, List.any_cons, List.any_nil, Bool.or_false, Bool.or_true, Bool.true_or, Bool.false_or, Bool.and_false, Bool.false_and, Bool.and_true, Bool.true_and, Bool.not_true, Bool.not_false, decide_true, decide_false, true_and, and_true, Nat.reduceAdd, Nat.zero_add, List.length_cons, List.length_nil, Int.reduceLT, Int.reduceLE, Int.reduceNeg, Int.reducePow, Int.reduceAdd, Int.reduceSub, Int.reduceMul, Nat.reduceLeDiff, Nat.reduceLT, Nat.reducePow, Nat.reduceMul, Int.reduceEq, Int.reduceToNat, typed, typOf, big, ne_eq, not_false_eq_true, reduceCtorEq, List.cons_append, List.nil_append, cg_is_from, ch_is_from, cg_is_row, ch_is_row, cf_need_row_0, cg_need_row, ch_need_row, cg_lots_of, ch_lots_of, cg_best_letter, ch_best_letter, cf_made_by_0, cg_made_by, ch_made_by, cf_part_choices_0, cg_part_choices, ch_part_choices, cg_joined, ch_joined, cf_nearest_0, cf_nearest_1, cg_nearest, ch_nearest, cg__law_taken, ch__law_taken, cf__law_row_0, cg__law_row, ch__law_row, cf__law_refused_0, cg__law_refused, ch__law_refused, cf_law_0, cf_law_1, cf_law_2, cg_law, ch_law, fl_1, fl_2, fl_3, su_1_3, su_1_2, su_3_3, su_3_2, su_2_3, su_2_2, g8, gb]
    refine is_from_w tb ?_
    simp only [w_nil, w_cons, kS_nx, kS_rt, kS_bk, kS_ct, kOwn_u, kOwn2_un, kOwn2_val, kOwn2_own, w_own, kAsg_u, w_asg, w_nm, kT_un, kT_val, kT_own, kTs_u, w_tpt, w_tpl, w_tn, w_tc, kSt_o, kSt_p, kSet3_u, kSet4_o, kSet4_p, kSet1_u, w_seti, kApp_u, kApp2_o, kApp2_p, oL_u, oL_o, oL_p, w_app, kExt_u, kExt2_o, kExt2_p, w_ext, kEx_u, w_ex, kRet_u, w_ret, w_rv, kRv_own, kRv_val, rt_cst, rt_glb, rt_op, rt_and, rt_or, rt_not, rt_ite, rt_chain, rt_chain3, rt_call, rt_callV, rt_comp, w_retn, w_pass, kIf_u, kIf_t, kIf_f, w_ifs, kFor4_u, kIt_u, kIt2_s, w_for, w_whl, kRse3_u, kRse2_s, kRse_u, w_rse, zf_nil, zf_cons, zM_s, kTry_u, w_try, w_cat0, kUn_nx, kCat_f, kCat_t, kSuN_n, kSuN_s, kSu_un, kSu_val, w_cat, w_suc, kSl_u, kSl2_un, kSl2_val, kSl2_own, w_sul, w_var, kVar_val, kVar_own, w_cst, w_glb, w_fnv, kE_u, kOpX_u, kOp3_ff, kOp2_s, kOp_u, w_op, kBl_u, kAnd_u, kAnd_t, kAnd_f, w_and, kOr_u, kOr_f, kOr_t, w_or, kNot_u, w_not, kIte_u, kIte_t, kIte_f, w_ite, kCh5_u, kLk4_t, kLk4_f, kLk3_u, kCh2_u, kCh1_u, w_chain, kC5_u, kC2_u, kC1_u, w_chain3, kB2_u, kBack_u, kBackX_u, kCall2_s, kCall_u, w_call, kCv2_s, kCv_u, w_callV, kCm4_u, kCm_u, w_comp, w_en, kCo_u, kEv_u, w_ec, w_pk, kPk_val, kPk_own, kPk_par, kD_u, od_var, od_cst, od_glb, od_op, od_and, od_or, od_not, od_ite, od_chain, od_chain3, od_fnv, od_callV, od_call, od_comp, kFz_u, w_fz, w_an, kAl_u, kAl_t, kAl_f, w_ac, kRun_nx, kRun_rt, kRunX_u, w_fn, w_fv, kFl_u, kFs_p, w_fl, wo_some, wp_ok, wp_ex, sl_0, sl_S, rd_v, rd_n, rs_v, rs_n, opds_nil, opds_cons, opC_s, opd_d, opd_pk, toArgs_nil, toArgs_cons, arC_s, toArg_d, toArg_k, arS_val, arS_own, arS_par, d_val, d_own, d_par, muts_nil, muts_d, muts_pk, mutC_t, mutC_f, m_val, m_own, m_par, pb_nil, pb_cons, put_own, put_par, nd_nil, nd_one, ie_nil, ie_cons, as_v, as_l, ip_pk, ip_d, List.set_cons_zero, List.set_cons_succ, hideE, backE, disp, midOp, mthd, kV_u, kVI_u, kVC_u, p_addI, p_addS, p_addL, p_addT, p_subI, p_mulI, p_mulS, p_mulL, p_mulT, p_fdiv, p_mod, p_pow, p_neg, p_eqI, p_eqS, p_neI, p_neS, p_eqL, p_eqT, p_eqN, p_eqB, p_neL, p_neT, p_neN, p_neB, p_lt, p_le, p_gt, p_ge, p_isN, p_notN, n_non, n_int, n_str, n_tup, n_lst, n_bl, p_inC, p_inL, p_inT, p_niC, p_niL, p_niT, p_ixL, p_ixT, p_ixR, p_ixS, p_sS0, p_sS1, p_sS2, p_sS3, p_sL1, p_sL2, p_sL3, p_sT1, p_sT2, p_sT3, p_revL, p_tup, p_lst, p_lenS, p_lenL, p_lenT, p_lenR, p_int, p_intB, p_listL, p_listT, p_tupleL, p_tupleT, p_min, p_max, kAB_u, kNB_u, p_all, p_any, p_isi, kJn_u, p_join, i_lst, i_tup, i_str, i_eL, i_eT, i_eS, i_r1, i_r2, i_r3, cut_n, kL_nx, kL_ct, kL_bk, kL_rt, kBd_u, kCi2_u, kCi1_t, kCi1_f, kCi_u, List.any_cons, List.any_nil, Bool.or_false, Bool.or_true, Bool.true_or, Bool.false_or, Bool.and_false, Bool.false_and, Bool.and_true, Bool.true_and, Bool.not_true, Bool.not_false, decide_true, decide_false, true_and, and_true, Nat.reduceAdd, Nat.zero_add, List.length_cons, List.length_nil, Int.reduceLT, Int.reduceLE, Int.reduceNeg, Int.reducePow, Int.reduceAdd, Int.reduceSub, Int.reduceMul, Nat.reduceLeDiff, Nat.reduceLT, Nat.reducePow, Nat.reduceMul, Int.reduceEq, Int.reduceToNat, typed, typOf, big, ne_eq, not_false_eq_true, reduceCtorEq, List.cons_append, List.nil_append, cg_is_from, ch_is_from, cg_is_row, ch_is_row, cf_need_row_0, cg_need_row, ch_need_row, cg_lots_of, ch_lots_of, cg_best_letter, ch_best_letter, cf_made_by_0, cg_made_by, ch_made_by, cf_part_choices_0, cg_part_choices, ch_part_choices, cg_joined, ch_joined, cf_nearest_0, cf_nearest_1, cg_nearest, ch_nearest, cg__law_taken, ch__law_taken, cf__law_row_0, cg__law_row, ch__law_row, cf__law_refused_0, cg__law_refused, ch__law_refused, cf_law_0, cf_law_1, cf_law_2, cg_law, ch_law, fl_1, fl_2, fl_3, su_1_3, su_1_2, su_3_3, su_3_2, su_2_3, su_2_2, hb]
    exact k
  · rw [show rowV (.str s) = true from rowB_t.mpr hr] at z
    cases z
theorem ref_long {s : List Nat} {b : D} {Q : Res → List D → Prop} {X : Xc → List D → Prop} (hr : RowOk s) (h8 : 8 < s.length) (k : Q (.new (.lst [.str [108, 111, 110, 103], .int 8])) []) : Wf (f__law_refused [.val (.str s), .val b]) Q X := by
  rw [w__law_refused]
  unfold b__law_refused
  simp only [w_nil, w_cons, kS_nx, kS_rt, kS_bk, kS_ct, kOwn_u, kOwn2_un, kOwn2_val, kOwn2_own, w_own, kAsg_u, w_asg, w_nm, kT_un, kT_val, kT_own, kTs_u, w_tpt, w_tpl, w_tn, w_tc, kSt_o, kSt_p, kSet3_u, kSet4_o, kSet4_p, kSet1_u, w_seti, kApp_u, kApp2_o, kApp2_p, oL_u, oL_o, oL_p, w_app, kExt_u, kExt2_o, kExt2_p, w_ext, kEx_u, w_ex, kRet_u, w_ret, w_rv, kRv_own, kRv_val, rt_cst, rt_glb, rt_op, rt_and, rt_or, rt_not, rt_ite, rt_chain, rt_chain3, rt_call, rt_callV, rt_comp, w_retn, w_pass, kIf_u, kIf_t, kIf_f, w_ifs, kFor4_u, kIt_u, kIt2_s, w_for, w_whl, kRse3_u, kRse2_s, kRse_u, w_rse, zf_nil, zf_cons, zM_s, kTry_u, w_try, w_cat0, kUn_nx, kCat_f, kCat_t, kSuN_n, kSuN_s, kSu_un, kSu_val, w_cat, w_suc, kSl_u, kSl2_un, kSl2_val, kSl2_own, w_sul, w_var, kVar_val, kVar_own, w_cst, w_glb, w_fnv, kE_u, kOpX_u, kOp3_ff, kOp2_s, kOp_u, w_op, kBl_u, kAnd_u, kAnd_t, kAnd_f, w_and, kOr_u, kOr_f, kOr_t, w_or, kNot_u, w_not, kIte_u, kIte_t, kIte_f, w_ite, kCh5_u, kLk4_t, kLk4_f, kLk3_u, kCh2_u, kCh1_u, w_chain, kC5_u, kC2_u, kC1_u, w_chain3, kB2_u, kBack_u, kBackX_u, kCall2_s, kCall_u, w_call, kCv2_s, kCv_u, w_callV, kCm4_u, kCm_u, w_comp, w_en, kCo_u, kEv_u, w_ec, w_pk, kPk_val, kPk_own, kPk_par, kD_u, od_var, od_cst, od_glb, od_op, od_and, od_or, od_not, od_ite, od_chain, od_chain3, od_fnv, od_callV, od_call, od_comp, kFz_u, w_fz, w_an, kAl_u, kAl_t, kAl_f, w_ac, kRun_nx, kRun_rt, kRunX_u, w_fn, w_fv, kFl_u, kFs_p, w_fl, wo_some, wp_ok, wp_ex, sl_0, sl_S, rd_v, rd_n, rs_v, rs_n, opds_nil, opds_cons, opC_s, opd_d, opd_pk, toArgs_nil, toArgs_cons, arC_s, toArg_d, toArg_k, arS_val, arS_own, arS_par, d_val, d_own, d_par, muts_nil, muts_d, muts_pk, mutC_t, mutC_f, m_val, m_own, m_par, pb_nil, pb_cons, put_own, put_par, nd_nil, nd_one, ie_nil, ie_cons, as_v, as_l, ip_pk, ip_d, List.set_cons_zero, List.set_cons_succ, hideE, backE, disp, midOp, mthd, kV_u, kVI_u, kVC_u, p_addI, p_addS, p_addL, p_addT, p_subI, p_mulI, p_mulS, p_mulL, p_mulT, p_fdiv, p_mod, p_pow, p_neg, p_eqI, p_eqS, p_neI, p_neS, p_eqL, p_eqT, p_eqN, p_eqB, p_neL, p_neT, p_neN, p_neB, p_lt, p_le, p_gt, p_ge, p_isN, p_notN, n_non, n_int, n_str, n_tup, n_lst, n_bl, p_inC, p_inL, p_inT, p_niC, p_niL, p_niT, p_ixL, p_ixT, p_ixR, p_ixS, p_sS0, p_sS1, p_sS2, p_sS3, p_sL1, p_sL2, p_sL3, p_sT1, p_sT2, p_sT3, p_revL, p_tup, p_lst, p_lenS, p_lenL, p_lenT, p_lenR, p_int, p_intB, p_listL, p_listT, p_tupleL, p_tupleT, p_min, p_max, kAB_u, kNB_u, p_all, p_any, p_isi, kJn_u, p_join, i_lst, i_tup, i_str, i_eL, i_eT, i_eS, i_r1, i_r2, i_r3, cut_n, kL_nx, kL_ct, kL_bk, kL_rt, kBd_u, kCi2_u, kCi1_t, kCi1_f, kCi_u, List.any_cons, List.any_nil, Bool.or_false, Bool.or_true, Bool.true_or, Bool.false_or, Bool.and_false, Bool.false_and, Bool.and_true, Bool.true_and, Bool.not_true, Bool.not_false, decide_true, decide_false, true_and, and_true, Nat.reduceAdd, Nat.zero_add, List.length_cons, List.length_nil, Int.reduceLT, Int.reduceLE, Int.reduceNeg, Int.reducePow, Int.reduceAdd, Int.reduceSub, Int.reduceMul, Nat.reduceLeDiff, Nat.reduceLT, Nat.reducePow, Nat.reduceMul, Int.reduceEq, Int.reduceToNat, typed, typOf, big, ne_eq, not_false_eq_true, reduceCtorEq, List.cons_append, List.nil_append, cg_is_from, ch_is_from, cg_is_row, ch_is_row, cf_need_row_0, cg_need_row, ch_need_row, cg_lots_of, ch_lots_of, cg_best_letter, ch_best_letter, cf_made_by_0, cg_made_by, ch_made_by, cf_part_choices_0, cg_part_choices, ch_part_choices, cg_joined, ch_joined, cf_nearest_0, cf_nearest_1, cg_nearest, ch_nearest, cg__law_taken, ch__law_taken, cf__law_row_0, cg__law_row, ch__law_row, cf__law_refused_0, cg__law_refused, ch__law_refused, cf_law_0, cf_law_1, cf_law_2, cg_law, ch_law, fl_1, fl_2, fl_3, su_1_3, su_1_2, su_3_3, su_3_2, su_2_3, su_2_2]
  refine near_long hr h8 ?_
  have e : svs c__law_refused ⟨q_TooLong, [("most", .int 8)]⟩ [.cst (.str [108, 111, 110, 103]), .fld "most"] = some [.str [108, 111, 110, 103], .int 8] := by rfl
  simp only [w_nil, w_cons, kS_nx, kS_rt, kS_bk, kS_ct, kOwn_u, kOwn2_un, kOwn2_val, kOwn2_own, w_own, kAsg_u, w_asg, w_nm, kT_un, kT_val, kT_own, kTs_u, w_tpt, w_tpl, w_tn, w_tc, kSt_o, kSt_p, kSet3_u, kSet4_o, kSet4_p, kSet1_u, w_seti, kApp_u, kApp2_o, kApp2_p, oL_u, oL_o, oL_p, w_app, kExt_u, kExt2_o, kExt2_p, w_ext, kEx_u, w_ex, kRet_u, w_ret, w_rv, kRv_own, kRv_val, rt_cst, rt_glb, rt_op, rt_and, rt_or, rt_not, rt_ite, rt_chain, rt_chain3, rt_call, rt_callV, rt_comp, w_retn, w_pass, kIf_u, kIf_t, kIf_f, w_ifs, kFor4_u, kIt_u, kIt2_s, w_for, w_whl, kRse3_u, kRse2_s, kRse_u, w_rse, zf_nil, zf_cons, zM_s, kTry_u, w_try, w_cat0, kUn_nx, kCat_f, kCat_t, kSuN_n, kSuN_s, kSu_un, kSu_val, w_cat, w_suc, kSl_u, kSl2_un, kSl2_val, kSl2_own, w_sul, w_var, kVar_val, kVar_own, w_cst, w_glb, w_fnv, kE_u, kOpX_u, kOp3_ff, kOp2_s, kOp_u, w_op, kBl_u, kAnd_u, kAnd_t, kAnd_f, w_and, kOr_u, kOr_f, kOr_t, w_or, kNot_u, w_not, kIte_u, kIte_t, kIte_f, w_ite, kCh5_u, kLk4_t, kLk4_f, kLk3_u, kCh2_u, kCh1_u, w_chain, kC5_u, kC2_u, kC1_u, w_chain3, kB2_u, kBack_u, kBackX_u, kCall2_s, kCall_u, w_call, kCv2_s, kCv_u, w_callV, kCm4_u, kCm_u, w_comp, w_en, kCo_u, kEv_u, w_ec, w_pk, kPk_val, kPk_own, kPk_par, kD_u, od_var, od_cst, od_glb, od_op, od_and, od_or, od_not, od_ite, od_chain, od_chain3, od_fnv, od_callV, od_call, od_comp, kFz_u, w_fz, w_an, kAl_u, kAl_t, kAl_f, w_ac, kRun_nx, kRun_rt, kRunX_u, w_fn, w_fv, kFl_u, kFs_p, w_fl, wo_some, wp_ok, wp_ex, sl_0, sl_S, rd_v, rd_n, rs_v, rs_n, opds_nil, opds_cons, opC_s, opd_d, opd_pk, toArgs_nil, toArgs_cons, arC_s, toArg_d, toArg_k, arS_val, arS_own, arS_par, d_val, d_own, d_par, muts_nil, muts_d, muts_pk, mutC_t, mutC_f, m_val, m_own, m_par, pb_nil, pb_cons, put_own, put_par, nd_nil, nd_one, ie_nil, ie_cons, as_v, as_l, ip_pk, ip_d, List.set_cons_zero, List.set_cons_succ, hideE, backE, disp, midOp, mthd, kV_u, kVI_u, kVC_u, p_addI, p_addS, p_addL, p_addT, p_subI, p_mulI, p_mulS, p_mulL, p_mulT, p_fdiv, p_mod, p_pow, p_neg, p_eqI, p_eqS, p_neI, p_neS, p_eqL, p_eqT, p_eqN, p_eqB, p_neL, p_neT, p_neN, p_neB, p_lt, p_le, p_gt, p_ge, p_isN, p_notN, n_non, n_int, n_str, n_tup, n_lst, n_bl, p_inC, p_inL, p_inT, p_niC, p_niL, p_niT, p_ixL, p_ixT, p_ixR, p_ixS, p_sS0, p_sS1, p_sS2, p_sS3, p_sL1, p_sL2, p_sL3, p_sT1, p_sT2, p_sT3, p_revL, p_tup, p_lst, p_lenS, p_lenL, p_lenT, p_lenR, p_int, p_intB, p_listL, p_listT, p_tupleL, p_tupleT, p_min, p_max, kAB_u, kNB_u, p_all, p_any, p_isi, kJn_u, p_join, i_lst, i_tup, i_str, i_eL, i_eT, i_eS, i_r1, i_r2, i_r3, cut_n, kL_nx, kL_ct, kL_bk, kL_rt, kBd_u, kCi2_u, kCi1_t, kCi1_f, kCi_u, List.any_cons, List.any_nil, Bool.or_false, Bool.or_true, Bool.true_or, Bool.false_or, Bool.and_false, Bool.false_and, Bool.and_true, Bool.true_and, Bool.not_true, Bool.not_false, decide_true, decide_false, true_and, and_true, Nat.reduceAdd, Nat.zero_add, List.length_cons, List.length_nil, Int.reduceLT, Int.reduceLE, Int.reduceNeg, Int.reducePow, Int.reduceAdd, Int.reduceSub, Int.reduceMul, Nat.reduceLeDiff, Nat.reduceLT, Nat.reducePow, Nat.reduceMul, Int.reduceEq, Int.reduceToNat, typed, typOf, big, ne_eq, not_false_eq_true, reduceCtorEq, List.cons_append, List.nil_append, cg_is_from, ch_is_from, cg_is_row, ch_is_row, cf_need_row_0, cg_need_row, ch_need_row, cg_lots_of, ch_lots_of, cg_best_letter, ch_best_letter, cf_made_by_0, cg_made_by, ch_made_by, cf_part_choices_0, cg_part_choices, ch_part_choices, cg_joined, ch_joined, cf_nearest_0, cf_nearest_1, cg_nearest, ch_nearest, cg__law_taken, ch__law_taken, cf__law_row_0, cg__law_row, ch__law_row, cf__law_refused_0, cg__law_refused, ch__law_refused, cf_law_0, cf_law_1, cf_law_2, cg_law, ch_law, fl_1, fl_2, fl_3, su_1_3, su_1_2, su_3_3, su_3_2, su_2_3, su_2_2, e]
  exact k
theorem ref_bad {s : List Nat} {b : D} {Q : Res → List D → Prop} {X : Xc → List D → Prop} (hr : RowOk s) (h8 : s.length ≤ 8) (tb : typed b = true) (hb : fromB b 0 12 = false) (k : Q (.new (.lst [b])) []) : Wf (f__law_refused [.val (.str s), .val b]) Q X := by
  rw [w__law_refused]
  unfold b__law_refused
  simp only [w_nil, w_cons, kS_nx, kS_rt, kS_bk, kS_ct, kOwn_u, kOwn2_un, kOwn2_val, kOwn2_own, w_own, kAsg_u, w_asg, w_nm, kT_un, kT_val, kT_own, kTs_u, w_tpt, w_tpl, w_tn, w_tc, kSt_o, kSt_p, kSet3_u, kSet4_o, kSet4_p, kSet1_u, w_seti, kApp_u, kApp2_o, kApp2_p, oL_u, oL_o, oL_p, w_app, kExt_u, kExt2_o, kExt2_p, w_ext, kEx_u, w_ex, kRet_u, w_ret, w_rv, kRv_own, kRv_val, rt_cst, rt_glb, rt_op, rt_and, rt_or, rt_not, rt_ite, rt_chain, rt_chain3, rt_call, rt_callV, rt_comp, w_retn, w_pass, kIf_u, kIf_t, kIf_f, w_ifs, kFor4_u, kIt_u, kIt2_s, w_for, w_whl, kRse3_u, kRse2_s, kRse_u, w_rse, zf_nil, zf_cons, zM_s, kTry_u, w_try, w_cat0, kUn_nx, kCat_f, kCat_t, kSuN_n, kSuN_s, kSu_un, kSu_val, w_cat, w_suc, kSl_u, kSl2_un, kSl2_val, kSl2_own, w_sul, w_var, kVar_val, kVar_own, w_cst, w_glb, w_fnv, kE_u, kOpX_u, kOp3_ff, kOp2_s, kOp_u, w_op, kBl_u, kAnd_u, kAnd_t, kAnd_f, w_and, kOr_u, kOr_f, kOr_t, w_or, kNot_u, w_not, kIte_u, kIte_t, kIte_f, w_ite, kCh5_u, kLk4_t, kLk4_f, kLk3_u, kCh2_u, kCh1_u, w_chain, kC5_u, kC2_u, kC1_u, w_chain3, kB2_u, kBack_u, kBackX_u, kCall2_s, kCall_u, w_call, kCv2_s, kCv_u, w_callV, kCm4_u, kCm_u, w_comp, w_en, kCo_u, kEv_u, w_ec, w_pk, kPk_val, kPk_own, kPk_par, kD_u, od_var, od_cst, od_glb, od_op, od_and, od_or, od_not, od_ite, od_chain, od_chain3, od_fnv, od_callV, od_call, od_comp, kFz_u, w_fz, w_an, kAl_u, kAl_t, kAl_f, w_ac, kRun_nx, kRun_rt, kRunX_u, w_fn, w_fv, kFl_u, kFs_p, w_fl, wo_some, wp_ok, wp_ex, sl_0, sl_S, rd_v, rd_n, rs_v, rs_n, opds_nil, opds_cons, opC_s, opd_d, opd_pk, toArgs_nil, toArgs_cons, arC_s, toArg_d, toArg_k, arS_val, arS_own, arS_par, d_val, d_own, d_par, muts_nil, muts_d, muts_pk, mutC_t, mutC_f, m_val, m_own, m_par, pb_nil, pb_cons, put_own, put_par, nd_nil, nd_one, ie_nil, ie_cons, as_v, as_l, ip_pk, ip_d, List.set_cons_zero, List.set_cons_succ, hideE, backE, disp, midOp, mthd, kV_u, kVI_u, kVC_u, p_addI, p_addS, p_addL, p_addT, p_subI, p_mulI, p_mulS, p_mulL, p_mulT, p_fdiv, p_mod, p_pow, p_neg, p_eqI, p_eqS, p_neI, p_neS, p_eqL, p_eqT, p_eqN, p_eqB, p_neL, p_neT, p_neN, p_neB, p_lt, p_le, p_gt, p_ge, p_isN, p_notN, n_non, n_int, n_str, n_tup, n_lst, n_bl, p_inC, p_inL, p_inT, p_niC, p_niL, p_niT, p_ixL, p_ixT, p_ixR, p_ixS, p_sS0, p_sS1, p_sS2, p_sS3, p_sL1, p_sL2, p_sL3, p_sT1, p_sT2, p_sT3, p_revL, p_tup, p_lst, p_lenS, p_lenL, p_lenT, p_lenR, p_int, p_intB, p_listL, p_listT, p_tupleL, p_tupleT, p_min, p_max, kAB_u, kNB_u, p_all, p_any, p_isi, kJn_u, p_join, i_lst, i_tup, i_str, i_eL, i_eT, i_eS, i_r1, i_r2, i_r3, cut_n, kL_nx, kL_ct, kL_bk, kL_rt, kBd_u, kCi2_u, kCi1_t, kCi1_f, kCi_u, List.any_cons, List.any_nil, Bool.or_false, Bool.or_true, Bool.true_or, Bool.false_or, Bool.and_false, Bool.false_and, Bool.and_true, Bool.true_and, Bool.not_true, Bool.not_false, decide_true, decide_false, true_and, and_true, Nat.reduceAdd, Nat.zero_add, List.length_cons, List.length_nil, Int.reduceLT, Int.reduceLE, Int.reduceNeg, Int.reducePow, Int.reduceAdd, Int.reduceSub, Int.reduceMul, Nat.reduceLeDiff, Nat.reduceLT, Nat.reducePow, Nat.reduceMul, Int.reduceEq, Int.reduceToNat, typed, typOf, big, ne_eq, not_false_eq_true, reduceCtorEq, List.cons_append, List.nil_append, cg_is_from, ch_is_from, cg_is_row, ch_is_row, cf_need_row_0, cg_need_row, ch_need_row, cg_lots_of, ch_lots_of, cg_best_letter, ch_best_letter, cf_made_by_0, cg_made_by, ch_made_by, cf_part_choices_0, cg_part_choices, ch_part_choices, cg_joined, ch_joined, cf_nearest_0, cf_nearest_1, cg_nearest, ch_nearest, cg__law_taken, ch__law_taken, cf__law_row_0, cg__law_row, ch__law_row, cf__law_refused_0, cg__law_refused, ch__law_refused, cf_law_0, cf_law_1, cf_law_2, cg_law, ch_law, fl_1, fl_2, fl_3, su_1_3, su_1_2, su_3_3, su_3_2, su_2_3, su_2_2]
  refine near_bad hr h8 tb hb ?_
  have e : svs c__law_refused ⟨q_BadNumber, [("n", b)]⟩ [.fld "n"] = some [b] := by rfl
  simp only [w_nil, w_cons, kS_nx, kS_rt, kS_bk, kS_ct, kOwn_u, kOwn2_un, kOwn2_val, kOwn2_own, w_own, kAsg_u, w_asg, w_nm, kT_un, kT_val, kT_own, kTs_u, w_tpt, w_tpl, w_tn, w_tc, kSt_o, kSt_p, kSet3_u, kSet4_o, kSet4_p, kSet1_u, w_seti, kApp_u, kApp2_o, kApp2_p, oL_u, oL_o, oL_p, w_app, kExt_u, kExt2_o, kExt2_p, w_ext, kEx_u, w_ex, kRet_u, w_ret, w_rv, kRv_own, kRv_val, rt_cst, rt_glb, rt_op, rt_and, rt_or, rt_not, rt_ite, rt_chain, rt_chain3, rt_call, rt_callV, rt_comp, w_retn, w_pass, kIf_u, kIf_t, kIf_f, w_ifs, kFor4_u, kIt_u, kIt2_s, w_for, w_whl, kRse3_u, kRse2_s, kRse_u, w_rse, zf_nil, zf_cons, zM_s, kTry_u, w_try, w_cat0, kUn_nx, kCat_f, kCat_t, kSuN_n, kSuN_s, kSu_un, kSu_val, w_cat, w_suc, kSl_u, kSl2_un, kSl2_val, kSl2_own, w_sul, w_var, kVar_val, kVar_own, w_cst, w_glb, w_fnv, kE_u, kOpX_u, kOp3_ff, kOp2_s, kOp_u, w_op, kBl_u, kAnd_u, kAnd_t, kAnd_f, w_and, kOr_u, kOr_f, kOr_t, w_or, kNot_u, w_not, kIte_u, kIte_t, kIte_f, w_ite, kCh5_u, kLk4_t, kLk4_f, kLk3_u, kCh2_u, kCh1_u, w_chain, kC5_u, kC2_u, kC1_u, w_chain3, kB2_u, kBack_u, kBackX_u, kCall2_s, kCall_u, w_call, kCv2_s, kCv_u, w_callV, kCm4_u, kCm_u, w_comp, w_en, kCo_u, kEv_u, w_ec, w_pk, kPk_val, kPk_own, kPk_par, kD_u, od_var, od_cst, od_glb, od_op, od_and, od_or, od_not, od_ite, od_chain, od_chain3, od_fnv, od_callV, od_call, od_comp, kFz_u, w_fz, w_an, kAl_u, kAl_t, kAl_f, w_ac, kRun_nx, kRun_rt, kRunX_u, w_fn, w_fv, kFl_u, kFs_p, w_fl, wo_some, wp_ok, wp_ex, sl_0, sl_S, rd_v, rd_n, rs_v, rs_n, opds_nil, opds_cons, opC_s, opd_d, opd_pk, toArgs_nil, toArgs_cons, arC_s, toArg_d, toArg_k, arS_val, arS_own, arS_par, d_val, d_own, d_par, muts_nil, muts_d, muts_pk, mutC_t, mutC_f, m_val, m_own, m_par, pb_nil, pb_cons, put_own, put_par, nd_nil, nd_one, ie_nil, ie_cons, as_v, as_l, ip_pk, ip_d, List.set_cons_zero, List.set_cons_succ, hideE, backE, disp, midOp, mthd, kV_u, kVI_u, kVC_u, p_addI, p_addS, p_addL, p_addT, p_subI, p_mulI, p_mulS, p_mulL, p_mulT, p_fdiv, p_mod, p_pow, p_neg, p_eqI, p_eqS, p_neI, p_neS, p_eqL, p_eqT, p_eqN, p_eqB, p_neL, p_neT, p_neN, p_neB, p_lt, p_le, p_gt, p_ge, p_isN, p_notN, n_non, n_int, n_str, n_tup, n_lst, n_bl, p_inC, p_inL, p_inT, p_niC, p_niL, p_niT, p_ixL, p_ixT, p_ixR, p_ixS, p_sS0, p_sS1, p_sS2, p_sS3, p_sL1, p_sL2, p_sL3, p_sT1, p_sT2, p_sT3, p_revL, p_tup, p_lst, p_lenS, p_lenL, p_lenT, p_lenR, p_int, p_intB, p_listL, p_listT, p_tupleL, p_tupleT, p_min, p_max, kAB_u, kNB_u, p_all, p_any, p_isi, kJn_u, p_join, i_lst, i_tup, i_str, i_eL, i_eT, i_eS, i_r1, i_r2, i_r3, cut_n, kL_nx, kL_ct, kL_bk, kL_rt, kBd_u, kCi2_u, kCi1_t, kCi1_f, kCi_u, List.any_cons, List.any_nil, Bool.or_false, Bool.or_true, Bool.true_or, Bool.false_or, Bool.and_false, Bool.false_and, Bool.and_true, Bool.true_and, Bool.not_true, Bool.not_false, decide_true, decide_false, true_and, and_true, Nat.reduceAdd, Nat.zero_add, List.length_cons, List.length_nil, Int.reduceLT, Int.reduceLE, Int.reduceNeg, Int.reducePow, Int.reduceAdd, Int.reduceSub, Int.reduceMul, Nat.reduceLeDiff, Nat.reduceLT, Nat.reducePow, Nat.reduceMul, Int.reduceEq, Int.reduceToNat, typed, typOf, big, ne_eq, not_false_eq_true, reduceCtorEq, List.cons_append, List.nil_append, cg_is_from, ch_is_from, cg_is_row, ch_is_row, cf_need_row_0, cg_need_row, ch_need_row, cg_lots_of, ch_lots_of, cg_best_letter, ch_best_letter, cf_made_by_0, cg_made_by, ch_made_by, cf_part_choices_0, cg_part_choices, ch_part_choices, cg_joined, ch_joined, cf_nearest_0, cf_nearest_1, cg_nearest, ch_nearest, cg__law_taken, ch__law_taken, cf__law_row_0, cg__law_row, ch__law_row, cf__law_refused_0, cg__law_refused, ch__law_refused, cf_law_0, cf_law_1, cf_law_2, cg_law, ch_law, fl_1, fl_2, fl_3, su_1_3, su_1_2, su_3_3, su_3_2, su_2_3, su_2_2, e]
  exact k
def U (s : Slot) : Prop := s = .un ∨ ∃ a, s = .val a
theorem U_un : U .un := .inl rfl
theorem U_val {a : D} : U (.val a) := .inr ⟨a, rfl⟩
theorem kOwn2_U {s : Slot} (h : U s) {i : Nat} {Q : QF} {r : Res} {e : Env} : kOwn2 i Q r e s = Q .nx (e.set i r.slot) := by
  rcases h with rfl | ⟨a, rfl⟩ <;> rfl
theorem kT_U {s : Slot} (h : U s) {i : Nat} {d : D} {K : Env → Prop} {e : Env} : kT i d e K s = K (e.set i (.val d)) := by
  rcases h with rfl | ⟨a, rfl⟩ <;> rfl
theorem RowOk.pre {s : List Nat} (h : RowOk s) {n : Nat} (h1 : 1 ≤ n) (h2 : n ≤ s.length) : RowOk (s.take n) ∧ (s.take n).length = n := by
  refine ⟨⟨?_, ?_, fun c hc => h.2.2 c (List.mem_of_mem_take hc)⟩, ?_⟩
  · rw [List.length_take]; omega
  · have := h.2.1; rw [List.length_take]; omega
  · rw [List.length_take]; omega
theorem law_ok : ∀ ns : List Int, ns.length ≤ 63 → f_law [.val (.scr ns)] = .ok (.val (.bl true)) [] := fun ns _ => by
  apply wf_ok
  rw [w_law]
  unfold b_law
  have ok6 : okI 6 = true := rfl
  simp only [w_nil, w_cons, kS_nx, kS_rt, kS_bk, kS_ct, kOwn_u, kOwn2_un, kOwn2_val, kOwn2_own, w_own, kAsg_u, w_asg, w_nm, kT_un, kT_val, kT_own, kTs_u, w_tpt, w_tpl, w_tn, w_tc, kSt_o, kSt_p, kSet3_u, kSet4_o, kSet4_p, kSet1_u, w_seti, kApp_u, kApp2_o, kApp2_p, oL_u, oL_o, oL_p, w_app, kExt_u, kExt2_o, kExt2_p, w_ext, kEx_u, w_ex, kRet_u, w_ret, w_rv, kRv_own, kRv_val, rt_cst, rt_glb, rt_op, rt_and, rt_or, rt_not, rt_ite, rt_chain, rt_chain3, rt_call, rt_callV, rt_comp, w_retn, w_pass, kIf_u, kIf_t, kIf_f, w_ifs, kFor4_u, kIt_u, kIt2_s, w_for, w_whl, kRse3_u, kRse2_s, kRse_u, w_rse, zf_nil, zf_cons, zM_s, kTry_u, w_try, w_cat0, kUn_nx, kCat_f, kCat_t, kSuN_n, kSuN_s, kSu_un, kSu_val, w_cat, w_suc, kSl_u, kSl2_un, kSl2_val, kSl2_own, w_sul, w_var, kVar_val, kVar_own, w_cst, w_glb, w_fnv, kE_u, kOpX_u, kOp3_ff, kOp2_s, kOp_u, w_op, kBl_u, kAnd_u, kAnd_t, kAnd_f, w_and, kOr_u, kOr_f, kOr_t, w_or, kNot_u, w_not, kIte_u, kIte_t, kIte_f, w_ite, kCh5_u, kLk4_t, kLk4_f, kLk3_u, kCh2_u, kCh1_u, w_chain, kC5_u, kC2_u, kC1_u, w_chain3, kB2_u, kBack_u, kBackX_u, kCall2_s, kCall_u, w_call, kCv2_s, kCv_u, w_callV, kCm4_u, kCm_u, w_comp, w_en, kCo_u, kEv_u, w_ec, w_pk, kPk_val, kPk_own, kPk_par, kD_u, od_var, od_cst, od_glb, od_op, od_and, od_or, od_not, od_ite, od_chain, od_chain3, od_fnv, od_callV, od_call, od_comp, kFz_u, w_fz, w_an, kAl_u, kAl_t, kAl_f, w_ac, kRun_nx, kRun_rt, kRunX_u, w_fn, w_fv, kFl_u, kFs_p, w_fl, wo_some, wp_ok, wp_ex, sl_0, sl_S, rd_v, rd_n, rs_v, rs_n, opds_nil, opds_cons, opC_s, opd_d, opd_pk, toArgs_nil, toArgs_cons, arC_s, toArg_d, toArg_k, arS_val, arS_own, arS_par, d_val, d_own, d_par, muts_nil, muts_d, muts_pk, mutC_t, mutC_f, m_val, m_own, m_par, pb_nil, pb_cons, put_own, put_par, nd_nil, nd_one, ie_nil, ie_cons, as_v, as_l, ip_pk, ip_d, List.set_cons_zero, List.set_cons_succ, hideE, backE, disp, midOp, mthd, kV_u, kVI_u, kVC_u, p_addI, p_addS, p_addL, p_addT, p_subI, p_mulI, p_mulS, p_mulL, p_mulT, p_fdiv, p_mod, p_pow, p_neg, p_eqI, p_eqS, p_neI, p_neS, p_eqL, p_eqT, p_eqN, p_eqB, p_neL, p_neT, p_neN, p_neB, p_lt, p_le, p_gt, p_ge, p_isN, p_notN, n_non, n_int, n_str, n_tup, n_lst, n_bl, p_inC, p_inL, p_inT, p_niC, p_niL, p_niT, p_ixL, p_ixT, p_ixR, p_ixS, p_sS0, p_sS1, p_sS2, p_sS3, p_sL1, p_sL2, p_sL3, p_sT1, p_sT2, p_sT3, p_revL, p_tup, p_lst, p_lenS, p_lenL, p_lenT, p_lenR, p_int, p_intB, p_listL, p_listT, p_tupleL, p_tupleT, p_min, p_max, kAB_u, kNB_u, p_all, p_any, p_isi, kJn_u, p_join, i_lst, i_tup, i_str, i_eL, i_eT, i_eS, i_r1, i_r2, i_r3, cut_n, kL_nx, kL_ct, kL_bk, kL_rt, kBd_u, kCi2_u, kCi1_t, kCi1_f, kCi_u, List.any_cons, List.any_nil, Bool.or_false, Bool.or_true, Bool.true_or, Bool.false_or, Bool.and_false, Bool.false_and, Bool.and_true, Bool.true_and, Bool.not_true, Bool.not_false, decide_true, decide_false, true_and, and_true, Nat.reduceAdd, Nat.zero_add, List.length_cons, List.length_nil, Int.reduceLT, Int.reduceLE, Int.reduceNeg, Int.reducePow, Int.reduceAdd, Int.reduceSub, Int.reduceMul, Nat.reduceLeDiff, Nat.reduceLT, Nat.reducePow, Nat.reduceMul, Int.reduceEq, Int.reduceToNat, typed, typOf, big, ne_eq, not_false_eq_true, reduceCtorEq, List.cons_append, List.nil_append, cg_is_from, ch_is_from, cg_is_row, ch_is_row, cf_need_row_0, cg_need_row, ch_need_row, cg_lots_of, ch_lots_of, cg_best_letter, ch_best_letter, cf_made_by_0, cg_made_by, ch_made_by, cf_part_choices_0, cg_part_choices, ch_part_choices, cg_joined, ch_joined, cf_nearest_0, cf_nearest_1, cg_nearest, ch_nearest, cg__law_taken, ch__law_taken, cf__law_row_0, cg__law_row, ch__law_row, cf__law_refused_0, cg__law_refused, ch__law_refused, cf_law_0, cf_law_1, cf_law_2, cg_law, ch_law, fl_1, fl_2, fl_3, su_1_3, su_1_2, su_3_3, su_3_2, su_2_3, su_2_2, ok6]
  refine w_forI (fun _ e => ∃ d s2 s3 s4, IsRow ns d ∧ U s2 ∧ U s3 ∧ U s4 ∧ e = [.val (.scr ns), .own d, s2, s3, s4]) _ _ ⟨_, _, _, _, ⟨0, 529, 0, rfl, by omega⟩, U_un, U_un, U_un, rfl⟩ ?_ ?_
  · intro x xs e ⟨d, s2, s3, s4, hd, u2, u3, u4, ee⟩
    subst ee
    simp only [w_nil, w_cons, kS_nx, kS_rt, kS_bk, kS_ct, kOwn_u, kOwn2_un, kOwn2_val, kOwn2_own, w_own, kAsg_u, w_asg, w_nm, kT_un, kT_val, kT_own, kTs_u, w_tpt, w_tpl, w_tn, w_tc, kSt_o, kSt_p, kSet3_u, kSet4_o, kSet4_p, kSet1_u, w_seti, kApp_u, kApp2_o, kApp2_p, oL_u, oL_o, oL_p, w_app, kExt_u, kExt2_o, kExt2_p, w_ext, kEx_u, w_ex, kRet_u, w_ret, w_rv, kRv_own, kRv_val, rt_cst, rt_glb, rt_op, rt_and, rt_or, rt_not, rt_ite, rt_chain, rt_chain3, rt_call, rt_callV, rt_comp, w_retn, w_pass, kIf_u, kIf_t, kIf_f, w_ifs, kFor4_u, kIt_u, kIt2_s, w_for, w_whl, kRse3_u, kRse2_s, kRse_u, w_rse, zf_nil, zf_cons, zM_s, kTry_u, w_try, w_cat0, kUn_nx, kCat_f, kCat_t, kSuN_n, kSuN_s, kSu_un, kSu_val, w_cat, w_suc, kSl_u, kSl2_un, kSl2_val, kSl2_own, w_sul, w_var, kVar_val, kVar_own, w_cst, w_glb, w_fnv, kE_u, kOpX_u, kOp3_ff, kOp2_s, kOp_u, w_op, kBl_u, kAnd_u, kAnd_t, kAnd_f, w_and, kOr_u, kOr_f, kOr_t, w_or, kNot_u, w_not, kIte_u, kIte_t, kIte_f, w_ite, kCh5_u, kLk4_t, kLk4_f, kLk3_u, kCh2_u, kCh1_u, w_chain, kC5_u, kC2_u, kC1_u, w_chain3, kB2_u, kBack_u, kBackX_u, kCall2_s, kCall_u, w_call, kCv2_s, kCv_u, w_callV, kCm4_u, kCm_u, w_comp, w_en, kCo_u, kEv_u, w_ec, w_pk, kPk_val, kPk_own, kPk_par, kD_u, od_var, od_cst, od_glb, od_op, od_and, od_or, od_not, od_ite, od_chain, od_chain3, od_fnv, od_callV, od_call, od_comp, kFz_u, w_fz, w_an, kAl_u, kAl_t, kAl_f, w_ac, kRun_nx, kRun_rt, kRunX_u, w_fn, w_fv, kFl_u, kFs_p, w_fl, wo_some, wp_ok, wp_ex, sl_0, sl_S, rd_v, rd_n, rs_v, rs_n, opds_nil, opds_cons, opC_s, opd_d, opd_pk, toArgs_nil, toArgs_cons, arC_s, toArg_d, toArg_k, arS_val, arS_own, arS_par, d_val, d_own, d_par, muts_nil, muts_d, muts_pk, mutC_t, mutC_f, m_val, m_own, m_par, pb_nil, pb_cons, put_own, put_par, nd_nil, nd_one, ie_nil, ie_cons, as_v, as_l, ip_pk, ip_d, List.set_cons_zero, List.set_cons_succ, hideE, backE, disp, midOp, mthd, kV_u, kVI_u, kVC_u, p_addI, p_addS, p_addL, p_addT, p_subI, p_mulI, p_mulS, p_mulL, p_mulT, p_fdiv, p_mod, p_pow, p_neg, p_eqI, p_eqS, p_neI, p_neS, p_eqL, p_eqT, p_eqN, p_eqB, p_neL, p_neT, p_neN, p_neB, p_lt, p_le, p_gt, p_ge, p_isN, p_notN, n_non, n_int, n_str, n_tup, n_lst, n_bl, p_inC, p_inL, p_inT, p_niC, p_niL, p_niT, p_ixL, p_ixT, p_ixR, p_ixS, p_sS0, p_sS1, p_sS2, p_sS3, p_sL1, p_sL2, p_sL3, p_sT1, p_sT2, p_sT3, p_revL, p_tup, p_lst, p_lenS, p_lenL, p_lenT, p_lenR, p_int, p_intB, p_listL, p_listT, p_tupleL, p_tupleT, p_min, p_max, kAB_u, kNB_u, p_all, p_any, p_isi, kJn_u, p_join, i_lst, i_tup, i_str, i_eL, i_eT, i_eS, i_r1, i_r2, i_r3, cut_n, kL_nx, kL_ct, kL_bk, kL_rt, kBd_u, kCi2_u, kCi1_t, kCi1_f, kCi_u, List.any_cons, List.any_nil, Bool.or_false, Bool.or_true, Bool.true_or, Bool.false_or, Bool.and_false, Bool.false_and, Bool.and_true, Bool.true_and, Bool.not_true, Bool.not_false, decide_true, decide_false, true_and, and_true, Nat.reduceAdd, Nat.zero_add, List.length_cons, List.length_nil, Int.reduceLT, Int.reduceLE, Int.reduceNeg, Int.reducePow, Int.reduceAdd, Int.reduceSub, Int.reduceMul, Nat.reduceLeDiff, Nat.reduceLT, Nat.reducePow, Nat.reduceMul, Int.reduceEq, Int.reduceToNat, typed, typOf, big, ne_eq, not_false_eq_true, reduceCtorEq, List.cons_append, List.nil_append, cg_is_from, ch_is_from, cg_is_row, ch_is_row, cf_need_row_0, cg_need_row, ch_need_row, cg_lots_of, ch_lots_of, cg_best_letter, ch_best_letter, cf_made_by_0, cg_made_by, ch_made_by, cf_part_choices_0, cg_part_choices, ch_part_choices, cg_joined, ch_joined, cf_nearest_0, cf_nearest_1, cg_nearest, ch_nearest, cg__law_taken, ch__law_taken, cf__law_row_0, cg__law_row, ch__law_row, cf__law_refused_0, cg__law_refused, ch__law_refused, cf_law_0, cf_law_1, cf_law_2, cg_law, ch_law, fl_1, fl_2, fl_3, su_1_3, su_1_2, su_3_3, su_3_2, su_2_3, su_2_2, kT_U u2]
    refine taken_w hd (by omega) (by omega) fun v1 d1 i1 a1 b1 => ?_
    obtain ⟨b, hb, tb, fb, p1, p2⟩ : ∃ b, at? [D.non, .int (-1), .int 13, .bl true, .str [49], .tup [.int 1]] v1 = some b ∧ typed b = true ∧ fromB b 0 12 = false ∧ (D.lst [b]).plain 64 = true ∧ D.eqv (.lst [b]) (.lst [b]) = true := by
      have : v1 = 0 ∨ v1 = 1 ∨ v1 = 2 ∨ v1 = 3 ∨ v1 = 4 ∨ v1 = 5 := by omega
      rcases this with rfl | rfl | rfl | rfl | rfl | rfl <;> exact ⟨_, rfl, rfl, rfl, rfl, rfl⟩
    simp only [w_nil, w_cons, kS_nx, kS_rt, kS_bk, kS_ct, kOwn_u, kOwn2_un, kOwn2_val, kOwn2_own, w_own, kAsg_u, w_asg, w_nm, kT_un, kT_val, kT_own, kTs_u, w_tpt, w_tpl, w_tn, w_tc, kSt_o, kSt_p, kSet3_u, kSet4_o, kSet4_p, kSet1_u, w_seti, kApp_u, kApp2_o, kApp2_p, oL_u, oL_o, oL_p, w_app, kExt_u, kExt2_o, kExt2_p, w_ext, kEx_u, w_ex, kRet_u, w_ret, w_rv, kRv_own, kRv_val, rt_cst, rt_glb, rt_op, rt_and, rt_or, rt_not, rt_ite, rt_chain, rt_chain3, rt_call, rt_callV, rt_comp, w_retn, w_pass, kIf_u, kIf_t, kIf_f, w_ifs, kFor4_u, kIt_u, kIt2_s, w_for, w_whl, kRse3_u, kRse2_s, kRse_u, w_rse, zf_nil, zf_cons, zM_s, kTry_u, w_try, w_cat0, kUn_nx, kCat_f, kCat_t, kSuN_n, kSuN_s, kSu_un, kSu_val, w_cat, w_suc, kSl_u, kSl2_un, kSl2_val, kSl2_own, w_sul, w_var, kVar_val, kVar_own, w_cst, w_glb, w_fnv, kE_u, kOpX_u, kOp3_ff, kOp2_s, kOp_u, w_op, kBl_u, kAnd_u, kAnd_t, kAnd_f, w_and, kOr_u, kOr_f, kOr_t, w_or, kNot_u, w_not, kIte_u, kIte_t, kIte_f, w_ite, kCh5_u, kLk4_t, kLk4_f, kLk3_u, kCh2_u, kCh1_u, w_chain, kC5_u, kC2_u, kC1_u, w_chain3, kB2_u, kBack_u, kBackX_u, kCall2_s, kCall_u, w_call, kCv2_s, kCv_u, w_callV, kCm4_u, kCm_u, w_comp, w_en, kCo_u, kEv_u, w_ec, w_pk, kPk_val, kPk_own, kPk_par, kD_u, od_var, od_cst, od_glb, od_op, od_and, od_or, od_not, od_ite, od_chain, od_chain3, od_fnv, od_callV, od_call, od_comp, kFz_u, w_fz, w_an, kAl_u, kAl_t, kAl_f, w_ac, kRun_nx, kRun_rt, kRunX_u, w_fn, w_fv, kFl_u, kFs_p, w_fl, wo_some, wp_ok, wp_ex, sl_0, sl_S, rd_v, rd_n, rs_v, rs_n, opds_nil, opds_cons, opC_s, opd_d, opd_pk, toArgs_nil, toArgs_cons, arC_s, toArg_d, toArg_k, arS_val, arS_own, arS_par, d_val, d_own, d_par, muts_nil, muts_d, muts_pk, mutC_t, mutC_f, m_val, m_own, m_par, pb_nil, pb_cons, put_own, put_par, nd_nil, nd_one, ie_nil, ie_cons, as_v, as_l, ip_pk, ip_d, List.set_cons_zero, List.set_cons_succ, hideE, backE, disp, midOp, mthd, kV_u, kVI_u, kVC_u, p_addI, p_addS, p_addL, p_addT, p_subI, p_mulI, p_mulS, p_mulL, p_mulT, p_fdiv, p_mod, p_pow, p_neg, p_eqI, p_eqS, p_neI, p_neS, p_eqL, p_eqT, p_eqN, p_eqB, p_neL, p_neT, p_neN, p_neB, p_lt, p_le, p_gt, p_ge, p_isN, p_notN, n_non, n_int, n_str, n_tup, n_lst, n_bl, p_inC, p_inL, p_inT, p_niC, p_niL, p_niT, p_ixL, p_ixT, p_ixR, p_ixS, p_sS0, p_sS1, p_sS2, p_sS3, p_sL1, p_sL2, p_sL3, p_sT1, p_sT2, p_sT3, p_revL, p_tup, p_lst, p_lenS, p_lenL, p_lenT, p_lenR, p_int, p_intB, p_listL, p_listT, p_tupleL, p_tupleT, p_min, p_max, kAB_u, kNB_u, p_all, p_any, p_isi, kJn_u, p_join, i_lst, i_tup, i_str, i_eL, i_eT, i_eS, i_r1, i_r2, i_r3, cut_n, kL_nx, kL_ct, kL_bk, kL_rt, kBd_u, kCi2_u, kCi1_t, kCi1_f, kCi_u, List.any_cons, List.any_nil, Bool.or_false, Bool.or_true, Bool.true_or, Bool.false_or, Bool.and_false, Bool.false_and, Bool.and_true, Bool.true_and, Bool.not_true, Bool.not_false, decide_true, decide_false, true_and, and_true, Nat.reduceAdd, Nat.zero_add, List.length_cons, List.length_nil, Int.reduceLT, Int.reduceLE, Int.reduceNeg, Int.reducePow, Int.reduceAdd, Int.reduceSub, Int.reduceMul, Nat.reduceLeDiff, Nat.reduceLT, Nat.reducePow, Nat.reduceMul, Int.reduceEq, Int.reduceToNat, typed, typOf, big, ne_eq, not_false_eq_true, reduceCtorEq, List.cons_append, List.nil_append, cg_is_from, ch_is_from, cg_is_row, ch_is_row, cf_need_row_0, cg_need_row, ch_need_row, cg_lots_of, ch_lots_of, cg_best_letter, ch_best_letter, cf_made_by_0, cg_made_by, ch_made_by, cf_part_choices_0, cg_part_choices, ch_part_choices, cg_joined, ch_joined, cf_nearest_0, cf_nearest_1, cg_nearest, ch_nearest, cg__law_taken, ch__law_taken, cf__law_row_0, cg__law_row, ch__law_row, cf__law_refused_0, cg__law_refused, ch__law_refused, cf_law_0, cf_law_1, cf_law_2, cg_law, ch_law, fl_1, fl_2, fl_3, su_1_3, su_1_2, su_3_3, su_3_2, su_2_3, su_2_2, hb, kOwn2_U u3]
    refine row_w i1 (by omega) (by omega) fun r d2 i2 rr rl => ?_
    obtain ⟨r1, r2, r3⟩ := rr
    have g1 : r.length + 8 ≤ 100000 := by omega
    simp only [w_nil, w_cons, kS_nx, kS_rt, kS_bk, kS_ct, kOwn_u, kOwn2_un, kOwn2_val, kOwn2_own, w_own, kAsg_u, w_asg, w_nm, kT_un, kT_val, kT_own, kTs_u, w_tpt, w_tpl, w_tn, w_tc, kSt_o, kSt_p, kSet3_u, kSet4_o, kSet4_p, kSet1_u, w_seti, kApp_u, kApp2_o, kApp2_p, oL_u, oL_o, oL_p, w_app, kExt_u, kExt2_o, kExt2_p, w_ext, kEx_u, w_ex, kRet_u, w_ret, w_rv, kRv_own, kRv_val, rt_cst, rt_glb, rt_op, rt_and, rt_or, rt_not, rt_ite, rt_chain, rt_chain3, rt_call, rt_callV, rt_comp, w_retn, w_pass, kIf_u, kIf_t, kIf_f, w_ifs, kFor4_u, kIt_u, kIt2_s, w_for, w_whl, kRse3_u, kRse2_s, kRse_u, w_rse, zf_nil, zf_cons, zM_s, kTry_u, w_try, w_cat0, kUn_nx, kCat_f, kCat_t, kSuN_n, kSuN_s, kSu_un, kSu_val, w_cat, w_suc, kSl_u, kSl2_un, kSl2_val, kSl2_own, w_sul, w_var, kVar_val, kVar_own, w_cst, w_glb, w_fnv, kE_u, kOpX_u, kOp3_ff, kOp2_s, kOp_u, w_op, kBl_u, kAnd_u, kAnd_t, kAnd_f, w_and, kOr_u, kOr_f, kOr_t, w_or, kNot_u, w_not, kIte_u, kIte_t, kIte_f, w_ite, kCh5_u, kLk4_t, kLk4_f, kLk3_u, kCh2_u, kCh1_u, w_chain, kC5_u, kC2_u, kC1_u, w_chain3, kB2_u, kBack_u, kBackX_u, kCall2_s, kCall_u, w_call, kCv2_s, kCv_u, w_callV, kCm4_u, kCm_u, w_comp, w_en, kCo_u, kEv_u, w_ec, w_pk, kPk_val, kPk_own, kPk_par, kD_u, od_var, od_cst, od_glb, od_op, od_and, od_or, od_not, od_ite, od_chain, od_chain3, od_fnv, od_callV, od_call, od_comp, kFz_u, w_fz, w_an, kAl_u, kAl_t, kAl_f, w_ac, kRun_nx, kRun_rt, kRunX_u, w_fn, w_fv, kFl_u, kFs_p, w_fl, wo_some, wp_ok, wp_ex, sl_0, sl_S, rd_v, rd_n, rs_v, rs_n, opds_nil, opds_cons, opC_s, opd_d, opd_pk, toArgs_nil, toArgs_cons, arC_s, toArg_d, toArg_k, arS_val, arS_own, arS_par, d_val, d_own, d_par, muts_nil, muts_d, muts_pk, mutC_t, mutC_f, m_val, m_own, m_par, pb_nil, pb_cons, put_own, put_par, nd_nil, nd_one, ie_nil, ie_cons, as_v, as_l, ip_pk, ip_d, List.set_cons_zero, List.set_cons_succ, hideE, backE, disp, midOp, mthd, kV_u, kVI_u, kVC_u, p_addI, p_addS, p_addL, p_addT, p_subI, p_mulI, p_mulS, p_mulL, p_mulT, p_fdiv, p_mod, p_pow, p_neg, p_eqI, p_eqS, p_neI, p_neS, p_eqL, p_eqT, p_eqN, p_eqB, p_neL, p_neT, p_neN, p_neB, p_lt, p_le, p_gt, p_ge, p_isN, p_notN, n_non, n_int, n_str, n_tup, n_lst, n_bl, p_inC, p_inL, p_inT, p_niC, p_niL, p_niT, p_ixL, p_ixT, p_ixR, p_ixS, p_sS0, p_sS1, p_sS2, p_sS3, p_sL1, p_sL2, p_sL3, p_sT1, p_sT2, p_sT3, p_revL, p_tup, p_lst, p_lenS, p_lenL, p_lenT, p_lenR, p_int, p_intB, p_listL, p_listT, p_tupleL, p_tupleT, p_min, p_max, kAB_u, kNB_u, p_all, p_any, p_isi, kJn_u, p_join, i_lst, i_tup, i_str, i_eL, i_eT, i_eS, i_r1, i_r2, i_r3, cut_n, kL_nx, kL_ct, kL_bk, kL_rt, kBd_u, kCi2_u, kCi1_t, kCi1_f, kCi_u, List.any_cons, List.any_nil, Bool.or_false, Bool.or_true, Bool.true_or, Bool.false_or, Bool.and_false, Bool.false_and, Bool.and_true, Bool.true_and, Bool.not_true, Bool.not_false, decide_true, decide_false, true_and, and_true, Nat.reduceAdd, Nat.zero_add, List.length_cons, List.length_nil, Int.reduceLT, Int.reduceLE, Int.reduceNeg, Int.reducePow, Int.reduceAdd, Int.reduceSub, Int.reduceMul, Nat.reduceLeDiff, Nat.reduceLT, Nat.reducePow, Nat.reduceMul, Int.reduceEq, Int.reduceToNat, typed, typOf, big, ne_eq, not_false_eq_true, reduceCtorEq, List.cons_append, List.nil_append, cg_is_from, ch_is_from, cg_is_row, ch_is_row, cf_need_row_0, cg_need_row, ch_need_row, cg_lots_of, ch_lots_of, cg_best_letter, ch_best_letter, cf_made_by_0, cg_made_by, ch_made_by, cf_part_choices_0, cg_part_choices, ch_part_choices, cg_joined, ch_joined, cf_nearest_0, cf_nearest_1, cg_nearest, ch_nearest, cg__law_taken, ch__law_taken, cf__law_row_0, cg__law_row, ch__law_row, cf__law_refused_0, cg__law_refused, ch__law_refused, cf_law_0, cf_law_1, cf_law_2, cg_law, ch_law, fl_1, fl_2, fl_3, su_1_3, su_1_2, su_3_3, su_3_2, su_2_3, su_2_2, g1]
    refine taken_w i2 (by omega) (by omega) fun v2 d3 i3 a2 b2 => ?_
    have s0 : 0 ≤ 9 + v2 := by omega
    have g2 : (r ++ [97, 98, 97, 99, 97, 98, 97, 99]).length ≤ 100000 := by rw [List.length_append]; exact g1
    have wl : 9 ≤ (List.take (9 + v2).toNat (r ++ [97, 98, 97, 99, 97, 98, 97, 99])).length := by
      rw [List.length_take, List.length_append]
      simp only [List.length_cons, List.length_nil]
      omega
    have wo : RowOk (List.take (9 + v2).toNat (r ++ [97, 98, 97, 99, 97, 98, 97, 99])) := by
      refine ⟨by omega, by rw [List.length_take]; omega, fun c hc => ?_⟩
      rcases List.mem_append.mp (List.mem_of_mem_take hc) with z | z
      · exact r3 c z
      · unfold abc
        simp only [List.mem_cons, List.not_mem_nil, or_false] at z ⊢
        omega
    simp only [w_nil, w_cons, kS_nx, kS_rt, kS_bk, kS_ct, kOwn_u, kOwn2_un, kOwn2_val, kOwn2_own, w_own, kAsg_u, w_asg, w_nm, kT_un, kT_val, kT_own, kTs_u, w_tpt, w_tpl, w_tn, w_tc, kSt_o, kSt_p, kSet3_u, kSet4_o, kSet4_p, kSet1_u, w_seti, kApp_u, kApp2_o, kApp2_p, oL_u, oL_o, oL_p, w_app, kExt_u, kExt2_o, kExt2_p, w_ext, kEx_u, w_ex, kRet_u, w_ret, w_rv, kRv_own, kRv_val, rt_cst, rt_glb, rt_op, rt_and, rt_or, rt_not, rt_ite, rt_chain, rt_chain3, rt_call, rt_callV, rt_comp, w_retn, w_pass, kIf_u, kIf_t, kIf_f, w_ifs, kFor4_u, kIt_u, kIt2_s, w_for, w_whl, kRse3_u, kRse2_s, kRse_u, w_rse, zf_nil, zf_cons, zM_s, kTry_u, w_try, w_cat0, kUn_nx, kCat_f, kCat_t, kSuN_n, kSuN_s, kSu_un, kSu_val, w_cat, w_suc, kSl_u, kSl2_un, kSl2_val, kSl2_own, w_sul, w_var, kVar_val, kVar_own, w_cst, w_glb, w_fnv, kE_u, kOpX_u, kOp3_ff, kOp2_s, kOp_u, w_op, kBl_u, kAnd_u, kAnd_t, kAnd_f, w_and, kOr_u, kOr_f, kOr_t, w_or, kNot_u, w_not, kIte_u, kIte_t, kIte_f, w_ite, kCh5_u, kLk4_t, kLk4_f, kLk3_u, kCh2_u, kCh1_u, w_chain, kC5_u, kC2_u, kC1_u, w_chain3, kB2_u, kBack_u, kBackX_u, kCall2_s, kCall_u, w_call, kCv2_s, kCv_u, w_callV, kCm4_u, kCm_u, w_comp, w_en, kCo_u, kEv_u, w_ec, w_pk, kPk_val, kPk_own, kPk_par, kD_u, od_var, od_cst, od_glb, od_op, od_and, od_or, od_not, od_ite, od_chain, od_chain3, od_fnv, od_callV, od_call, od_comp, kFz_u, w_fz, w_an, kAl_u, kAl_t, kAl_f, w_ac, kRun_nx, kRun_rt, kRunX_u, w_fn, w_fv, kFl_u, kFs_p, w_fl, wo_some, wp_ok, wp_ex, sl_0, sl_S, rd_v, rd_n, rs_v, rs_n, opds_nil, opds_cons, opC_s, opd_d, opd_pk, toArgs_nil, toArgs_cons, arC_s, toArg_d, toArg_k, arS_val, arS_own, arS_par, d_val, d_own, d_par, muts_nil, muts_d, muts_pk, mutC_t, mutC_f, m_val, m_own, m_par, pb_nil, pb_cons, put_own, put_par, nd_nil, nd_one, ie_nil, ie_cons, as_v, as_l, ip_pk, ip_d, List.set_cons_zero, List.set_cons_succ, hideE, backE, disp, midOp, mthd, kV_u, kVI_u, kVC_u, p_addI, p_addS, p_addL, p_addT, p_subI, p_mulI, p_mulS, p_mulL, p_mulT, p_fdiv, p_mod, p_pow, p_neg, p_eqI, p_eqS, p_neI, p_neS, p_eqL, p_eqT, p_eqN, p_eqB, p_neL, p_neT, p_neN, p_neB, p_lt, p_le, p_gt, p_ge, p_isN, p_notN, n_non, n_int, n_str, n_tup, n_lst, n_bl, p_inC, p_inL, p_inT, p_niC, p_niL, p_niT, p_ixL, p_ixT, p_ixR, p_ixS, p_sS0, p_sS1, p_sS2, p_sS3, p_sL1, p_sL2, p_sL3, p_sT1, p_sT2, p_sT3, p_revL, p_tup, p_lst, p_lenS, p_lenL, p_lenT, p_lenR, p_int, p_intB, p_listL, p_listT, p_tupleL, p_tupleT, p_min, p_max, kAB_u, kNB_u, p_all, p_any, p_isi, kJn_u, p_join, i_lst, i_tup, i_str, i_eL, i_eT, i_eS, i_r1, i_r2, i_r3, cut_n, kL_nx, kL_ct, kL_bk, kL_rt, kBd_u, kCi2_u, kCi1_t, kCi1_f, kCi_u, List.any_cons, List.any_nil, Bool.or_false, Bool.or_true, Bool.true_or, Bool.false_or, Bool.and_false, Bool.false_and, Bool.and_true, Bool.true_and, Bool.not_true, Bool.not_false, decide_true, decide_false, true_and, and_true, Nat.reduceAdd, Nat.zero_add, List.length_cons, List.length_nil, Int.reduceLT, Int.reduceLE, Int.reduceNeg, Int.reducePow, Int.reduceAdd, Int.reduceSub, Int.reduceMul, Nat.reduceLeDiff, Nat.reduceLT, Nat.reducePow, Nat.reduceMul, Int.reduceEq, Int.reduceToNat, typed, typOf, big, ne_eq, not_false_eq_true, reduceCtorEq, List.cons_append, List.nil_append, cg_is_from, ch_is_from, cg_is_row, ch_is_row, cf_need_row_0, cg_need_row, ch_need_row, cg_lots_of, ch_lots_of, cg_best_letter, ch_best_letter, cf_made_by_0, cg_made_by, ch_made_by, cf_part_choices_0, cg_part_choices, ch_part_choices, cg_joined, ch_joined, cf_nearest_0, cf_nearest_1, cg_nearest, ch_nearest, cg__law_taken, ch__law_taken, cf__law_row_0, cg__law_row, ch__law_row, cf__law_refused_0, cg__law_refused, ch__law_refused, cf_law_0, cf_law_1, cf_law_2, cg_law, ch_law, fl_1, fl_2, fl_3, su_1_3, su_1_2, su_3_3, su_3_2, su_2_3, su_2_2, g2, cut_p s0, kOwn2_U u4]
    generalize List.take (9 + v2).toNat (r ++ [97, 98, 97, 99, 97, 98, 97, 99]) = w at wl wo ⊢
    have gw : w.length ≤ 100000 := by have := wo.2.1; omega
    have n9 : (0 : Int) ≤ 9 := by omega
    obtain ⟨w9, l9⟩ := wo.pre (n := 9) (by omega) wl
    simp only [w_nil, w_cons, kS_nx, kS_rt, kS_bk, kS_ct, kOwn_u, kOwn2_un, kOwn2_val, kOwn2_own, w_own, kAsg_u, w_asg, w_nm, kT_un, kT_val, kT_own, kTs_u, w_tpt, w_tpl, w_tn, w_tc, kSt_o, kSt_p, kSet3_u, kSet4_o, kSet4_p, kSet1_u, w_seti, kApp_u, kApp2_o, kApp2_p, oL_u, oL_o, oL_p, w_app, kExt_u, kExt2_o, kExt2_p, w_ext, kEx_u, w_ex, kRet_u, w_ret, w_rv, kRv_own, kRv_val, rt_cst, rt_glb, rt_op, rt_and, rt_or, rt_not, rt_ite, rt_chain, rt_chain3, rt_call, rt_callV, rt_comp, w_retn, w_pass, kIf_u, kIf_t, kIf_f, w_ifs, kFor4_u, kIt_u, kIt2_s, w_for, w_whl, kRse3_u, kRse2_s, kRse_u, w_rse, zf_nil, zf_cons, zM_s, kTry_u, w_try, w_cat0, kUn_nx, kCat_f, kCat_t, kSuN_n, kSuN_s, kSu_un, kSu_val, w_cat, w_suc, kSl_u, kSl2_un, kSl2_val, kSl2_own, w_sul, w_var, kVar_val, kVar_own, w_cst, w_glb, w_fnv, kE_u, kOpX_u, kOp3_ff, kOp2_s, kOp_u, w_op, kBl_u, kAnd_u, kAnd_t, kAnd_f, w_and, kOr_u, kOr_f, kOr_t, w_or, kNot_u, w_not, kIte_u, kIte_t, kIte_f, w_ite, kCh5_u, kLk4_t, kLk4_f, kLk3_u, kCh2_u, kCh1_u, w_chain, kC5_u, kC2_u, kC1_u, w_chain3, kB2_u, kBack_u, kBackX_u, kCall2_s, kCall_u, w_call, kCv2_s, kCv_u, w_callV, kCm4_u, kCm_u, w_comp, w_en, kCo_u, kEv_u, w_ec, w_pk, kPk_val, kPk_own, kPk_par, kD_u, od_var, od_cst, od_glb, od_op, od_and, od_or, od_not, od_ite, od_chain, od_chain3, od_fnv, od_callV, od_call, od_comp, kFz_u, w_fz, w_an, kAl_u, kAl_t, kAl_f, w_ac, kRun_nx, kRun_rt, kRunX_u, w_fn, w_fv, kFl_u, kFs_p, w_fl, wo_some, wp_ok, wp_ex, sl_0, sl_S, rd_v, rd_n, rs_v, rs_n, opds_nil, opds_cons, opC_s, opd_d, opd_pk, toArgs_nil, toArgs_cons, arC_s, toArg_d, toArg_k, arS_val, arS_own, arS_par, d_val, d_own, d_par, muts_nil, muts_d, muts_pk, mutC_t, mutC_f, m_val, m_own, m_par, pb_nil, pb_cons, put_own, put_par, nd_nil, nd_one, ie_nil, ie_cons, as_v, as_l, ip_pk, ip_d, List.set_cons_zero, List.set_cons_succ, hideE, backE, disp, midOp, mthd, kV_u, kVI_u, kVC_u, p_addI, p_addS, p_addL, p_addT, p_subI, p_mulI, p_mulS, p_mulL, p_mulT, p_fdiv, p_mod, p_pow, p_neg, p_eqI, p_eqS, p_neI, p_neS, p_eqL, p_eqT, p_eqN, p_eqB, p_neL, p_neT, p_neN, p_neB, p_lt, p_le, p_gt, p_ge, p_isN, p_notN, n_non, n_int, n_str, n_tup, n_lst, n_bl, p_inC, p_inL, p_inT, p_niC, p_niL, p_niT, p_ixL, p_ixT, p_ixR, p_ixS, p_sS0, p_sS1, p_sS2, p_sS3, p_sL1, p_sL2, p_sL3, p_sT1, p_sT2, p_sT3, p_revL, p_tup, p_lst, p_lenS, p_lenL, p_lenT, p_lenR, p_int, p_intB, p_listL, p_listT, p_tupleL, p_tupleT, p_min, p_max, kAB_u, kNB_u, p_all, p_any, p_isi, kJn_u, p_join, i_lst, i_tup, i_str, i_eL, i_eT, i_eS, i_r1, i_r2, i_r3, cut_n, kL_nx, kL_ct, kL_bk, kL_rt, kBd_u, kCi2_u, kCi1_t, kCi1_f, kCi_u, List.any_cons, List.any_nil, Bool.or_false, Bool.or_true, Bool.true_or, Bool.false_or, Bool.and_false, Bool.false_and, Bool.and_true, Bool.true_and, Bool.not_true, Bool.not_false, decide_true, decide_false, true_and, and_true, Nat.reduceAdd, Nat.zero_add, List.length_cons, List.length_nil, Int.reduceLT, Int.reduceLE, Int.reduceNeg, Int.reducePow, Int.reduceAdd, Int.reduceSub, Int.reduceMul, Nat.reduceLeDiff, Nat.reduceLT, Nat.reducePow, Nat.reduceMul, Int.reduceEq, Int.reduceToNat, typed, typOf, big, ne_eq, not_false_eq_true, reduceCtorEq, List.cons_append, List.nil_append, cg_is_from, ch_is_from, cg_is_row, ch_is_row, cf_need_row_0, cg_need_row, ch_need_row, cg_lots_of, ch_lots_of, cg_best_letter, ch_best_letter, cf_made_by_0, cg_made_by, ch_made_by, cf_part_choices_0, cg_part_choices, ch_part_choices, cg_joined, ch_joined, cf_nearest_0, cf_nearest_1, cg_nearest, ch_nearest, cg__law_taken, ch__law_taken, cf__law_row_0, cg__law_row, ch__law_row, cf__law_refused_0, cg__law_refused, ch__law_refused, cf_law_0, cf_law_1, cf_law_2, cg_law, ch_law, fl_1, fl_2, fl_3, su_1_3, su_1_2, su_3_3, su_3_2, su_2_3, su_2_2, gw, cut_p n9]
    refine ref_long w9 (by omega) ?_
    have q1 : (D.lst [.str [108, 111, 110, 103], .int 8]).plain 64 = true := rfl
    have q2 : D.eqv (.lst [.str [108, 111, 110, 103], .int 8]) (.lst [.str [108, 111, 110, 103], .int 8]) = true := rfl
    have gl : (8 : Int) < w.length := by omega
    simp only [w_nil, w_cons, kS_nx, kS_rt, kS_bk, kS_ct, kOwn_u, kOwn2_un, kOwn2_val, kOwn2_own, w_own, kAsg_u, w_asg, w_nm, kT_un, kT_val, kT_own, kTs_u, w_tpt, w_tpl, w_tn, w_tc, kSt_o, kSt_p, kSet3_u, kSet4_o, kSet4_p, kSet1_u, w_seti, kApp_u, kApp2_o, kApp2_p, oL_u, oL_o, oL_p, w_app, kExt_u, kExt2_o, kExt2_p, w_ext, kEx_u, w_ex, kRet_u, w_ret, w_rv, kRv_own, kRv_val, rt_cst, rt_glb, rt_op, rt_and, rt_or, rt_not, rt_ite, rt_chain, rt_chain3, rt_call, rt_callV, rt_comp, w_retn, w_pass, kIf_u, kIf_t, kIf_f, w_ifs, kFor4_u, kIt_u, kIt2_s, w_for, w_whl, kRse3_u, kRse2_s, kRse_u, w_rse, zf_nil, zf_cons, zM_s, kTry_u, w_try, w_cat0, kUn_nx, kCat_f, kCat_t, kSuN_n, kSuN_s, kSu_un, kSu_val, w_cat, w_suc, kSl_u, kSl2_un, kSl2_val, kSl2_own, w_sul, w_var, kVar_val, kVar_own, w_cst, w_glb, w_fnv, kE_u, kOpX_u, kOp3_ff, kOp2_s, kOp_u, w_op, kBl_u, kAnd_u, kAnd_t, kAnd_f, w_and, kOr_u, kOr_f, kOr_t, w_or, kNot_u, w_not, kIte_u, kIte_t, kIte_f, w_ite, kCh5_u, kLk4_t, kLk4_f, kLk3_u, kCh2_u, kCh1_u, w_chain, kC5_u, kC2_u, kC1_u, w_chain3, kB2_u, kBack_u, kBackX_u, kCall2_s, kCall_u, w_call, kCv2_s, kCv_u, w_callV, kCm4_u, kCm_u, w_comp, w_en, kCo_u, kEv_u, w_ec, w_pk, kPk_val, kPk_own, kPk_par, kD_u, od_var, od_cst, od_glb, od_op, od_and, od_or, od_not, od_ite, od_chain, od_chain3, od_fnv, od_callV, od_call, od_comp, kFz_u, w_fz, w_an, kAl_u, kAl_t, kAl_f, w_ac, kRun_nx, kRun_rt, kRunX_u, w_fn, w_fv, kFl_u, kFs_p, w_fl, wo_some, wp_ok, wp_ex, sl_0, sl_S, rd_v, rd_n, rs_v, rs_n, opds_nil, opds_cons, opC_s, opd_d, opd_pk, toArgs_nil, toArgs_cons, arC_s, toArg_d, toArg_k, arS_val, arS_own, arS_par, d_val, d_own, d_par, muts_nil, muts_d, muts_pk, mutC_t, mutC_f, m_val, m_own, m_par, pb_nil, pb_cons, put_own, put_par, nd_nil, nd_one, ie_nil, ie_cons, as_v, as_l, ip_pk, ip_d, List.set_cons_zero, List.set_cons_succ, hideE, backE, disp, midOp, mthd, kV_u, kVI_u, kVC_u, p_addI, p_addS, p_addL, p_addT, p_subI, p_mulI, p_mulS, p_mulL, p_mulT, p_fdiv, p_mod, p_pow, p_neg, p_eqI, p_eqS, p_neI, p_neS, p_eqL, p_eqT, p_eqN, p_eqB, p_neL, p_neT, p_neN, p_neB, p_lt, p_le, p_gt, p_ge, p_isN, p_notN, n_non, n_int, n_str, n_tup, n_lst, n_bl, p_inC, p_inL, p_inT, p_niC, p_niL, p_niT, p_ixL, p_ixT, p_ixR, p_ixS, p_sS0, p_sS1, p_sS2, p_sS3, p_sL1, p_sL2, p_sL3, p_sT1, p_sT2, p_sT3, p_revL, p_tup, p_lst, p_lenS, p_lenL, p_lenT, p_lenR, p_int, p_intB, p_listL, p_listT, p_tupleL, p_tupleT, p_min, p_max, kAB_u, kNB_u, p_all, p_any, p_isi, kJn_u, p_join, i_lst, i_tup, i_str, i_eL, i_eT, i_eS, i_r1, i_r2, i_r3, cut_n, kL_nx, kL_ct, kL_bk, kL_rt, kBd_u, kCi2_u, kCi1_t, kCi1_f, kCi_u, List.any_cons, List.any_nil, Bool.or_false, Bool.or_true, Bool.true_or, Bool.false_or, Bool.and_false, Bool.false_and, Bool.and_true, Bool.true_and, Bool.not_true, Bool.not_false, decide_true, decide_false, true_and, and_true, Nat.reduceAdd, Nat.zero_add, List.length_cons, List.length_nil, Int.reduceLT, Int.reduceLE, Int.reduceNeg, Int.reducePow, Int.reduceAdd, Int.reduceSub, Int.reduceMul, Nat.reduceLeDiff, Nat.reduceLT, Nat.reducePow, Nat.reduceMul, Int.reduceEq, Int.reduceToNat, typed, typOf, big, ne_eq, not_false_eq_true, reduceCtorEq, List.cons_append, List.nil_append, cg_is_from, ch_is_from, cg_is_row, ch_is_row, cf_need_row_0, cg_need_row, ch_need_row, cg_lots_of, ch_lots_of, cg_best_letter, ch_best_letter, cf_made_by_0, cg_made_by, ch_made_by, cf_part_choices_0, cg_part_choices, ch_part_choices, cg_joined, ch_joined, cf_nearest_0, cf_nearest_1, cg_nearest, ch_nearest, cg__law_taken, ch__law_taken, cf__law_row_0, cg__law_row, ch__law_row, cf__law_refused_0, cg__law_refused, ch__law_refused, cf_law_0, cf_law_1, cf_law_2, cg_law, ch_law, fl_1, fl_2, fl_3, su_1_3, su_1_2, su_3_3, su_3_2, su_2_3, su_2_2, q1, q2, gw, gl]
    refine ref_long wo (by omega) ?_
    simp only [w_nil, w_cons, kS_nx, kS_rt, kS_bk, kS_ct, kOwn_u, kOwn2_un, kOwn2_val, kOwn2_own, w_own, kAsg_u, w_asg, w_nm, kT_un, kT_val, kT_own, kTs_u, w_tpt, w_tpl, w_tn, w_tc, kSt_o, kSt_p, kSet3_u, kSet4_o, kSet4_p, kSet1_u, w_seti, kApp_u, kApp2_o, kApp2_p, oL_u, oL_o, oL_p, w_app, kExt_u, kExt2_o, kExt2_p, w_ext, kEx_u, w_ex, kRet_u, w_ret, w_rv, kRv_own, kRv_val, rt_cst, rt_glb, rt_op, rt_and, rt_or, rt_not, rt_ite, rt_chain, rt_chain3, rt_call, rt_callV, rt_comp, w_retn, w_pass, kIf_u, kIf_t, kIf_f, w_ifs, kFor4_u, kIt_u, kIt2_s, w_for, w_whl, kRse3_u, kRse2_s, kRse_u, w_rse, zf_nil, zf_cons, zM_s, kTry_u, w_try, w_cat0, kUn_nx, kCat_f, kCat_t, kSuN_n, kSuN_s, kSu_un, kSu_val, w_cat, w_suc, kSl_u, kSl2_un, kSl2_val, kSl2_own, w_sul, w_var, kVar_val, kVar_own, w_cst, w_glb, w_fnv, kE_u, kOpX_u, kOp3_ff, kOp2_s, kOp_u, w_op, kBl_u, kAnd_u, kAnd_t, kAnd_f, w_and, kOr_u, kOr_f, kOr_t, w_or, kNot_u, w_not, kIte_u, kIte_t, kIte_f, w_ite, kCh5_u, kLk4_t, kLk4_f, kLk3_u, kCh2_u, kCh1_u, w_chain, kC5_u, kC2_u, kC1_u, w_chain3, kB2_u, kBack_u, kBackX_u, kCall2_s, kCall_u, w_call, kCv2_s, kCv_u, w_callV, kCm4_u, kCm_u, w_comp, w_en, kCo_u, kEv_u, w_ec, w_pk, kPk_val, kPk_own, kPk_par, kD_u, od_var, od_cst, od_glb, od_op, od_and, od_or, od_not, od_ite, od_chain, od_chain3, od_fnv, od_callV, od_call, od_comp, kFz_u, w_fz, w_an, kAl_u, kAl_t, kAl_f, w_ac, kRun_nx, kRun_rt, kRunX_u, w_fn, w_fv, kFl_u, kFs_p, w_fl, wo_some, wp_ok, wp_ex, sl_0, sl_S, rd_v, rd_n, rs_v, rs_n, opds_nil, opds_cons, opC_s, opd_d, opd_pk, toArgs_nil, toArgs_cons, arC_s, toArg_d, toArg_k, arS_val, arS_own, arS_par, d_val, d_own, d_par, muts_nil, muts_d, muts_pk, mutC_t, mutC_f, m_val, m_own, m_par, pb_nil, pb_cons, put_own, put_par, nd_nil, nd_one, ie_nil, ie_cons, as_v, as_l, ip_pk, ip_d, List.set_cons_zero, List.set_cons_succ, hideE, backE, disp, midOp, mthd, kV_u, kVI_u, kVC_u, p_addI, p_addS, p_addL, p_addT, p_subI, p_mulI, p_mulS, p_mulL, p_mulT, p_fdiv, p_mod, p_pow, p_neg, p_eqI, p_eqS, p_neI, p_neS, p_eqL, p_eqT, p_eqN, p_eqB, p_neL, p_neT, p_neN, p_neB, p_lt, p_le, p_gt, p_ge, p_isN, p_notN, n_non, n_int, n_str, n_tup, n_lst, n_bl, p_inC, p_inL, p_inT, p_niC, p_niL, p_niT, p_ixL, p_ixT, p_ixR, p_ixS, p_sS0, p_sS1, p_sS2, p_sS3, p_sL1, p_sL2, p_sL3, p_sT1, p_sT2, p_sT3, p_revL, p_tup, p_lst, p_lenS, p_lenL, p_lenT, p_lenR, p_int, p_intB, p_listL, p_listT, p_tupleL, p_tupleT, p_min, p_max, kAB_u, kNB_u, p_all, p_any, p_isi, kJn_u, p_join, i_lst, i_tup, i_str, i_eL, i_eT, i_eS, i_r1, i_r2, i_r3, cut_n, kL_nx, kL_ct, kL_bk, kL_rt, kBd_u, kCi2_u, kCi1_t, kCi1_f, kCi_u, List.any_cons, List.any_nil, Bool.or_false, Bool.or_true, Bool.true_or, Bool.false_or, Bool.and_false, Bool.false_and, Bool.and_true, Bool.true_and, Bool.not_true, Bool.not_false, decide_true, decide_false, true_and, and_true, Nat.reduceAdd, Nat.zero_add, List.length_cons, List.length_nil, Int.reduceLT, Int.reduceLE, Int.reduceNeg, Int.reducePow, Int.reduceAdd, Int.reduceSub, Int.reduceMul, Nat.reduceLeDiff, Nat.reduceLT, Nat.reducePow, Nat.reduceMul, Int.reduceEq, Int.reduceToNat, typed, typOf, big, ne_eq, not_false_eq_true, reduceCtorEq, List.cons_append, List.nil_append, cg_is_from, ch_is_from, cg_is_row, ch_is_row, cf_need_row_0, cg_need_row, ch_need_row, cg_lots_of, ch_lots_of, cg_best_letter, ch_best_letter, cf_made_by_0, cg_made_by, ch_made_by, cf_part_choices_0, cg_part_choices, ch_part_choices, cg_joined, ch_joined, cf_nearest_0, cf_nearest_1, cg_nearest, ch_nearest, cg__law_taken, ch__law_taken, cf__law_row_0, cg__law_row, ch__law_row, cf__law_refused_0, cg__law_refused, ch__law_refused, cf_law_0, cf_law_1, cf_law_2, cg_law, ch_law, fl_1, fl_2, fl_3, su_1_3, su_1_2, su_3_3, su_3_2, su_2_3, su_2_2, q1, q2]
    refine row_w i3 (by omega) (by omega) fun r' d4 i4 rr' rl' => ?_
    simp only [w_nil, w_cons, kS_nx, kS_rt, kS_bk, kS_ct, kOwn_u, kOwn2_un, kOwn2_val, kOwn2_own, w_own, kAsg_u, w_asg, w_nm, kT_un, kT_val, kT_own, kTs_u, w_tpt, w_tpl, w_tn, w_tc, kSt_o, kSt_p, kSet3_u, kSet4_o, kSet4_p, kSet1_u, w_seti, kApp_u, kApp2_o, kApp2_p, oL_u, oL_o, oL_p, w_app, kExt_u, kExt2_o, kExt2_p, w_ext, kEx_u, w_ex, kRet_u, w_ret, w_rv, kRv_own, kRv_val, rt_cst, rt_glb, rt_op, rt_and, rt_or, rt_not, rt_ite, rt_chain, rt_chain3, rt_call, rt_callV, rt_comp, w_retn, w_pass, kIf_u, kIf_t, kIf_f, w_ifs, kFor4_u, kIt_u, kIt2_s, w_for, w_whl, kRse3_u, kRse2_s, kRse_u, w_rse, zf_nil, zf_cons, zM_s, kTry_u, w_try, w_cat0, kUn_nx, kCat_f, kCat_t, kSuN_n, kSuN_s, kSu_un, kSu_val, w_cat, w_suc, kSl_u, kSl2_un, kSl2_val, kSl2_own, w_sul, w_var, kVar_val, kVar_own, w_cst, w_glb, w_fnv, kE_u, kOpX_u, kOp3_ff, kOp2_s, kOp_u, w_op, kBl_u, kAnd_u, kAnd_t, kAnd_f, w_and, kOr_u, kOr_f, kOr_t, w_or, kNot_u, w_not, kIte_u, kIte_t, kIte_f, w_ite, kCh5_u, kLk4_t, kLk4_f, kLk3_u, kCh2_u, kCh1_u, w_chain, kC5_u, kC2_u, kC1_u, w_chain3, kB2_u, kBack_u, kBackX_u, kCall2_s, kCall_u, w_call, kCv2_s, kCv_u, w_callV, kCm4_u, kCm_u, w_comp, w_en, kCo_u, kEv_u, w_ec, w_pk, kPk_val, kPk_own, kPk_par, kD_u, od_var, od_cst, od_glb, od_op, od_and, od_or, od_not, od_ite, od_chain, od_chain3, od_fnv, od_callV, od_call, od_comp, kFz_u, w_fz, w_an, kAl_u, kAl_t, kAl_f, w_ac, kRun_nx, kRun_rt, kRunX_u, w_fn, w_fv, kFl_u, kFs_p, w_fl, wo_some, wp_ok, wp_ex, sl_0, sl_S, rd_v, rd_n, rs_v, rs_n, opds_nil, opds_cons, opC_s, opd_d, opd_pk, toArgs_nil, toArgs_cons, arC_s, toArg_d, toArg_k, arS_val, arS_own, arS_par, d_val, d_own, d_par, muts_nil, muts_d, muts_pk, mutC_t, mutC_f, m_val, m_own, m_par, pb_nil, pb_cons, put_own, put_par, nd_nil, nd_one, ie_nil, ie_cons, as_v, as_l, ip_pk, ip_d, List.set_cons_zero, List.set_cons_succ, hideE, backE, disp, midOp, mthd, kV_u, kVI_u, kVC_u, p_addI, p_addS, p_addL, p_addT, p_subI, p_mulI, p_mulS, p_mulL, p_mulT, p_fdiv, p_mod, p_pow, p_neg, p_eqI, p_eqS, p_neI, p_neS, p_eqL, p_eqT, p_eqN, p_eqB, p_neL, p_neT, p_neN, p_neB, p_lt, p_le, p_gt, p_ge, p_isN, p_notN, n_non, n_int, n_str, n_tup, n_lst, n_bl, p_inC, p_inL, p_inT, p_niC, p_niL, p_niT, p_ixL, p_ixT, p_ixR, p_ixS, p_sS0, p_sS1, p_sS2, p_sS3, p_sL1, p_sL2, p_sL3, p_sT1, p_sT2, p_sT3, p_revL, p_tup, p_lst, p_lenS, p_lenL, p_lenT, p_lenR, p_int, p_intB, p_listL, p_listT, p_tupleL, p_tupleT, p_min, p_max, kAB_u, kNB_u, p_all, p_any, p_isi, kJn_u, p_join, i_lst, i_tup, i_str, i_eL, i_eT, i_eS, i_r1, i_r2, i_r3, cut_n, kL_nx, kL_ct, kL_bk, kL_rt, kBd_u, kCi2_u, kCi1_t, kCi1_f, kCi_u, List.any_cons, List.any_nil, Bool.or_false, Bool.or_true, Bool.true_or, Bool.false_or, Bool.and_false, Bool.false_and, Bool.and_true, Bool.true_and, Bool.not_true, Bool.not_false, decide_true, decide_false, true_and, and_true, Nat.reduceAdd, Nat.zero_add, List.length_cons, List.length_nil, Int.reduceLT, Int.reduceLE, Int.reduceNeg, Int.reducePow, Int.reduceAdd, Int.reduceSub, Int.reduceMul, Nat.reduceLeDiff, Nat.reduceLT, Nat.reducePow, Nat.reduceMul, Int.reduceEq, Int.reduceToNat, typed, typOf, big, ne_eq, not_false_eq_true, reduceCtorEq, List.cons_append, List.nil_append, cg_is_from, ch_is_from, cg_is_row, ch_is_row, cf_need_row_0, cg_need_row, ch_need_row, cg_lots_of, ch_lots_of, cg_best_letter, ch_best_letter, cf_made_by_0, cg_made_by, ch_made_by, cf_part_choices_0, cg_part_choices, ch_part_choices, cg_joined, ch_joined, cf_nearest_0, cf_nearest_1, cg_nearest, ch_nearest, cg__law_taken, ch__law_taken, cf__law_row_0, cg__law_row, ch__law_row, cf__law_refused_0, cg__law_refused, ch__law_refused, cf_law_0, cf_law_1, cf_law_2, cg_law, ch_law, fl_1, fl_2, fl_3, su_1_3, su_1_2, su_3_3, su_3_2, su_2_3, su_2_2]
    refine ref_bad rr' (by omega) tb fb ?_
    simp only [w_nil, w_cons, kS_nx, kS_rt, kS_bk, kS_ct, kOwn_u, kOwn2_un, kOwn2_val, kOwn2_own, w_own, kAsg_u, w_asg, w_nm, kT_un, kT_val, kT_own, kTs_u, w_tpt, w_tpl, w_tn, w_tc, kSt_o, kSt_p, kSet3_u, kSet4_o, kSet4_p, kSet1_u, w_seti, kApp_u, kApp2_o, kApp2_p, oL_u, oL_o, oL_p, w_app, kExt_u, kExt2_o, kExt2_p, w_ext, kEx_u, w_ex, kRet_u, w_ret, w_rv, kRv_own, kRv_val, rt_cst, rt_glb, rt_op, rt_and, rt_or, rt_not, rt_ite, rt_chain, rt_chain3, rt_call, rt_callV, rt_comp, w_retn, w_pass, kIf_u, kIf_t, kIf_f, w_ifs, kFor4_u, kIt_u, kIt2_s, w_for, w_whl, kRse3_u, kRse2_s, kRse_u, w_rse, zf_nil, zf_cons, zM_s, kTry_u, w_try, w_cat0, kUn_nx, kCat_f, kCat_t, kSuN_n, kSuN_s, kSu_un, kSu_val, w_cat, w_suc, kSl_u, kSl2_un, kSl2_val, kSl2_own, w_sul, w_var, kVar_val, kVar_own, w_cst, w_glb, w_fnv, kE_u, kOpX_u, kOp3_ff, kOp2_s, kOp_u, w_op, kBl_u, kAnd_u, kAnd_t, kAnd_f, w_and, kOr_u, kOr_f, kOr_t, w_or, kNot_u, w_not, kIte_u, kIte_t, kIte_f, w_ite, kCh5_u, kLk4_t, kLk4_f, kLk3_u, kCh2_u, kCh1_u, w_chain, kC5_u, kC2_u, kC1_u, w_chain3, kB2_u, kBack_u, kBackX_u, kCall2_s, kCall_u, w_call, kCv2_s, kCv_u, w_callV, kCm4_u, kCm_u, w_comp, w_en, kCo_u, kEv_u, w_ec, w_pk, kPk_val, kPk_own, kPk_par, kD_u, od_var, od_cst, od_glb, od_op, od_and, od_or, od_not, od_ite, od_chain, od_chain3, od_fnv, od_callV, od_call, od_comp, kFz_u, w_fz, w_an, kAl_u, kAl_t, kAl_f, w_ac, kRun_nx, kRun_rt, kRunX_u, w_fn, w_fv, kFl_u, kFs_p, w_fl, wo_some, wp_ok, wp_ex, sl_0, sl_S, rd_v, rd_n, rs_v, rs_n, opds_nil, opds_cons, opC_s, opd_d, opd_pk, toArgs_nil, toArgs_cons, arC_s, toArg_d, toArg_k, arS_val, arS_own, arS_par, d_val, d_own, d_par, muts_nil, muts_d, muts_pk, mutC_t, mutC_f, m_val, m_own, m_par, pb_nil, pb_cons, put_own, put_par, nd_nil, nd_one, ie_nil, ie_cons, as_v, as_l, ip_pk, ip_d, List.set_cons_zero, List.set_cons_succ, hideE, backE, disp, midOp, mthd, kV_u, kVI_u, kVC_u, p_addI, p_addS, p_addL, p_addT, p_subI, p_mulI, p_mulS, p_mulL, p_mulT, p_fdiv, p_mod, p_pow, p_neg, p_eqI, p_eqS, p_neI, p_neS, p_eqL, p_eqT, p_eqN, p_eqB, p_neL, p_neT, p_neN, p_neB, p_lt, p_le, p_gt, p_ge, p_isN, p_notN, n_non, n_int, n_str, n_tup, n_lst, n_bl, p_inC, p_inL, p_inT, p_niC, p_niL, p_niT, p_ixL, p_ixT, p_ixR, p_ixS, p_sS0, p_sS1, p_sS2, p_sS3, p_sL1, p_sL2, p_sL3, p_sT1, p_sT2, p_sT3, p_revL, p_tup, p_lst, p_lenS, p_lenL, p_lenT, p_lenR, p_int, p_intB, p_listL, p_listT, p_tupleL, p_tupleT, p_min, p_max, kAB_u, kNB_u, p_all, p_any, p_isi, kJn_u, p_join, i_lst, i_tup, i_str, i_eL, i_eT, i_eS, i_r1, i_r2, i_r3, cut_n, kL_nx, kL_ct, kL_bk, kL_rt, kBd_u, kCi2_u, kCi1_t, kCi1_f, kCi_u, List.any_cons, List.any_nil, Bool.or_false, Bool.or_true, Bool.true_or, Bool.false_or, Bool.and_false, Bool.false_and, Bool.and_true, Bool.true_and, Bool.not_true, Bool.not_false, decide_true, decide_false, true_and, and_true, Nat.reduceAdd, Nat.zero_add, List.length_cons, List.length_nil, Int.reduceLT, Int.reduceLE, Int.reduceNeg, Int.reducePow, Int.reduceAdd, Int.reduceSub, Int.reduceMul, Nat.reduceLeDiff, Nat.reduceLT, Nat.reducePow, Nat.reduceMul, Int.reduceEq, Int.reduceToNat, typed, typOf, big, ne_eq, not_false_eq_true, reduceCtorEq, List.cons_append, List.nil_append, cg_is_from, ch_is_from, cg_is_row, ch_is_row, cf_need_row_0, cg_need_row, ch_need_row, cg_lots_of, ch_lots_of, cg_best_letter, ch_best_letter, cf_made_by_0, cg_made_by, ch_made_by, cf_part_choices_0, cg_part_choices, ch_part_choices, cg_joined, ch_joined, cf_nearest_0, cf_nearest_1, cg_nearest, ch_nearest, cg__law_taken, ch__law_taken, cf__law_row_0, cg__law_row, ch__law_row, cf__law_refused_0, cg__law_refused, ch__law_refused, cf_law_0, cf_law_1, cf_law_2, cg_law, ch_law, fl_1, fl_2, fl_3, su_1_3, su_1_2, su_3_3, su_3_2, su_2_3, su_2_2, p1, p2]
    exact ⟨_, _, _, _, i4, U_val, U_val, U_val, rfl⟩
  · intro e ⟨d, s2, s3, s4, hd, u2, u3, u4, ee⟩
    subst ee
    simp only [w_nil, w_cons, kS_nx, kS_rt, kS_bk, kS_ct, kOwn_u, kOwn2_un, kOwn2_val, kOwn2_own, w_own, kAsg_u, w_asg, w_nm, kT_un, kT_val, kT_own, kTs_u, w_tpt, w_tpl, w_tn, w_tc, kSt_o, kSt_p, kSet3_u, kSet4_o, kSet4_p, kSet1_u, w_seti, kApp_u, kApp2_o, kApp2_p, oL_u, oL_o, oL_p, w_app, kExt_u, kExt2_o, kExt2_p, w_ext, kEx_u, w_ex, kRet_u, w_ret, w_rv, kRv_own, kRv_val, rt_cst, rt_glb, rt_op, rt_and, rt_or, rt_not, rt_ite, rt_chain, rt_chain3, rt_call, rt_callV, rt_comp, w_retn, w_pass, kIf_u, kIf_t, kIf_f, w_ifs, kFor4_u, kIt_u, kIt2_s, w_for, w_whl, kRse3_u, kRse2_s, kRse_u, w_rse, zf_nil, zf_cons, zM_s, kTry_u, w_try, w_cat0, kUn_nx, kCat_f, kCat_t, kSuN_n, kSuN_s, kSu_un, kSu_val, w_cat, w_suc, kSl_u, kSl2_un, kSl2_val, kSl2_own, w_sul, w_var, kVar_val, kVar_own, w_cst, w_glb, w_fnv, kE_u, kOpX_u, kOp3_ff, kOp2_s, kOp_u, w_op, kBl_u, kAnd_u, kAnd_t, kAnd_f, w_and, kOr_u, kOr_f, kOr_t, w_or, kNot_u, w_not, kIte_u, kIte_t, kIte_f, w_ite, kCh5_u, kLk4_t, kLk4_f, kLk3_u, kCh2_u, kCh1_u, w_chain, kC5_u, kC2_u, kC1_u, w_chain3, kB2_u, kBack_u, kBackX_u, kCall2_s, kCall_u, w_call, kCv2_s, kCv_u, w_callV, kCm4_u, kCm_u, w_comp, w_en, kCo_u, kEv_u, w_ec, w_pk, kPk_val, kPk_own, kPk_par, kD_u, od_var, od_cst, od_glb, od_op, od_and, od_or, od_not, od_ite, od_chain, od_chain3, od_fnv, od_callV, od_call, od_comp, kFz_u, w_fz, w_an, kAl_u, kAl_t, kAl_f, w_ac, kRun_nx, kRun_rt, kRunX_u, w_fn, w_fv, kFl_u, kFs_p, w_fl, wo_some, wp_ok, wp_ex, sl_0, sl_S, rd_v, rd_n, rs_v, rs_n, opds_nil, opds_cons, opC_s, opd_d, opd_pk, toArgs_nil, toArgs_cons, arC_s, toArg_d, toArg_k, arS_val, arS_own, arS_par, d_val, d_own, d_par, muts_nil, muts_d, muts_pk, mutC_t, mutC_f, m_val, m_own, m_par, pb_nil, pb_cons, put_own, put_par, nd_nil, nd_one, ie_nil, ie_cons, as_v, as_l, ip_pk, ip_d, List.set_cons_zero, List.set_cons_succ, hideE, backE, disp, midOp, mthd, kV_u, kVI_u, kVC_u, p_addI, p_addS, p_addL, p_addT, p_subI, p_mulI, p_mulS, p_mulL, p_mulT, p_fdiv, p_mod, p_pow, p_neg, p_eqI, p_eqS, p_neI, p_neS, p_eqL, p_eqT, p_eqN, p_eqB, p_neL, p_neT, p_neN, p_neB, p_lt, p_le, p_gt, p_ge, p_isN, p_notN, n_non, n_int, n_str, n_tup, n_lst, n_bl, p_inC, p_inL, p_inT, p_niC, p_niL, p_niT, p_ixL, p_ixT, p_ixR, p_ixS, p_sS0, p_sS1, p_sS2, p_sS3, p_sL1, p_sL2, p_sL3, p_sT1, p_sT2, p_sT3, p_revL, p_tup, p_lst, p_lenS, p_lenL, p_lenT, p_lenR, p_int, p_intB, p_listL, p_listT, p_tupleL, p_tupleT, p_min, p_max, kAB_u, kNB_u, p_all, p_any, p_isi, kJn_u, p_join, i_lst, i_tup, i_str, i_eL, i_eT, i_eS, i_r1, i_r2, i_r3, cut_n, kL_nx, kL_ct, kL_bk, kL_rt, kBd_u, kCi2_u, kCi1_t, kCi1_f, kCi_u, List.any_cons, List.any_nil, Bool.or_false, Bool.or_true, Bool.true_or, Bool.false_or, Bool.and_false, Bool.false_and, Bool.and_true, Bool.true_and, Bool.not_true, Bool.not_false, decide_true, decide_false, true_and, and_true, Nat.reduceAdd, Nat.zero_add, List.length_cons, List.length_nil, Int.reduceLT, Int.reduceLE, Int.reduceNeg, Int.reducePow, Int.reduceAdd, Int.reduceSub, Int.reduceMul, Nat.reduceLeDiff, Nat.reduceLT, Nat.reducePow, Nat.reduceMul, Int.reduceEq, Int.reduceToNat, typed, typOf, big, ne_eq, not_false_eq_true, reduceCtorEq, List.cons_append, List.nil_append, cg_is_from, ch_is_from, cg_is_row, ch_is_row, cf_need_row_0, cg_need_row, ch_need_row, cg_lots_of, ch_lots_of, cg_best_letter, ch_best_letter, cf_made_by_0, cg_made_by, ch_made_by, cf_part_choices_0, cg_part_choices, ch_part_choices, cg_joined, ch_joined, cf_nearest_0, cf_nearest_1, cg_nearest, ch_nearest, cg__law_taken, ch__law_taken, cf__law_row_0, cg__law_row, ch__law_row, cf__law_refused_0, cg__law_refused, ch__law_refused, cf_law_0, cf_law_1, cf_law_2, cg_law, ch_law, fl_1, fl_2, fl_3, su_1_3, su_1_2, su_3_3, su_3_2, su_2_3, su_2_2]
end Itp
set_option Elab.async false
set_option linter.all false
set_option maxRecDepth 100000
set_option maxHeartbeats 4000000
namespace Itp
open PySem L2
abbrev s_BadRow : Stmt := (clsBody (topS 2)).getD 0 (.Pass ⟨0, 0, 0, 0⟩)
theorem sc_BadRow : FnScope ["self"] ["self"] (defScope s_BadRow) := ⟨rfl, rfl, rfl, by decide +kernel, rfl, by decide +kernel, by decide +kernel⟩
theorem k_BadRow : initB ["self"] (defScope s_BadRow) [] "DipError" (defBody s_BadRow) = true := by decide +kernel
abbrev s_TooLong : Stmt := (clsBody (topS 4)).getD 0 (.Pass ⟨0, 0, 0, 0⟩)
theorem sc_TooLong : FnScope ["self", "most"] ["self", "most"] (defScope s_TooLong) := ⟨rfl, rfl, rfl, by decide +kernel, rfl, by decide +kernel, by decide +kernel⟩
theorem k_TooLong : initB ["self", "most"] (defScope s_TooLong) ["most"] "DipError" (defBody s_TooLong) = true := by decide +kernel
abbrev s_BadNumber : Stmt := (clsBody (topS 3)).getD 0 (.Pass ⟨0, 0, 0, 0⟩)
theorem sc_BadNumber : FnScope ["self", "n"] ["self", "n"] (defScope s_BadNumber) := ⟨rfl, rfl, rfl, by decide +kernel, rfl, by decide +kernel, by decide +kernel⟩
theorem k_BadNumber : initB ["self", "n"] (defScope s_BadNumber) ["n"] "DipError" (defBody s_BadNumber) = true := by decide +kernel
theorem fld_cases {c : Nat} {fl : List Str} (h : fldsC c = some fl) : (c = 1 ∧ fl = ([] : List Str)) ∨ (c = 3 ∧ fl = (["most"] : List Str)) ∨ (c = 2 ∧ fl = (["n"] : List Str)) := by
  unfold fldsC at h
  split at h <;> simp_all
theorem sub_cases {c d : Nat} {v : Bool} (h : subC c d = some v) : (c = 1 ∧ d = 3 ∧ v = false) ∨ (c = 1 ∧ d = 2 ∧ v = false) ∨ (c = 3 ∧ d = 3 ∧ v = true) ∨ (c = 3 ∧ d = 2 ∧ v = false) ∨ (c = 2 ∧ d = 3 ∧ v = false) ∨ (c = 2 ∧ d = 2 ∧ v = true) := by
  unfold subC at h
  split at h <;> simp_all
theorem all_mk {l : PySem.W.OpenLaw} {w : World} {K : PySem.W.Frag} {h : Heap} {mg : Str → Option Value} {fa : Addr} (KX : K.In h) (G : h.Ns mainGlobals mg) (hfa : mg "law" = some (.ref fa))
    {C_DipError : Addr}
    {C_BadRow : Addr}
    {C_BadNumber : Addr}
    {C_TooLong : Addr}
    {nm_BadRow q_BadRow : Str} {N_BadRow : Addr} {bs_BadRow : List Value} {sn_BadRow : List Str} {sub_BadRow : List Value} {ab_BadRow : Bool} {col_BadRow : Option Bool} {dd_BadRow : Option Addr} {m0_BadRow m1_BadRow m2_BadRow m3_BadRow m5_BadRow : Option Value}
    {I_BadRow : Addr} {oci_BadRow kVi_BadRow dci_BadRow pmi_BadRow cdi_BadRow cti_BadRow : Value} {odi_BadRow ani_BadRow : Option Addr} {sli_BadRow : Array (Option Value)}
    {nm_TooLong q_TooLong : Str} {N_TooLong : Addr} {bs_TooLong : List Value} {sn_TooLong : List Str} {sub_TooLong : List Value} {ab_TooLong : Bool} {col_TooLong : Option Bool} {dd_TooLong : Option Addr} {m0_TooLong m1_TooLong m2_TooLong m3_TooLong m5_TooLong : Option Value}
    {I_TooLong : Addr} {oci_TooLong kVi_TooLong dci_TooLong pmi_TooLong cdi_TooLong cti_TooLong : Value} {odi_TooLong ani_TooLong : Option Addr} {sli_TooLong : Array (Option Value)}
    {nm_BadNumber q_BadNumber : Str} {N_BadNumber : Addr} {bs_BadNumber : List Value} {sn_BadNumber : List Str} {sub_BadNumber : List Value} {ab_BadNumber : Bool} {col_BadNumber : Option Bool} {dd_BadNumber : Option Addr} {m0_BadNumber m1_BadNumber m2_BadNumber m3_BadNumber m5_BadNumber : Option Value}
    {I_BadNumber : Addr} {oci_BadNumber kVi_BadNumber dci_BadNumber pmi_BadNumber cdi_BadNumber cti_BadNumber : Value} {odi_BadNumber ani_BadNumber : Option Addr} {sli_BadNumber : Array (Option Value)}
    {k_MOST_CELLS : Tok}
    {k_LETTERS : Tok}
    {k_BLANK : Tok}
    {k_MOST_CHANGED : Tok}
    {A_is_from : Addr} {od_is_from an_is_from : Option Addr} {sl_is_from : Array (Option Value)} {oc_is_from kV_is_from dc_is_from pm_is_from cd_is_from ct_is_from : Value}
    {A_is_row : Addr} {od_is_row an_is_row : Option Addr} {sl_is_row : Array (Option Value)} {oc_is_row kV_is_row dc_is_row pm_is_row cd_is_row ct_is_row : Value}
    {A_need_row : Addr} {od_need_row an_need_row : Option Addr} {sl_need_row : Array (Option Value)} {oc_need_row kV_need_row dc_need_row pm_need_row cd_need_row ct_need_row : Value}
    {A_lots_of : Addr} {od_lots_of an_lots_of : Option Addr} {sl_lots_of : Array (Option Value)} {oc_lots_of kV_lots_of dc_lots_of pm_lots_of cd_lots_of ct_lots_of : Value}
    {A_best_letter : Addr} {od_best_letter an_best_letter : Option Addr} {sl_best_letter : Array (Option Value)} {oc_best_letter kV_best_letter dc_best_letter pm_best_letter cd_best_letter ct_best_letter : Value}
    {A_made_by : Addr} {od_made_by an_made_by : Option Addr} {sl_made_by : Array (Option Value)} {oc_made_by kV_made_by dc_made_by pm_made_by cd_made_by ct_made_by : Value}
    {A_part_choices : Addr} {od_part_choices an_part_choices : Option Addr} {sl_part_choices : Array (Option Value)} {oc_part_choices kV_part_choices dc_part_choices pm_part_choices cd_part_choices ct_part_choices : Value}
    {A_joined : Addr} {od_joined an_joined : Option Addr} {sl_joined : Array (Option Value)} {oc_joined kV_joined dc_joined pm_joined cd_joined ct_joined : Value}
    {A_nearest : Addr} {od_nearest an_nearest : Option Addr} {sl_nearest : Array (Option Value)} {oc_nearest kV_nearest dc_nearest pm_nearest cd_nearest ct_nearest : Value}
    {A__law_taken : Addr} {od__law_taken an__law_taken : Option Addr} {sl__law_taken : Array (Option Value)} {oc__law_taken kV__law_taken dc__law_taken pm__law_taken cd__law_taken ct__law_taken : Value}
    {A__law_row : Addr} {od__law_row an__law_row : Option Addr} {sl__law_row : Array (Option Value)} {oc__law_row kV__law_row dc__law_row pm__law_row cd__law_row ct__law_row : Value}
    {A__law_refused : Addr} {od__law_refused an__law_refused : Option Addr} {sl__law_refused : Array (Option Value)} {oc__law_refused kV__law_refused dc__law_refused pm__law_refused cd__law_refused ct__law_refused : Value}
    {A_law : Addr} {od_law an_law : Option Addr} {sl_law : Array (Option Value)} {oc_law kV_law dc_law pm_law cd_law ct_law : Value}
    (a_DipError : PySem.W.nsIn K mainGlobals "DipError" = some (some (.ref C_DipError)))
    (a_BadRow : PySem.W.nsIn K mainGlobals "BadRow" = some (some (.ref C_BadRow)))
    (a_BadNumber : PySem.W.nsIn K mainGlobals "BadNumber" = some (some (.ref C_BadNumber)))
    (a_TooLong : PySem.W.nsIn K mainGlobals "TooLong" = some (some (.ref C_TooLong)))
    (x_BadRow : K.lookup C_BadRow = some (excClassObj nm_BadRow q_BadRow C_BadRow N_BadRow bs_BadRow [.ref C_DipError, .type "ValueError", .type "Exception", .type "BaseException", .type "object"] true sn_BadRow sub_BadRow ab_BadRow col_BadRow dd_BadRow m0_BadRow m1_BadRow m2_BadRow m3_BadRow m5_BadRow "ValueError.__new__"))
    (sa_BadRow : PySem.W.findIn K (.ref C_BadRow) "__setattr__" = some (some (.builtin "object.__setattr__")))
    (ga_BadRow : PySem.W.findIn K (.ref C_BadRow) "__getattribute__" = some (some (.builtin "BaseException.__getattribute__")))
    (gg_BadRow : PySem.W.findIn K (.ref C_BadRow) "__getattr__" = some none)
    (ii_BadRow : PySem.W.findIn K (.ref C_BadRow) "__init__" = some (some (.ref I_BadRow)))
    (ti_BadRow : PySem.W.typeIn K (.ref I_BadRow) = some (.type "function"))
    (li_BadRow : K.lookup I_BadRow = some ⟨oci_BadRow, odi_BadRow, .func (PySem.W.fnOf "__init__" "BadRow.__init__" (defArgs s_BadRow) (defBody s_BadRow) (defScope s_BadRow) .none kVi_BadRow dci_BadRow pmi_BadRow ani_BadRow cdi_BadRow cti_BadRow), sli_BadRow⟩)
    (ci_BadRow : PySem.W.codeIn K cdi_BadRow "BadRow.__init__" = true)
    (ki_BadRow : PySem.W.keepIn K (.ref I_BadRow) = true)
    (kC_BadRow : PySem.W.keepIn K (.ref C_BadRow) = true)
    (eC_BadRow : PySem.W.subIn K (.ref C_BadRow) (.type "BaseException") = some true)
    (tC_BadRow : PySem.W.typeIn K (.ref C_BadRow) = some (.type "type"))
    (hC_BadRow : PySem.W.hasDictIn K C_BadRow = true)
    (x_TooLong : K.lookup C_TooLong = some (excClassObj nm_TooLong q_TooLong C_TooLong N_TooLong bs_TooLong [.ref C_DipError, .type "ValueError", .type "Exception", .type "BaseException", .type "object"] true sn_TooLong sub_TooLong ab_TooLong col_TooLong dd_TooLong m0_TooLong m1_TooLong m2_TooLong m3_TooLong m5_TooLong "ValueError.__new__"))
    (sa_TooLong : PySem.W.findIn K (.ref C_TooLong) "__setattr__" = some (some (.builtin "object.__setattr__")))
    (ga_TooLong : PySem.W.findIn K (.ref C_TooLong) "__getattribute__" = some (some (.builtin "BaseException.__getattribute__")))
    (gg_TooLong : PySem.W.findIn K (.ref C_TooLong) "__getattr__" = some none)
    (nf_TooLong_most : PySem.W.findIn K (.ref C_TooLong) "most" = some none)
    (ii_TooLong : PySem.W.findIn K (.ref C_TooLong) "__init__" = some (some (.ref I_TooLong)))
    (ti_TooLong : PySem.W.typeIn K (.ref I_TooLong) = some (.type "function"))
    (li_TooLong : K.lookup I_TooLong = some ⟨oci_TooLong, odi_TooLong, .func (PySem.W.fnOf "__init__" "TooLong.__init__" (defArgs s_TooLong) (defBody s_TooLong) (defScope s_TooLong) .none kVi_TooLong dci_TooLong pmi_TooLong ani_TooLong cdi_TooLong cti_TooLong), sli_TooLong⟩)
    (ci_TooLong : PySem.W.codeIn K cdi_TooLong "TooLong.__init__" = true)
    (ki_TooLong : PySem.W.keepIn K (.ref I_TooLong) = true)
    (kC_TooLong : PySem.W.keepIn K (.ref C_TooLong) = true)
    (eC_TooLong : PySem.W.subIn K (.ref C_TooLong) (.type "BaseException") = some true)
    (tC_TooLong : PySem.W.typeIn K (.ref C_TooLong) = some (.type "type"))
    (hC_TooLong : PySem.W.hasDictIn K C_TooLong = true)
    (x_BadNumber : K.lookup C_BadNumber = some (excClassObj nm_BadNumber q_BadNumber C_BadNumber N_BadNumber bs_BadNumber [.ref C_DipError, .type "ValueError", .type "Exception", .type "BaseException", .type "object"] true sn_BadNumber sub_BadNumber ab_BadNumber col_BadNumber dd_BadNumber m0_BadNumber m1_BadNumber m2_BadNumber m3_BadNumber m5_BadNumber "ValueError.__new__"))
    (sa_BadNumber : PySem.W.findIn K (.ref C_BadNumber) "__setattr__" = some (some (.builtin "object.__setattr__")))
    (ga_BadNumber : PySem.W.findIn K (.ref C_BadNumber) "__getattribute__" = some (some (.builtin "BaseException.__getattribute__")))
    (gg_BadNumber : PySem.W.findIn K (.ref C_BadNumber) "__getattr__" = some none)
    (nf_BadNumber_n : PySem.W.findIn K (.ref C_BadNumber) "n" = some none)
    (ii_BadNumber : PySem.W.findIn K (.ref C_BadNumber) "__init__" = some (some (.ref I_BadNumber)))
    (ti_BadNumber : PySem.W.typeIn K (.ref I_BadNumber) = some (.type "function"))
    (li_BadNumber : K.lookup I_BadNumber = some ⟨oci_BadNumber, odi_BadNumber, .func (PySem.W.fnOf "__init__" "BadNumber.__init__" (defArgs s_BadNumber) (defBody s_BadNumber) (defScope s_BadNumber) .none kVi_BadNumber dci_BadNumber pmi_BadNumber ani_BadNumber cdi_BadNumber cti_BadNumber), sli_BadNumber⟩)
    (ci_BadNumber : PySem.W.codeIn K cdi_BadNumber "BadNumber.__init__" = true)
    (ki_BadNumber : PySem.W.keepIn K (.ref I_BadNumber) = true)
    (kC_BadNumber : PySem.W.keepIn K (.ref C_BadNumber) = true)
    (eC_BadNumber : PySem.W.subIn K (.ref C_BadNumber) (.type "BaseException") = some true)
    (tC_BadNumber : PySem.W.typeIn K (.ref C_BadNumber) = some (.type "type"))
    (hC_BadNumber : PySem.W.hasDictIn K C_BadNumber = true)
    (sB_DipError : PySem.W.specialIn K (.ref C_DipError) "__getattribute__" = some (some (.builtin "type.__getattribute__")))
    (rB_DipError : PySem.W.readsIn K C_DipError (.type "type") = true)
    (vB_DipError : PySem.W.findCls K (.ref C_DipError) (.type "type") "__init__" = some (.val (.builtin "ValueError.__init__")))
    (iC_TooLong : PySem.W.isClsIn K C_TooLong = true)
    (iC_BadNumber : PySem.W.isClsIn K C_BadNumber = true)
    (xm_BadRow_TooLong : PySem.W.subIn K (.ref C_BadRow) (.ref C_TooLong) = some false)
    (xm_BadRow_BadNumber : PySem.W.subIn K (.ref C_BadRow) (.ref C_BadNumber) = some false)
    (xm_TooLong_TooLong : PySem.W.subIn K (.ref C_TooLong) (.ref C_TooLong) = some true)
    (xm_TooLong_BadNumber : PySem.W.subIn K (.ref C_TooLong) (.ref C_BadNumber) = some false)
    (xm_BadNumber_TooLong : PySem.W.subIn K (.ref C_BadNumber) (.ref C_TooLong) = some false)
    (xm_BadNumber_BadNumber : PySem.W.subIn K (.ref C_BadNumber) (.ref C_BadNumber) = some true)
    (v_MOST_CELLS : PySem.W.nsIn K mainGlobals "MOST_CELLS" = some (some (.int 12 k_MOST_CELLS)))
    (v_LETTERS : PySem.W.nsIn K mainGlobals "LETTERS" = some (some (.str ⟨[97, 98, 99, 100, 101, 102, 103, 104].toArray⟩ k_LETTERS)))
    (v_BLANK : PySem.W.nsIn K mainGlobals "BLANK" = some (some (.str ⟨[46].toArray⟩ k_BLANK)))
    (v_MOST_CHANGED : PySem.W.nsIn K mainGlobals "MOST_CHANGED" = some (some (.int 8 k_MOST_CHANGED)))
    (g_is_from : PySem.W.nsIn K mainGlobals "is_from" = some (some (.ref A_is_from)))
    (l_is_from : K.lookup A_is_from = some ⟨oc_is_from, od_is_from, .func (PySem.W.fnOf "is_from" "is_from" (defArgs s_is_from) (defBody s_is_from) (defScope s_is_from) .none kV_is_from dc_is_from pm_is_from an_is_from cd_is_from ct_is_from), sl_is_from⟩)
    (d_is_from : PySem.W.codeIn K cd_is_from "is_from" = true)
    (e_is_from : PySem.W.keepIn K (.ref A_is_from) = true)
    (g_is_row : PySem.W.nsIn K mainGlobals "is_row" = some (some (.ref A_is_row)))
    (l_is_row : K.lookup A_is_row = some ⟨oc_is_row, od_is_row, .func (PySem.W.fnOf "is_row" "is_row" (defArgs s_is_row) (defBody s_is_row) (defScope s_is_row) .none kV_is_row dc_is_row pm_is_row an_is_row cd_is_row ct_is_row), sl_is_row⟩)
    (d_is_row : PySem.W.codeIn K cd_is_row "is_row" = true)
    (e_is_row : PySem.W.keepIn K (.ref A_is_row) = true)
    (g_need_row : PySem.W.nsIn K mainGlobals "need_row" = some (some (.ref A_need_row)))
    (l_need_row : K.lookup A_need_row = some ⟨oc_need_row, od_need_row, .func (PySem.W.fnOf "need_row" "need_row" (defArgs s_need_row) (defBody s_need_row) (defScope s_need_row) .none kV_need_row dc_need_row pm_need_row an_need_row cd_need_row ct_need_row), sl_need_row⟩)
    (d_need_row : PySem.W.codeIn K cd_need_row "need_row" = true)
    (e_need_row : PySem.W.keepIn K (.ref A_need_row) = true)
    (g_lots_of : PySem.W.nsIn K mainGlobals "lots_of" = some (some (.ref A_lots_of)))
    (l_lots_of : K.lookup A_lots_of = some ⟨oc_lots_of, od_lots_of, .func (PySem.W.fnOf "lots_of" "lots_of" (defArgs s_lots_of) (defBody s_lots_of) (defScope s_lots_of) .none kV_lots_of dc_lots_of pm_lots_of an_lots_of cd_lots_of ct_lots_of), sl_lots_of⟩)
    (d_lots_of : PySem.W.codeIn K cd_lots_of "lots_of" = true)
    (e_lots_of : PySem.W.keepIn K (.ref A_lots_of) = true)
    (g_best_letter : PySem.W.nsIn K mainGlobals "best_letter" = some (some (.ref A_best_letter)))
    (l_best_letter : K.lookup A_best_letter = some ⟨oc_best_letter, od_best_letter, .func (PySem.W.fnOf "best_letter" "best_letter" (defArgs s_best_letter) (defBody s_best_letter) (defScope s_best_letter) .none kV_best_letter dc_best_letter pm_best_letter an_best_letter cd_best_letter ct_best_letter), sl_best_letter⟩)
    (d_best_letter : PySem.W.codeIn K cd_best_letter "best_letter" = true)
    (e_best_letter : PySem.W.keepIn K (.ref A_best_letter) = true)
    (g_made_by : PySem.W.nsIn K mainGlobals "made_by" = some (some (.ref A_made_by)))
    (l_made_by : K.lookup A_made_by = some ⟨oc_made_by, od_made_by, .func (PySem.W.fnOf "made_by" "made_by" (defArgs s_made_by) (defBody s_made_by) (defScope s_made_by) .none kV_made_by dc_made_by pm_made_by an_made_by cd_made_by ct_made_by), sl_made_by⟩)
    (d_made_by : PySem.W.codeIn K cd_made_by "made_by" = true)
    (e_made_by : PySem.W.keepIn K (.ref A_made_by) = true)
    (g_part_choices : PySem.W.nsIn K mainGlobals "part_choices" = some (some (.ref A_part_choices)))
    (l_part_choices : K.lookup A_part_choices = some ⟨oc_part_choices, od_part_choices, .func (PySem.W.fnOf "part_choices" "part_choices" (defArgs s_part_choices) (defBody s_part_choices) (defScope s_part_choices) .none kV_part_choices dc_part_choices pm_part_choices an_part_choices cd_part_choices ct_part_choices), sl_part_choices⟩)
    (d_part_choices : PySem.W.codeIn K cd_part_choices "part_choices" = true)
    (e_part_choices : PySem.W.keepIn K (.ref A_part_choices) = true)
    (g_joined : PySem.W.nsIn K mainGlobals "joined" = some (some (.ref A_joined)))
    (l_joined : K.lookup A_joined = some ⟨oc_joined, od_joined, .func (PySem.W.fnOf "joined" "joined" (defArgs s_joined) (defBody s_joined) (defScope s_joined) .none kV_joined dc_joined pm_joined an_joined cd_joined ct_joined), sl_joined⟩)
    (d_joined : PySem.W.codeIn K cd_joined "joined" = true)
    (e_joined : PySem.W.keepIn K (.ref A_joined) = true)
    (g_nearest : PySem.W.nsIn K mainGlobals "nearest" = some (some (.ref A_nearest)))
    (l_nearest : K.lookup A_nearest = some ⟨oc_nearest, od_nearest, .func (PySem.W.fnOf "nearest" "nearest" (defArgs s_nearest) (defBody s_nearest) (defScope s_nearest) .none kV_nearest dc_nearest pm_nearest an_nearest cd_nearest ct_nearest), sl_nearest⟩)
    (d_nearest : PySem.W.codeIn K cd_nearest "nearest" = true)
    (e_nearest : PySem.W.keepIn K (.ref A_nearest) = true)
    (g__law_taken : PySem.W.nsIn K mainGlobals "_law_taken" = some (some (.ref A__law_taken)))
    (l__law_taken : K.lookup A__law_taken = some ⟨oc__law_taken, od__law_taken, .func (PySem.W.fnOf "_law_taken" "_law_taken" (defArgs s__law_taken) (defBody s__law_taken) (defScope s__law_taken) .none kV__law_taken dc__law_taken pm__law_taken an__law_taken cd__law_taken ct__law_taken), sl__law_taken⟩)
    (d__law_taken : PySem.W.codeIn K cd__law_taken "_law_taken" = true)
    (e__law_taken : PySem.W.keepIn K (.ref A__law_taken) = true)
    (g__law_row : PySem.W.nsIn K mainGlobals "_law_row" = some (some (.ref A__law_row)))
    (l__law_row : K.lookup A__law_row = some ⟨oc__law_row, od__law_row, .func (PySem.W.fnOf "_law_row" "_law_row" (defArgs s__law_row) (defBody s__law_row) (defScope s__law_row) .none kV__law_row dc__law_row pm__law_row an__law_row cd__law_row ct__law_row), sl__law_row⟩)
    (d__law_row : PySem.W.codeIn K cd__law_row "_law_row" = true)
    (e__law_row : PySem.W.keepIn K (.ref A__law_row) = true)
    (g__law_refused : PySem.W.nsIn K mainGlobals "_law_refused" = some (some (.ref A__law_refused)))
    (l__law_refused : K.lookup A__law_refused = some ⟨oc__law_refused, od__law_refused, .func (PySem.W.fnOf "_law_refused" "_law_refused" (defArgs s__law_refused) (defBody s__law_refused) (defScope s__law_refused) .none kV__law_refused dc__law_refused pm__law_refused an__law_refused cd__law_refused ct__law_refused), sl__law_refused⟩)
    (d__law_refused : PySem.W.codeIn K cd__law_refused "_law_refused" = true)
    (e__law_refused : PySem.W.keepIn K (.ref A__law_refused) = true)
    (g_law : PySem.W.nsIn K mainGlobals "law" = some (some (.ref A_law)))
    (l_law : K.lookup A_law = some ⟨oc_law, od_law, .func (PySem.W.fnOf "law" "law" (defArgs s_law) (defBody s_law) (defScope s_law) .none kV_law dc_law pm_law an_law cd_law ct_law), sl_law⟩)
    (d_law : PySem.W.codeIn K cd_law "law" = true)
    (e_law : PySem.W.keepIn K (.ref A_law) = true)
    (z_len : PySem.W.nsIn K mainGlobals "len" = some none)
    (z_int : PySem.W.nsIn K mainGlobals "int" = some none)
    (z_str : PySem.W.nsIn K mainGlobals "str" = some none)
    (z_list : PySem.W.nsIn K mainGlobals "list" = some none)
    (z_tuple : PySem.W.nsIn K mainGlobals "tuple" = some none)
    (z_min : PySem.W.nsIn K mainGlobals "min" = some none)
    (z_max : PySem.W.nsIn K mainGlobals "max" = some none)
    (z_sum : PySem.W.nsIn K mainGlobals "sum" = some none)
    (z_abs : PySem.W.nsIn K mainGlobals "abs" = some none)
    (z_all : PySem.W.nsIn K mainGlobals "all" = some none)
    (z_any : PySem.W.nsIn K mainGlobals "any" = some none)
    (z_isinstance : PySem.W.nsIn K mainGlobals "isinstance" = some none)
    (z_range : PySem.W.nsIn K mainGlobals "range" = some none)
    (z_enumerate : PySem.W.nsIn K mainGlobals "enumerate" = some none)
    (z_sorted : PySem.W.nsIn K mainGlobals "sorted" = some none)
    (z_set : PySem.W.nsIn K mainGlobals "set" = some none)
    (z_bool : PySem.W.nsIn K mainGlobals "bool" = some none)
    (hF : ∀ ns : List Int, ns.length ≤ 63 → f_law [.val (.scr ns)] = .ok (.val (.bl true)) []) :
    ∃ fd : FuncData, (∀ (s : Shared) (v : Value), BindsTo s fd ⟨[v], []⟩ [("_law_script", v)]) ∧ ∀ base : Heap, K.In base → base.Ns mainGlobals mg → FnOk l.prog w K mg base (L2.CX l.prog w) 8 fa fd ["_law_script"] (spLaw K 63) := by
  have e := hfa.symm.trans (PySem.W.mg_of KX G g_law)
  cases e
  have F_is_from := fun_mk (st := s_is_from) l_is_from d_is_from e_is_from
  have B_is_from := F_is_from.binds (ps := ["value", "low", "high"]) fun _ _ _ _ _ _ us hl => match us, hl with | [_, _, _], _ => rfl
  have m_is_from := PySem.W.mg_of KX G g_is_from
  have F_is_row := fun_mk (st := s_is_row) l_is_row d_is_row e_is_row
  have B_is_row := F_is_row.binds (ps := ["value"]) fun _ _ _ _ _ _ us hl => match us, hl with | [_], _ => rfl
  have m_is_row := PySem.W.mg_of KX G g_is_row
  have F_need_row := fun_mk (st := s_need_row) l_need_row d_need_row e_need_row
  have B_need_row := F_need_row.binds (ps := ["row"]) fun _ _ _ _ _ _ us hl => match us, hl with | [_], _ => rfl
  have m_need_row := PySem.W.mg_of KX G g_need_row
  have F_lots_of := fun_mk (st := s_lots_of) l_lots_of d_lots_of e_lots_of
  have B_lots_of := F_lots_of.binds (ps := ["many"]) fun _ _ _ _ _ _ us hl => match us, hl with | [_], _ => rfl
  have m_lots_of := PySem.W.mg_of KX G g_lots_of
  have F_best_letter := fun_mk (st := s_best_letter) l_best_letter d_best_letter e_best_letter
  have B_best_letter := F_best_letter.binds (ps := ["letters"]) fun _ _ _ _ _ _ us hl => match us, hl with | [_], _ => rfl
  have m_best_letter := PySem.W.mg_of KX G g_best_letter
  have F_made_by := fun_mk (st := s_made_by) l_made_by d_made_by e_made_by
  have B_made_by := F_made_by.binds (ps := ["part", "told"]) fun _ _ _ _ _ _ us hl => match us, hl with | [_, _], _ => rfl
  have m_made_by := PySem.W.mg_of KX G g_made_by
  have F_part_choices := fun_mk (st := s_part_choices) l_part_choices d_part_choices e_part_choices
  have B_part_choices := F_part_choices.binds (ps := ["part"]) fun _ _ _ _ _ _ us hl => match us, hl with | [_], _ => rfl
  have m_part_choices := PySem.W.mg_of KX G g_part_choices
  have F_joined := fun_mk (st := s_joined) l_joined d_joined e_joined
  have B_joined := F_joined.binds (ps := ["lots", "choices", "between"]) fun _ _ _ _ _ _ us hl => match us, hl with | [_, _, _], _ => rfl
  have m_joined := PySem.W.mg_of KX G g_joined
  have F_nearest := fun_mk (st := s_nearest) l_nearest d_nearest e_nearest
  have B_nearest := F_nearest.binds (ps := ["row", "many"]) fun _ _ _ _ _ _ us hl => match us, hl with | [_, _], _ => rfl
  have m_nearest := PySem.W.mg_of KX G g_nearest
  have F__law_taken := fun_mk (st := s__law_taken) l__law_taken d__law_taken e__law_taken
  have B__law_taken := F__law_taken.binds (ps := ["_law_row_here", "_law_many"]) fun _ _ _ _ _ _ us hl => match us, hl with | [_, _], _ => rfl
  have m__law_taken := PySem.W.mg_of KX G g__law_taken
  have F__law_row := fun_mk (st := s__law_row) l__law_row d__law_row e__law_row
  have B__law_row := F__law_row.binds (ps := ["_law_row_here", "_law_most"]) fun _ _ _ _ _ _ us hl => match us, hl with | [_, _], _ => rfl
  have m__law_row := PySem.W.mg_of KX G g__law_row
  have F__law_refused := fun_mk (st := s__law_refused) l__law_refused d__law_refused e__law_refused
  have B__law_refused := F__law_refused.binds (ps := ["_law_told", "_law_many"]) fun _ _ _ _ _ _ us hl => match us, hl with | [_, _], _ => rfl
  have m__law_refused := PySem.W.mg_of KX G g__law_refused
  have F_law := fun_mk (st := s_law) l_law d_law e_law
  have B_law := F_law.binds (ps := ["_law_script"]) fun _ _ _ _ _ _ us hl => match us, hl with | [_], _ => rfl
  have m_law := PySem.W.mg_of KX G g_law
  have F_BadRow := fun_mk (st := s_BadRow) li_BadRow ci_BadRow ki_BadRow
  have B_BadRow := F_BadRow.binds (ps := ["self"]) fun _ _ _ _ _ _ us hl => match us, hl with | [_], _ => rfl
  have F_TooLong := fun_mk (st := s_TooLong) li_TooLong ci_TooLong ki_TooLong
  have B_TooLong := F_TooLong.binds (ps := ["self", "most"]) fun _ _ _ _ _ _ us hl => match us, hl with | [_, _], _ => rfl
  have F_BadNumber := fun_mk (st := s_BadNumber) li_BadNumber ci_BadNumber ki_BadNumber
  have B_BadNumber := F_BadNumber.binds (ps := ["self", "n"]) fun _ _ _ _ _ _ us hl => match us, hl with | [_, _], _ => rfl
  have TB_DipError : BasC K C_DipError := ⟨sB_DipError, rB_DipError, vB_DipError⟩
  refine ⟨PySem.W.fnOf "law" "law" (defArgs s_law) (defBody s_law) (defScope s_law) .none kV_law dc_law pm_law an_law cd_law ct_law, fun s v => .of_eq rfl, fun base _ _ => ?_⟩
  have hblt : ∀ x ∈ bltNames, mg x = none := fun x hx => by
    simp only [bltNames, List.mem_cons, List.not_mem_nil, or_false] at hx
    rcases hx with rfl | rfl | rfl | rfl | rfl | rfl | rfl | rfl | rfl | rfl | rfl | rfl | rfl | rfl | rfl | rfl | rfl
    · exact PySem.W.mg_none_of KX G z_len
    · exact PySem.W.mg_none_of KX G z_int
    · exact PySem.W.mg_none_of KX G z_str
    · exact PySem.W.mg_none_of KX G z_list
    · exact PySem.W.mg_none_of KX G z_tuple
    · exact PySem.W.mg_none_of KX G z_min
    · exact PySem.W.mg_none_of KX G z_max
    · exact PySem.W.mg_none_of KX G z_sum
    · exact PySem.W.mg_none_of KX G z_abs
    · exact PySem.W.mg_none_of KX G z_all
    · exact PySem.W.mg_none_of KX G z_any
    · exact PySem.W.mg_none_of KX G z_isinstance
    · exact PySem.W.mg_none_of KX G z_range
    · exact PySem.W.mg_none_of KX G z_enumerate
    · exact PySem.W.mg_none_of KX G z_sorted
    · exact PySem.W.mg_none_of KX G z_set
    · exact PySem.W.mg_none_of KX G z_bool
  let W : Wd := ⟨K, fun n => [].getD n none, fun n => [some C_DipError, some C_BadRow, some C_BadNumber, some C_TooLong].getD n none⟩
  have xf_BadRow : XfC K C_BadRow := ⟨ga_BadRow, gg_BadRow, eC_BadRow, hC_BadRow⟩
  have nf_BadRow : ∀ f ∈ ([] : List Str), PySem.W.findIn K (.ref C_BadRow) f = some none := fun f hf => by
    simp only [List.mem_cons, List.not_mem_nil, or_false] at hf
  have CG_BadRow : ClsG l.prog w K mg base W 2 "BadRow" 1 [] C_BadRow := ⟨rfl, ⟨⟨_, _, _, _, _, _, _, _, _, _, _, _, _, _, _, x_BadRow, by first | rfl | decide⟩, sa_BadRow, eC_BadRow, tC_BadRow, kC_BadRow⟩, PySem.W.mg_of KX G a_BadRow, nf_BadRow, xf_BadRow, by decide, by decide +kernel, I_BadRow, _, 1, _, ii_BadRow, ti_BadRow, init_fn F_BadRow sc_BadRow rfl (by decide) k_BadRow (PySem.W.mg_of KX G a_DipError) TB_DipError, by decide, B_BadRow⟩
  have xf_TooLong : XfC K C_TooLong := ⟨ga_TooLong, gg_TooLong, eC_TooLong, hC_TooLong⟩
  have nf_TooLong : ∀ f ∈ (["most"] : List Str), PySem.W.findIn K (.ref C_TooLong) f = some none := fun f hf => by
    simp only [List.mem_cons, List.not_mem_nil, or_false] at hf
    subst hf
    exact nf_TooLong_most
  have CG_TooLong : ClsG l.prog w K mg base W 2 "TooLong" 3 ["most"] C_TooLong := ⟨rfl, ⟨⟨_, _, _, _, _, _, _, _, _, _, _, _, _, _, _, x_TooLong, by first | rfl | decide⟩, sa_TooLong, eC_TooLong, tC_TooLong, kC_TooLong⟩, PySem.W.mg_of KX G a_TooLong, nf_TooLong, xf_TooLong, by decide, by decide +kernel, I_TooLong, _, 1, _, ii_TooLong, ti_TooLong, init_fn F_TooLong sc_TooLong rfl (by decide) k_TooLong (PySem.W.mg_of KX G a_DipError) TB_DipError, by decide, B_TooLong⟩
  have xf_BadNumber : XfC K C_BadNumber := ⟨ga_BadNumber, gg_BadNumber, eC_BadNumber, hC_BadNumber⟩
  have nf_BadNumber : ∀ f ∈ (["n"] : List Str), PySem.W.findIn K (.ref C_BadNumber) f = some none := fun f hf => by
    simp only [List.mem_cons, List.not_mem_nil, or_false] at hf
    subst hf
    exact nf_BadNumber_n
  have CG_BadNumber : ClsG l.prog w K mg base W 2 "BadNumber" 2 ["n"] C_BadNumber := ⟨rfl, ⟨⟨_, _, _, _, _, _, _, _, _, _, _, _, _, _, _, x_BadNumber, by first | rfl | decide⟩, sa_BadNumber, eC_BadNumber, tC_BadNumber, kC_BadNumber⟩, PySem.W.mg_of KX G a_BadNumber, nf_BadNumber, xf_BadNumber, by decide, by decide +kernel, I_BadNumber, _, 1, _, ii_BadNumber, ti_BadNumber, init_fn F_BadNumber sc_BadNumber rfl (by decide) k_BadNumber (PySem.W.mg_of KX G a_DipError) TB_DipError, by decide, B_BadNumber⟩
  have hxcl : ∀ c fl A, fldsC c = some fl → W.ca c = some A → XfC K A ∧ ∀ f ∈ fl, PySem.W.findIn K (.ref A) f = some none := fun c fl A h1 h2 => by
    rcases fld_cases h1 with ⟨rfl, rfl⟩ | ⟨rfl, rfl⟩ | ⟨rfl, rfl⟩
    · obtain rfl : C_BadRow = A := Option.some.inj h2
      exact ⟨xf_BadRow, nf_BadRow⟩
    · obtain rfl : C_TooLong = A := Option.some.inj h2
      exact ⟨xf_TooLong, nf_TooLong⟩
    · obtain rfl : C_BadNumber = A := Option.some.inj h2
      exact ⟨xf_BadNumber, nf_BadNumber⟩
  have hexm : ∀ c c2 b A B, subC c c2 = some b → W.ca c = some A → W.ca c2 = some B → PySem.W.exmOne K (.ref A) (.ref B) = some b := fun c c2 b A B h h1 h2 => by
    rcases sub_cases h with ⟨rfl, rfl, rfl⟩ | ⟨rfl, rfl, rfl⟩ | ⟨rfl, rfl, rfl⟩ | ⟨rfl, rfl, rfl⟩ | ⟨rfl, rfl, rfl⟩ | ⟨rfl, rfl, rfl⟩
    · obtain rfl : C_BadRow = A := Option.some.inj h1
      obtain rfl : C_TooLong = B := Option.some.inj h2
      exact exm_of eC_TooLong iC_TooLong tC_TooLong xm_BadRow_TooLong
    · obtain rfl : C_BadRow = A := Option.some.inj h1
      obtain rfl : C_BadNumber = B := Option.some.inj h2
      exact exm_of eC_BadNumber iC_BadNumber tC_BadNumber xm_BadRow_BadNumber
    · obtain rfl : C_TooLong = A := Option.some.inj h1
      obtain rfl : C_TooLong = B := Option.some.inj h2
      exact exm_of eC_TooLong iC_TooLong tC_TooLong xm_TooLong_TooLong
    · obtain rfl : C_TooLong = A := Option.some.inj h1
      obtain rfl : C_BadNumber = B := Option.some.inj h2
      exact exm_of eC_BadNumber iC_BadNumber tC_BadNumber xm_TooLong_BadNumber
    · obtain rfl : C_BadNumber = A := Option.some.inj h1
      obtain rfl : C_TooLong = B := Option.some.inj h2
      exact exm_of eC_TooLong iC_TooLong tC_TooLong xm_BadNumber_TooLong
    · obtain rfl : C_BadNumber = A := Option.some.inj h1
      obtain rfl : C_BadNumber = B := Option.some.inj h2
      exact exm_of eC_BadNumber iC_BadNumber tC_BadNumber xm_BadNumber_BadNumber
  have P_is_from : Pg l.prog w K mg base W c_is_from t_is_from 3 := by
    refine ⟨rfl, hblt, fun x d q => ?_, fun x f q => ?_, fun x g q => ?_, fun g F a q q2 => ?_, fun x c q => ?_, fun x c fl q q2 => ?_, hxcl, hexm⟩
    · exact lk_nil q
    · exact lk_nil q
    · exact lk_nil q
    · cases q
    · exact lk_nil q
    · exact lk_nil q
  have N_is_from : FnOk l.prog w K mg base (L2.CX l.prog w) 4 A_is_from _ _ (spOf W f_is_from) := def_ok P_is_from F_is_from sc_is_from rfl rfl (by decide) k_is_from
  have P_is_row : Pg l.prog w K mg base W c_is_row t_is_row 3 := by
    refine ⟨rfl, hblt, fun x d q => ?_, fun x f q => ?_, fun x g q => ?_, fun g F a q q2 => ?_, fun x c q => ?_, fun x c fl q q2 => ?_, hxcl, hexm⟩
    · rcases lk_cons q with ⟨rfl, rfl⟩ | q
      · exact cst_int (PySem.W.mg_of KX G v_MOST_CELLS)
      rcases lk_cons q with ⟨rfl, rfl⟩ | q
      · exact cst_str (PySem.W.mg_of KX G v_LETTERS)
      rcases lk_cons q with ⟨rfl, rfl⟩ | q
      · exact cst_str (PySem.W.mg_of KX G v_BLANK)
      exact lk_nil q
    · exact lk_nil q
    · exact lk_nil q
    · cases q
    · exact lk_nil q
    · exact lk_nil q
  have N_is_row : FnOk l.prog w K mg base (L2.CX l.prog w) 4 A_is_row _ _ (spOf W f_is_row) := def_ok P_is_row F_is_row sc_is_row rfl rfl (by decide) k_is_row
  have P_need_row : Pg l.prog w K mg base W c_need_row t_need_row 4 := by
    refine ⟨rfl, hblt, fun x d q => ?_, fun x f q => ?_, fun x g q => ?_, fun g F a q q2 => ?_, fun x c q => ?_, fun x c fl q q2 => ?_, hxcl, hexm⟩
    · exact lk_nil q
    · rcases lk_cons q with ⟨rfl, rfl⟩ | q
      · exact ⟨A_is_row, _, 4, _, (show FnOk l.prog w K mg base (L2.CX l.prog w) 4 A_is_row _ _ (spOf W f_is_row) from N_is_row), by decide, m_is_row, e_is_row, B_is_row⟩
      exact lk_nil q
    · exact lk_nil q
    · cases q
    · rcases lk_cons q with ⟨rfl, rfl⟩ | q
      · exact ⟨C_BadRow, rfl, PySem.W.mg_of KX G a_BadRow⟩
      exact lk_nil q
    · rcases lk_cons q with ⟨rfl, rfl⟩ | q
      · cases q2
        exact ⟨C_BadRow, CG_BadRow.mono (by decide)⟩
      exact lk_nil q
  have N_need_row : FnOk l.prog w K mg base (L2.CX l.prog w) 5 A_need_row _ _ (spOf W f_need_row) := def_ok P_need_row F_need_row sc_need_row rfl rfl (by decide) k_need_row
  have P_lots_of : Pg l.prog w K mg base W c_lots_of t_lots_of 3 := by
    refine ⟨rfl, hblt, fun x d q => ?_, fun x f q => ?_, fun x g q => ?_, fun g F a q q2 => ?_, fun x c q => ?_, fun x c fl q q2 => ?_, hxcl, hexm⟩
    · exact lk_nil q
    · exact lk_nil q
    · exact lk_nil q
    · cases q
    · exact lk_nil q
    · exact lk_nil q
  have N_lots_of : FnOk l.prog w K mg base (L2.CX l.prog w) 4 A_lots_of _ _ (spOf W f_lots_of) := def_ok P_lots_of F_lots_of sc_lots_of rfl rfl (by decide) k_lots_of
  have P_best_letter : Pg l.prog w K mg base W c_best_letter t_best_letter 3 := by
    refine ⟨rfl, hblt, fun x d q => ?_, fun x f q => ?_, fun x g q => ?_, fun g F a q q2 => ?_, fun x c q => ?_, fun x c fl q q2 => ?_, hxcl, hexm⟩
    · rcases lk_cons q with ⟨rfl, rfl⟩ | q
      · exact cst_str (PySem.W.mg_of KX G v_LETTERS)
      exact lk_nil q
    · exact lk_nil q
    · exact lk_nil q
    · cases q
    · exact lk_nil q
    · exact lk_nil q
  have N_best_letter : FnOk l.prog w K mg base (L2.CX l.prog w) 4 A_best_letter _ _ (spOf W f_best_letter) := def_ok P_best_letter F_best_letter sc_best_letter rfl rfl (by decide) k_best_letter
  have P_made_by : Pg l.prog w K mg base W c_made_by t_made_by 4 := by
    refine ⟨rfl, hblt, fun x d q => ?_, fun x f q => ?_, fun x g q => ?_, fun g F a q q2 => ?_, fun x c q => ?_, fun x c fl q q2 => ?_, hxcl, hexm⟩
    · exact lk_nil q
    · rcases lk_cons q with ⟨rfl, rfl⟩ | q
      · exact ⟨A_best_letter, _, 4, _, (show FnOk l.prog w K mg base (L2.CX l.prog w) 4 A_best_letter _ _ (spOf W f_best_letter) from N_best_letter), by decide, m_best_letter, e_best_letter, B_best_letter⟩
      exact lk_nil q
    · exact lk_nil q
    · cases q
    · exact lk_nil q
    · exact lk_nil q
  have N_made_by : FnOk l.prog w K mg base (L2.CX l.prog w) 5 A_made_by _ _ (spOf W f_made_by) := def_ok P_made_by F_made_by sc_made_by rfl rfl (by decide) k_made_by
  have P_part_choices : Pg l.prog w K mg base W c_part_choices t_part_choices 4 := by
    refine ⟨rfl, hblt, fun x d q => ?_, fun x f q => ?_, fun x g q => ?_, fun g F a q q2 => ?_, fun x c q => ?_, fun x c fl q q2 => ?_, hxcl, hexm⟩
    · exact lk_nil q
    · rcases lk_cons q with ⟨rfl, rfl⟩ | q
      · exact ⟨A_lots_of, _, 4, _, (show FnOk l.prog w K mg base (L2.CX l.prog w) 4 A_lots_of _ _ (spOf W f_lots_of) from N_lots_of), by decide, m_lots_of, e_lots_of, B_lots_of⟩
      exact lk_nil q
    · exact lk_nil q
    · cases q
    · exact lk_nil q
    · exact lk_nil q
  have N_part_choices : FnOk l.prog w K mg base (L2.CX l.prog w) 5 A_part_choices _ _ (spOf W f_part_choices) := def_ok P_part_choices F_part_choices sc_part_choices rfl rfl (by decide) k_part_choices
  have P_joined : Pg l.prog w K mg base W c_joined t_joined 3 := by
    refine ⟨rfl, hblt, fun x d q => ?_, fun x f q => ?_, fun x g q => ?_, fun g F a q q2 => ?_, fun x c q => ?_, fun x c fl q q2 => ?_, hxcl, hexm⟩
    · exact lk_nil q
    · exact lk_nil q
    · exact lk_nil q
    · cases q
    · exact lk_nil q
    · exact lk_nil q
  have N_joined : FnOk l.prog w K mg base (L2.CX l.prog w) 4 A_joined _ _ (spOf W f_joined) := def_ok P_joined F_joined sc_joined rfl rfl (by decide) k_joined
  have P_nearest : Pg l.prog w K mg base W c_nearest t_nearest 5 := by
    refine ⟨rfl, hblt, fun x d q => ?_, fun x f q => ?_, fun x g q => ?_, fun g F a q q2 => ?_, fun x c q => ?_, fun x c fl q q2 => ?_, hxcl, hexm⟩
    · rcases lk_cons q with ⟨rfl, rfl⟩ | q
      · exact cst_int (PySem.W.mg_of KX G v_MOST_CHANGED)
      rcases lk_cons q with ⟨rfl, rfl⟩ | q
      · exact cst_int (PySem.W.mg_of KX G v_MOST_CELLS)
      exact lk_nil q
    · rcases lk_cons q with ⟨rfl, rfl⟩ | q
      · exact ⟨A_need_row, _, 5, _, (show FnOk l.prog w K mg base (L2.CX l.prog w) 5 A_need_row _ _ (spOf W f_need_row) from N_need_row), by decide, m_need_row, e_need_row, B_need_row⟩
      rcases lk_cons q with ⟨rfl, rfl⟩ | q
      · exact ⟨A_is_from, _, 4, _, (show FnOk l.prog w K mg base (L2.CX l.prog w) 4 A_is_from _ _ (spOf W f_is_from) from N_is_from), by decide, m_is_from, e_is_from, B_is_from⟩
      exact lk_nil q
    · exact lk_nil q
    · cases q
    · rcases lk_cons q with ⟨rfl, rfl⟩ | q
      · exact ⟨C_TooLong, rfl, PySem.W.mg_of KX G a_TooLong⟩
      rcases lk_cons q with ⟨rfl, rfl⟩ | q
      · exact ⟨C_BadNumber, rfl, PySem.W.mg_of KX G a_BadNumber⟩
      exact lk_nil q
    · rcases lk_cons q with ⟨rfl, rfl⟩ | q
      · cases q2
        exact ⟨C_TooLong, CG_TooLong.mono (by decide)⟩
      rcases lk_cons q with ⟨rfl, rfl⟩ | q
      · cases q2
        exact ⟨C_BadNumber, CG_BadNumber.mono (by decide)⟩
      exact lk_nil q
  have N_nearest : FnOk l.prog w K mg base (L2.CX l.prog w) 6 A_nearest _ _ (spOf W f_nearest) := def_ok P_nearest F_nearest sc_nearest rfl rfl (by decide) k_nearest
  have P__law_taken : Pg l.prog w K mg base W c__law_taken t__law_taken 3 := by
    refine ⟨rfl, hblt, fun x d q => ?_, fun x f q => ?_, fun x g q => ?_, fun g F a q q2 => ?_, fun x c q => ?_, fun x c fl q q2 => ?_, hxcl, hexm⟩
    · exact lk_nil q
    · exact lk_nil q
    · exact lk_nil q
    · cases q
    · exact lk_nil q
    · exact lk_nil q
  have N__law_taken : FnOk l.prog w K mg base (L2.CX l.prog w) 4 A__law_taken _ _ (spOf W f__law_taken) := def_ok P__law_taken F__law_taken sc__law_taken rfl rfl (by decide) k__law_taken
  have P__law_row : Pg l.prog w K mg base W c__law_row t__law_row 4 := by
    refine ⟨rfl, hblt, fun x d q => ?_, fun x f q => ?_, fun x g q => ?_, fun g F a q q2 => ?_, fun x c q => ?_, fun x c fl q q2 => ?_, hxcl, hexm⟩
    · exact lk_nil q
    · rcases lk_cons q with ⟨rfl, rfl⟩ | q
      · exact ⟨A__law_taken, _, 4, _, (show FnOk l.prog w K mg base (L2.CX l.prog w) 4 A__law_taken _ _ (spOf W f__law_taken) from N__law_taken), by decide, m__law_taken, e__law_taken, B__law_taken⟩
      exact lk_nil q
    · exact lk_nil q
    · cases q
    · exact lk_nil q
    · exact lk_nil q
  have N__law_row : FnOk l.prog w K mg base (L2.CX l.prog w) 5 A__law_row _ _ (spOf W f__law_row) := def_ok P__law_row F__law_row sc__law_row rfl rfl (by decide) k__law_row
  have P__law_refused : Pg l.prog w K mg base W c__law_refused t__law_refused 6 := by
    refine ⟨rfl, hblt, fun x d q => ?_, fun x f q => ?_, fun x g q => ?_, fun g F a q q2 => ?_, fun x c q => ?_, fun x c fl q q2 => ?_, hxcl, hexm⟩
    · exact lk_nil q
    · rcases lk_cons q with ⟨rfl, rfl⟩ | q
      · exact ⟨A_nearest, _, 6, _, (show FnOk l.prog w K mg base (L2.CX l.prog w) 6 A_nearest _ _ (spOf W f_nearest) from N_nearest), by decide, m_nearest, e_nearest, B_nearest⟩
      exact lk_nil q
    · exact lk_nil q
    · cases q
    · rcases lk_cons q with ⟨rfl, rfl⟩ | q
      · exact ⟨C_TooLong, rfl, PySem.W.mg_of KX G a_TooLong⟩
      rcases lk_cons q with ⟨rfl, rfl⟩ | q
      · exact ⟨C_BadNumber, rfl, PySem.W.mg_of KX G a_BadNumber⟩
      exact lk_nil q
    · rcases lk_cons q with ⟨rfl, rfl⟩ | q
      · cases q2
        exact ⟨C_TooLong, CG_TooLong.mono (by decide)⟩
      rcases lk_cons q with ⟨rfl, rfl⟩ | q
      · cases q2
        exact ⟨C_BadNumber, CG_BadNumber.mono (by decide)⟩
      exact lk_nil q
  have N__law_refused : FnOk l.prog w K mg base (L2.CX l.prog w) 7 A__law_refused _ _ (spOf W f__law_refused) := def_ok P__law_refused F__law_refused sc__law_refused rfl rfl (by decide) k__law_refused
  have P_law : Pg l.prog w K mg base W c_law t_law 7 := by
    refine ⟨rfl, hblt, fun x d q => ?_, fun x f q => ?_, fun x g q => ?_, fun g F a q q2 => ?_, fun x c q => ?_, fun x c fl q q2 => ?_, hxcl, hexm⟩
    · exact lk_nil q
    · rcases lk_cons q with ⟨rfl, rfl⟩ | q
      · exact ⟨A__law_taken, _, 4, _, (show FnOk l.prog w K mg base (L2.CX l.prog w) 4 A__law_taken _ _ (spOf W f__law_taken) from N__law_taken), by decide, m__law_taken, e__law_taken, B__law_taken⟩
      rcases lk_cons q with ⟨rfl, rfl⟩ | q
      · exact ⟨A__law_row, _, 5, _, (show FnOk l.prog w K mg base (L2.CX l.prog w) 5 A__law_row _ _ (spOf W f__law_row) from N__law_row), by decide, m__law_row, e__law_row, B__law_row⟩
      rcases lk_cons q with ⟨rfl, rfl⟩ | q
      · exact ⟨A__law_refused, _, 7, _, (show FnOk l.prog w K mg base (L2.CX l.prog w) 7 A__law_refused _ _ (spOf W f__law_refused) from N__law_refused), by decide, m__law_refused, e__law_refused, B__law_refused⟩
      exact lk_nil q
    · exact lk_nil q
    · cases q
    · exact lk_nil q
    · exact lk_nil q
  have N_law : FnOk l.prog w K mg base (L2.CX l.prog w) 8 fa _ _ (spOf W f_law) := def_ok P_law F_law sc_law rfl rfl (by decide) k_law
  exact N_law.imp (law_imp (W := W) hF)
end Itp
set_option Elab.async false
set_option linter.all false
set_option maxRecDepth 100000
set_option maxHeartbeats 4000000
namespace Itp
open PySem L2
end Itp
open PySem PySem.W PyProof.Rows
set_option maxHeartbeats 0 in
theorem PySem.Challenge.cw_dipsoverdips_k29_changes_refused_holds : PySem.Challenge.rw_dipsoverdips_k29_changes_refused.Holds := by
  w_on; o_law; k_head; (case hw => w_witness2)
  k_fill
  refine L2.walk_of (l := PySem.Challenge.rw_dipsoverdips_k29_changes_refused) (n := 63) (k := 8) (x := "_law_script") (CX := fun w => L2.CX PySem.Challenge.rw_dipsoverdips_k29_changes_refused.prog w) (sp := fun w => Itp.spLaw _ 63) rfl (by decide) rfl ⟨rfl, by decide, by decide⟩ (fun w h Y => PySem.W.kIn_of Y) ?F (fun _ _ a ns hl _ hS => ⟨a, ns, rfl, hS, hl, fun _ => rfl⟩) (fun _ _ _ _ _ h => Itp.cx_no h)
  case F =>
    intro w mg fa h KX G hmg
    refine' Itp.all_mk KX G hmg ?a_DipError ?a_BadRow ?a_BadNumber ?a_TooLong ?x_BadRow ?sa_BadRow ?ga_BadRow ?gg_BadRow ?ii_BadRow ?ti_BadRow ?li_BadRow ?ci_BadRow ?ki_BadRow ?kC_BadRow ?eC_BadRow ?tC_BadRow ?hC_BadRow ?x_TooLong ?sa_TooLong ?ga_TooLong ?gg_TooLong ?nf_TooLong_most ?ii_TooLong ?ti_TooLong ?li_TooLong ?ci_TooLong ?ki_TooLong ?kC_TooLong ?eC_TooLong ?tC_TooLong ?hC_TooLong ?x_BadNumber ?sa_BadNumber ?ga_BadNumber ?gg_BadNumber ?nf_BadNumber_n ?ii_BadNumber ?ti_BadNumber ?li_BadNumber ?ci_BadNumber ?ki_BadNumber ?kC_BadNumber ?eC_BadNumber ?tC_BadNumber ?hC_BadNumber ?sB_DipError ?rB_DipError ?vB_DipError ?iC_TooLong ?iC_BadNumber ?xm_BadRow_TooLong ?xm_BadRow_BadNumber ?xm_TooLong_TooLong ?xm_TooLong_BadNumber ?xm_BadNumber_TooLong ?xm_BadNumber_BadNumber ?v_MOST_CELLS ?v_LETTERS ?v_BLANK ?v_MOST_CHANGED ?g_is_from ?l_is_from ?d_is_from ?e_is_from ?g_is_row ?l_is_row ?d_is_row ?e_is_row ?g_need_row ?l_need_row ?d_need_row ?e_need_row ?g_lots_of ?l_lots_of ?d_lots_of ?e_lots_of ?g_best_letter ?l_best_letter ?d_best_letter ?e_best_letter ?g_made_by ?l_made_by ?d_made_by ?e_made_by ?g_part_choices ?l_part_choices ?d_part_choices ?e_part_choices ?g_joined ?l_joined ?d_joined ?e_joined ?g_nearest ?l_nearest ?d_nearest ?e_nearest ?g__law_taken ?l__law_taken ?d__law_taken ?e__law_taken ?g__law_row ?l__law_row ?d__law_row ?e__law_row ?g__law_refused ?l__law_refused ?d__law_refused ?e__law_refused ?g_law ?l_law ?d_law ?e_law ?z_len ?z_int ?z_str ?z_list ?z_tuple ?z_min ?z_max ?z_sum ?z_abs ?z_all ?z_any ?z_isinstance ?z_range ?z_enumerate ?z_sorted ?z_set ?z_bool Itp.law_ok
    (case a_DipError => k_is)
    (case a_BadRow => k_is)
    (case a_BadNumber => k_is)
    (case a_TooLong => k_is)
    (case x_BadRow => k_is)
    (case sa_BadRow => k_is)
    (case ga_BadRow => k_is)
    (case gg_BadRow => k_is)
    (case ii_BadRow => k_is)
    (case ti_BadRow => k_is)
    (case li_BadRow => k_is)
    (case ci_BadRow => k_is)
    (case ki_BadRow => k_is)
    (case kC_BadRow => k_is)
    (case eC_BadRow => k_is)
    (case tC_BadRow => k_is)
    (case hC_BadRow => k_is)
    (case x_TooLong => k_is)
    (case sa_TooLong => k_is)
    (case ga_TooLong => k_is)
    (case gg_TooLong => k_is)
    (case nf_TooLong_most => k_is)
    (case ii_TooLong => k_is)
    (case ti_TooLong => k_is)
    (case li_TooLong => k_is)
    (case ci_TooLong => k_is)
    (case ki_TooLong => k_is)
    (case kC_TooLong => k_is)
    (case eC_TooLong => k_is)
    (case tC_TooLong => k_is)
    (case hC_TooLong => k_is)
    (case x_BadNumber => k_is)
    (case sa_BadNumber => k_is)
    (case ga_BadNumber => k_is)
    (case gg_BadNumber => k_is)
    (case nf_BadNumber_n => k_is)
    (case ii_BadNumber => k_is)
    (case ti_BadNumber => k_is)
    (case li_BadNumber => k_is)
    (case ci_BadNumber => k_is)
    (case ki_BadNumber => k_is)
    (case kC_BadNumber => k_is)
    (case eC_BadNumber => k_is)
    (case tC_BadNumber => k_is)
    (case hC_BadNumber => k_is)
    (case sB_DipError => k_is)
    (case rB_DipError => k_is)
    (case vB_DipError => k_is)
    (case iC_TooLong => k_is)
    (case iC_BadNumber => k_is)
    (case xm_BadRow_TooLong => first | rfl | k_is)
    (case xm_BadRow_BadNumber => first | rfl | k_is)
    (case xm_TooLong_TooLong => first | rfl | k_is)
    (case xm_TooLong_BadNumber => first | rfl | k_is)
    (case xm_BadNumber_TooLong => first | rfl | k_is)
    (case xm_BadNumber_BadNumber => first | rfl | k_is)
    (case v_MOST_CELLS => k_is)
    (case v_LETTERS => k_is)
    (case v_BLANK => k_is)
    (case v_MOST_CHANGED => k_is)
    (case g_is_from => k_is)
    (case l_is_from => k_is)
    (case d_is_from => k_is)
    (case e_is_from => k_is)
    (case g_is_row => k_is)
    (case l_is_row => k_is)
    (case d_is_row => k_is)
    (case e_is_row => k_is)
    (case g_need_row => k_is)
    (case l_need_row => k_is)
    (case d_need_row => k_is)
    (case e_need_row => k_is)
    (case g_lots_of => k_is)
    (case l_lots_of => k_is)
    (case d_lots_of => k_is)
    (case e_lots_of => k_is)
    (case g_best_letter => k_is)
    (case l_best_letter => k_is)
    (case d_best_letter => k_is)
    (case e_best_letter => k_is)
    (case g_made_by => k_is)
    (case l_made_by => k_is)
    (case d_made_by => k_is)
    (case e_made_by => k_is)
    (case g_part_choices => k_is)
    (case l_part_choices => k_is)
    (case d_part_choices => k_is)
    (case e_part_choices => k_is)
    (case g_joined => k_is)
    (case l_joined => k_is)
    (case d_joined => k_is)
    (case e_joined => k_is)
    (case g_nearest => k_is)
    (case l_nearest => k_is)
    (case d_nearest => k_is)
    (case e_nearest => k_is)
    (case g__law_taken => k_is)
    (case l__law_taken => k_is)
    (case d__law_taken => k_is)
    (case e__law_taken => k_is)
    (case g__law_row => k_is)
    (case l__law_row => k_is)
    (case d__law_row => k_is)
    (case e__law_row => k_is)
    (case g__law_refused => k_is)
    (case l__law_refused => k_is)
    (case d__law_refused => k_is)
    (case e__law_refused => k_is)
    (case g_law => k_is)
    (case l_law => k_is)
    (case d_law => k_is)
    (case e_law => k_is)
    (case z_len => k_is)
    (case z_int => k_is)
    (case z_str => k_is)
    (case z_list => k_is)
    (case z_tuple => k_is)
    (case z_min => k_is)
    (case z_max => k_is)
    (case z_sum => k_is)
    (case z_abs => k_is)
    (case z_all => k_is)
    (case z_any => k_is)
    (case z_isinstance => k_is)
    (case z_range => k_is)
    (case z_enumerate => k_is)
    (case z_sorted => k_is)
    (case z_set => k_is)
    (case z_bool => k_is)
