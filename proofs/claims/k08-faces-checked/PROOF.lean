import PyProof.Rows.All
import Wide.All
import OpenK.AllK
import Wide.FinOn
import HandS.ForMost
import HandS.StrMore
import HandS.TupMul
import HandS.Style
import KE.GoesEnum
import KE.DataMinMax
import KE.KDictWalk
import KE.DatumOrd
import KE.SortData
import HandS.DictTup
import HandS.Strs
import HandS.More
import PyProof.Rows.RowBridgeK
import HandS.ForExc
import HandS.CallSlots
import HandS.IsInst
import HandS.TupAny
import HandS.Deep
import PyProof.SumWalkG
import HandS.Wide
import HandS.Conv
import PyProof.ListStr
import HandS.SetFor
import HandS.SortInts
import HandS.Replace
import PyProof.StrLawsFrom
import PyProof.StrLawsTight
import PyProof.StrLawsChain
import HandS.DictComp
import HandS.Iter
import HandS.Zip
import HandS.FStr
import HandS.Set
import HandS.TryOnly
import HandS.ExcInit
import HandS.ExcField
import PySem.Challenge.RW_dipsoverdips_k08_faces_checked
set_option Elab.async false
set_option linter.all false
set_option maxRecDepth 100000
namespace Itp
open PySem
/-! ### plain data -/
inductive D where
  | non | bl (b : Bool) | int (i : Int) | str (s : List Nat) | tup (xs : List D) | lst (xs : List D)
  | dct (t : Bool) (kvs : List (D × D)) | fn (n : Nat) | scr (xs : List Int) | ftp (xs : List D)
mutual
def D.beq : D → D → Bool
  | .non, .non => true
  | .bl a, .bl b => a == b
  | .int a, .int b => a == b
  | .str a, .str b => a == b
  | .tup a, .tup b => D.beqs a b
  | .lst a, .lst b => D.beqs a b
  | .dct s a, .dct t b => s == t && D.beqk a b
  | .fn a, .fn b => a == b
  | _, _ => false
def D.beqs : List D → List D → Bool
  | [], [] => true
  | a :: as, b :: bs => D.beq a b && D.beqs as bs
  | _, _ => false
def D.beqk : List (D × D) → List (D × D) → Bool
  | [], [] => true
  | (a, c) :: as, (b, d) :: bs => D.beq a b && D.beq c d && D.beqk as bs
  | _, _ => false
end
/-! == as Python sees it, of plain data -/
mutual
def D.eqv : D → D → Bool
  | .bl a, .int b => (if a then 1 else 0) == b
  | .int a, .bl b => a == (if b then 1 else 0)
  | .non, .non => true
  | .bl a, .bl b => a == b
  | .int a, .int b => a == b
  | .str a, .str b => a == b
  | .tup a, .tup b => D.eqvs a b
  | .lst a, .lst b => D.eqvs a b
  | .ftp a, .ftp b => D.eqvs a b
  | .ftp a, .tup b => D.eqvs a b
  | .tup a, .ftp b => D.eqvs a b
  | _, _ => false
def D.eqvs : List D → List D → Bool
  | [], [] => true
  | a :: as, b :: bs => D.eqv a b && D.eqvs as bs
  | _, _ => false
end
/-! data of which == may be asked: no dict, no def; not too deep -/
mutual
def D.plain : Nat → D → Bool
  | _, .dct _ _ => false
  | _, .fn _ => false
  | _, .scr _ => false
  | _, .str s => s.all (· < 1114112)
  | 0, .tup _ => false
  | 0, .lst _ => false
  | 0, .ftp _ => false
  | n + 1, .tup xs => D.plains n xs
  | n + 1, .lst xs => D.plains n xs
  | n + 1, .ftp xs => D.plains n xs
  | _, _ => true
def D.plains : Nat → List D → Bool
  | _, [] => true
  | n, x :: xs => D.plain n x && D.plains n xs
end
def D.flat : D → Bool
  | .non => true
  | .bl _ => true
  | .int _ => true
  | .str _ => true
  | _ => false
def ints? : List D → Option (List Int)
  | [] => some []
  | .int i :: r => (ints? r).map (i :: ·)
  | _ => none
def bls? : List D → Option (List Bool)
  | [] => some []
  | .bl i :: r => (bls? r).map (i :: ·)
  | _ => none
def strs? : List D → Option (List (List Nat))
  | [] => some []
  | .str i :: r => (strs? r).map (i :: ·)
  | _ => none
/-- the cut of a slice -/
def cut {α : Type} (xs : List α) (lo hi : Option Int) : List α :=
  (xs.drop (HT.sIx xs.length 0 lo)).take (HT.sIx xs.length xs.length hi - HT.sIx xs.length 0 lo)
def ixOf (n : Nat) (i : Int) : Option Nat := if 0 ≤ i then (if i < n then some i.toNat else none) else if -(n : Int) ≤ i then some (i + n).toNat else none
def at? {α : Type} (xs : List α) (i : Int) : Option α := (ixOf xs.length i).bind fun j => xs[j]?
/-! ### dicts -/
def D.isKey : D → Bool
  | .int _ => true
  | .str _ => true
  | _ => false
/-- a key: an int or a text, or a tuple of such -/
def keyOk : Bool → D → Bool
  | false, d => d.isKey
  | true, .tup xs => xs.all D.isKey
  | true, _ => false
def dget : List (D × D) → D → Option D
  | [], _ => none
  | (k, v) :: r, x => if D.beq k x then some v else dget r x
def dput (kvs : List (D × D)) (x y : D) : List (D × D) := if (dget kvs x).isSome then kvs.map (fun p => if D.beq p.1 x then (p.1, y) else p) else kvs ++ [(x, y)]
/-! ### the small syntax -/
inductive Ty | int | str | bool | list | tuple
  deriving DecidableEq
inductive Op where
  | add | sub | mul | fdiv | mod | pow | neg
  | eq | ne | lt | le | gt | ge | isN | notN | inn | nin
  | ix | slc (lo hi : Bool) | rev
  | tup | lst | dct (t : Bool) | trng | lrng
  | len | int | str | list | tuple | min | max | sum | abs | all | any | isi (ts : List Ty)
  | find | count | index | join | split | replace | get | srt | fst | sset | ftup | lset
  deriving DecidableEq
inductive ItK | seq | rng | enum | items
  deriving DecidableEq
inductive Tg where
  | nm (i : Nat) | tp (ts : List Tg)
inductive E where
  | var (i : Nat) | pk (i : Nat) | cst (d : D) | glb (x : Str) (d : D)
  | op (o : Op) (as : List E)
  | and (a b : E) | or (a b : E) | not (a : E) | ite (c a b : E)
  | chain (o p : Op) (a b c : E)
  | chain3 (o p q : Op) (a b c d : E)
  | fnv (x : Str) (g : Nat)
  | callV (f : E) (as : List E)
  | call (f : Nat) (as : List E)
  | comp (k : ItK) (as : List E) (tg : Tg) (own : List Nat) (conds : List E) (elt : E)
  | dct1 (k v : E)
  | dcomp (t : Bool) (k : ItK) (as : List E) (tg : Tg) (own : List Nat) (conds : List E) (kx vx : E)
  | comp2 (k : ItK) (as : List E) (tg : Tg) (own : List Nat) (k1 : ItK) (as1 : List E) (tg1 : Tg) (own1 : List Nat) (conds : List E) (elt : E)
/-- an except suite: slot := data, or slot := [e.f] -/
inductive Sv where
  | cst (d : D) | fld (f : Str)
inductive Su where
  | cst (i : Nat) (d : D) | lst (i : Nat) (vs : List Sv)
inductive S where
  | asg (t : Tg) (e : E) | own (i : Nat) (e : E) | owns (is : List Nat) (es : List E)
  | seti (i : Nat) (k e : E) | app (i : Nat) (e : E) | ext (i : Nat) (e : E)
  | seti2 (i : Nat) (k : E) (j : Nat) (l e : E) | pop (j i : Nat)
  | ex (e : E) | ret (e : E) | retn
  | ifs (c : E) (a b : List S)
  | for (tg : Tg) (k : ItK) (as : List E) (body : List S)
  | whl (n : Nat) (c : E) (body : List S)
  | rse (c : Nat) (es : List E)
  | try (body : List S) (cls : List (Nat × Option Nat × Su))
  | pass | never
/-! ### states and results -/
inductive Slot where
  | un | val (d : D) | own (d : D) | par (d : D)
abbrev Env := List Slot
inductive Res where
  | val (d : D) | new (d : D)
def Res.d : Res → D
  | .val d => d
  | .new d => d
structure Xc where
  cls : Nat
  fs : List (Str × D)
inductive Rs (α : Type) where
  | ok (a : α) (e : Env) | ex (x : Xc) (e : Env) | no
abbrev M (α : Type) := Env → Rs α
def Rs.bind {α β : Type} (r : Rs α) (f : α → Env → Rs β) : Rs β :=
  match r with
  | .ok a e => f a e
  | .ex x e => .ex x e
  | .no => .no
def M.bind {α β : Type} (m : M α) (f : α → M β) : M β := fun e => (m e).bind fun a e1 => f a e1
def ofO {α : Type} (o : Option α) (e : Env) : Rs α :=
  match o with
  | some a => .ok a e
  | none => .no
inductive Opd where
  | d (x : D) | pk (i : Nat)
inductive Arg where
  | val (d : D) | lent (d : D)
inductive FRes where
  | ok (r : Res) (fin : List D) | ex (x : Xc) (fin : List D) | no
abbrev Fn := List Arg → FRes
def Slot.d? : Slot → Option D
  | .un => none
  | .val d => some d
  | .own d => some d
  | .par d => some d
def Slot.isMut : Slot → Bool
  | .own _ => true
  | .par _ => true
  | _ => false
def slot (e : Env) (i : Nat) : Slot := e.getD i .un
def opd (e : Env) : Opd → Option D
  | .d x => some x
  | .pk i => (slot e i).d?
def opds (e : Env) : List Opd → Option (List D)
  | [] => some []
  | o :: os => match opd e o, opds e os with
    | some x, some xs => some (x :: xs)
    | _, _ => none
def toArg (e : Env) : Opd → Option Arg
  | .d x => some (.val x)
  | .pk i => match slot e i with
    | .un => none
    | .val d => some (.val d)
    | .own d => some (.lent d)
    | .par d => some (.lent d)
def toArgs (e : Env) : List Opd → Option (List Arg)
  | [] => some []
  | o :: os => match toArg e o, toArgs e os with
    | some x, some xs => some (x :: xs)
    | _, _ => none
/-- the peeked slots that are mutable -/
def muts (e : Env) : List Opd → List Nat
  | [] => []
  | .d _ :: os => muts e os
  | .pk i :: os => if (slot e i).isMut then i :: muts e os else muts e os
def Slot.put : Slot → D → Slot
  | .own _, d => .own d
  | .par _, d => .par d
  | s, _ => s
def putBack (e : Env) : List Nat → List D → Option Env
  | [], [] => some e
  | i :: is, d :: ds => putBack (e.set i ((slot e i).put d)) is ds
  | _, _ => none
def nodup : List Nat → Bool
  | [] => true
  | i :: is => !is.contains i && nodup is
/-! ### what an operation gives -/
abbrev big : Nat := 100000
def small {α : Type} (c : Bool) (a : α) : Option α := if c then some a else none
def vI (i : Int) : Option Res := some (.val (.int i))
def vB (b : Bool) : Option Res := some (.val (.bl b))
def typOf : D → Ty → Bool
  | .int _, .int => true
  | .bl _, .int => true
  | .bl _, .bool => true
  | .str _, .str => true
  | .lst _, .list => true
  | .tup _, .tuple => true
  | .ftp _, .tuple => true
  | _, _ => false
def typed : D → Bool
  | .fn _ => false
  | .dct t _ => !t
  | .scr _ => false
  | _ => true
def posOf (x : D) : List D → Option Nat
  | [] => none
  | y :: r => if D.eqv y x then some 0 else (posOf x r).map (· + 1)
def minI : List Int → Option Int
  | [] => none
  | [x] => some x
  | x :: r => (minI r).map fun m => if m < x then m else x
def maxI : List Int → Option Int
  | [] => none
  | [x] => some x
  | x :: r => (maxI r).map fun m => if x < m then m else x
/-- sep.join(parts) -/
def joinL (a : List Nat) (l : List (List Nat)) : List Nat := (l.drop 1).foldl (fun acc p => acc ++ a ++ p) (l.headD [])
def pAdd : List D → Option Res
  | [.int a, .int b] => vI (a + b)
  | [.str a, .str b] => small (decide (a.length + b.length ≤ big)) (.val (.str (a ++ b)))
  | [.lst a, .lst b] => small (decide (a.length + b.length ≤ big)) (.new (.lst (a ++ b)))
  | [.tup a, .tup b] => small (decide (a.length + b.length ≤ big)) (.val (.tup (a ++ b)))
  | [.ftp a, .tup b] => small (decide (a.length + b.length ≤ big) && !b.isEmpty) (.val (.tup (a ++ b)))
  | _ => none
def pSub : List D → Option Res
  | [.int a, .int b] => vI (a - b)
  | _ => none
def pMul : List D → Option Res
  | [.int a, .int b] => small (decide (-(2 ^ 64) < b) && decide (b < 2 ^ 64) || decide (-(2 ^ 64) < a) && decide (a < 2 ^ 64)) (.val (.int (a * b)))
  | [.str a, .int k] => small (decide (-big ≤ k) && decide (k ≤ big) && decide (a.length * k.toNat ≤ big)) (.val (.str (List.replicate k.toNat a).flatten))
  | [.tup a, .int k] => small (decide (1 ≤ k) && decide (k ≤ 1000) && decide (a.length ≤ 1000) && !a.isEmpty) (.val (.tup (List.replicate k.toNat a).flatten))
  | [.lst a, .int k] => small (decide (-big ≤ k) && decide (k ≤ big) && decide (a.length * k.toNat ≤ big)) (.new (.lst (List.replicate k.toNat a).flatten))
  | _ => none
def pFdiv : List D → Option Res
  | [.int a, .int b] => small (decide (0 < b) && decide (b < 2 ^ 200)) (.val (.int (a / b)))
  | _ => none
def pMod : List D → Option Res
  | [.int a, .int b] => small (decide (0 < b)) (.val (.int (a % b)))
  | _ => none
def pPow : List D → Option Res
  | [.int a, .int b] => small (decide (0 ≤ b) && decide (b ≤ 1000) && decide (a.natAbs < 2 ^ 64)) (.val (.int (a ^ b.toNat)))
  | _ => none
def pNeg : List D → Option Res
  | [.int a] => vI (-a)
  | _ => none
def pEq : List D → Option Res
  | [.int a, .int b] => vB (a == b)
  | [.str a, .str b] => vB (a == b)
  | [a, b] => small (a.plain 64 && b.plain 64) (.val (.bl (D.eqv a b)))
  | _ => none
def pNe : List D → Option Res
  | [.int a, .int b] => vB (!(a == b))
  | [.str a, .str b] => vB (!(a == b))
  | [a, b] => small (a.plain 64 && b.plain 64) (.val (.bl (!D.eqv a b)))
  | _ => none
def pLt : List D → Option Res
  | [.int a, .int b] => vB (decide (a < b))
  | [.str a, .str b] => vB (decide (a < b))
  | _ => none
def pLe : List D → Option Res
  | [.int a, .int b] => vB (decide (a ≤ b))
  | _ => none
def pGt : List D → Option Res
  | [.int a, .int b] => vB (decide (b < a))
  | _ => none
def pGe : List D → Option Res
  | [.int a, .int b] => vB (decide (b ≤ a))
  | _ => none
def pIsN : List D → Option Res
  | [.non] => vB true
  | [_] => vB false
  | _ => none
def pNotN : List D → Option Res
  | [.non] => vB false
  | [_] => vB true
  | _ => none
def pInn : List D → Option Res
  | [.str [c], .str s] => vB (decide (c ∈ s))
  | [x, .dct t kvs] => small (keyOk t x) (.val (.bl (dget kvs x).isSome))
  | [x, .lst ys] => small (x.plain 64 && (D.lst ys).plain 64) (.val (.bl (ys.any fun y => D.eqv y x)))
  | [x, .tup ys] => small (x.flat && ys.all D.flat) (.val (.bl (ys.any fun y => D.eqv y x)))
  | _ => none
def pNin : List D → Option Res
  | [.str [c], .str s] => vB (!decide (c ∈ s))
  | [x, .dct t kvs] => small (keyOk t x) (.val (.bl (!(dget kvs x).isSome)))
  | [x, .lst ys] => small (x.plain 64 && (D.lst ys).plain 64) (.val (.bl (!ys.any fun y => D.eqv y x)))
  | [x, .tup ys] => small (x.flat && ys.all D.flat) (.val (.bl (!ys.any fun y => D.eqv y x)))
  | _ => none
def pIx : List D → Option Res
  | [.dct t kvs, k] => (small (keyOk t k) (dget kvs k)).bind fun o => o.map .val
  | [.lst xs, .int i] => (at? xs i).map .val
  | [.tup xs, .int i] => (at? xs i).map .val
  | [.ftp xs, .int i] => (at? xs i).map .val
  | [.scr xs, .int i] => (at? xs i).map fun n => .val (.int n)
  | [.str xs, .int i] => (small (decide (xs.length ≤ big)) (at? xs i)).bind fun o => o.map fun c => .val (.str [c])
  | _ => none
def pSlc : Bool → Bool → List D → Option Res
  | false, false, [.str xs] => small (decide (xs.length ≤ big)) (.val (.str (cut xs none none)))
  | true, false, [.str xs, .int a] => small (decide (xs.length ≤ big)) (.val (.str (cut xs (some a) none)))
  | false, true, [.str xs, .int b] => small (decide (xs.length ≤ big)) (.val (.str (cut xs none (some b))))
  | true, true, [.str xs, .int a, .int b] => small (decide (xs.length ≤ big)) (.val (.str (cut xs (some a) (some b))))
  | true, false, [.lst xs, .int a] => some (.new (.lst (cut xs (some a) none)))
  | false, true, [.lst xs, .int b] => some (.new (.lst (cut xs none (some b))))
  | true, true, [.lst xs, .int a, .int b] => some (.new (.lst (cut xs (some a) (some b))))
  | true, false, [.tup xs, .int a] => some (.val (.tup (cut xs (some a) none)))
  | false, true, [.tup xs, .int b] => some (.val (.tup (cut xs none (some b))))
  | true, true, [.tup xs, .int a, .int b] => some (.val (.tup (cut xs (some a) (some b))))
  | true, false, [.ftp xs, .int a] => small (decide ((cut xs (some a) none).length < xs.length)) (.val (.tup (cut xs (some a) none)))
  | true, true, [.ftp xs, .int a, .int b] => small (decide ((cut xs (some a) (some b)).length < xs.length)) (.val (.tup (cut xs (some a) (some b))))
  | _, _, _ => none
def pRev : List D → Option Res
  | [.lst xs] => some (.new (.lst xs.reverse))
  | _ => none
def pTup : List D → Option Res
  | xs => small (decide (xs.length ≤ big)) (.val (.tup xs))
def pLst : List D → Option Res
  | xs => small (decide (xs.length ≤ big)) (.new (.lst xs))
def pDct (t : Bool) : List D → Option Res
  | [] => some (.new (.dct t []))
  | _ => none
def rngD (a : Int) : Nat → List D
  | 0 => []
  | n + 1 => .int a :: rngD (a + 1) n
def okR (a b : Int) : Bool := decide (-big ≤ a) && decide (a ≤ big) && decide (-big ≤ b) && decide (b ≤ big)
def pTrng : List D → Option Res
  | [.int n] => small (okR 0 n) (.val (.tup (rngD 0 n.toNat)))
  | [.int a, .int b] => small (okR a b) (.val (.tup (rngD a (b - a).toNat)))
  | _ => none
def pLrng : List D → Option Res
  | [.int n] => small (okR 0 n) (.new (.lst (rngD 0 n.toNat)))
  | [.int a, .int b] => small (okR a b) (.new (.lst (rngD a (b - a).toNat)))
  | _ => none
def pLen : List D → Option Res
  | [.str xs] => small (decide (xs.length ≤ big)) (.val (.int xs.length))
  | [.lst xs] => vI xs.length
  | [.tup xs] => vI xs.length
  | [.ftp xs] => vI xs.length
  | [.scr xs] => vI xs.length
  | [.dct false kvs] => vI kvs.length
  | _ => none
/-- a figure -/
def fig (a : Nat) : Bool := decide (48 ≤ a) && decide (a ≤ 57)
def pInt : List D → Option Res
  | [.int a] => vI a
  | [.bl b] => vI (if b then 1 else 0)
  | [.str [a]] => small (fig a) (.val (.int ((a : Int) - 48)))
  | [.str [a, b]] => small (fig a && fig b) (.val (.int (10 * ((a : Int) - 48) + ((b : Int) - 48))))
  | _ => none
/-- small numbers as Python writes them -/
def dec (n : Nat) : List Nat := if n < 10 then [48 + n] else [48 + n / 10, 48 + n % 10]
def pStr : List D → Option Res
  | [.int n] => small (decide (0 ≤ n) && decide (n < 100)) (.val (.str (dec n.toNat)))
  | _ => none
/-- sorted(set(..)) of a tuple of numbers -/
def insD (k : Int) : List Int → List Int
  | [] => [k]
  | x :: l => if k < x then k :: x :: l else if k = x then x :: l else x :: insD k l
def sdL (l : List Int) : List Int := l.foldr insD []
def pSset : List D → Option Res
  | [.tup xs] => (ints? xs).bind fun ns => small (decide (ns.length < 60)) (.new (.lst ((sdL ns).map .int)))
  | _ => none
/-- f'..': texts and numbers in a row -/
def fstT : D → Option (List Nat)
  | .int n => if 0 ≤ n ∧ n < 100 then some (dec n.toNat) else none
  | .str s => some s
  | _ => none
def fstL : List D → Option (List Nat)
  | [] => some []
  | d :: ds => (fstT d).bind fun a => (fstL ds).map fun b => a ++ b
def pFst (ds : List D) : Option Res := (fstL ds).bind fun s => small (decide (s.length ≤ big)) (.val (.str s))
/-- the parts of a text between signs -/
def splitL (c : Nat) : List Nat → List (List Nat)
  | [] => [[]]
  | x :: t => if x = c then [] :: splitL c t else (match splitL c t with
    | p :: ps => (x :: p) :: ps
    | [] => [[x]])
def pSplit : List D → Option Res
  | [.str a, .str [c]] => small (decide (a.length ≤ big)) (.new (.lst ((splitL c a).map .str)))
  | _ => none
def pList : List D → Option Res
  | [.str s] => small (decide (s.length ≤ big)) (.new (.lst (s.map fun c => .str [c])))
  | [.lst xs] => some (.new (.lst xs))
  | [.tup xs] => some (.new (.lst xs))
  | [.ftp xs] => some (.new (.lst xs))
  | _ => none
def pTuple : List D → Option Res
  | [.lst xs] => some (.val (.tup xs))
  | [.tup xs] => some (.val (.tup xs))
  | _ => none
/-- tuple(..), a tuple that is looked through by index -/
def pFtup : List D → Option Res
  | [.lst xs] => some (.val (.ftp xs))
  | _ => none
/-- len(set(..)) -/
def pLset : List D → Option Res
  | [.lst xs] => (ints? xs).bind fun ns => small (decide (ns.length ≤ 4000)) (.val (.int (sdL ns).length))
  | _ => none
/-- pairs: a number, and a number or a text -/
def isPI : D → Bool
  | .tup [.int _, .int _] => true
  | _ => false
def isPS : D → Bool
  | .tup [.int _, .str s] => s.all (· < 1114112)
  | _ => false
def pairK (xs : List D) : Bool := xs.all isPI || xs.all isPS
def pairLt : D → D → Bool
  | .tup [.int a, .int b], .tup [.int c, .int d] => decide (a < c ∨ (a = c ∧ b < d))
  | .tup [.int a, .str b], .tup [.int c, .str d] => decide (a < c ∨ (a = c ∧ b < d))
  | _, _ => false
def minP : List D → Option D
  | [] => none
  | x :: r => some (r.foldl (fun a y => if pairLt y a then y else a) x)
def pMin : List D → Option Res
  | [.int a, .int b] => vI (if b < a then b else a)
  | [.lst xs] => (match ints? xs with
    | some l => (minI l).map fun m => .val (.int m)
    | none => if pairK xs then (minP xs).map .val else none)
  | _ => none
def pMax : List D → Option Res
  | [.int a, .int b] => vI (if b > a then b else a)
  | [.lst xs] => (ints? xs).bind fun l => (maxI l).map fun m => .val (.int m)
  | _ => none
def pSum : List D → Option Res
  | [.lst xs] => (ints? xs).map fun l => .val (.int l.sum)
  | [.tup xs] => (ints? xs).map fun l => .val (.int l.sum)
  | _ => none
def pAbs : List D → Option Res
  | [.int a] => vI (if a < 0 then -a else a)
  | _ => none
def pAll : List D → Option Res
  | [.lst xs] => (bls? xs).map fun l => .val (.bl (l.all id))
  | _ => none
def pAny : List D → Option Res
  | [.lst xs] => (bls? xs).map fun l => .val (.bl (l.any id))
  | _ => none
def pIsi (ts : List Ty) : List D → Option Res
  | [x] => small (typed x) (.val (.bl (ts.any (typOf x))))
  | _ => none
def pJoin : List D → Option Res
  | [.str a, .lst xs] => (strs? xs).bind fun l => small (decide ((l.map (·.length)).sum + l.length * a.length ≤ big)) (.val (.str (joinL a l)))
  | _ => none
def findL (c : Nat) : List Nat → Nat → Int
  | [], _ => -1
  | x :: r, i => if x = c then i else findL c r (i + 1)
def pFind : List D → Option Res
  | [.str s, .str [c]] => vI (findL c s 0)
  | [.str s, .str [c], .int i] => small (decide (0 ≤ i) && decide (i ≤ s.length)) (.val (.int (findL c (s.drop i.toNat) i.toNat)))
  | _ => none
def pIndex : List D → Option Res
  | [.lst xs, x] => (small (x.flat && xs.all D.flat) (posOf x xs)).bind fun (o : Option Nat) => o.map fun (n : Nat) => Res.val (.int n)
  | [.ftp xs, x] => (small (x.flat && xs.all D.flat) (posOf x xs)).bind fun (o : Option Nat) => o.map fun (n : Nat) => Res.val (.int n)
  | [.str s, .str [c]] => small (decide (c ∈ s)) (.val (.int (findL c s 0)))
  | _ => none
def pCount : List D → Option Res
  | [.lst xs, .int k] => (ints? xs).map fun l => .val (.int (l.count k))
  | _ => none
def pGet : List D → Option Res
  | [.dct t kvs, k, d] => small (keyOk t k) (.val ((dget kvs k).getD d))
  | _ => none
def isrt {α : Type} (le : α → α → Bool) : List α → List α
  | [] => []
  | x :: r => ins x (isrt le r)
where ins (x : α) : List α → List α
  | [] => [x]
  | y :: r => if le x y then x :: y :: r else y :: ins x r
/-- texts in order -/
def srtS (l : List (List Nat)) : List (List Nat) := l.mergeSort fun a b => decide (a ≤ b)
def pSrt : List D → Option Res
  | [.lst xs] => (match ints? xs with
    | some l => some (.new (.lst ((isrt (fun a b => decide (a ≤ b)) l).map .int)))
    | none => (strs? xs).map fun l => .new (.lst ((srtS l).map .str)))
  | [.dct false kvs] => (strs? (kvs.map (·.1))).map fun l => .new (.lst ((srtS l).map .str))
  | _ => none
def prim (o : Op) (ds : List D) : Option Res := match o with
  | .add => pAdd ds
  | .sub => pSub ds
  | .mul => pMul ds
  | .fdiv => pFdiv ds
  | .mod => pMod ds
  | .pow => pPow ds
  | .neg => pNeg ds
  | .eq => pEq ds
  | .ne => pNe ds
  | .lt => pLt ds
  | .le => pLe ds
  | .gt => pGt ds
  | .ge => pGe ds
  | .isN => pIsN ds
  | .notN => pNotN ds
  | .inn => pInn ds
  | .nin => pNin ds
  | .ix => pIx ds
  | .slc lo hi => pSlc lo hi ds
  | .rev => pRev ds
  | .tup => pTup ds
  | .lst => pLst ds
  | .dct t => pDct t ds
  | .trng => pTrng ds
  | .lrng => pLrng ds
  | .len => pLen ds
  | .int => pInt ds
  | .str => pStr ds
  | .list => pList ds
  | .tuple => pTuple ds
  | .min => pMin ds
  | .max => pMax ds
  | .sum => pSum ds
  | .abs => pAbs ds
  | .all => pAll ds
  | .any => pAny ds
  | .isi ts => pIsi ts ds
  | .find => pFind ds
  | .count => pCount ds
  | .index => pIndex ds
  | .join => pJoin ds
  | .split => pSplit ds
  | .fst => pFst ds
  | .sset => pSset ds
  | .ftup => pFtup ds
  | .lset => pLset ds
  | .replace => none
  | .get => pGet ds
  | .srt => pSrt ds
/-- operations by a method of their first operand -/
def mthd : Op → Bool
  | .join => true
  | .find => true
  | .count => true
  | .index => true
  | .split => true
  | .fst => true
  | .replace => true
  | .get => true
  | _ => false
def rngc (a c : Int) : Nat → List D
  | 0 => []
  | n + 1 => .int a :: rngc (a + c) c n
def rngs (a : Int) : Nat → List D
  | 0 => []
  | n + 1 => .int a :: rngs (a + 1) n
def enumF (i : Int) : List D → List D
  | [] => []
  | x :: r => .tup [.int i, x] :: enumF (i + 1) r
def okI (i : Int) : Bool := decide (-(2 ^ 62) ≤ i) && decide (i < 2 ^ 62)
def items : ItK → List D → Option (List D)
  | .seq, [.lst xs] => some xs
  | .seq, [.tup xs] => some xs
  | .seq, [.ftp xs] => some xs
  | .seq, [.str s] => some (s.map fun c => .str [c])
  | .rng, [.int n] => small (okI n) (rngs 0 n.toNat)
  | .rng, [.int a, .int b] => small (okI a && okI b) (rngs a (b - a).toNat)
  | .rng, [.int a, .int b, .int c] => small (okI a && okI b && decide (c = -1)) (rngc a (-1) (a - b).toNat)
  | .enum, [.lst xs] => some (enumF 0 xs)
  | .enum, [.tup xs] => some (enumF 0 xs)
  | .enum, [.ftp xs] => some (enumF 0 xs)
  | .enum, [.str s] => some (enumF 0 (s.map fun c => .str [c]))
  | .seq, [.dct _ kvs] => some (kvs.map (·.1))
  | .items, [.dct _ kvs] => some (kvs.map fun p => .tup [p.1, p.2])
  | _, _ => none
/-! ### targets -/
mutual
def bindT : Tg → D → Env → Option Env
  | .nm i, d, e => match slot e i with
    | .par _ => none
    | _ => some (e.set i (.val d))
  | .tp ts, .tup xs, e => bindTs ts xs e
  | .tp ts, .lst xs, e => bindTs ts xs e
  | .tp _, _, _ => none
def bindTs : List Tg → List D → Env → Option Env
  | [], [], e => some e
  | t :: ts, x :: xs, e => (bindT t x e).bind fun e1 => bindTs ts xs e1
  | _, _, _ => none
end
/-! ### expressions -/
def fz (m : M Res) : M D := fun e => (m e).bind fun r e1 => .ok r.d e1
def asB (m : M Res) : M Bool := fun e => (m e).bind fun r e1 => match r with
  | .val (.bl b) => .ok b e1
  | _ => .no
def rdVar (i : Nat) : M Res := fun e => match slot e i with
  | .val d => .ok (.val d) e
  | .own d => .ok (.val d) (e.set i (.val d))
  | _ => .no
/-- operations that keep their operands: none of one's own may be among them -/
def disp : Op → Bool
  | .tup => true
  | .lst => true
  | _ => false
def isPk : Opd → Bool
  | .pk _ => true
  | _ => false
/-- operations that look at an operand ahead of the next one -/
def midOp : Op → Bool
  | .slc true true => true
  | o => mthd o
/-- operands that must be seen ahead of the next one, and are only peeked at -/
def midBad : Op → List Opd → Bool
  | .slc true true, _ :: b :: _ => isPk b
  | .slc _ _, _ => false
  | .get, os => os.any isPk
  | .fst, os => os.any isPk
  | _, a :: _ => isPk a
  | _, [] => false
def opM (o : Op) (m : M (List Opd)) : M Res := fun e => match m e with
  | .no => .no
  | .ex x e1 => if midOp o then .no else .ex x e1
  | .ok os e1 => match opds e1 os with
    | some ds => if disp o && !(muts e1 os).isEmpty then .no else if midOp o && midBad o os then .no else ofO (prim o ds) e1
    | none => .no
def callM (F : Fn) (m : M (List Opd)) : M Res := fun e => (m e).bind fun os e1 => match toArgs e1 os with
  | none => .no
  | some as => if nodup (muts e1 os) then (match F as with
    | .no => .no
    | .ok r fin => match putBack e1 (muts e1 os) fin with
      | some e2 => .ok r e2
      | none => .no
    | .ex x fin => match putBack e1 (muts e1 os) fin with
      | some e2 => .ex x e2
      | none => .no) else .no
def itM (k : ItK) (m : M (List Opd)) : M (List D) := fun e => match m e with
  | .ok os e1 => match opds e1 os with
    | some ds => if (muts e1 os).isEmpty then ofO (items k ds) e1 else .no
    | none => .no
  | _ => .no
/-- comprehensions: the block's own slots are hidden -/
def hideE (e : Env) : List Nat → Env
  | [] => e
  | i :: is => (hideE e is).set i .un
def backE (e e0 : Env) : List Nat → Env
  | [] => e
  | i :: is => (backE e e0 is).set i (slot e0 i)
def compL (tg : Tg) (own : List Nat) (c : M Bool) (m : M D) : List D → List D → M (List D)
  | [], acc => fun e => .ok acc e
  | x :: xs, acc => fun e => match bindT tg x e with
    | none => .no
    | some e1 => match c e1 with
      | .ok true e2 => match m e2 with
        | .ok d e3 => if acc.length < big then compL tg own c m xs (acc ++ [d]) (hideE e3 own) else .no
        | _ => .no
      | .ok false e2 => compL tg own c m xs acc (hideE e2 own)
      | _ => .no
def compM (its : M (List D)) (tg : Tg) (own : List Nat) (c : M Bool) (m : M D) : M Res := fun e =>
  (its e).bind fun xs e1 => match compL tg own c m xs [] (hideE e1 own) with
    | .ok ds e2 => .ok (.new (.lst ds)) (backE e2 e1 own)
    | _ => .no
/-- comprehensions of two fors -/
def compL2 (tg : Tg) (own : List Nat) (its : M (List D)) (tg1 : Tg) (own1 : List Nat) (c : M Bool) (m : M D) : List D → List D → M (List D)
  | [], acc => fun e => .ok acc e
  | x :: xs, acc => fun e => match bindT tg x e with
    | none => .no
    | some e1 => match its e1 with
      | .ok ys e2 => match compL tg1 own1 c m ys acc (hideE e2 own1) with
        | .ok acc2 e3 => compL2 tg own its tg1 own1 c m xs acc2 (hideE e3 own)
        | _ => .no
      | _ => .no
def compM2 (its : M (List D)) (tg : Tg) (own : List Nat) (its1 : M (List D)) (tg1 : Tg) (own1 : List Nat) (c : M Bool) (m : M D) : M Res := fun e =>
  (its e).bind fun xs e1 => match compL2 tg own its1 tg1 own1 c m xs [] (hideE e1 own) with
    | .ok ds e2 => .ok (.new (.lst ds)) (backE e2 e1 own)
    | _ => .no
/-- dict comprehensions -/
def dcompL (t : Bool) (tg : Tg) (own : List Nat) (c : M Bool) (mk mv : M D) : List D → List (D × D) → M (List (D × D))
  | [], acc => fun e => .ok acc e
  | x :: xs, acc => fun e => match bindT tg x e with
    | none => .no
    | some e1 => match c e1 with
      | .ok true e2 => match mk e2 with
        | .ok k e3 => match mv e3 with
          | .ok v e4 => if acc.length < big && keyOk t k then dcompL t tg own c mk mv xs (dput acc k v) (hideE e4 own) else .no
          | _ => .no
        | _ => .no
      | .ok false e2 => dcompL t tg own c mk mv xs acc (hideE e2 own)
      | _ => .no
def dcompM (t : Bool) (its : M (List D)) (tg : Tg) (own : List Nat) (c : M Bool) (mk mv : M D) : M Res := fun e =>
  (its e).bind fun xs e1 => match dcompL t tg own c mk mv xs [] (hideE e1 own) with
    | .ok ds e2 => .ok (.new (.dct t ds)) (backE e2 e1 own)
    | _ => .no
/-- an operand: a peeked slot, or a value -/
def opdM (a : E) (m : M Res) : M Opd := match a with
  | .pk i => fun e => match slot e i with
    | .un => .no
    | _ => .ok (.pk i) e
  | _ => fun e => (fz m e).bind fun d e1 => .ok (.d d) e1
structure Cfg where
  fns : Nat → Fn
  fv : Nat → Option Fn
  flds : Nat → Option (List Str)
  sub : Nat → Nat → Option Bool
mutual
def ev (C : Cfg) : E → M Res
  | .var i => rdVar i
  | .pk _ => fun _ => .no
  | .cst d => fun e => .ok (.val d) e
  | .glb _ d => fun e => .ok (.val d) e
  | .op o as => opM o (evs C as)
  | .and a b => fun e => (asB (ev C a) e).bind fun b1 e1 => if b1 then (asB (ev C b) e1).bind fun b2 e2 => .ok (.val (.bl b2)) e2 else .ok (.val (.bl false)) e1
  | .or a b => fun e => (asB (ev C a) e).bind fun b1 e1 => if b1 then .ok (.val (.bl true)) e1 else (asB (ev C b) e1).bind fun b2 e2 => .ok (.val (.bl b2)) e2
  | .not a => fun e => (asB (ev C a) e).bind fun b1 e1 => .ok (.val (.bl (!b1))) e1
  | .ite c a b => fun e => (asB (ev C c) e).bind fun b1 e1 => if b1 then ev C a e1 else ev C b e1
  | .chain o p a b c => fun e => (fz (ev C a) e).bind fun x e1 => (fz (ev C b) e1).bind fun y e2 => match prim o [x, y] with
    | some (.val (.bl true)) => (fz (ev C c) e2).bind fun z e3 => ofO (prim p [y, z]) e3
    | some (.val (.bl false)) => .ok (.val (.bl false)) e2
    | _ => .no
  | .chain3 o p q a b c d => fun e => (fz (ev C a) e).bind fun x e1 => (fz (ev C b) e1).bind fun y e2 => match prim o [x, y] with
    | some (.val (.bl true)) => (fz (ev C c) e2).bind fun z e3 => (match prim p [y, z] with
      | some (.val (.bl true)) => (fz (ev C d) e3).bind fun u e4 => ofO (prim q [z, u]) e4
      | some (.val (.bl false)) => .ok (.val (.bl false)) e3
      | _ => .no)
    | some (.val (.bl false)) => .ok (.val (.bl false)) e2
    | _ => .no
  | .fnv _ g => fun e => .ok (.val (.fn g)) e
  | .callV f as => fun e => (ev C f e).bind fun r e1 => match r with
    | .val (.fn g) => (match C.fv g with
      | some F => callM F (evs C as) e1
      | none => .no)
    | _ => .no
  | .call f as => callM (C.fns f) (evs C as)
  | .comp k as tg own conds elt => compM (itM k (evs C as)) tg own (evAll C conds) (fz (ev C elt))
  | .dct1 k v => fun e => (fz (ev C k) e).bind fun x e1 => (fz (ev C v) e1).bind fun y e2 => if x.isKey then .ok (.new (.dct false [(x, y)])) e2 else .no
  | .dcomp t k as tg own conds kx vx => dcompM t (itM k (evs C as)) tg own (evAll C conds) (fz (ev C kx)) (fz (ev C vx))
  | .comp2 k as tg own k1 as1 tg1 own1 conds elt => compM2 (itM k (evs C as)) tg own (itM k1 (evs C as1)) tg1 own1 (evAll C conds) (fz (ev C elt))
def evs (C : Cfg) : List E → M (List Opd)
  | [] => fun e => .ok [] e
  | a :: as => fun e => (opdM a (ev C a) e).bind fun o e1 => (evs C as e1).bind fun os e2 => .ok (o :: os) e2
def evAll (C : Cfg) : List E → M Bool
  | [] => fun e => .ok true e
  | c :: cs => fun e => (asB (ev C c) e).bind fun b e1 => if b then evAll C cs e1 else .ok false e1
end
/-! ### statements -/
inductive Fl where
  | nx | rt (r : Res) | bk | ct
def forL (tg : Tg) (body : M Fl) : List D → M Fl
  | [] => fun e => .ok .nx e
  | x :: xs => fun e => match bindT tg x e with
    | none => .no
    | some e1 => (body e1).bind fun f e2 => match f with
      | .nx => forL tg body xs e2
      | .ct => forL tg body xs e2
      | .bk => .ok .nx e2
      | .rt r => .ok (.rt r) e2
def whlL (c : M Bool) (body : M Fl) : Nat → M Fl
  | 0 => fun _ => .no
  | n + 1 => fun e => (c e).bind fun b e1 => if b then (body e1).bind fun f e2 => (match f with
      | .nx => whlL c body n e2
      | .ct => whlL c body n e2
      | .bk => .ok .nx e2
      | .rt r => .ok (.rt r) e2) else .ok .nx e1
/-- what a return hands back: a slot of one's own goes over -/
def retM (a : E) (m : M Res) : M Res := match a with
  | .var i => fun e => match slot e i with
    | .own d => .ok (.new d) (e.set i .un)
    | .val d => .ok (.val d) e
    | _ => .no
  | _ => m
def Res.slot : Res → Slot
  | .val d => .val d
  | .new d => .own d
def ownM (i : Nat) (r : Res) : M Fl := fun e => match slot e i with
  | .par _ => .no
  | _ => .ok .nx (e.set i r.slot)
def ownsM : List Nat → List Res → M Fl
  | [], [] => fun e => .ok .nx e
  | i :: is, r :: rs => fun e => match slot e i with
    | .par _ => .no
    | _ => ownsM is rs (e.set i r.slot)
  | _, _ => fun _ => .no
/-- results, one after the other -/
def evRs (C : Cfg) : List E → M (List Res)
  | [] => fun e => .ok [] e
  | a :: as => fun e => (ev C a e).bind fun r e1 => (evRs C as e1).bind fun rs e2 => .ok (r :: rs) e2
/-- a list of one's own -/
def ownLst (e : Env) (i : Nat) : Bool := match slot e i with
  | .own (.lst _) => true
  | .par (.lst _) => true
  | _ => false
def setM (i : Nat) (k v : D) : M Fl := fun e => match (slot e i).isMut, (slot e i).d? with
  | true, some (.lst xs) => match k with
    | .int j => match ixOf xs.length j with
      | some n => .ok .nx (e.set i ((slot e i).put (.lst (xs.set n v))))
      | none => .no
    | _ => .no
  | true, some (.dct t kvs) => if keyOk t k && kvs.length < big then .ok .nx (e.set i ((slot e i).put (.dct t (dput kvs k v)))) else .no
  | _, _ => .no
/-- a[i] = v, the index being worked out -/
def setE (i : Nat) (m : M Res) (v : D) : M Fl := fun e1 => if (slot e1 i).isMut then (fz m e1).bind fun x e2 => setM i x v e2 else .no
/-- x = l.pop() -/
def popM (j i : Nat) : M Fl := fun e => match (slot e i).isMut, (slot e i).d? with
  | true, some (.lst xs) => (match xs[xs.length - 1]? with
    | some d => ownM j (.val d) (e.set i ((slot e i).put (.lst xs.dropLast)))
    | none => .no)
  | _, _ => .no
def appM (i : Nat) (v : D) : M Fl := fun e => match (slot e i).isMut, (slot e i).d? with
  | true, some (.lst xs) => if xs.length < big then .ok .nx (e.set i ((slot e i).put (.lst (xs ++ [v])))) else .no
  | _, _ => .no
def extM (i : Nat) (v : D) : M Fl := fun e => match (slot e i).isMut, (slot e i).d?, v with
  | true, some (.lst xs), .lst ys => if xs.length + ys.length ≤ big then .ok .nx (e.set i ((slot e i).put (.lst (xs ++ ys)))) else .no
  | _, _, _ => .no
def zipF : List Str → List D → Option (List (Str × D))
  | [], [] => some []
  | f :: fs, d :: ds => (zipF fs ds).map ((f, d) :: ·)
  | _, _ => none
def fldOf (f : Str) : List (Str × D) → Option D
  | [] => none
  | (g, d) :: r => if g = f then some d else fldOf f r
def hasF (C : Cfg) (c : Nat) (f : Str) : Bool := match C.flds c with
  | some fl => fl.contains f
  | none => false
def svs (C : Cfg) (x : Xc) : List Sv → Option (List D)
  | [] => some []
  | .cst d :: r => if d.flat then (svs C x r).map (d :: ·) else none
  | .fld f :: r => if hasF C x.cls f then (fldOf f x.fs).bind fun d => (svs C x r).map (d :: ·) else none
def suM (C : Cfg) (x : Xc) : Su → M Fl
  | .cst i d => fun e => match slot e i with
    | .par _ => .no
    | _ => .ok .nx (e.set i (.val d))
  | .lst i vs => fun e => match slot e i, svs C x vs with
    | .par _, _ => .no
    | _, some ds => if ds.length ≤ big then .ok .nx (e.set i (.own (.lst ds))) else .no
    | _, none => .no
def rseM (C : Cfg) (c : Nat) (m : M (List Opd)) : M Fl := fun e => match m e with
  | .ok os e1 => if (muts e1 os).isEmpty then (match opds e1 os, C.flds c with
    | some ds, some fs => match zipF fs ds with
      | some l => .ex ⟨c, l⟩ e1
      | none => .no
    | _, _ => .no) else .no
  | _ => .no
/-- the clauses, one after the other -/
def catM (C : Cfg) (x : Xc) : List (Nat × Option Nat × Su) → M Fl
  | [] => fun e => .ex x e
  | (c, nm, su) :: r => fun e1 => match C.sub x.cls c with
    | none => .no
    | some false => catM C x r e1
    | some true => match nm with
      | none => suM C x su e1
      | some j => match slot e1 j with
        | .par _ => .no
        | _ => if j < e1.length then (suM C x su (e1.set j .un)).bind fun f e2 => (match f with
          | .nx => .ok .nx (e2.set j .un)
          | _ => .no) else .no
def tryM (C : Cfg) (m : M Fl) (cls : List (Nat × Option Nat × Su)) : M Fl := fun e => match m e with
  | .ok f e1 => .ok f e1
  | .no => .no
  | .ex x e1 => catM C x cls e1
mutual
def exs (C : Cfg) : List S → M Fl
  | [] => fun e => .ok .nx e
  | s :: ss => fun e => (exS C s e).bind fun f e1 => match f with
    | .nx => exs C ss e1
    | f => .ok f e1
def exS (C : Cfg) : S → M Fl
  | .asg t a => fun e => (fz (ev C a) e).bind fun d e1 => match bindT t d e1 with
    | some e2 => .ok .nx e2
    | none => .no
  | .own i a => fun e => (ev C a e).bind fun r e1 => ownM i r e1
  | .owns is as => fun e => (evRs C as e).bind fun rs e1 => ownsM is rs e1
  | .seti i k a => fun e => (fz (ev C a) e).bind fun d e1 => if (slot e1 i).isMut then (fz (ev C k) e1).bind fun x e2 => setM i x d e2 else .no
  | .seti2 i k j l a => fun e => (fz (ev C a) e).bind fun d e1 => match d with
    | .tup [x, y] => (setE i (ev C k) x e1).bind fun _ e2 => setE j (ev C l) y e2
    | _ => .no
  | .pop j i => popM j i
  | .app i a => fun e => if ownLst e i then (fz (ev C a) e).bind fun d e1 => appM i d e1 else .no
  | .ext i a => fun e => if ownLst e i then (fz (ev C a) e).bind fun d e1 => extM i d e1 else .no
  | .ex a => fun e => (ev C a e).bind fun _ e1 => .ok .nx e1
  | .ret a => fun e => (retM a (ev C a) e).bind fun r e1 => .ok (.rt r) e1
  | .retn => fun e => .ok (.rt (.val .non)) e
  | .ifs c a b => fun e => (asB (ev C c) e).bind fun t e1 => if t then exs C a e1 else exs C b e1
  | .for tg k as body => fun e => (itM k (evs C as) e).bind fun xs e1 => forL tg (exs C body) xs e1
  | .whl n c body => whlL (asB (ev C c)) (exs C body) n
  | .rse c as => rseM C c (evs C as)
  | .try body cls => tryM C (exs C body) cls
  | .pass => fun e => .ok .nx e
  | .never => fun _ => .no
end
/-! ### defs -/
def argSlot : Arg → Slot
  | .val d => .val d
  | .lent d => .par d
def fins (e : Env) : List Arg → Nat → Option (List D)
  | [], _ => some []
  | .val _ :: as, i => fins e as (i + 1)
  | .lent _ :: as, i => match slot e i, fins e as (i + 1) with
    | .par d, some l => some (d :: l)
    | _, _ => none
def runD (C : Cfg) (np n : Nat) (body : List S) : Fn := fun as =>
  if as.length = np then
    match exs C body (as.map argSlot ++ List.replicate (n - np) .un) with
    | .ok .nx e => match fins e as 0 with
      | some l => .ok (.val .non) l
      | none => .no
    | .ok (.rt r) e => match fins e as 0 with
      | some l => .ok r l
      | none => .no
    | .ex x e => match fins e as 0 with
      | some l => .ex x l
      | none => .no
    | _ => .no
  else .no
end Itp
set_option Elab.async false
set_option linter.all false
set_option maxRecDepth 100000
set_option maxHeartbeats 4000000
namespace Itp
open PySem L2 PySem.Spec
/-! ### enumerate of a tuple, of a text -/
theorem meets_en1 {v : Value} {o : Obj} {Hh : Heap → Prop} (B : Begins v o Hh) :
    Meets (Builtin.«enumerate.__new__» ⟨[.type "enumerate", v], []⟩) (fun _ R s => Hh s.heap ∧ R (.ok (.ret (.ref (s.heap.push o).objs.size))) { s with heap := (s.heap.push o).push { cls := .type "enumerate", data := .fields #[.none, .bool false, .ref s.heap.objs.size, rawInt 0, .none, .none] } }) :=
  .of_wp fun prog w A R s hyp => by
    obtain ⟨hp, gg, dd, tt, ss⟩ := s
    obtain ⟨h1, hyp⟩ := hyp
    have sube := sub_enumerate
    have it1 : ∀ {A2 : Around} {E2 : Value → Shared → Prop} {Q2 : Value → Shared → Prop}, Q2 (.ref hp.objs.size) ⟨hp.push o, gg, dd, tt, ss⟩ → wpAny (model prog w) A2 (pyIter v) Q2 E2 ⟨hp, gg, dd, tt, ss⟩ := fun q => B.iter prog w _ _ ⟨hp, gg, dd, tt, ss⟩ _ h1 q
    wp_walk using it1
    refine wpAny_stack_any fun stk => wpAny_pure ?_
    split
    · rename_i cc _ _ _ _ _
      cases (cc == Value.type "enumerate")
      · wp_walk using it1
        exact ⟨_, rfl, hyp⟩
      · wp_walk using it1
        exact ⟨_, rfl, hyp⟩
    · wp_walk using it1
      exact ⟨_, rfl, hyp⟩
section
variable {prog : Program} {w : World} {A : Around} {E : Value → Shared → Prop} {s : Shared}
theorem en_begins {v : Value} {o : Obj} {Hh : Heap → Prop} {Q : Value → Shared → Prop} (B : Begins v o Hh) (h1 : Hh s.heap)
    (k : ∀ g, IsEnum g (s.heap.objs.size + 1) s.heap.objs.size 0 .none → g.get? s.heap.objs.size = some o → (∀ b ob, s.heap.get? b = some ob → g.get? b = some ob) → Q (.ref (s.heap.objs.size + 1)) { s with heap := g }) :
    wpAny (model prog w) A (call (.type "enumerate") [v]) Q E s := by
  refine callType_new F.called_enumerate (by decide) (F.typeCall_enumerate_1 _) (F.newCall_enumerate_1 _) (fun obj => F.args_object_init_2 obj _) F.entry_enumerate_new (meets_en1 B) ⟨h1, ?_⟩
  have sz : (s.heap.push o).objs.size = s.heap.objs.size + 1 := Heap.size_push ..
  show _ ∧ _
  rw [sz]
  have ie : IsEnum ((s.heap.push o).push { cls := .type "enumerate", data := .fields #[.none, .bool false, .ref s.heap.objs.size, rawInt 0, .none, .none] }) (s.heap.objs.size + 1) s.heap.objs.size 0 .none := by
    have q := Heap.get?_push_size (s.heap.push o) (o := { cls := .type "enumerate", data := .fields #[.none, .bool false, .ref s.heap.objs.size, rawInt 0, .none, .none] }) rfl
    rw [sz] at q
    exact q
  exact ⟨⟨_, ie, rfl⟩, k _ ie (Heap.get?_push_of_some _ (Heap.get?_push_size _ B.free)) fun b ob x => Heap.get?_push_of_some _ (Heap.get?_push_of_some _ x)⟩
end
/-- the turns of enumerate, by what the inner iterator draws -/
theorem turn_en {P : Program} {w : World} {K : PySem.W.Frag} {elts : List Expr} {kk : Nat} {tpos : Pos} (J : It) (e it : Addr) (t0 : Nat → Heap → Prop) (hne : e ≠ it)
    (obj0 : ∀ i h, t0 i h → ∃ o, h.get? it = some o ∧ ∀ v, o.data ≠ .cell v)
    (keep0 : ∀ i h h', t0 i h → (∀ o, h.get? it = some o → h'.get? it = some o) → t0 i h')
    (dI : ∀ (X : Cx), X.prog = P → X.w = w → X.K = K → X.calm = true → ∀ (i : Nat) (pins : List (Addr × Obj)) (s : Shared) (σ : L2.St) (H : Hp), L2.Inv X pins σ H s → H e = none → H it = none → t0 i s.heap → J.go i H →
      ∃ (fp : List Addr) (n : Nat) (Pv : Nat → Value → Prop) (St : Nat → Heap → Prop), Draws P w X.A.in1 it fp n Pv St ∧ e ∉ fp ∧ (∀ i h, St i h → t0 i h) ∧ St i s.heap ∧ i < n ∧
        ∀ u, Pv i u → ∃ x, RelV x u ∧ ∀ T, H T = none → J.yld i H (.ref T) (upd H T (.tup [.int (i : Nat), x])))
    (dS : ∀ (X : Cx), X.prog = P → X.w = w → X.K = K → X.calm = true → ∀ (i : Nat) (pins : List (Addr × Obj)) (s : Shared) (σ : L2.St) (H : Hp), L2.Inv X pins σ H s → H e = none → H it = none → t0 i s.heap → J.stop i H →
      ∃ (fp : List Addr) (Pv : Nat → Value → Prop) (St : Nat → Heap → Prop), Draws P w X.A.in1 it fp i Pv St ∧ St i s.heap) :
    Turn P w K (.Tuple elts kk tpos) J [e, it] e (fun i h => (∃ old, IsEnum h e it ((i : Nat) : Int) old) ∧ t0 i h) where
  mem := by simp
  obj := fun i h st b hb => by
    obtain ⟨⟨old, ie⟩, h0⟩ := st
    have z : b = e ∨ b = it := by simpa using hb
    rcases z with rfl | rfl
    · exact ⟨_, ie, fun v q => nomatch q⟩
    · exact obj0 i h h0
  keep := fun i h h' st k => by
    obtain ⟨⟨old, ie⟩, h0⟩ := st
    exact ⟨⟨old, k e (by simp) _ ie⟩, keep0 i h h' h0 fun o q => k it (by simp) o q⟩
  item := by
    intro X hP hw hK hc i pins s σ H E I hf st hg
    obtain ⟨⟨old, ie⟩, h0⟩ := st
    obtain ⟨fp, n, Pv, St, D, ef, sub, hst, hlt, yl⟩ := dI X hP hw hK hc i pins s σ H I (hf e (by simp)).1 (hf it (by simp)).1 h0 hg
    have el : e < s.heap.objs.size := Heap.lt_size ie
    have il : it < s.heap.objs.size := by obtain ⟨_, q⟩ := D.live _ _ hst; exact Heap.lt_size q
    refine wpAny_pyNext_enum_itemD D ie hst hlt hne ef fun u g tk hu io hst' hT hsz hk => ?_
    obtain ⟨x, rx, yx⟩ := yl u hu
    refine ⟨_, rfl, wpAny_letOwnedTupleGo_enum (s := { s with heap := g, toks := tk + 1 }) io fun g2 ie' sb => ?_⟩
    have hT2 : g2.get? s.heap.objs.size = some { cls := .type "tuple", data := .seq #[.int i tk, u] } := (sb.2 _ (Nat.ne_of_gt el)).trans hT
    have new : ObjOk X.prog X.w (upd H s.heap.objs.size (.tup [.int (i : Nat), x])) g2 s.heap.objs.size (.tup [.int (i : Nat), x]) :=
      ⟨by show 2 ≤ sizeLine; decide, [.int i tk, u], .cons ⟨_, rfl⟩ (.cons rx .nil), ⟨_, hT2, rfl, _, rfl⟩⟩
    have I1 : L2.Inv X pins σ (upd H s.heap.objs.size (.tup [.int (i : Nat), x])) { s with heap := g2, toks := tk + 1 } :=
      I.turnedNew (ch := [e, it]) (fun b ob hb q => (sb.2 b (fun z => hb (by simp [z]))).trans (hk b ob (fun z => hb (by simp [z])) (fun z => hb (by simp [z])) q)) hf (Nat.le_refl _) new
    refine ⟨.ref s.heap.objs.size, _, I1, rfl, yx _ (I.hok.fresh (Nat.le_refl _)), ⟨⟨u, ?_⟩, keep0 _ _ _ (sub _ _ hst') fun o q => (sb.2 it (Ne.symm hne)).trans q⟩, fun b hb => ?_⟩
    · have e1 : ((i + 1 : Nat) : Int) = (i : Int) + 1 := by omega
      rw [e1]
      exact ie'
    · have hb' : b < s.heap.objs.size := by
        have z : b = e ∨ b = it := by simpa using hb
        rcases z with rfl | rfl
        · exact el
        · exact il
      rw [upd_ne (Nat.ne_of_lt hb')]
      exact (hf b hb).1
  done := by
    intro X hP hw hK hc i pins s σ H E I hf st hg
    obtain ⟨⟨old, ie⟩, h0⟩ := st
    obtain ⟨fp, Pv, St, D, hst⟩ := dS X hP hw hK hc i pins s σ H I (hf e (by simp)).1 (hf it (by simp)).1 h0 hg
    obtain ⟨f0, f1, f2, f3, f4, f5⟩ := hf it (by simp)
    exact wpAny_pyNext_enum_endD D ie hst fun g eb => ⟨rfl, I.turned (t' := s.toks) (fun b o hb q => eb b o hb q) f0 f1 f3 f4 f5⟩
  self := fun A i s Q E st h => by
    obtain ⟨⟨_, ie⟩, _⟩ := st
    exact wpAny_pyIter_enum ie h
/-- the tuple at a, each item in a new pair -/
def IteT (K : PySem.W.Frag) (a : Addr) : It where
  go := fun i H => ∃ (xs : List V) (x : V), SqT K H a xs ∧ xs[i]? = some x
  yld := fun i H v H' => ∃ T x, v = .ref T ∧ H T = none ∧ H' = upd H T (.tup [.int (i : Nat), x]) ∧ ∀ xs, SqT K H a xs → xs[i]? = some x
  stop := fun i H => ∃ xs : List V, SqT K H a xs ∧ xs.length ≤ i
/-- the text, each sign in a new pair -/
def IteS (z : Str) : It where
  go := fun i _ => i < z.cps.size
  yld := fun i H v H' => ∃ T c, v = .ref T ∧ H T = none ∧ H' = upd H T (.tup [.int (i : Nat), .str ⟨#[c]⟩]) ∧ z.cps[i]? = some c
  stop := fun i _ => z.cps.size ≤ i
theorem turn_enT {P : Program} {w : World} {K : PySem.W.Frag} {elts : List Expr} {kk : Nat} {tpos : Pos} (a e it : Addr) (hne : e ≠ it) (hea : e ≠ a) (hia : a ≠ it) :
    Turn P w K (.Tuple elts kk tpos) (IteT K a) [e, it] e (fun i h => (∃ old, IsEnum h e it ((i : Nat) : Int) old) ∧ h.IsTupleIter it a i) := by
  refine turn_en (IteT K a) e it (fun i h => h.IsTupleIter it a i) hne (fun i h st => ?_) (fun i h h' st k => st.at k) ?_ ?_
  · obtain ⟨o, ho, hc, hd⟩ := st
    exact ⟨o, ho, fun v q => by rw [hd] at q; cases q⟩
  · intro X hP hw hK hc i pins s σ H I he hi st hg
    subst hP hw hK
    obtain ⟨xs, x, hq, hx⟩ := hg
    obtain ⟨its, rv, p, hz⟩ := I.tuple hq
    obtain ⟨u, hu, ru⟩ := rv.get hx
    refine ⟨_, _, _, _, Draws.tuple (A := X.A.in1) (I.ok.hd hc) it a hia its.toArray, by simp [hne, hea], fun _ _ q => q.1, ⟨st, p⟩, ?_, fun u' hu' => ?_⟩
    · have := (List.getElem?_eq_some_iff.mp hu).1
      simpa using this
    · have : u' = u := by
        have hu' : its.toArray[i]? = some u' := hu'
        simp only [List.getElem?_toArray] at hu'
        rw [hu] at hu'
        cases hu'
        rfl
      subst this
      exact ⟨x, ru, fun T hT => ⟨T, x, rfl, hT, rfl, fun ys hy => by rw [I.tuple_inj hy hq]; exact hx⟩⟩
  · intro X hP hw hK hc i pins s σ H I he hi st hg
    subst hP hw hK
    obtain ⟨xs, hq, hx⟩ := hg
    obtain ⟨its, rv, p, hz⟩ := I.tuple hq
    have hl := rv.length
    refine ⟨[it, a], fun _ _ => True, fun j h => j = i ∧ h.IsTupleIter it a i ∧ h.IsTuple a its.toArray, ?_, rfl, st, p⟩
    exact { live := fun _ _ q => let ⟨o, ho, _⟩ := q.2.1; ⟨o, ho⟩
            frame := fun _ _ _ q hk => ⟨q.1, q.2.1.at fun o y => hk it (by simp) o y, q.2.2.at fun o y => hk a (by simp) o y⟩
            item := fun j s Q E hj q hQ => absurd q.1 (Nat.ne_of_lt hj)
            done := fun s Q E q hE => wpAny_nextOf_tuple_end (I.ok.hd hc) q.2.1 q.2.2 (by simp; omega) hE }
theorem turn_enS {P : Program} {w : World} {K : PySem.W.Frag} {elts : List Expr} {kk : Nat} {tpos : Pos} (z : Str) (t : Tok) (e it : Addr) (hne : e ≠ it) :
    Turn P w K (.Tuple elts kk tpos) (IteS z) [e, it] e (fun i h => (∃ old, IsEnum h e it ((i : Nat) : Int) old) ∧ h.IsStrIter it (strIterType z) z t i) := by
  refine turn_en (IteS z) e it (fun i h => h.IsStrIter it (strIterType z) z t i) hne (fun i h st => ?_) (fun i h h' st k => ?_) ?_ ?_
  · obtain ⟨o, ho, hc, hd⟩ := st
    exact ⟨o, ho, fun v q => by rw [hd] at q; cases q⟩
  · obtain ⟨o, ho, r⟩ := st
    exact ⟨o, k o ho, r⟩
  · intro X hP hw hK hc i pins s σ H I he hi st hg
    subst hP hw hK
    refine ⟨_, _, _, _, Draws.text (A := X.A.in1) (I.ok.hd hc) it z t, by simp [hne], fun _ _ q => q, st, hg, fun u hu => ?_⟩
    obtain ⟨c, u', h1, rfl⟩ := hu
    exact ⟨.str ⟨#[c]⟩, ⟨_, rfl⟩, fun T hT => ⟨T, c, rfl, hT, rfl, h1⟩⟩
  · intro X hP hw hK hc i pins s σ H I he hi st hg
    subst hP hw hK
    have hn : z.cps[i]? = none := Array.getElem?_eq_none hg
    refine ⟨[it], fun _ _ => True, fun j h => j = i ∧ h.IsStrIter it (strIterType z) z t i, ?_, rfl, st⟩
    exact { live := fun _ _ q => let ⟨o, ho, _⟩ := q.2; ⟨o, ho⟩
            frame := fun _ _ _ q hk => ⟨q.1, let ⟨o, ho, r⟩ := q.2; ⟨o, hk it (by simp) o ho, r⟩⟩
            item := fun j s Q E hj q hQ => absurd q.1 (Nat.ne_of_lt hj)
            done := fun s Q E q hE => by
              have q := q.2
              unfold strIterType at q
              split at q
              · exact wpAny_nextOf_ascii_end (I.ok.hd hc) q hn hE
              · exact wpAny_nextOf_wide_end (I.ok.hd hc) q hn hE }
/-- enumerate of a list, a tuple or a text -/
def iEnG (K : PySem.W.Frag) (ta : TA) : TI := fun σ H R => ta σ H fun vs H1 => (∃ a xs, vs = [.ref a] ∧ SqL K H1 a xs ∧ R (Ite K a) H1) ∨ (∃ a xs, vs = [.ref a] ∧ SqT K H1 a xs ∧ R (IteT K a) H1) ∨ ∃ z, vs = [.str z] ∧ R (IteS z) H1
theorem sqT_lt {X : Cx} {pins : List (Addr × Obj)} {σ : L2.St} {H : Hp} {s : Shared} {a : Addr} {xs : List V} (I : L2.Inv X pins σ H s) (h : SqT X.K H a xs) : a < s.heap.objs.size := by
  obtain ⟨its, rv, ⟨o, e, _⟩, hz⟩ := I.tuple h
  exact Heap.lt_size e
theorem boot_en : bootBuiltins "enumerate" = some (.type "enumerate") := by decide +kernel
theorem pi_enG {X : Cx} {e : Expr} {ta : TA} {p pos tpos : Pos} {elts : List Expr} {kk : Nat} (hg : Gl X "enumerate") (hm : X.mg "enumerate" = none) (ha : PA X [e] ta) (hs : starEach [e] X.env = [(false, eval e X.env)]) :
    PI X (.Tuple elts kk tpos) (.Call (.Name "enumerate" p) [e] [] pos) (iEnG X.K ta) := by
  refine ⟨fun pins s σ H R I h => ?_⟩
  refine PyProof.Rows.Call_ (ld_blt I hg hm boot_en (PyProof.Rows.callWith_type1 (thn (ha.run pos pins s σ H _ I h) fun us s1 ⟨vs, H1, I1, r1, q1⟩ => ?_) hs rfl))
  have fpk : ∀ {H2 : Hp}, (∀ b, s1.heap.objs.size ≤ b → H2 b = none) → ∀ b ∈ [s1.heap.objs.size + 1, s1.heap.objs.size], FpOk X pins H2 b := fun hn b hb => by
    have z : b = s1.heap.objs.size + 1 ∨ b = s1.heap.objs.size := by simpa using hb
    have hle : s1.heap.objs.size ≤ b := by
      rcases z with z | z
      · rw [z]; exact Nat.le_add_right _ _
      · rw [z]; exact Nat.le_refl _
    exact I1.fpOk hle (hn b hle)
  rcases q1 with ⟨a, xs, ex, hq, q⟩ | ⟨a, xs, ex, hq, q⟩ | ⟨z, ex, q⟩
  · subst ex
    cases r1 with
    | cons r rr =>
      cases rr
      cases r
      obtain ⟨its, rv, p', hz⟩ := I1.list hq
      refine call_enumerate_list p'.isList fun h' he hit hsz hk => wpAny_pyIter_enum he ?_
      have I2 : L2.Inv X pins σ H1 { s1 with heap := h' } := I1.kept (t' := s1.toks) hk
      exact ⟨s1.heap.objs.size + 1, [s1.heap.objs.size + 1, s1.heap.objs.size], _, _, H1, rfl, I2, turn_enum a (s1.heap.objs.size + 1) s1.heap.objs.size, ⟨⟨.none, he⟩, hit, Nat.succ_ne_self _⟩, fpk fun b hb => I1.hok.fresh hb, q⟩
  · subst ex
    cases r1 with
    | cons r rr =>
      cases rr
      cases r
      obtain ⟨its, rv, p', hz⟩ := I1.tuple hq
      have al := sqT_lt I1 hq
      refine en_begins (begins_tuple a its.toArray) p' fun g he hit hk => wpAny_pyIter_enum he ?_
      have I2 : L2.Inv X pins σ H1 { s1 with heap := g } := I1.kept (t' := s1.toks) hk
      exact ⟨s1.heap.objs.size + 1, [s1.heap.objs.size + 1, s1.heap.objs.size], _, _, H1, rfl, I2, turn_enT a (s1.heap.objs.size + 1) s1.heap.objs.size (Nat.succ_ne_self _) (Nat.ne_of_gt (Nat.lt_succ_of_lt al)) (Nat.ne_of_lt al), ⟨⟨.none, he⟩, ⟨_, hit, rfl, rfl⟩⟩, fpk fun b hb => I1.hok.fresh hb, q⟩
  · subst ex
    cases r1 with
    | cons r rr =>
      cases rr
      obtain ⟨t, rfl⟩ := r
      refine en_begins (begins_text z t) trivial fun g he hit hk => wpAny_pyIter_enum he ?_
      have I2 : L2.Inv X pins σ H1 { s1 with heap := g } := I1.kept (t' := s1.toks) hk
      exact ⟨s1.heap.objs.size + 1, [s1.heap.objs.size + 1, s1.heap.objs.size], _, _, H1, rfl, I2, turn_enS z t (s1.heap.objs.size + 1) s1.heap.objs.size (Nat.succ_ne_self _), ⟨⟨.none, he⟩, ⟨_, hit, rfl, rfl⟩⟩, fpk fun b hb => I1.hok.fresh hb, q⟩
end Itp
set_option Elab.async false
set_option linter.all false
set_option maxRecDepth 100000
set_option maxHeartbeats 4000000
namespace Itp
open PySem L2 PySem.Spec PySem.W PyProof.Rows
/-! ### for (a, b), n in d.items(), d of tuple keys -/
section
variable {X : Cx} {pins : List (Addr × Obj)} {σ : L2.St} {H : Hp} {s : Shared} {d : Addr} {o : Obj}
theorem frzTv {kvs : List (List L2.Key × V)} (I : Inv X pins σ H s) (h : H d = some (.frz o (.dT kvs))) :
    (d == sysModules) = false ∧ s.heap.get? d = some o ∧ o.ExactDict ∧ ∃ (es : Array DictEntry) (ep : Nat), o.data = .dict es ep ∧ es.size = kvs.length ∧
      ∀ (i : Nat) (k : List L2.Key) (v : V), kvs[i]? = some (k, v) → ∃ (en : DictEntry) (q : Addr), es[i]? = some en ∧ en.key = .ref q ∧ H q = some (.tup (k.map kV)) ∧ RelV v en.val := by
  obtain ⟨hd, z, hs, xs, pr, o', es, ep, ho, hx, hdt, he, _⟩ := I.hok d _ h
  rw [hd] at ho
  cases ho
  refine ⟨hs, hd, hx, es, ep, hdt, ?_, fun i k v e => ?_⟩
  · have l1 : es.size = xs.length := size_of_entries he
    have l2 : kvs.length = xs.length := Paired.length pr
    omega
  · obtain ⟨b, hb, e1, e2, e3⟩ := paired_get pr e
    have q := entry_at he i
    rw [hb] at q
    exact ⟨_, b.2.1, q, rfl, e2, e3⟩
end
/-- the items of the locked dict at d: a new tuple of a key's own tuple and its value -/
def ItiT (d : Addr) (o : Obj) (kvs : List (List L2.Key × V)) : It :=
  ⟨fun i H => H d = some (.frz o (.dT kvs)) ∧ i < kvs.length, fun i H x H' => ∃ T k v q, kvs[i]? = some (k, v) ∧ x = .ref T ∧ H T = none ∧ H q = some (.tup (k.map kV)) ∧ H' = upd H T (.tup [.ref q, v]), fun i H => H d = some (.frz o (.dT kvs)) ∧ kvs.length ≤ i⟩
section
variable {P : Program} {w : World} {K : PySem.W.Frag} {d : Addr} {o : Obj} {es : Array DictEntry} {ep : Nat}
theorem turn_itemsT {kvs : List (List L2.Key × V)} {elts : List Expr} {kk : Nat} {tpos : Pos} (it : Addr) (hod : o.data = .dict es ep) :
    Turn P w K (.Tuple elts kk tpos) (ItiT d o kvs) [it] it (fun i h => ∃ ok ov, IsItemIter h it d i kvs.length ep ok ov) where
  mem := by simp
  obj := fun i h st b hb => by
    have e : b = it := by simpa using hb
    subst e
    obtain ⟨ok, ov, e⟩ := st
    exact ⟨_, e, fun v z => nomatch z⟩
  keep := fun i h h' st k => let ⟨ok, ov, e⟩ := st; ⟨ok, ov, k it (by simp) _ e⟩
  item := by
    intro X hP hw hK hc i pins s σ H E I hf st hg
    subst hP hw hK
    obtain ⟨hd, hi⟩ := hg
    obtain ⟨hs, hgd, hx, es', ep', hdt, hsz, ent⟩ := frzTv I hd
    obtain ⟨rfl, rfl⟩ := dict_ep hod hdt
    obtain ⟨⟨k, v⟩, hkv⟩ : ∃ p, kvs[i]? = some p := ⟨kvs[i], List.getElem?_eq_getElem hi⟩
    obtain ⟨en, q, hen, hkey, hq, hv⟩ := ent i k v hkv
    obtain ⟨ok, ov, he⟩ := st
    rw [← hsz] at he
    have hlt : it < s.heap.objs.size := Heap.lt_size he
    have hil : i < es'.size := by omega
    have een : es'[i] = en := by rw [Array.getElem?_eq_getElem hil] at hen; exact Option.some.inj hen
    refine wpAny_pyNext_items_item_raw he ⟨_, hgd, hx, hdt⟩ hil fun h' ho hT hz hk => ?_
    rw [een] at ho hT
    refine ⟨_, rfl, wpAny_letOwnedTupleGo_items (s := { s with heap := h' }) ho fun h'' he' sb => ?_⟩
    have hT2 : h''.get? s.heap.objs.size = some { cls := .type "tuple", data := .seq #[en.key, en.val] } := (sb.2 _ (Nat.ne_of_gt hlt)).trans hT
    have new : ObjOk X.prog X.w (upd H s.heap.objs.size (.tup [.ref q, v])) h'' s.heap.objs.size (.tup [.ref q, v]) :=
      ⟨by show 2 ≤ sizeLine; decide, [en.key, en.val], .cons hkey (.cons hv .nil), ⟨_, hT2, rfl, _, rfl⟩⟩
    have I1 : Inv X pins σ (upd H s.heap.objs.size (.tup [.ref q, v])) { s with heap := h'' } :=
      I.turnedNew (t' := s.toks) (ch := [it]) (fun b ob hb e => (sb.2 b (by simpa using hb)).trans (hk b ob (by simpa using hb) e)) hf (Nat.le_refl _) new
    refine ⟨.ref s.heap.objs.size, _, I1, rfl, ⟨_, k, v, q, hkv, rfl, I.hok.fresh (Nat.le_refl _), hq, rfl⟩, ⟨en.key, en.val, ?_⟩, fun b hb => ?_⟩
    · rw [← hsz]; exact he'
    · have e : b = it := by simpa using hb
      rw [e, upd_ne (Nat.ne_of_lt hlt)]
      exact (hf it (by simp)).1
  done := by
    intro X hP hw hK hc i pins s σ H E I hf st hg
    subst hP hw hK
    obtain ⟨hd, hi⟩ := hg
    obtain ⟨f0, f1, f2, f3, f4, f5⟩ := hf it (by simp)
    obtain ⟨hs, hgd, hx, es', ep', hdt, hsz, ent⟩ := frzTv I hd
    obtain ⟨rfl, rfl⟩ := dict_ep hod hdt
    obtain ⟨ok, ov, he⟩ := st
    rw [← hsz] at he
    exact wpAny_pyNext_items_end_raw (I.ok.hd hc) he ⟨_, hgd, hx, hdt⟩ (by omega) fun h' eb => ⟨rfl, I.turned (t' := s.toks) (fun b ob hb e => eb b ob hb e) f0 f1 f3 f4 f5⟩
  self := fun A i s Q E st h => let ⟨_, _, e⟩ := st; PySem.W.kcp_self e h
end
def iItemsT (td : TE) : TI := fun σ H R => td σ H fun x H1 => ∃ d o kvs, x = .ref d ∧ H1 d = some (.frz o (.dT kvs)) ∧ R (ItiT d o kvs) H1
section
variable {X : Cx} {e : Expr} {td : TE} {apos cpos : Pos}
theorem pi_itemsT {elts : List Expr} {kk : Nat} {tpos : Pos} (he : PE X e td) (hbase : attributeBase e "items" X.env (eval e X.env) = eval e X.env := by rfl) (hline : (apos.endLine == cpos.line) = true := by rfl) :
    PI X (.Tuple elts kk tpos) (.Call (.Attribute e "items" apos) [] [] cpos) (iItemsT td) := by
  refine ⟨fun pins s σ H R I h => ?_⟩
  refine wpAny_Call_method (T := "dict") (id := "dict.items") hbase rfl hline F.plainAttrs_dict F.slot_dict_items F.type_dict_items (thn (he.run pins s σ H _ I h) fun u s1 ⟨x, H1, I1, rx, d, o, kvs, ex, hd, q⟩ => ?_)
  subst ex
  obtain rfl : u = Value.ref d := rx
  obtain ⟨hs, hgd, hx, es, ep, hdt, hsz, ent⟩ := frzTv I1 hd
  have dty : s1.TypeIs (.ref d) "dict" := ⟨o, hgd, hx.1⟩
  refine ⟨dty, fun a e => by cases e; exact ⟨o, hgd, hx.2.1⟩, ?_⟩
  have I2 : Inv X pins σ H1 { s1 with heap := s1.heap.push { cls := .type "dict_items", data := .fields #[.ref d] } } := I1.kept (t' := s1.toks) fun b ob q => Heap.get?_push_of_some _ q
  have raw : s1.heap.DictRaw d es ep := ⟨_, hgd, hx, hdt⟩
  have fin : wpAny (model X.prog X.w) X.A (pyIter (.ref s1.heap.objs.size)) (PIE X pins σ (.Tuple elts kk tpos) R) X.xe { s1 with heap := s1.heap.push { cls := .type "dict_items", data := .fields #[.ref d] } } := by
    refine wpAny_pyIter_items_raw (d := d) ⟨_, Heap.get?_push_size _ rfl, rfl, rfl⟩ ⟨_, Heap.get?_push_of_some _ hgd, hx, hdt⟩ (pi_one (tk := s1.toks) I2 _ (turn_itemsT _ hdt) ⟨.none, .none, ?_⟩ q)
    rw [← hsz]
    exact Heap.get?_push_size _ rfl
  show wpAny _ _ (callWith cpos (.builtin "dict.items") [.ref d] [] []) _ X.xe s1
  exact method_meetsIn F.slot_dict_items F.entry_dict_items rfl (PySem.evalArgs_none ⟨rfl, dty, F.args_dict_items_1 _, _, meets_dict_items_raw d hs, ⟨es, ep, raw⟩, fin⟩)
end
/-! ### min of a list of data -/
theorem vals_idx : ∀ {vs : List V} {us : List Value}, Vals vs us → ∀ {i : Nat} {u : Value}, us[i]? = some u → ∃ v, vs[i]? = some v ∧ RelV v u
  | _, _, .nil, i, u, h => by simp at h
  | _, _, .cons r t, i, u, h => by
    cases i with
    | zero => simp at h; subst h; exact ⟨_, rfl, r⟩
    | succ i => exact vals_idx t (by simpa using h)
theorem cr_minData {X : Cx} (hc : X.calm = true) (hu : X.A.units + 66 < cLine) : CallR X (.builtin "min") (fun (vs : List V) (H : Hp) (Q : VK) => ∃ (a : Addr) (xs : List V) (d : PyData) (ds : List PyData), vs = [V.ref a] ∧ SqL X.K H a xs ∧ DpAll X.K H xs (d :: ds) ∧ AlikeAll (d :: ds) ∧ PyData.depthAll (d :: ds) ≤ 64 ∧ ∀ (i : Nat) (y : V), xs[i]? = some y → (d :: ds)[i]? = some (minD d ds) → Q y H) := by
  intro pins s σ H vs us Q I r h
  obtain ⟨a, xs, d, ds, rfl, hs, ha, al, hd, q⟩ := h
  obtain ⟨its, rv, hl, _⟩ := I.list hs
  rw [Vals.ref1 r]
  obtain ⟨as, hr⟩ := Dp.readsAll I _ _ its ha rv
  have hr' : ReadsAll s.heap its.toArray.toList (d :: ds) as := by simpa using hr
  refine min_list_data (I.ok.hd hc) hl.isList hr' al (by omega) fun i v h' tk bs hv hrd hk => ?_
  have hv' : its[i]? = some v := by simpa using hv
  obtain ⟨y, hy, ry⟩ := vals_idx rv hv'
  refine ⟨y, H, I.kept hk, ry, q i y hy ?_⟩
  obtain ⟨bs', r2, hlen, _, _⟩ := readsAll_at hr i v hv'
  have e := (reads_det (fun b o hb _ => hk b o hb) r2 hrd).1
  rw [List.getElem?_eq_getElem hlen, e]
  simp [List.getD_eq_getElem?_getD, List.getElem?_eq_getElem hlen]
end Itp
namespace Itp
open PySem L2 PySem.Spec PySem.W PyProof.Rows
/-! ### sorted(d), the keys texts; sorted(xs) of texts, of any length -/
def strLe (a b : Str) : Bool := decide (a.cps.toList ≤ b.cps.toList)
theorem each_strs {h : Heap} {a : Addr} : ∀ {us : List Value} {ks : List Str}, StrsAre us ks → PySem.W.EachIs (fun v z => ∃ t, v = Value.str z t) us ks ∧ PySem.W.EachIs (fun v z => ∃ as, Reads h v (PyData.str z) as ∧ a ∉ as) us ks
  | _, _, .nil => ⟨.nil, .nil⟩
  | _, _, .cons x t r => by
    obtain ⟨h1, h2⟩ := each_strs (h := h) (a := a) r
    exact ⟨.cons ⟨t, rfl⟩ h1, .cons ⟨[], Reads.str x t, by simp⟩ h2⟩
theorem strs_each : ∀ {us : List Value} {ks : List Str}, PySem.W.EachIs (fun v z => ∃ t, v = Value.str z t) us ks → StrsAre us ks
  | _, _, .nil => .nil
  | _, _, .cons r t => by
    obtain ⟨k, rfl⟩ := r
    exact .cons _ _ (strs_each t)
theorem cr_sortedDS {X : Cx} (hcalm : X.calm = true) (hu : X.A.units + 66 < cLine) : CallR X (.builtin "sorted") (fun xs H Q => ∃ (a : Addr) (kvs : List (L2.Key × V)) (ks : List Str), xs = [.ref a] ∧ Rd H a (.dK kvs) ∧ kvs.map (·.1) = ks.map Sum.inr ∧
    ∀ p, H p = none → Q (.ref p) (upd H p (.lst ((ks.mergeSort strLe).map V.str)))) := by
  intro pins s σ H xs us Q I r q
  obtain ⟨a, kvs, ks, ex, hd, hks, q⟩ := q
  subst ex
  obtain ⟨u, eu, rx⟩ := vals1 r
  subst eu
  cases rx
  obtain ⟨z, lo, vs, rel, dd⟩ := dk_rd I.hok hd
  obtain ⟨ep, hat⟩ := dd.dictAt
  have hkeys : vs.map (·.1) = ks.map Sum.inr := rel.keys.symm.trans hks
  have hl : vs.length = ks.length := by
    have e := congrArg List.length hkeys
    rw [List.length_map, List.length_map] at e
    exact e
  have h16 : vs.length ≤ sizeLine := by rw [← rel.length]; exact z
  refine Calls.call_function_entry PyProof.Rows.kind_sorted PyProof.Rows.plain_sorted PyProof.Rows.entry_sorted (PyProof.Rows.args_sorted1 _) ?_
  unfold Builtin.«sorted»
  refine wpAny_bind (m := checkCount "sorted" 1 1 _) (wpAny_pure ?_)
  refine wpAny_bind (PySem.W.kdu_collect (A := X.A.in1) (PySem.W.kdl_dict (knd := mixKind X.prog X.w) (kvs := vs) (ep := ep) lo) (I.ok.hd hcalm) hat h16 fun h' tk acc hk hacc => ?_)
  have hal : acc.toList.length = ks.length := by rw [Array.length_toList, hacc.1, hl]
  have hS : StrsAre acc.toList ks := strs_at hal fun j v e => by
    obtain ⟨k, x, e1, e2⟩ := hacc.2 j v (by rw [← Array.getElem?_toList]; exact e)
    have e3 : (vs.map (·.1))[j]? = some k := by rw [List.getElem?_map, e1]; all_goals rfl
    rw [hkeys, List.getElem?_map] at e3
    cases e4 : ks[j]? with
    | none => rw [e4] at e3; cases e3
    | some y =>
      rw [e4] at e3
      have e5 : Sum.inr y = k := Option.some.inj e3
      subst e5
      obtain ⟨t, ev⟩ := Value.isStrOf_shape (x := y) (v := v) e2
      exact ⟨y, t, rfl, ev⟩
  have I1 : Inv X pins σ H { s with heap := h', toks := tk } := I.kept hk
  refine wpAny_bind (wpAny_newList ?_ (by rw [hal, ← hl]; exact h16))
  have hoL : (h'.push (seqObj "list" acc.toList.toArray 0)).get? h'.objs.size = some (seqObj "list" acc.toList.toArray 0) := Heap.get?_push_size _ rfl
  show wpAny _ _ _ _ _ { s with heap := h'.push (seqObj "list" acc.toList.toArray 0), toks := tk }
  obtain ⟨ea, eb⟩ := each_strs (h := h'.push (seqObj "list" acc.toList.toArray 0)) (a := h'.objs.size) hS
  refine wpAny_bind (wpAny_holding (list_sort_data (s := { s with heap := h'.push (seqObj "list" acc.toList.toArray 0), toks := tk }) (enc := PyData.str) hoL ea eb (AllAlike.of fun b b' => by simp [alike]) (Sortable.others fun b => ⟨(fun e => by cases e), fun xs e => by cases e⟩) (by rw [← hl]; exact h16) (fun b _ => ?_) fun out ho eo => ?_))
  · show X.A.units + 1 + 1 + 0 < cLine
    omega
  · have g1 : StrsAre out (ks.mergeSort strLe) := strs_each (by rw [dataLe_str (fun z => z)] at eo; exact eo)
    obtain ⟨e', he'⟩ := PyProof.Rows.sortedHeap_at (vs := acc.toList) (out := List.toArray out) hoL
    have hlen : ((ks.mergeSort strLe).map V.str).length ≤ sizeLine := by
      rw [List.length_map, List.length_mergeSort, ← hl]
      exact h16
    refine wpAny_pure ⟨_, rfl, .ref h'.objs.size, upd H h'.objs.size (.lst ((ks.mergeSort strLe).map V.str)), I1.laid (t' := tk) (fun b u e => ?_) (Nat.le_refl _)
      (show ObjOk X.prog X.w _ _ _ (.lst ((ks.mergeSort strLe).map V.str)) from ⟨hlen, out, e', vals_of_strs g1, he'⟩), rfl, q _ (I1.hok.fresh (Nat.le_refl _))⟩
    have hb : b < h'.objs.size := Heap.lt_size e
    rw [PyProof.Rows.sortedHeap_old (Nat.ne_of_lt hb) (by rw [size_push']; exact Nat.lt_succ_of_lt hb)]
    exact Heap.get?_push_of_some _ e
theorem cr_sortedLS {X : Cx} (hu : X.A.units + 66 < cLine) : CallR X (.builtin "sorted") (fun vs H Q => ∃ (a : Addr) (xs : List Str), vs = [V.ref a] ∧ SqL X.K H a (xs.map V.str) ∧
    ∀ p, H p = none → Q (.ref p) (upd H p (.lst ((xs.mergeSort strLe).map V.str)))) := by
  intro pins s σ H vs us Q I r h
  obtain ⟨a, xs, rfl, hs, q⟩ := h
  obtain ⟨its, rv, hl, hz⟩ := I.list hs
  rw [Vals.ref1 r]
  rw [List.length_map] at hz
  obtain ⟨ea, eb⟩ := each_strs (h := s.heap) (a := 0) rv.strs
  refine sorted_data (enc := PyData.str) hl.isList ea (eb.mono fun v b ⟨as, h1, _⟩ => ⟨as, h1⟩) (AllAlike.of fun b b' => by simp [alike]) (Sortable.others fun b => ⟨(fun e => by cases e), fun xs e => by cases e⟩) hz (fun b _ => ?_) fun out ho eo => ?_
  · show X.A.units + 2 + 0 < cLine
    omega
  · have g1 : StrsAre out (xs.mergeSort strLe) := strs_each (by rw [dataLe_str (fun z => z)] at eo; exact eo)
    obtain ⟨ep, he'⟩ := PyProof.Rows.sortedAll_at s.heap its (List.toArray out)
    have hlen : ((xs.mergeSort strLe).map V.str).length ≤ sizeLine := by rw [List.length_map, List.length_mergeSort]; exact hz
    exact ⟨.ref _, upd H (s.heap.objs.size + 1) (.lst ((xs.mergeSort strLe).map V.str)), I.laid (t' := s.toks) (fun _ _ => PyProof.Rows.sortedAll_old) (Nat.le_succ _) ⟨hlen, out, ep, vals_of_strs g1, he'⟩, rfl, q _ (I.hok.fresh (Nat.le_succ _))⟩
end Itp
set_option Elab.async false
set_option linter.all false
set_option maxRecDepth 100000
namespace Itp
open PySem L2
/-- the world of a row: what is written, where the defs and the error classes stand -/
structure Wd where
  K : PySem.W.Frag
  fa : Nat → Option Addr
  ca : Nat → Option Addr
def Ex (H H' : Hp) : Prop := ∀ a o, H a = some o → H' a = some o
theorem Ex.refl (H : Hp) : Ex H H := fun _ _ h => h
theorem Ex.trans {H H1 H2 : Hp} (a : Ex H H1) (b : Ex H1 H2) : Ex H H2 := fun x o h => b x o (a x o h)
theorem Ex.new {H : Hp} {p : Addr} {o : HO} (h : H p = none) : Ex H (upd H p o) := fun a u e => by
  rw [upd_ne (ne_of_none e h)]
  exact e
theorem ex_rd {H H' : Hp} {a : Addr} {u : HO} (e : Ex H H') (h : Rd H a u) : Rd H' a u := by
  rcases h with h | ⟨o, h⟩
  · exact Or.inl (e a _ h)
  · exact Or.inr ⟨o, e a _ h⟩
theorem ex_l {K : PySem.W.Frag} {H H' : Hp} {a : Addr} {xs : List V} (e : Ex H H') (h : SqL K H a xs) : SqL K H' a xs := by
  rcases h with h | h
  · exact Or.inl (ex_rd e h)
  · exact Or.inr h
theorem ex_t {K : PySem.W.Frag} {H H' : Hp} {a : Addr} {xs : List V} (e : Ex H H') (h : SqT K H a xs) : SqT K H' a xs := by
  rcases h with h | h
  · exact Or.inl (ex_rd e h)
  · exact Or.inr h
/-- the datum of a dict's key -/
def keyD : Key → D
  | .inl i => .int i
  | .inr x => .str x.cps.toList
/-- the object of a dict -/
def dObj : Bool → HO → List (D × V) → Prop
  | false, u, l => ∃ m : List (Key × V), u = .dK m ∧ l = m.map fun p => (keyD p.1, p.2)
  | true, u, l => ∃ m : List (List Key × V), u = .dT m ∧ l = m.map fun p => (.tup (p.1.map keyD), p.2)
theorem dObj.mut {t : Bool} {u : HO} {l : List (D × V)} (h : dObj t u l) : Mut (some u) := by
  cases t with
  | false => obtain ⟨m, rfl, _⟩ := h; trivial
  | true => obtain ⟨m, rfl, _⟩ := h; trivial
mutual
def Rep (W : Wd) (G : Hp) : D → V → Prop
  | .non, v => v = .non
  | .bl b, v => v = .bl b
  | .int i, v => v = .int i
  | .str s, v => v = .str ⟨s.toArray⟩
  | .tup ds, v => ∃ a vs, v = .ref a ∧ G a = some (.tup vs) ∧ Reps W G ds vs
  | .lst ds, v => ∃ a vs, v = .ref a ∧ G a = some (.lst vs) ∧ Reps W G ds vs
  | .dct t kvs, v => ∃ a o u l, v = .ref a ∧ G a = some (.frz o u) ∧ dObj t u l ∧ RepK W G kvs l
  | .fn n, v => ∃ a, W.fa n = some a ∧ v = .ref a
  | .scr ns, v => ∃ a, v = .ref a ∧ SqL W.K G a (ns.map V.int)
  | .ftp ds, v => ∃ (a : Addr) (o : Obj) (vs : List V), v = .ref a ∧ o.dict = none ∧ G a = some (.frz o (.tup vs)) ∧ Reps W G ds vs
def Reps (W : Wd) (G : Hp) : List D → List V → Prop
  | [], vs => vs = []
  | d :: ds, vs => ∃ v r, vs = v :: r ∧ Rep W G d v ∧ Reps W G ds r
def RepK (W : Wd) (G : Hp) : List (D × D) → List (D × V) → Prop
  | [], l => l = []
  | (k, d) :: ds, l => ∃ v r, l = (k, v) :: r ∧ Rep W G d v ∧ RepK W G ds r
end
mutual
theorem Rep.mono {W : Wd} {G G' : Hp} (x : Ex G G') : ∀ (d : D) (v : V), Rep W G d v → Rep W G' d v
  | .non, _, h => by simpa only [Rep] using h
  | .bl _, _, h => by simpa only [Rep] using h
  | .int _, _, h => by simpa only [Rep] using h
  | .str _, _, h => by simpa only [Rep] using h
  | .tup ds, _, h => by
    simp only [Rep] at h ⊢
    obtain ⟨a, vs, e, h1, h2⟩ := h
    exact ⟨a, vs, e, x _ _ h1, Reps.mono x ds vs h2⟩
  | .lst ds, _, h => by
    simp only [Rep] at h ⊢
    obtain ⟨a, vs, e, h1, h2⟩ := h
    exact ⟨a, vs, e, x _ _ h1, Reps.mono x ds vs h2⟩
  | .dct t kvs, _, h => by
    simp only [Rep] at h ⊢
    obtain ⟨a, o, u, l, e, h1, h2, h3⟩ := h
    exact ⟨a, o, u, l, e, x _ _ h1, h2, RepK.mono x kvs _ h3⟩
  | .fn _, _, h => by simpa only [Rep] using h
  | .scr _, _, h => by
    simp only [Rep] at h ⊢
    obtain ⟨a, e, h1⟩ := h
    exact ⟨a, e, ex_l x h1⟩
  | .ftp ds, _, h => by
    simp only [Rep] at h ⊢
    obtain ⟨a, o, vs, e, e2, h1, h2⟩ := h
    exact ⟨a, o, vs, e, e2, x _ _ h1, Reps.mono x ds vs h2⟩
theorem Reps.mono {W : Wd} {G G' : Hp} (x : Ex G G') : ∀ (ds : List D) (vs : List V), Reps W G ds vs → Reps W G' ds vs
  | [], _, h => by simpa only [Reps] using h
  | d :: ds, _, h => by
    simp only [Reps] at h ⊢
    obtain ⟨v, r, e, h1, h2⟩ := h
    exact ⟨v, r, e, Rep.mono x d v h1, Reps.mono x ds r h2⟩
theorem RepK.mono {W : Wd} {G G' : Hp} (x : Ex G G') : ∀ (ds : List (D × D)) (l : List (D × V)), RepK W G ds l → RepK W G' ds l
  | [], _, h => by simpa only [RepK] using h
  | (k, d) :: ds, _, h => by
    simp only [RepK] at h ⊢
    obtain ⟨v, r, e, h1, h2⟩ := h
    exact ⟨v, r, e, Rep.mono x d v h1, RepK.mono x ds r h2⟩
end
/-- what stands at the address of a mutable thing -/
def Cont (W : Wd) (G H : Hp) (a : Addr) : D → Prop
  | .lst ds => ∃ vs, H a = some (.lst vs) ∧ Reps W G ds vs
  | .dct t kvs => ∃ u l, H a = some u ∧ dObj t u l ∧ RepK W G kvs l
  | _ => False
theorem Cont.some {W : Wd} {G H : Hp} {a : Addr} {d : D} (h : Cont W G H a d) : ∃ o, H a = some o := by
  cases d with
  | lst ds => obtain ⟨vs, e, _⟩ := h; exact ⟨_, e⟩
  | dct t kvs => obtain ⟨u, l, e, _⟩ := h; exact ⟨_, e⟩
  | _ => exact h.elim
theorem Cont.mono {W : Wd} {G G' H H' : Hp} {a : Addr} {d : D} (h : Cont W G H a d) (x : Ex G G') (e : ∀ o, H a = .some o → H' a = .some o) : Cont W G' H' a d := by
  cases d with
  | lst ds => obtain ⟨vs, q, r⟩ := h; exact ⟨vs, e _ q, Reps.mono x _ _ r⟩
  | dct t kvs =>
    obtain ⟨u, l, q, r1, r2⟩ := h
    exact ⟨u, l, e _ q, r1, RepK.mono x _ _ r2⟩
  | _ => exact h.elim
/-- how a thing stands when it is let be: a dict is locked -/
def lockO : D → Obj → HO → HO
  | .dct _ _, o, u => .frz o u
  | _, _, u => u
/-- a mutable thing is let be -/
theorem Cont.rep {W : Wd} {G H : Hp} {a : Addr} {d : D} {o : Obj} (h : Cont W G H a d) (e : ∀ u, H a = .some u → G a = .some (lockO d o u)) : Rep W G d (.ref a) := by
  cases d with
  | lst ds => obtain ⟨vs, q, r⟩ := h; simp only [Rep]; exact ⟨a, vs, rfl, e _ q, r⟩
  | dct t kvs =>
    simp only [Rep]
    obtain ⟨u, l, q, r1, r2⟩ := h
    exact ⟨a, o, u, l, rfl, e _ q, r1, r2⟩
  | _ => exact h.elim
theorem Cont.mut {W : Wd} {G H : Hp} {a : Addr} {d : D} {u : HO} (h : Cont W G H a d) (e : H a = .some u) (n : ∃ t kvs, d = .dct t kvs) : Mut (Option.some u) := by
  obtain ⟨t, kvs, rfl⟩ := n
  obtain ⟨u', l, q, r1, r2⟩ := h
  rw [e] at q
  cases q
  exact r1.mut
def OwnA (σ : St) (e : Env) (a : Addr) : Prop := ∃ i, (slot e i).isMut = true ∧ σ[i]? = some (some (.ref a))
structure Keep (S : Addr → Prop) (G H : Hp) (S' : Addr → Prop) (G' H' : Hp) : Prop where
  gg : Ex G G'
  gh : Ex G' H'
  hh : ∀ a o, H a = some o → ¬ S a → H' a = some o
  hg : ∀ a o, H a = some o → Mut (some o) → ¬ S a → G a = none → G' a = none
  ss : ∀ a, S' a → S a ∨ H a = none
theorem Keep.refl {S : Addr → Prop} {G H : Hp} (x : Ex G H) : Keep S G H S G H := ⟨Ex.refl G, x, fun _ _ h _ => h, fun _ _ _ _ _ h => h, fun _ h => .inl h⟩
theorem Keep.back {S S' : Addr → Prop} {G H G' H' : Hp} (k : Keep S G H S' G' H') {a : Addr} (h : H' a = none) : S a ∨ H a = none := by
  by_cases hs : S a
  · exact .inl hs
  · cases e : H a with
    | none => exact .inr rfl
    | some o => rw [k.hh a o e hs] at h; cases h
theorem Keep.trans {S S1 S2 : Addr → Prop} {G H G1 H1 G2 H2 : Hp} (k : Keep S G H S1 G1 H1) (l : Keep S1 G1 H1 S2 G2 H2) : Keep S G H S2 G2 H2 where
  gg := k.gg.trans l.gg
  gh := l.gh
  hh := fun a o h n => l.hh a o (k.hh a o h n) fun s => by
    rcases k.ss a s with q | q
    · exact n q
    · rw [h] at q; cases q
  hg := fun a o h mu n g => l.hg a o (k.hh a o h n) mu (fun s => by
    rcases k.ss a s with q | q
    · exact n q
    · rw [h] at q; cases q) (k.hg a o h mu n g)
  ss := fun a s => by
    rcases l.ss a s with q | q
    · exact k.ss a q
    · exact k.back q
theorem Keep.fresh {S S1 : Addr → Prop} {G H G1 H1 : Hp} (k : Keep S G H S1 G1 H1) {a : Addr} (h : S1 a ∨ H1 a = none) : S a ∨ H a = none := by
  rcases h with h | h
  · exact k.ss a h
  · exact k.back h
def SlotOk (W : Wd) (G H : Hp) (σ : St) (i : Nat) : Slot → Prop
  | .un => True
  | .val d => ∃ v, σ[i]? = some (some v) ∧ Rep W G d v
  | .own d => ∃ a, σ[i]? = some (some (.ref a)) ∧ G a = none ∧ Cont W G H a d
  | .par d => ∃ a, σ[i]? = some (some (.ref a)) ∧ G a = none ∧ Cont W G H a d
structure StOk (W : Wd) (G H : Hp) (σ : St) (e : Env) : Prop where
  gh : Ex G H
  len : e.length = σ.length
  sl : ∀ i, SlotOk W G H σ i (slot e i)
  inj : ∀ i j a, i ≠ j → (slot e i).isMut = true → (slot e j).isMut = true → σ[i]? = some (some (.ref a)) → σ[j]? ≠ some (some (.ref a))
/-- the result of an expression: let be, or new and one's own -/
def ResOk (W : Wd) (S : Addr → Prop) (H : Hp) (S' : Addr → Prop) (G' H' : Hp) : Res → V → Prop
  | .val d, v => Rep W G' d v
  | .new d, v => ∃ a, v = .ref a ∧ G' a = none ∧ Cont W G' H' a d ∧ ¬ S' a ∧ (S a ∨ H a = none)
def fldsOk (W : Wd) (G : Hp) : List (Str × D) → List (Str × V) → Prop
  | [], _ => True
  | (f, d) :: r, l => (∃ v, l.lookup f = some v ∧ Rep W G d v) ∧ fldsOk W G r l
/-- an exception: its class, its dict -/
def XOk (W : Wd) (G' H' : Hp) (x : Xc) (c : Value) (d : Option Addr) : Prop :=
  ∃ C, W.ca x.cls = some C ∧ c = .ref C ∧ ((x.fs = [] ∧ d = none) ∨ ∃ dx l, d = some dx ∧ H' dx = some (.xd l) ∧ fldsOk W G' x.fs l)
/-! ### what is wanted behind a piece -/
def Aft {α β : Type} (W : Wd) (R : (Addr → Prop) → Hp → (Addr → Prop) → Hp → Hp → α → β → Prop) (σ : St) (S : Addr → Prop) (G H : Hp) (Q : β → Hp → Prop) (Wx : WX) : Rs α → Prop
  | .no => False
  | .ok r e' => ∀ v G' H', Keep S G H (OwnA σ e') G' H' → StOk W G' H' σ e' → R S H (OwnA σ e') G' H' r v → Q v H'
  | .ex x e' => ∀ c d G' H', Keep S G H (OwnA σ e') G' H' → StOk W G' H' σ e' → XOk W G' H' x c d → Wx c d σ H'
/-- relations that bear a further step ahead -/
def Bears {α β : Type} (R : (Addr → Prop) → Hp → (Addr → Prop) → Hp → Hp → α → β → Prop) : Prop :=
  ∀ (S S1 S' : Addr → Prop) (H H1 G' H' : Hp) (r : α) (v : β), (∀ a, (S1 a ∨ H1 a = none) → (S a ∨ H a = none)) → R S1 H1 S' G' H' r v → R S H S' G' H' r v
theorem ResOk.bears {W : Wd} : Bears (ResOk W) := fun S S1 S' H H1 G' H' r v f h => by
  cases r with
  | val d => exact h
  | new d => obtain ⟨a, h1, h2, h3, h4, h5⟩ := h; exact ⟨a, h1, h2, h3, h4, f a h5⟩
theorem Aft.step {α β : Type} {W : Wd} {R : (Addr → Prop) → Hp → (Addr → Prop) → Hp → Hp → α → β → Prop} (B : Bears R) {σ : St} {S S1 : Addr → Prop} {G H G1 H1 : Hp} {Q : β → Hp → Prop} {Wx : WX} {o : Rs α}
    (k : Keep S G H S1 G1 H1) (h : Aft W R σ S G H Q Wx o) : Aft W R σ S1 G1 H1 Q Wx o := by
  cases o with
  | no => exact h
  | ok r e' => exact fun v G' H' k' s r' => h v G' H' (k.trans k') s (B _ _ _ _ _ _ _ _ _ (fun a => k.fresh) r')
  | ex x e' => exact fun c d G' H' k' s r' => h c d G' H' (k.trans k') s r'
/-- the whole of what an expression can be run for -/
def WE (X : Cx) (e : Expr) : TE := fun σ H Q => ∀ (pins : List (Addr × Obj)) (s : Shared), Inv X pins σ H s → wpAny (model X.prog X.w) X.A (eval e X.env) (EP X pins σ Q) X.xe s
def WT (X : Cx) (e : Expr) : TT := fun σ H Q => ∀ (pins : List (Addr × Obj)) (s : Shared), Inv X pins σ H s → wpAny (model X.prog X.w) X.A (isTrue e X.env (eval e X.env)) (TP X pins σ Q) X.xe s
def WS (X : Cx) (st : Stmt) : TS := fun D σ H => ∀ (pins : List (Addr × Obj)) (s : Shared), Inv X pins σ H s → wpAny (model X.prog X.w) X.A (exec st X.env) (SP X pins D) X.xe s
def WSs (X : Cx) (st : List Stmt) : TS := fun D σ H => ∀ (pins : List (Addr × Obj)) (s : Shared), Inv X pins σ H s → wpAny (model X.prog X.w) X.A (execs st X.env) (SP X pins D) X.xe s
variable {X : Cx} {e : Expr} {σ : St} {H : Hp}
theorem peU : PE X e (WE X e) := ⟨fun pins s _ _ _ I h => h pins s I⟩
theorem ptU : PT X e (WT X e) := ⟨fun pins s _ _ _ I h => h pins s I⟩
theorem psU {st : Stmt} : PS X st (WS X st) := ⟨fun pins s _ _ _ I h => h pins s I⟩
theorem pssU {st : List Stmt} : PSs X st (WSs X st) := ⟨fun pins s _ _ _ I h => h pins s I⟩
theorem of_pe {t : TE} {Q : VK} (p : PE X e t) (h : t σ H Q) : WE X e σ H Q := fun pins s I => p.run pins s σ H Q I h
theorem of_pt {t : TT} {Q : Bool → Hp → Prop} (p : PT X e t) (h : t σ H Q) : WT X e σ H Q := fun pins s I => p.run pins s σ H Q I h
theorem of_ps {t : TS} {st : Stmt} {D : Ends} (p : PS X st t) (h : t D σ H) : WS X st D σ H := fun pins s I => p.run pins s σ H D I h
theorem of_pss {t : TS} {st : List Stmt} {D : Ends} (p : PSs X st t) (h : t D σ H) : WSs X st D σ H := fun pins s I => p.run pins s σ H D I h
def GoodE (X : Cx) (W : Wd) (Wx : WX) (e : Expr) (m : M Res) : Prop := ∀ (env : Env) (σ : St) (G H : Hp) (Q : VK), StOk W G H σ env → Aft W (ResOk W) σ (OwnA σ env) G H Q Wx (m env) → WE X e σ H Q
def DOk (W : Wd) (_ : Addr → Prop) (_ : Hp) (_ : Addr → Prop) (G' _ : Hp) : D → V → Prop := fun d v => Rep W G' d v
theorem DOk.bears {W : Wd} : Bears (DOk W) := fun _ _ _ _ _ _ _ _ _ _ h => h
def BOk (_ : Addr → Prop) (_ : Hp) (_ : Addr → Prop) (_ _ : Hp) : Bool → Bool → Prop := fun b c => c = b
theorem BOk.bears : Bears BOk := fun _ _ _ _ _ _ _ _ _ _ h => h
theorem isMut_own {s : Slot} (h : s.isMut = true) : ∃ d, (s = .own d ∨ s = .par d) := by
  cases s with
  | un => cases h
  | val d => cases h
  | own d => exact ⟨d, .inl rfl⟩
  | par d => exact ⟨d, .inr rfl⟩
theorem StOk.mut {W : Wd} {G H : Hp} {σ : St} {env : Env} (s : StOk W G H σ env) {i : Nat} (h : (slot env i).isMut = true) : ∃ d a, (slot env i).d? = some d ∧ σ[i]? = some (some (.ref a)) ∧ G a = none ∧ Cont W G H a d := by
  obtain ⟨d, e | e⟩ := isMut_own h
  · have q := s.sl i; rw [e] at q; obtain ⟨a, q1, q2, q3⟩ := q; exact ⟨d, a, by rw [e]; rfl, q1, q2, q3⟩
  · have q := s.sl i; rw [e] at q; obtain ⟨a, q1, q2, q3⟩ := q; exact ⟨d, a, by rw [e]; rfl, q1, q2, q3⟩
/-- more is let be, nothing of one's own is -/
theorem StOk.grow {W : Wd} {G G' H H' : Hp} {σ : St} {env : Env} (s : StOk W G H σ env) (gg : Ex G G') (gh : Ex G' H') (hh : ∀ a o, OwnA σ env a → H a = some o → H' a = some o) (hg : ∀ a, OwnA σ env a → G' a = none) : StOk W G' H' σ env where
  gh := gh
  len := s.len
  inj := s.inj
  sl := fun i => by
    have q := s.sl i
    cases e : slot env i with
    | un => trivial
    | val d => rw [e] at q; obtain ⟨v, q1, q2⟩ := q; exact ⟨v, q1, Rep.mono gg _ _ q2⟩
    | own d =>
      rw [e] at q; obtain ⟨a, q1, q2, q3⟩ := q
      have o : OwnA σ env a := ⟨i, by rw [e]; rfl, q1⟩
      exact ⟨a, q1, hg a o, q3.mono gg fun u hu => hh a u o hu⟩
    | par d =>
      rw [e] at q; obtain ⟨a, q1, q2, q3⟩ := q
      have o : OwnA σ env a := ⟨i, by rw [e]; rfl, q1⟩
      exact ⟨a, q1, hg a o, q3.mono gg fun u hu => hh a u o hu⟩
theorem StOk.own_some {W : Wd} {G H : Hp} {σ : St} {env : Env} (s : StOk W G H σ env) {a : Addr} (h : OwnA σ env a) : ∃ o, H a = some o := by
  obtain ⟨i, h1, h2⟩ := h
  obtain ⟨d, b, _, e, _, c⟩ := s.mut h1
  rw [h2] at e
  cases e
  exact c.some
theorem Cont.mu {W : Wd} {G H : Hp} {a : Addr} {d : D} (h : Cont W G H a d) : ∃ o, H a = .some o ∧ Mut (Option.some o) := by
  cases d with
  | lst ds => obtain ⟨vs, e, _⟩ := h; exact ⟨_, e, trivial⟩
  | dct t kvs => obtain ⟨u, l, e, q, _⟩ := h; exact ⟨_, e, q.mut⟩
  | _ => exact h.elim
theorem StOk.own_mu {W : Wd} {G H : Hp} {σ : St} {env : Env} (s : StOk W G H σ env) {a : Addr} (h : OwnA σ env a) : ∃ o, H a = some o ∧ Mut (some o) := by
  obtain ⟨i, h1, h2⟩ := h
  obtain ⟨d, b, _, e, _, c⟩ := s.mut h1
  rw [h2] at e
  cases e
  exact c.mu
theorem StOk.own_none {W : Wd} {G H : Hp} {σ : St} {env : Env} (s : StOk W G H σ env) {a : Addr} (h : OwnA σ env a) : G a = none := by
  obtain ⟨i, h1, h2⟩ := h
  obtain ⟨d, b, _, e, g, c⟩ := s.mut h1
  rw [h2] at e
  cases e
  exact g
/-- a new thing is laid and let be -/
theorem StOk.laidF {W : Wd} {G H : Hp} {σ : St} {env : Env} (s : StOk W G H σ env) {p : Addr} {o : HO} (hp : H p = none) : StOk W (upd G p o) (upd H p o) σ env := by
  have gp : G p = none := by
    cases q : G p with
    | none => rfl
    | some u => rw [s.gh p u q] at hp; cases hp
  refine s.grow (Ex.new gp) (fun a u h => ?_) (fun a u ho h => ?_) fun a ho => ?_
  · by_cases e : a = p
    · subst e; rw [upd_same] at h ⊢; exact h
    · rw [upd_ne e] at h ⊢; exact s.gh a u h
  · rw [upd_ne (ne_of_none h hp)]; exact h
  · obtain ⟨u, hu⟩ := s.own_some ho
    rw [upd_ne (ne_of_none hu hp)]
    exact s.own_none ho
/-- a new thing is laid, not let be -/
theorem StOk.laidN {W : Wd} {G H : Hp} {σ : St} {env : Env} (s : StOk W G H σ env) {p : Addr} {o : HO} (hp : H p = none) : StOk W G (upd H p o) σ env :=
  s.grow (Ex.refl G) (s.gh.trans (Ex.new hp)) (fun a u _ h => by rw [upd_ne (ne_of_none h hp)]; exact h) fun a ho => s.own_none ho
theorem Keep.laidF {S : Addr → Prop} {G H : Hp} {p : Addr} {o : HO} (x : Ex G H) (hp : H p = none) : Keep S G H S (upd G p o) (upd H p o) := by
  have gp : G p = none := by
    cases q : G p with
    | none => rfl
    | some u => rw [x p u q] at hp; cases hp
  refine ⟨Ex.new gp, fun a u h => ?_, fun a u h _ => ?_, fun a u h _ _ g => ?_, fun a h => .inl h⟩
  · by_cases e : a = p
    · subst e; rw [upd_same] at h ⊢; exact h
    · rw [upd_ne e] at h ⊢; exact x a u h
  · rw [upd_ne (ne_of_none h hp)]; exact h
  · rw [upd_ne (ne_of_none h hp)]; exact g
theorem Keep.laidN {S : Addr → Prop} {G H : Hp} {p : Addr} {o : HO} (x : Ex G H) (hp : H p = none) : Keep S G H S G (upd H p o) :=
  ⟨Ex.refl G, x.trans (Ex.new hp), fun a u h _ => by rw [upd_ne (ne_of_none h hp)]; exact h, fun a u _ _ _ g => g, fun a h => .inl h⟩
/-- what is new is let be -/
theorem freeze1 {W : Wd} {S : Addr → Prop} {G H G' H' : Hp} {σ : St} {env : Env} {d : D} {a : Addr} {o : HO} {ob : Obj} (k : Keep S G H (OwnA σ env) G' H') (s : StOk W G' H' σ env) (g : G' a = none) (c : Cont W G' H' a d) (n : ¬ OwnA σ env a) (f : S a ∨ H a = none) (ho : H' a = some o)
    {H'' : Hp} (ha : H'' a = some (lockO d ob o)) (hb : ∀ b, b ≠ a → H'' b = H' b) : ∃ G'', Keep S G H (OwnA σ env) G'' H'' ∧ StOk W G'' H'' σ env ∧ Rep W G'' d (.ref a) := by
  have x : Ex G' (upd G' a (lockO d ob o)) := Ex.new g
  have y : Ex (upd G' a (lockO d ob o)) H'' := fun b u q => by
    by_cases e : b = a
    · subst e; rw [upd_same] at q; cases q; exact ha
    · rw [upd_ne e] at q; rw [hb b e]; exact k.gh b u q
  have nb : ∀ b u, H b = some u → ¬ S b → b ≠ a := fun b u h1 h2 e => by
    subst e
    rcases f with f | f
    · exact h2 f
    · rw [h1] at f; cases f
  refine ⟨upd G' a (lockO d ob o), ⟨k.gg.trans x, y, fun b u h1 h2 => ?_, fun b u h1 hm h2 h3 => ?_, k.ss⟩, s.grow x y (fun b u h1 h2 => ?_) fun b hb => ?_, (c.mono x fun _ h => h).rep (o := ob) fun u hu => ?_⟩
  · rw [hb b (nb b u h1 h2)]; exact k.hh b u h1 h2
  · rw [upd_ne (nb b u h1 h2)]
    exact k.hg b u h1 hm h2 h3
  · rw [hb b fun e => n (e ▸ h1)]; exact h2
  · have e : b ≠ a := fun e => n (e ▸ hb)
    rw [upd_ne e]
    exact s.own_none hb
  · rw [upd_same]
    rw [ho] at hu
    cases hu
    rfl
def isDct : D → Bool
  | .dct _ _ => true
  | _ => false
theorem lock_no {d : D} {ob : Obj} {o : HO} (h : isDct d = false) : lockO d ob o = o := by cases d <;> first | rfl | cases h
theorem lock_yes {d : D} {ob : Obj} {o : HO} (h : isDct d = true) : lockO d ob o = .frz ob o := by cases d <;> first | rfl | cases h
theorem dct_of {d : D} (h : isDct d = true) : ∃ t kvs, d = .dct t kvs := by
  cases d with
  | dct t kvs => exact ⟨t, kvs, rfl⟩
  | _ => cases h
/-- behind a step that may lock -/
def Lk (H : Hp) (P : Hp → Prop) : Prop := P H ∨ ∃ a u, H a = some u ∧ Mut (some u) ∧ ∀ od : Obj, P (upd H a (.frz od u))
theorem freeze {W : Wd} {S : Addr → Prop} {G H G' H' : Hp} {σ : St} {env : Env} {r : Res} {v : V} (k : Keep S G H (OwnA σ env) G' H') (s : StOk W G' H' σ env) (h : ResOk W S H (OwnA σ env) G' H' r v) :
    Lk H' fun H'' => ∃ G'', Keep S G H (OwnA σ env) G'' H'' ∧ StOk W G'' H'' σ env ∧ Rep W G'' r.d v := by
  cases r with
  | val d => exact .inl ⟨G', k, s, h⟩
  | new d =>
    obtain ⟨a, rfl, g, c, n, f⟩ := h
    obtain ⟨o, ho⟩ := c.some
    cases hd : isDct d with
    | false => exact .inl (freeze1 (ob := ⟨.none, none, .fields #[], #[]⟩) k s g c n f ho (by rw [lock_no hd]; exact ho) fun _ _ => rfl)
    | true => exact .inr ⟨a, o, ho, c.mut ho (dct_of hd), fun od => freeze1 (ob := od) k s g c n f ho (by rw [lock_yes hd]; exact upd_same) fun b hb => upd_ne hb⟩
end Itp
set_option Elab.async false
set_option linter.all false
set_option maxRecDepth 100000
set_option maxHeartbeats 1000000
namespace Itp
open PySem L2
def RepS (W : Wd) (G H : Hp) (d : D) (v : V) : Prop := Rep W G d v ∨ ∃ a, v = .ref a ∧ Cont W G H a d
def RepSs (W : Wd) (G H : Hp) : List D → List V → Prop
  | [], vs => vs = []
  | d :: ds, vs => ∃ v r, vs = v :: r ∧ RepS W G H d v ∧ RepSs W G H ds r
/-- more stands, more is let be; what stood stands -/
structure Grow (G H G' H' : Hp) : Prop where
  gg : Ex G G'
  gh : Ex G' H'
  hh : Ex H H'
  hg : ∀ a o, H a = some o → Mut (some o) → G a = none → G' a = none
theorem Grow.refl {G H : Hp} (x : Ex G H) : Grow G H G H := ⟨Ex.refl G, x, Ex.refl H, fun _ _ _ _ h => h⟩
theorem Grow.trans {G H G1 H1 G2 H2 : Hp} (a : Grow G H G1 H1) (b : Grow G1 H1 G2 H2) : Grow G H G2 H2 := ⟨a.gg.trans b.gg, b.gh, a.hh.trans b.hh, fun x o h mu g => b.hg x o (a.hh x o h) mu (a.hg x o h mu g)⟩
theorem Grow.keep {S : Addr → Prop} {G H G' H' : Hp} (g : Grow G H G' H') : Keep S G H S G' H' := ⟨g.gg, g.gh, fun a o h _ => g.hh a o h, fun a o h mu _ q => g.hg a o h mu q, fun _ h => .inl h⟩
theorem Grow.st {W : Wd} {G H G' H' : Hp} {σ : St} {env : Env} (g : Grow G H G' H') (s : StOk W G H σ env) : StOk W G' H' σ env :=
  s.grow g.gg g.gh (fun a o _ h => g.hh a o h) fun a ho => by
    obtain ⟨u, hu, mu⟩ := s.own_mu ho
    exact g.hg a u hu mu (s.own_none ho)
theorem Grow.laidF {G H : Hp} {p : Addr} {o : HO} (x : Ex G H) (hp : H p = none) : Grow G H (upd G p o) (upd H p o) := by
  have k := Keep.laidF (S := fun _ => False) (o := o) x hp
  exact ⟨k.gg, k.gh, fun a u h => k.hh a u h id, fun a u h mu g => k.hg a u h mu id g⟩
theorem Grow.laidN {G H : Hp} {p : Addr} {o : HO} (x : Ex G H) (hp : H p = none) : Grow G H G (upd H p o) := ⟨Ex.refl G, x.trans (Ex.new hp), Ex.new hp, fun _ _ _ _ g => g⟩
/-- an operation's end: a value that is let be; a new thing -/
def Post (W : Wd) (G H : Hp) (r : Res) (Q : VK) : Prop :=
  match r with
  | .val d => ∀ v G' H', Grow G H G' H' → Rep W G' d v → Q v H'
  | .new d => ∀ p G' H', Grow G H G' H' → H p = none → G' p = none → Cont W G' H' p d → Q (.ref p) H'
theorem Post.step {W : Wd} {G H G1 H1 : Hp} {r : Res} {Q : VK} (g : Grow G H G1 H1) (h : Post W G H r Q) : Post W G1 H1 r Q := by
  cases r with
  | val d => exact fun v G' H' g' q => h v G' H' (g.trans g') q
  | new d =>
    refine fun p G' H' g' hp gp q => h p G' H' (g.trans g') ?_ gp q
    cases e : H p with
    | none => rfl
    | some o => rw [g.hh p o e] at hp; cases hp
def PRn (W : Wd) (o : Op) : List V → Hp → VK → Prop := fun xs H Q => ∃ G ds r, Ex G H ∧ RepSs W G H ds xs ∧ prim o ds = some r ∧ Post W G H r Q
def PR2 (W : Wd) (o : Op) : R2 := fun x y H Q => PRn W o [x, y] H Q
def PR1 (W : Wd) (o : Op) : V → Hp → VK → Prop := fun x H Q => PRn W o [x] H Q
theorem RepS.mono {W : Wd} {G H G' H' : Hp} (x : Ex G G') (y : Ex H H') {d : D} {v : V} (h : RepS W G H d v) : RepS W G' H' d v := by
  rcases h with h | ⟨a, e, h⟩
  · exact .inl (Rep.mono x _ _ h)
  · exact .inr ⟨a, e, h.mono x fun o q => y a o q⟩
theorem RepSs.mono {W : Wd} {G H G' H' : Hp} (x : Ex G G') (y : Ex H H') : ∀ {ds : List D} {vs : List V}, RepSs W G H ds vs → RepSs W G' H' ds vs
  | [], _, h => by simpa only [RepSs] using h
  | d :: ds, _, h => by
    simp only [RepSs] at h ⊢
    obtain ⟨v, r, e, h1, h2⟩ := h
    exact ⟨v, r, e, h1.mono x y, RepSs.mono x y h2⟩
theorem PRn.step {W : Wd} {o : Op} {xs : List V} {H H1 : Hp} {Q : VK} (y : Ex H H1) (h : PRn W o xs H Q) : PRn W o xs H1 Q := by
  obtain ⟨G, ds, r, gh, hs, hp, po⟩ := h
  exact ⟨G, ds, r, gh.trans y, hs.mono (Ex.refl G) y, hp, po.step ⟨Ex.refl G, gh.trans y, y, fun _ _ _ _ g => g⟩⟩
theorem post_of_aft {W : Wd} {Wx : WX} {G H : Hp} {σ : St} {env : Env} {r : Res} {Q : VK} (s : StOk W G H σ env) (h : Aft W (ResOk W) σ (OwnA σ env) G H Q Wx (.ok r env)) : Post W G H r Q := by
  cases r with
  | val d => exact fun v G' H' g hv => h v G' H' g.keep (g.st s) hv
  | new d =>
    intro p G' H' g hp gp hc
    refine h (.ref p) G' H' g.keep (g.st s) ⟨p, rfl, gp, hc, fun ho => ?_, .inr hp⟩
    obtain ⟨u, hu⟩ := s.own_some ho
    rw [hp] at hu; cases hu
section
variable {W : Wd} {G H : Hp} {v : V}
theorem rs_non (h : RepS W G H .non v) : v = .non := by
  rcases h with h | ⟨a, _, h⟩
  · simpa only [Rep] using h
  · exact h.elim
theorem rs_bl {b : Bool} (h : RepS W G H (.bl b) v) : v = .bl b := by
  rcases h with h | ⟨a, _, h⟩
  · simpa only [Rep] using h
  · exact h.elim
theorem rs_int {i : Int} (h : RepS W G H (.int i) v) : v = .int i := by
  rcases h with h | ⟨a, _, h⟩
  · simpa only [Rep] using h
  · exact h.elim
theorem rs_str {i : List Nat} (h : RepS W G H (.str i) v) : v = .str ⟨i.toArray⟩ := by
  rcases h with h | ⟨a, _, h⟩
  · simpa only [Rep] using h
  · exact h.elim
theorem rs_tup {ds : List D} (x : Ex G H) (h : RepS W G H (.tup ds) v) : ∃ a vs, v = .ref a ∧ H a = some (.tup vs) ∧ Reps W G ds vs := by
  rcases h with h | ⟨a, _, h⟩
  · simp only [Rep] at h
    obtain ⟨a, vs, e, h1, h2⟩ := h
    exact ⟨a, vs, e, x _ _ h1, h2⟩
  · exact h.elim
theorem rs_ftp {ds : List D} (x : Ex G H) (h : RepS W G H (.ftp ds) v) : ∃ (a : Addr) (o : Obj) (vs : List V), v = .ref a ∧ o.dict = none ∧ H a = some (.frz o (.tup vs)) ∧ Reps W G ds vs := by
  rcases h with h | ⟨a, _, h⟩
  · simp only [Rep] at h
    obtain ⟨a, o, vs, e, e2, h1, h2⟩ := h
    exact ⟨a, o, vs, e, e2, x _ _ h1, h2⟩
  · exact h.elim
theorem rs_lst {ds : List D} (x : Ex G H) (h : RepS W G H (.lst ds) v) : ∃ a vs, v = .ref a ∧ H a = some (.lst vs) ∧ Reps W G ds vs := by
  rcases h with h | ⟨a, e, h⟩
  · simp only [Rep] at h
    obtain ⟨a, vs, e, h1, h2⟩ := h
    exact ⟨a, vs, e, x _ _ h1, h2⟩
  · obtain ⟨vs, h1, h2⟩ := h
    exact ⟨a, vs, e, h1, h2⟩
theorem rs_scr {ds : List Int} (x : Ex G H) (h : RepS W G H (.scr ds) v) : ∃ a, v = .ref a ∧ SqL W.K H a (ds.map V.int) := by
  rcases h with h | ⟨a, e, h⟩
  · simp only [Rep] at h
    obtain ⟨a, e, h1⟩ := h
    exact ⟨a, e, ex_l x h1⟩
  · exact h.elim
theorem rss1 {d : D} {vs : List V} (h : RepSs W G H [d] vs) : ∃ v, vs = [v] ∧ RepS W G H d v := by
  simp only [RepSs] at h
  obtain ⟨v, r, rfl, h1, rfl⟩ := h
  exact ⟨v, rfl, h1⟩
theorem rss2 {d e : D} {x y : V} (h : RepSs W G H [d, e] [x, y]) : RepS W G H d x ∧ RepS W G H e y := by
  simp only [RepSs] at h
  obtain ⟨v, r, h0, h1, v2, r2, rfl, h2, rfl⟩ := h
  cases h0
  exact ⟨h1, h2⟩
theorem rss_len : ∀ {ds : List D} {vs : List V}, RepSs W G H ds vs → vs.length = ds.length
  | [], _, h => by simp only [RepSs] at h; subst h; rfl
  | d :: ds, _, h => by
    simp only [RepSs] at h
    obtain ⟨v, r, rfl, _, h2⟩ := h
    simp [rss_len h2]
theorem reps_len : ∀ {ds : List D} {vs : List V}, Reps W G ds vs → vs.length = ds.length
  | [], _, h => by simp only [Reps] at h; subst h; rfl
  | d :: ds, _, h => by
    simp only [Reps] at h
    obtain ⟨v, r, rfl, _, h2⟩ := h
    simp [reps_len h2]
theorem reps_get : ∀ {ds : List D} {vs : List V} {i : Nat} {d : D}, Reps W G ds vs → ds[i]? = some d → ∃ v, vs[i]? = some v ∧ Rep W G d v
  | [], _, _, _, _, e => by simp at e
  | d :: ds, _, 0, _, h, e => by
    simp only [Reps] at h
    obtain ⟨v, r, rfl, h1, _⟩ := h
    simp at e; subst e
    exact ⟨v, rfl, h1⟩
  | d :: ds, _, i + 1, _, h, e => by
    simp only [Reps] at h
    obtain ⟨v, r, rfl, _, h2⟩ := h
    simp at e
    simpa using reps_get h2 e
theorem reps_append : ∀ {ds es : List D} {vs us : List V}, Reps W G ds vs → Reps W G es us → Reps W G (ds ++ es) (vs ++ us)
  | [], _, _, _, h, k => by simp only [Reps] at h; subst h; exact k
  | d :: ds, es, _, us, h, k => by
    simp only [Reps] at h
    obtain ⟨v, r, rfl, h1, h2⟩ := h
    show Reps W G (d :: (ds ++ es)) (v :: (r ++ us))
    simp only [Reps]
    exact ⟨v, _, rfl, h1, reps_append h2 k⟩
theorem reps_take : ∀ {ds : List D} {vs : List V} (n : Nat), Reps W G ds vs → Reps W G (ds.take n) (vs.take n)
  | _, _, 0, _ => by simp [Reps]
  | [], _, n + 1, h => by simp only [Reps] at h; subst h; simp [Reps]
  | d :: ds, _, n + 1, h => by
    simp only [Reps] at h
    obtain ⟨v, r, rfl, h1, h2⟩ := h
    simp only [List.take_succ_cons, Reps]
    exact ⟨v, _, rfl, h1, reps_take n h2⟩
theorem reps_drop : ∀ {ds : List D} {vs : List V} (n : Nat), Reps W G ds vs → Reps W G (ds.drop n) (vs.drop n)
  | _, _, 0, h => by simpa using h
  | [], _, n + 1, h => by simp only [Reps] at h; subst h; simp [Reps]
  | d :: ds, _, n + 1, h => by
    simp only [Reps] at h
    obtain ⟨v, r, rfl, h1, h2⟩ := h
    simpa using reps_drop n h2
theorem reps_cut {ds : List D} {vs : List V} (lo hi : Option Int) (h : Reps W G ds vs) : Reps W G (cut ds lo hi) (cutV vs lo hi) := by
  unfold cut cutV
  rw [reps_len h]
  exact reps_take _ (reps_drop _ h)
theorem reps_rep {ds : List D} {vs : List V} (h : Reps W G ds vs) : ∀ n : Nat, Reps W G (List.replicate n ds).flatten (List.replicate n vs).flatten
  | 0 => by simp [Reps]
  | n + 1 => by
    simp only [List.replicate_succ, List.flatten_cons]
    exact reps_append h (reps_rep h n)
theorem reps_rev : ∀ {ds : List D} {vs : List V}, Reps W G ds vs → Reps W G ds.reverse vs.reverse
  | [], _, h => by simp only [Reps] at h; subst h; simp [Reps]
  | d :: ds, _, h => by
    simp only [Reps] at h
    obtain ⟨v, r, rfl, h1, h2⟩ := h
    rw [List.reverse_cons, List.reverse_cons]
    exact reps_append (reps_rev h2) (by simp only [Reps]; exact ⟨v, [], rfl, h1, rfl⟩)
theorem reps_of : ∀ {ds : List D} {vs : List V}, RepSs W G H ds vs → (∀ d v, d ∈ ds → RepS W G H d v → Rep W G d v) → Reps W G ds vs
  | [], _, h, _ => by simpa only [Reps, RepSs] using h
  | d :: ds, _, h, f => by
    simp only [RepSs] at h
    obtain ⟨v, r, rfl, h1, h2⟩ := h
    simp only [Reps]
    exact ⟨v, r, rfl, f d v (by simp) h1, reps_of h2 fun d v hd => f d v (by simp [hd])⟩
theorem reps_ints : ∀ {ds : List D} {vs : List V} {l : List Int}, Reps W G ds vs → ints? ds = some l → vs = l.map V.int
  | [], _, l, h, e => by simp only [Reps] at h; subst h; simp [ints?] at e; subst e; rfl
  | d :: ds, _, l, h, e => by
    simp only [Reps] at h
    obtain ⟨v, r, rfl, h1, h2⟩ := h
    cases d <;> simp [ints?] at e
    obtain ⟨l', e', rfl⟩ := e
    simp only [Rep] at h1
    rw [h1, reps_ints h2 e']
    rfl
theorem reps_bls : ∀ {ds : List D} {vs : List V} {l : List Bool}, Reps W G ds vs → bls? ds = some l → vs = l.map V.bl
  | [], _, l, h, e => by simp only [Reps] at h; subst h; simp [bls?] at e; subst e; rfl
  | d :: ds, _, l, h, e => by
    simp only [Reps] at h
    obtain ⟨v, r, rfl, h1, h2⟩ := h
    cases d <;> simp [bls?] at e
    obtain ⟨l', e', rfl⟩ := e
    simp only [Rep] at h1
    rw [h1, reps_bls h2 e']
    rfl
def sOf (l : List Nat) : Str := ⟨l.toArray⟩
theorem reps_strs : ∀ {ds : List D} {vs : List V} {l : List (List Nat)}, Reps W G ds vs → strs? ds = some l → vs = (l.map sOf).map V.str
  | [], _, l, h, e => by simp only [Reps] at h; subst h; simp [strs?] at e; subst e; rfl
  | d :: ds, _, l, h, e => by
    simp only [Reps] at h
    obtain ⟨v, r, rfl, h1, h2⟩ := h
    cases d <;> simp [strs?] at e
    obtain ⟨l', e', rfl⟩ := e
    simp only [Rep] at h1
    rw [h1, reps_strs h2 e']
    rfl
end
theorem at_atI {α : Type} (xs : List α) (i : Int) : at? xs i = atI xs i := rfl
theorem at_rep {W : Wd} {G : Hp} {ds : List D} {vs : List V} {i : Int} {d : D} (h : Reps W G ds vs) (e : at? ds i = some d) : ∃ v, atI vs i = some v ∧ Rep W G d v := by
  unfold at? at e
  unfold atI
  cases q : ixOf ds.length i with
  | none => rw [q] at e; simp at e
  | some j =>
    rw [q] at e
    obtain ⟨v, h1, h2⟩ := reps_get h (show ds[j]? = some d from e)
    refine ⟨v, ?_, h2⟩
    rw [reps_len h, show ixN ds.length i = some j from q]
    exact h1
/-! ### == of plain data -/
mutual
def toP : D → PyData
  | .non => .none
  | .bl b => .bool b
  | .int i => .int i
  | .str s => .str ⟨s.toArray⟩
  | .tup xs => .tuple (toPs xs)
  | .lst xs => .list (toPs xs)
  | .dct _ _ => .none
  | .fn _ => .none
  | .scr _ => .none
  | .ftp xs => .tuple (toPs xs)
def toPs : List D → List PyData
  | [] => []
  | x :: xs => toP x :: toPs xs
end
mutual
theorem dp_of {W : Wd} {G H : Hp} (x : Ex G H) : ∀ (n : Nat) (d : D) (v : V), d.plain n = true → Rep W G d v → Dp W.K H v (toP d)
  | _, .non, v, _, h => by simp only [Rep] at h; subst h; exact Dp.non
  | _, .bl b, v, _, h => by simp only [Rep] at h; subst h; exact Dp.bl b
  | _, .int i, v, _, h => by simp only [Rep] at h; subst h; exact Dp.int i
  | _, .str i, v, _, h => by simp only [Rep] at h; subst h; exact Dp.str _
  | 0, .tup _, v, p, h => by simp [D.plain] at p
  | 0, .lst _, v, p, h => by simp [D.plain] at p
  | 0, .ftp _, v, p, h => by simp [D.plain] at p
  | n + 1, .ftp ds, v, p, h => by
    simp only [Rep] at h
    obtain ⟨a, o, vs, rfl, _, h1, h2⟩ := h
    simp only [D.plain] at p
    simp only [toP]
    exact Dp.tup (.inl (.inr ⟨o, x _ _ h1⟩)) (dps_of x n ds vs p h2)
  | n + 1, .tup ds, v, p, h => by
    simp only [Rep] at h
    obtain ⟨a, vs, rfl, h1, h2⟩ := h
    simp only [D.plain] at p
    simp only [toP]
    exact Dp.tup (.inl (.inl (x _ _ h1))) (dps_of x n ds vs p h2)
  | n + 1, .lst ds, v, p, h => by
    simp only [Rep] at h
    obtain ⟨a, vs, rfl, h1, h2⟩ := h
    simp only [D.plain] at p
    simp only [toP]
    exact Dp.lst (.inl (.inl (x _ _ h1))) (dps_of x n ds vs p h2)
  | _, .dct _ _, v, p, _ => by simp [D.plain] at p
  | _, .fn _, v, p, _ => by simp [D.plain] at p
  | _, .scr _, v, p, _ => by simp [D.plain] at p
theorem dps_of {W : Wd} {G H : Hp} (x : Ex G H) : ∀ (n : Nat) (ds : List D) (vs : List V), D.plains n ds = true → Reps W G ds vs → DpAll W.K H vs (toPs ds)
  | _, [], vs, _, h => by simp only [Reps] at h; subst h; simp only [toPs]; exact DpAll.nil
  | n, d :: ds, vs, p, h => by
    simp only [Reps] at h
    obtain ⟨v, r, rfl, h1, h2⟩ := h
    simp only [D.plains, Bool.and_eq_true] at p
    simp only [toPs]
    exact DpAll.cons (dp_of x n d v p.1 h1) (dps_of x n ds r p.2 h2)
end
theorem dpS_of {W : Wd} {G H : Hp} (x : Ex G H) {n : Nat} {d : D} {v : V} (p : d.plain n = true) (h : RepS W G H d v) : Dp W.K H v (toP d) := by
  rcases h with h | ⟨a, rfl, h⟩
  · exact dp_of x n d v p h
  · cases d with
    | lst ds =>
      obtain ⟨vs, h1, h2⟩ := h
      cases n with
      | zero => simp [D.plain] at p
      | succ n =>
        simp only [D.plain] at p
        simp only [toP]
        exact Dp.lst (.inl (.inl h1)) (dps_of x n ds vs p h2)
    | dct _ _ => simp [D.plain] at p
    | _ => exact h.elim
mutual
theorem plain_depth : ∀ (n : Nat) (d : D), d.plain n = true → (toP d).depth ≤ n ∧ (toP d).canLay0 = true
  | _, .non, _ => by simp [toP, PyData.depth, PyData.canLay0]
  | _, .bl b, _ => by simp [toP, PyData.depth, PyData.canLay0]
  | _, .int i, _ => by simp [toP, PyData.depth, PyData.canLay0]
  | _, .str i, p => by
    simp only [D.plain] at p
    simpa [toP, PyData.depth, PyData.canLay0, PyData.strOk] using p
  | 0, .tup _, p => by simp [D.plain] at p
  | 0, .lst _, p => by simp [D.plain] at p
  | 0, .ftp _, p => by simp [D.plain] at p
  | n + 1, .ftp ds, p => by
    simp only [D.plain] at p
    have h := plains_depth n ds p
    simp only [toP, PyData.depth, PyData.canLay0]
    exact ⟨by omega, h.2⟩
  | n + 1, .tup ds, p => by
    simp only [D.plain] at p
    have h := plains_depth n ds p
    simp only [toP, PyData.depth, PyData.canLay0]
    exact ⟨by omega, h.2⟩
  | n + 1, .lst ds, p => by
    simp only [D.plain] at p
    have h := plains_depth n ds p
    simp only [toP, PyData.depth, PyData.canLay0]
    exact ⟨by omega, h.2⟩
  | _, .dct _ _, p => by simp [D.plain] at p
  | _, .fn _, p => by simp [D.plain] at p
  | _, .scr _, p => by simp [D.plain] at p
theorem plains_depth : ∀ (n : Nat) (ds : List D), D.plains n ds = true → PyData.depthAll (toPs ds) ≤ n ∧ PyData.canLayAll0 (toPs ds) = true
  | _, [], _ => by simp [toPs, PyData.depthAll, PyData.canLayAll0]
  | n, d :: ds, p => by
    simp only [D.plains, Bool.and_eq_true] at p
    have h1 := plain_depth n d p.1
    have h2 := plains_depth n ds p.2
    simp only [toPs, PyData.depthAll, PyData.canLayAll0, Bool.and_eq_true]
    exact ⟨by omega, h1.2, h2.2⟩
end
theorem shaped_of {d : D} (p : d.plain 64 = true) : SeqAt.shaped (toP d) = true := by
  have h := plain_depth 64 d p
  simp [SeqAt.shaped, h.1, h.2]
theorem str_beq (a b : List Nat) : ((⟨a.toArray⟩ : Str) == ⟨b.toArray⟩) = (a == b) := by
  by_cases h : a = b
  · subst h; simp
  · have h2 : (⟨a.toArray⟩ : Str) ≠ ⟨b.toArray⟩ := fun e => h (by injection e with e; simpa using e)
    rw [beq_eq_false_iff_ne.mpr h2, beq_eq_false_iff_ne.mpr h]
mutual
theorem eqv_toP : ∀ (n : Nat) (a b : D), a.plain n = true → b.plain n = true → PyData.eqv (toP a) (toP b) = D.eqv a b
  | n, .non, b, p, q => by cases b <;> first | rfl | simp [D.plain] at q
  | n, .bl x, b, p, q => by cases b <;> first | rfl | simp [D.plain] at q
  | n, .int x, b, p, q => by cases b <;> first | rfl | simp [D.plain] at q
  | n, .str x, b, p, q => by
    cases b <;> first | rfl | simp [D.plain] at q | skip
    simp only [toP, PyData.eqv, D.eqv]
    exact str_beq _ _
  | 0, .tup _, b, p, q => by simp [D.plain] at p
  | 0, .lst _, b, p, q => by simp [D.plain] at p
  | 0, .ftp _, b, p, q => by simp [D.plain] at p
  | n + 1, .ftp xs, b, p, q => by
    cases b <;> first | rfl | simp [D.plain] at q | skip
    all_goals
      simp only [toP, PyData.eqv, D.eqv]
      simp only [D.plain] at p q
      exact eqvs_toP n _ _ p q
  | n + 1, .tup xs, b, p, q => by
    cases b <;> first | rfl | simp [D.plain] at q | skip
    all_goals
      simp only [toP, PyData.eqv, D.eqv]
      simp only [D.plain] at p q
      exact eqvs_toP n _ _ p q
  | n + 1, .lst xs, b, p, q => by
    cases b <;> first | rfl | simp [D.plain] at q | skip
    simp only [toP, PyData.eqv, D.eqv]
    simp only [D.plain] at p q
    exact eqvs_toP n _ _ p q
  | n, .dct _ _, b, p, q => by simp [D.plain] at p
  | n, .fn _, b, p, q => by simp [D.plain] at p
  | n, .scr _, b, p, q => by simp [D.plain] at p
theorem eqvs_toP : ∀ (n : Nat) (a b : List D), D.plains n a = true → D.plains n b = true → PyData.eqvAll (toPs a) (toPs b) = D.eqvs a b
  | n, [], [], _, _ => rfl
  | n, [], _ :: _, _, _ => rfl
  | n, _ :: _, [], _, _ => rfl
  | n, x :: xs, y :: ys, p, q => by
    simp only [D.plains, Bool.and_eq_true] at p q
    simp only [toPs, PyData.eqvAll, D.eqvs]
    rw [eqv_toP n x y p.1 q.1, eqvs_toP n xs ys p.2 q.2]
end
end Itp
set_option Elab.async false
set_option linter.all false
set_option maxRecDepth 100000
set_option maxHeartbeats 4000000
namespace Itp
open PySem PySem.W L2
theorem isPI_of {x : D} (h : isPI x = true) : ∃ a b, x = .tup [.int a, .int b] := by
  unfold isPI at h
  split at h
  · exact ⟨_, _, rfl⟩
  · cases h
theorem isPS_of {x : D} (h : isPS x = true) : ∃ a s, x = .tup [.int a, .str s] ∧ s.all (· < 1114112) = true := by
  unfold isPS at h
  split at h
  · exact ⟨_, _, rfl, h⟩
  · cases h
theorem pairs_lt {xs : List D} (h : pairK xs = true) : (∀ x ∈ xs, ∀ y ∈ xs, dataLt (toP x) (toP y) = pairLt x y ∧ alike (toP x) (toP y) = true ∧ (toP x = toP y → x = y)) ∧ (∀ x ∈ xs, toP x ≠ .none) ∧ D.plains 64 xs = true := by
  unfold pairK at h
  rw [Bool.or_eq_true, List.all_eq_true, List.all_eq_true] at h
  rcases h with h | h
  · refine ⟨fun x hx y hy => ?_, fun x hx => ?_, ?_⟩
    · obtain ⟨a, b, rfl⟩ := isPI_of (h x hx)
      obtain ⟨c, d, rfl⟩ := isPI_of (h y hy)
      simp only [toP, toPs]
      refine ⟨dataLt_ii a b c d, by simp [alike, alikeAll], fun e => ?_⟩
      simp only [PyData.tuple.injEq, List.cons.injEq, PyData.int.injEq, and_true] at e
      obtain ⟨rfl, rfl⟩ := e
      rfl
    · obtain ⟨a, b, rfl⟩ := isPI_of (h x hx)
      simp [toP]
    · induction xs with
      | nil => simp [D.plains]
      | cons x xs ih =>
        obtain ⟨a, b, rfl⟩ := isPI_of (h _ (List.mem_cons_self ..))
        rw [D.plains, ih fun y hy => h y (by simp [hy])]
        rfl
  · refine ⟨fun x hx y hy => ?_, fun x hx => ?_, ?_⟩
    · obtain ⟨a, b, rfl, _⟩ := isPS_of (h x hx)
      obtain ⟨c, d, rfl, _⟩ := isPS_of (h y hy)
      simp only [toP, toPs]
      refine ⟨?_, by simp [alike, alikeAll], fun e => ?_⟩
      · rw [dataLt_pair (by simp [alike]) (by simp [alike]), dataLt_str, dataLt_int]
        simp only [pairLt, PyData.eqv]
        by_cases e : a = c
        · subst e
          simp only [beq_self_eq_true, if_true, true_and, Int.lt_irrefl, false_or]
          by_cases e2 : b = d
          · subst e2
            simp [List.lt_irrefl]
          · have : ((⟨b.toArray⟩ : Str) == ⟨d.toArray⟩) = false := by rw [str_beq]; simpa using e2
            simp [this]
        · have : (a == c) = false := by simpa using e
          simp [this, e]
      · simp only [PyData.tuple.injEq, List.cons.injEq, PyData.int.injEq, PyData.str.injEq, and_true] at e
        obtain ⟨rfl, e⟩ := e
        have e : b = d := by injection e with e; simpa using e
        subst e
        rfl
    · obtain ⟨a, b, rfl, _⟩ := isPS_of (h x hx)
      simp [toP]
    · induction xs with
      | nil => simp [D.plains]
      | cons x xs ih =>
        obtain ⟨a, b, rfl, hb⟩ := isPS_of (h _ (List.mem_cons_self ..))
        rw [D.plains, ih fun y hy => h y (by simp [hy])]
        simp only [D.plain, D.plains, hb, Bool.and_true]
theorem min_fold {ys : List D} (P : ∀ x ∈ ys, ∀ y ∈ ys, dataLt (toP x) (toP y) = pairLt x y) : ∀ (xs : List D) (x : D), x ∈ ys → (∀ y ∈ xs, y ∈ ys) → toP (xs.foldl (fun a y => if pairLt y a then y else a) x) = minD (toP x) (toPs xs) ∧ xs.foldl (fun a y => if pairLt y a then y else a) x ∈ ys
  | [], x, hx, _ => ⟨rfl, hx⟩
  | z :: xs, x, hx, hs => by
    have hz := hs z (by simp)
    rw [List.foldl_cons]
    have hm : (if pairLt z x then z else x) ∈ ys := by split <;> assumption
    obtain ⟨h1, h2⟩ := min_fold P xs _ hm fun y hy => hs y (by simp [hy])
    refine ⟨?_, h2⟩
    rw [h1]
    show minD _ _ = (toPs (z :: xs)).foldl _ _
    simp only [toPs, List.foldl_cons]
    rw [P z hz x hx]
    unfold minD
    congr 1
    split <;> rfl
theorem toPs_get : ∀ {xs : List D} {i : Nat} {p : PyData}, (toPs xs)[i]? = some p → ∃ x, xs[i]? = some x ∧ p = toP x
  | [], i, p, h => by simp [toPs] at h
  | x :: xs, i, p, h => by
    simp only [toPs] at h
    cases i with
    | zero => simp at h; exact ⟨x, rfl, h.symm⟩
    | succ i => simpa using toPs_get (xs := xs) (by simpa using h)
theorem toPs_mem : ∀ {xs : List D} {p : PyData}, p ∈ toPs xs → ∃ x ∈ xs, p = toP x
  | [], p, h => by simp [toPs] at h
  | x :: xs, p, h => by
    simp only [toPs] at h
    rcases List.mem_cons.mp h with rfl | h
    · exact ⟨x, by simp, rfl⟩
    · obtain ⟨y, hy, e⟩ := toPs_mem h
      exact ⟨y, by simp [hy], e⟩
end Itp
set_option Elab.async false
set_option linter.all false
set_option maxRecDepth 100000
set_option maxHeartbeats 4000000
namespace Itp
open PySem PySem.W L2 PySem.Spec PyProof.Rows
theorem tuple_mul1 (l : Addr) (items : Array Value) (n : Nat) (dd : Option Addr) (sl : Array (Option Value)) (u : Tok) :
    Meets (Builtin.«tuple.__mul__» ⟨[.ref l, .int 1 u], []⟩) (fun _ R s => s.heap.get? l = some { cls := .type "tuple", dict := dd, data := .seq items n, slots := sl } ∧
      R (.ok (.ret (Value.ref l))) { s with heap := s.heap, toks := s.toks }) :=
  .of_wp fun prog w A R s h => by
    obtain ⟨hp, g, d, tk, os⟩ := s
    obtain ⟨hl, h⟩ := h
    have f1 := AutoSeq1.idx_int
    have c1 : (items.isEmpty || (1 : Int) == 1) = true := by simp
    wp_walk using wpAny_loadPart' hl
    repeat (first
      | (refine wpAny_ite_true (decide_eq_true c1) ?_; wp_walk using wpAny_loadPart' hl)
      | (refine wpAny_ite_false (by decide) ?_; wp_walk using wpAny_loadPart' hl))
    exact ⟨_, rfl, h⟩
theorem op_rep1 {X : Cx} : OpR X (binaryOp .Mult) (fun x y H Q => ∃ l xs, x = .ref l ∧ y = .int 1 ∧ SqT X.K H l xs ∧ Q (.ref l) H) := by
  intro pins s σ H x y v u Q I rx ry h
  obtain ⟨l, xs, rfl, rfl, hT, q⟩ := h
  cases rx
  obtain ⟨t, rfl⟩ := ry
  obtain ⟨its, r, ⟨⟨cls, dd, data, sl⟩, ho, hc, n, hd⟩, hs⟩ := I.tuple hT
  simp only at hc hd
  subst hc hd
  refine wpAny_binaryOp_repeat_ref (T := "tuple") (U := "int") (by decide) ⟨_, ho, rfl⟩ (fun s' => typeIs_int s' 1 t) noFill_tuple_mul F.fills_int_mul F.slot_int_rmul repeat_tuple F.slot_int_index.lookup
    (call_meets F.slot_int_rmul (typeIs_int s 1 t) F.entry_int_rmul (F.args_int_rmul_2 _ _) (int_rmul_tuple 1 t l its.toArray n dd sl)
      ⟨ho, rfl, ⟨_, ho, rfl⟩, call_meets F.slot_tuple_mul ⟨_, ho, rfl⟩ F.entry_tuple_mul (F.args_tuple_mul_2 _ _) (tuple_mul1 l its.toArray n dd sl t) ⟨ho, ?_⟩⟩)
  exact ⟨.ref l, H, I.tok _, rfl, q⟩
end Itp
set_option Elab.async false
set_option linter.all false
set_option maxRecDepth 100000
set_option maxHeartbeats 4000000
namespace Itp
open PySem PySem.W L2 PySem.Spec PyProof.Rows
theorem sum_rawT {prog : Program} {w : World} {A : Around} {E : Value → Shared → Prop} {s : Shared} {l : Addr} {its : List Value} {ns : List Int} {Q : Value → Shared → Prop} (hh : A.handled = none) (hl : s.heap.IsTuple l its.toArray) (hi : IntsAre its ns)
    (h : ∀ h' tk t', (∀ b o, s.heap.get? b = some o → h'.get? b = some o) → Q (.int ns.sum t') { s with heap := h', toks := tk }) : wpAny (model prog w) A (call (.builtin "sum") [.ref l]) Q E s := by
  obtain ⟨xs, e⟩ := hi.allInts.items
  have hn : numsOf (intItems xs).toList = ns := by rw [← e]; exact hi.numsOf
  rw [nums_intItems] at hn
  rw [e] at hl
  have hlt : l < s.heap.objs.size := by obtain ⟨_, e, _⟩ := hl; exact Heap.lt_size e
  refine call_sum_walkG (iter_tuple hl ?_)
  refine ⟨_, _, _, _, _, _, numAt xs, rfl, Walks.tuple (A := A.in1) hh _ l (Nat.ne_of_lt hlt) (intItems xs), ⟨⟨_, Heap.get?_push_size _ rfl, rfl, rfl⟩, hl.push _⟩, fun b hb => ?_, (fun _ _ => intItems_at), fun h' tk t' hk => ?_⟩
  · show b < (s.heap.push _).objs.size
    rw [Heap.size_push]
    rcases List.mem_cons.mp hb with rfl | hb
    · exact Nat.lt_succ_self _
    · rcases List.mem_cons.mp hb with rfl | hb
      · exact Nat.lt_succ_of_lt hlt
      · cases hb
  · have := h h' tk t' fun b o eb => hk b o (fun hb => absurd (Heap.lt_size eb) ((List.mem_singleton.mp hb) ▸ Nat.lt_irrefl _)) (Heap.get?_push_of_some _ eb)
    rw [preSum_eq, List.take_of_length_le (by simp [intItems]), hn]
    exact this
theorem cr_sumT {X : Cx} (hc : X.calm = true) : CallR X (.builtin "sum") (fun vs H Q => ∃ (a : Addr) (ns : List Int), vs = [V.ref a] ∧ SqT X.K H a (ns.map V.int) ∧ Q (.int ns.sum) H) := by
  intro pins s σ H vs us Q I r h
  obtain ⟨a, ns, rfl, hs, q⟩ := h
  obtain ⟨its, rv, hl, _⟩ := I.tuple hs
  rw [Vals.ref1 r]
  exact sum_rawT (I.ok.hd hc) hl rv.ints fun h' tk t' hk => ⟨.int _, H, I.kept hk, ⟨_, rfl⟩, q⟩
end Itp
set_option Elab.async false
set_option linter.all false
set_option maxRecDepth 100000
set_option maxHeartbeats 4000000
namespace Itp
open PySem L2
section
variable {X : Cx} {W : Wd}
theorem two {W : Wd} {G H : Hp} {ds : List D} {x y : V} (h : RepSs W G H ds [x, y]) : ∃ d e, ds = [d, e] ∧ RepS W G H d x ∧ RepS W G H e y := by
  have l := rss_len h
  match ds, l, h with
  | [d, e], _, h => exact ⟨d, e, rfl, rss2 h⟩
theorem one {W : Wd} {G H : Hp} {ds : List D} {x : V} (h : RepSs W G H ds [x]) : ∃ d, ds = [d] ∧ RepS W G H d x := by
  have l := rss_len h
  match ds, l, h with
  | [d], _, h =>
    obtain ⟨v, e, h1⟩ := rss1 h
    cases e
    exact ⟨d, rfl, h1⟩
theorem one' {W : Wd} {G H : Hp} {d : D} {vs : List V} (h : RepSs W G H [d] vs) : ∃ v, vs = [v] ∧ RepS W G H d v := rss1 h
theorem big_line {n : Nat} (h : n ≤ big) : n ≤ sizeLine := Nat.le_trans h (by decide)
theorem small_some {α : Type} {c : Bool} {a b : α} (h : small c a = some b) : c = true ∧ a = b := by
  unfold small at h
  cases c <;> simp at h
  exact ⟨rfl, h⟩
theorem post_v {W : Wd} {G H : Hp} {d : D} {Q : VK} {v : V} (p : Post W G H (.val d) Q) (gh : Ex G H) (r : Rep W G d v) : Q v H := p v G H (Grow.refl gh) r
theorem post_i {W : Wd} {G H : Hp} {i : Int} {Q : VK} (p : Post W G H (.val (.int i)) Q) (gh : Ex G H) : Q (.int i) H := post_v p gh (by simp only [Rep])
theorem post_b {W : Wd} {G H : Hp} {i : Bool} {Q : VK} (p : Post W G H (.val (.bl i)) Q) (gh : Ex G H) : Q (.bl i) H := post_v p gh (by simp only [Rep])
theorem post_s {W : Wd} {G H : Hp} {i : List Nat} {Q : VK} {z : Str} (p : Post W G H (.val (.str i)) Q) (gh : Ex G H) (e : z.cps.toList = i) : Q (.str z) H := post_v p gh (by
  simp only [Rep]
  subst e
  simp)
theorem gnone {G H : Hp} {p : Addr} (gh : Ex G H) (hp : H p = none) : G p = none := by
  cases q : G p with
  | none => rfl
  | some u => rw [gh p u q] at hp; cases hp
theorem post_t {W : Wd} {G H : Hp} {ds : List D} {vs : List V} {Q : VK} {p : Addr} (po : Post W G H (.val (.tup ds)) Q) (gh : Ex G H) (hp : H p = none) (r : Reps W G ds vs) : Q (.ref p) (upd H p (.tup vs)) :=
  po (.ref p) _ _ (Grow.laidF gh hp) (by simp only [Rep]; exact ⟨p, vs, rfl, upd_same, Reps.mono (Ex.new (gnone gh hp)) _ _ r⟩)
theorem post_l {W : Wd} {G H : Hp} {ds : List D} {vs : List V} {Q : VK} {p : Addr} (po : Post W G H (.new (.lst ds)) Q) (gh : Ex G H) (hp : H p = none) (r : Reps W G ds vs) : Q (.ref p) (upd H p (.lst vs)) :=
  po p G _ (Grow.laidN gh hp) hp (gnone gh hp) ⟨vs, upd_same, r⟩
theorem str_len (a : List Nat) : (⟨a.toArray⟩ : Str).length = a.length := by simp [Str.length]
theorem str_app (a b : List Nat) : ((⟨a.toArray⟩ : Str) ++ (⟨b.toArray⟩ : Str)).cps.toList = a ++ b := by
  show (a.toArray ++ b.toArray).toList = a ++ b
  simp
theorem or_add (hK : X.K = W.K) : OpR X (binaryOp .Add) (PR2 W .add) := by
  intro pins s σ H x y v u Q I rx ry ⟨G, ds, r, gh, hs, hp, po⟩
  obtain ⟨d, e, rfl, h1, h2⟩ := two hs
  cases d <;> cases e <;> simp only [prim, pAdd, vI, reduceCtorEq] at hp
  · cases hp
    exact op_add pins s σ H x y v u Q I rx ry ⟨_, _, rs_int h1, rs_int h2, post_i po gh⟩
  · obtain ⟨c, rfl⟩ := small_some hp
    simp only [decide_eq_true_eq] at c
    refine op_add_str pins s σ H x y v u Q I rx ry ⟨_, _, rs_str h1, rs_str h2, big_line ?_, post_s po gh (str_app _ _)⟩
    rw [str_len, str_len]
    exact c
  · obtain ⟨c, rfl⟩ := small_some hp
    simp only [decide_eq_true_eq] at c
    obtain ⟨a, vs, rfl, e1, r1⟩ := rs_tup gh h1
    obtain ⟨b, us, rfl, e2, r2⟩ := rs_tup gh h2
    refine op_catA pins s σ H _ _ v u Q I rx ry ⟨a, b, vs, us, rfl, rfl, .inl (.inl e1), .inl (.inl e2), big_line (by rw [reps_len r1, reps_len r2]; exact c), fun z => ?_, fun _ z => ?_, fun _ _ p hp => ?_⟩
    · subst z
      have z : (_ : List D) = [] := List.length_eq_zero_iff.mp (reps_len r1).symm
      rw [z] at po
      exact post_v po gh (by rcases h2 with h2 | ⟨_, _, h2⟩; exact h2; exact h2.elim)
    · subst z
      have z := List.length_eq_zero_iff.mp (reps_len r2).symm
      rw [z, List.append_nil] at po
      exact post_v po gh (by rcases h1 with h1 | ⟨_, _, h1⟩; exact h1; exact h1.elim)
    · exact post_t po gh hp (reps_append r1 r2)
  · obtain ⟨c, rfl⟩ := small_some hp
    simp only [decide_eq_true_eq] at c
    obtain ⟨a, vs, rfl, e1, r1⟩ := rs_lst gh h1
    obtain ⟨b, us, rfl, e2, r2⟩ := rs_lst gh h2
    exact op_cat pins s σ H _ _ v u Q I rx ry ⟨a, b, vs, us, rfl, rfl, e1, e2, big_line (by rw [reps_len r1, reps_len r2]; exact c), fun p hp => post_l po gh hp (reps_append r1 r2)⟩
  · obtain ⟨c, rfl⟩ := small_some hp
    simp only [Bool.and_eq_true, decide_eq_true_eq, Bool.not_eq_true', List.isEmpty_eq_false_iff] at c
    obtain ⟨a, o, vs, rfl, _, e1, r1⟩ := rs_ftp gh h1
    obtain ⟨b, us, rfl, e2, r2⟩ := rs_tup gh h2
    refine op_catA pins s σ H _ _ v u Q I rx ry ⟨a, b, vs, us, rfl, rfl, .inl (.inr ⟨o, e1⟩), .inl (.inl e2), big_line (by rw [reps_len r1, reps_len r2]; exact c.1), fun z => ?_, fun _ z => ?_, fun _ _ p hp => ?_⟩
    · subst z
      have z : (_ : List D) = [] := List.length_eq_zero_iff.mp (reps_len r1).symm
      rw [z] at po
      exact post_v po gh (by rcases h2 with h2 | ⟨_, _, h2⟩; exact h2; exact h2.elim)
    · subst z
      have z := List.length_eq_zero_iff.mp (reps_len r2).symm
      exact absurd z c.2
    · exact post_t po gh hp (reps_append r1 r2)
theorem or_sub : OpR X (binaryOp .Sub) (PR2 W .sub) := by
  intro pins s σ H x y v u Q I rx ry ⟨G, ds, r, gh, hs, hp, po⟩
  obtain ⟨d, e, rfl, h1, h2⟩ := two hs
  cases d <;> cases e <;> simp only [prim, pSub, vI, reduceCtorEq] at hp
  cases hp
  exact op_sub pins s σ H x y v u Q I rx ry ⟨_, _, rs_int h1, rs_int h2, post_i po gh⟩
theorem op_mul_str : OpR X (binaryOp .Mult) (fun x y H Q => ∃ (a : Str) (k : Int), x = .str a ∧ y = .int k ∧ MulOk a k ∧ Q (.str (Txt.mul a k)) H) := by
  intro pins s σ H x y v u Q I rx ry ⟨a, k, e1, e2, ok, q⟩
  subst e1 e2
  obtain ⟨t, rfl⟩ := rx
  obtain ⟨t2, rfl⟩ := ry
  exact SB.mul ok fun t' k => ⟨.str _, H, I.tok k, ⟨t', rfl⟩, q⟩
theorem foldl_cps (a : List Nat) : ∀ (n : Nat) (b : Array Nat), ((List.replicate n a.toArray).foldl (· ++ ·) b).toList = b.toList ++ (List.replicate n a).flatten
  | 0, b => by simp
  | n + 1, b => by
    simp only [List.replicate_succ, List.foldl_cons, List.flatten_cons]
    rw [foldl_cps a n]
    simp
theorem mul_txt (a : List Nat) (k : Int) : (Txt.mul ⟨a.toArray⟩ k).cps.toList = (List.replicate k.toNat a).flatten := by
  unfold Txt.mul
  by_cases h1 : k < 1
  · rw [if_pos h1]
    have : k.toNat = 0 := by omega
    rw [this]
    rfl
  · rw [if_neg h1]
    by_cases h2 : (k == 1 || (⟨a.toArray⟩ : Str).length == 0) = true
    · rw [if_pos h2]
      rw [Bool.or_eq_true, beq_iff_eq, beq_iff_eq, str_len] at h2
      rcases h2 with h2 | h2
      · subst h2; simp
      · have : a = [] := List.length_eq_zero_iff.mp h2
        subst this
        have z : ∀ n : Nat, (List.replicate n ([] : List Nat)).flatten = [] := fun n => by induction n with
          | zero => rfl
          | succ n ih => simp [List.replicate_succ, ih]
        rw [z]
    · rw [if_neg h2]
      show ((List.replicate k.toNat a.toArray).foldl (· ++ ·) #[]).toList = _
      rw [foldl_cps]
      rfl
theorem mul_ok {a : List Nat} {k : Int} (h1 : -(big : Int) ≤ k) (h2 : k ≤ big) (h3 : a.length * k.toNat ≤ big) : MulOk ⟨a.toArray⟩ k := by
  have hb : (big : Int) = 100000 := rfl
  refine ⟨?_, fun p q => ?_, fun _ _ => ?_⟩
  · simp only [Bool.or_eq_false_iff, decide_eq_false_iff_not]
    omega
  · rw [str_len]
    have h4 : (a.length : Int) ≤ 100000 := by
      have : a.length ≤ a.length * k.toNat := Nat.le_mul_of_pos_right _ (by omega)
      omega
    have h5 : (100000 : Int) ≤ (2 ^ 63 - 1) / k := by
      apply Int.le_ediv_of_mul_le (by omega)
      have : (100000 : Int) * k ≤ 100000 * 100000 := by omega
      omega
    omega
  · rw [str_len]
    have : a.length * k.toNat ≤ 100000 := h3
    unfold Builtin.Str.tooLong
    rw [decide_eq_false_iff_not]
    have h4 : sizeLine = 16777216 := rfl
    rw [h4]
    omega
theorem or_mul (hK : X.K = W.K) : OpR X (binaryOp .Mult) (PR2 W .mul) := by
  intro pins s σ H x y v u Q I rx ry ⟨G, ds, r, gh, hs, hp, po⟩
  obtain ⟨d, e, rfl, h1, h2⟩ := two hs
  cases d <;> cases e <;> simp only [prim, pMul, vI, reduceCtorEq] at hp
  · obtain ⟨c, rfl⟩ := small_some hp
    simp only [Bool.and_eq_true, Bool.or_eq_true, decide_eq_true_eq] at c
    exact op_mul pins s σ H x y v u Q I rx ry ⟨_, _, rs_int h1, rs_int h2, c.symm, post_i po gh⟩
  · obtain ⟨c, rfl⟩ := small_some hp
    simp only [Bool.and_eq_true, decide_eq_true_eq] at c
    exact op_mul_str pins s σ H x y v u Q I rx ry ⟨_, _, rs_str h1, rs_int h2, mul_ok c.1.1 c.1.2 c.2, post_s po gh (mul_txt _ _)⟩
  · obtain ⟨c, rfl⟩ := small_some hp
    simp only [Bool.and_eq_true, decide_eq_true_eq, Bool.not_eq_true'] at c
    obtain ⟨a, vs, rfl, e1, r1⟩ := rs_tup gh h1
    rename_i k1
    by_cases k1e : k1 = 1
    · subst k1e
      refine op_rep1 pins s σ H _ y v u Q I rx ry ⟨a, vs, rfl, rs_int h2, .inl (.inl e1), post_v po gh ?_⟩
      have e2 : ∀ l : List D, (List.replicate (1 : Int).toNat l).flatten = l := fun l => by simp
      rw [e2]
      rcases h1 with h1 | ⟨_, _, h1⟩
      · exact h1
      · exact h1.elim
    have k2 : (2 : Int) ≤ k1 := by have := c.1.1.1; omega
    refine op_repT pins s σ H _ y v u Q I rx ry ⟨a, _, vs, rfl, rs_int h2, .inl (.inl e1), fun z => ?_, k2, c.1.1.2, by rw [reps_len r1]; exact c.1.2, fun p hp => post_t po gh hp (reps_rep r1 _)⟩
    subst z
    have h0 := reps_len r1
    have c4 := c.2
    rw [List.isEmpty_eq_false_iff] at c4
    exact c4 (List.eq_nil_of_length_eq_zero h0.symm)
  · obtain ⟨c, rfl⟩ := small_some hp
    simp only [Bool.and_eq_true, decide_eq_true_eq] at c
    obtain ⟨a, vs, rfl, e1, r1⟩ := rs_lst gh h1
    have hb : (big : Int) = 100000 := rfl
    refine op_rep pins s σ H _ y v u Q I rx ry ⟨a, _, vs, rfl, rs_int h2, e1, by omega, by omega, big_line (by rw [reps_len r1]; exact c.2), fun p hp => post_l po gh hp (reps_rep r1 _)⟩
theorem or_fdiv : OpR X (binaryOp .FloorDiv) (PR2 W .fdiv) := by
  intro pins s σ H x y v u Q I rx ry ⟨G, ds, r, gh, hs, hp, po⟩
  obtain ⟨d, e, rfl, h1, h2⟩ := two hs
  cases d <;> cases e <;> simp only [prim, pFdiv, vI, reduceCtorEq] at hp
  obtain ⟨c, rfl⟩ := small_some hp
  simp only [Bool.and_eq_true, decide_eq_true_eq] at c
  exact op_fdivW pins s σ H x y v u Q I rx ry ⟨_, _, rs_int h1, rs_int h2, wide_div (b := 200) c.1 (by omega) (by decide) (by decide), post_i po gh⟩
theorem or_mod : OpR X (binaryOp .Mod) (PR2 W .mod) := by
  intro pins s σ H x y v u Q I rx ry ⟨G, ds, r, gh, hs, hp, po⟩
  obtain ⟨d, e, rfl, h1, h2⟩ := two hs
  cases d <;> cases e <;> simp only [prim, pMod, vI, reduceCtorEq] at hp
  obtain ⟨c, rfl⟩ := small_some hp
  simp only [decide_eq_true_eq] at c
  exact op_mod pins s σ H x y v u Q I rx ry ⟨_, _, rs_int h1, rs_int h2, c, post_i po gh⟩
theorem or_pow : OpR X (binaryOp .Pow) (PR2 W .pow) := by
  intro pins s σ H x y v u Q I rx ry ⟨G, ds, r, gh, hs, hp, po⟩
  obtain ⟨d, e, rfl, h1, h2⟩ := two hs
  cases d <;> cases e <;> simp only [prim, pPow, vI, reduceCtorEq] at hp
  obtain ⟨c, rfl⟩ := small_some hp
  simp only [Bool.and_eq_true, decide_eq_true_eq] at c
  exact op_pow pins s σ H x y v u Q I rx ry ⟨_, _, rs_int h1, rs_int h2, ⟨c.1.1, by omega, c.2⟩, post_i po gh⟩
theorem ur_neg : UnR X (unaryOp .USub) (PR1 W .neg) := by
  intro pins s σ H x v Q I rx ⟨G, ds, r, gh, hs, hp, po⟩
  obtain ⟨d, rfl, h1⟩ := one hs
  cases d <;> simp only [prim, pNeg, vI, reduceCtorEq] at hp
  cases hp
  exact un_neg pins s σ H x v Q I rx ⟨_, rs_int h1, post_i po gh⟩
theorem eq_gen {G H : Hp} {d e : D} {x y : V} {Q : VK} {n : Bool} (gh : Ex G H) (h1 : RepS W G H d x) (h2 : RepS W G H e y) (c : d.plain 64 = true ∧ e.plain 64 = true)
    (po : Post W G H (.val (.bl (if n then !D.eqv d e else D.eqv d e))) Q) : ∃ d e, Dp W.K H x d ∧ Dp W.K H y e ∧ SeqAt.shaped d = true ∧ SeqAt.shaped e = true ∧ Q (.bl (if n then !PyData.eqv d e else PyData.eqv d e)) H :=
  ⟨toP d, toP e, dpS_of gh c.1 h1, dpS_of gh c.2 h2, shaped_of c.1, shaped_of c.2, by rw [eqv_toP 64 d e c.1 c.2]; exact post_b po gh⟩
theorem dec_int (a b : Int) : decide (V.int a = V.int b) = (a == b) := by
  by_cases h : a = b
  · subst h; simp
  · rw [decide_eq_false fun z => h (V.int.inj z), beq_eq_false_iff_ne.mpr h]
theorem dec_str (a b : List Nat) : decide (V.str ⟨a.toArray⟩ = V.str ⟨b.toArray⟩) = (a == b) := by
  by_cases h : a = b
  · subst h; simp
  · rw [decide_eq_false fun z => h (by have := V.str.inj z; injection this with e; simpa using e), beq_eq_false_iff_ne.mpr h]
theorem or_eq (hK : X.K = W.K) (hu : X.A.units + 64 < cLine) : OpR X (compareOp .Eq) (PR2 W .eq) := by
  intro pins s σ H x y v u Q I rx ry ⟨G, ds, r, gh, hs, hp, po⟩
  obtain ⟨d, e, rfl, h1, h2⟩ := two hs
  have gen : small (d.plain 64 && e.plain 64) (Res.val (.bl (D.eqv d e))) = some r → wpAny (model X.prog X.w) X.A (compareOp .Eq v u) (EP X pins σ Q) X.xe s := fun hp => by
    obtain ⟨c, rfl⟩ := small_some hp
    rw [Bool.and_eq_true] at c
    refine op_eqD hu pins s σ H x y v u Q I rx ry ?_
    rw [hK]
    exact eq_gen (n := false) gh h1 h2 c po
  cases d <;> cases e <;> simp only [prim, pEq, vB] at hp <;> first | exact gen hp | skip
  · cases hp
    refine op_eq pins s σ H x y v u Q I rx ry ?_
    rw [rs_str h1, rs_str h2]
    refine ⟨rfl, ?_⟩
    rw [dec_str]
    exact post_b po gh
theorem or_ne (hK : X.K = W.K) (hu : X.A.units + 64 < cLine) : OpR X (compareOp .NotEq) (PR2 W .ne) := by
  intro pins s σ H x y v u Q I rx ry ⟨G, ds, r, gh, hs, hp, po⟩
  obtain ⟨d, e, rfl, h1, h2⟩ := two hs
  have gen : small (d.plain 64 && e.plain 64) (Res.val (.bl (!D.eqv d e))) = some r → wpAny (model X.prog X.w) X.A (compareOp .NotEq v u) (EP X pins σ Q) X.xe s := fun hp => by
    obtain ⟨c, rfl⟩ := small_some hp
    rw [Bool.and_eq_true] at c
    refine op_neD hu pins s σ H x y v u Q I rx ry ?_
    rw [hK]
    exact eq_gen (n := true) gh h1 h2 c po
  cases d <;> cases e <;> simp only [prim, pNe, vB] at hp <;> first | exact gen hp | skip
  · cases hp
    refine op_ne pins s σ H x y v u Q I rx ry ?_
    rw [rs_str h1, rs_str h2]
    refine ⟨rfl, ?_⟩
    rw [dec_str]
    exact post_b po gh
theorem or_lt : OpR X (compareOp .Lt) (PR2 W .lt) := by
  intro pins s σ H x y v u Q I rx ry ⟨G, ds, r, gh, hs, hp, po⟩
  obtain ⟨d, e, rfl, h1, h2⟩ := two hs
  cases d <;> cases e <;> simp only [prim, pLt, vB, reduceCtorEq] at hp
  · cases hp
    exact op_lt pins s σ H x y v u Q I rx ry ⟨_, _, rs_int h1, rs_int h2, post_b po gh⟩
  · cases hp
    refine op_lt_str pins s σ H x y v u Q I rx ry ⟨_, _, rs_str h1, rs_str h2, ?_⟩
    exact post_b po gh
theorem or_le : OpR X (compareOp .LtE) (PR2 W .le) := by
  intro pins s σ H x y v u Q I rx ry ⟨G, ds, r, gh, hs, hp, po⟩
  obtain ⟨d, e, rfl, h1, h2⟩ := two hs
  cases d <;> cases e <;> simp only [prim, pLe, vB, reduceCtorEq] at hp
  cases hp
  exact op_le pins s σ H x y v u Q I rx ry ⟨_, _, rs_int h1, rs_int h2, post_b po gh⟩
theorem or_gt : OpR X (compareOp .Gt) (PR2 W .gt) := by
  intro pins s σ H x y v u Q I rx ry ⟨G, ds, r, gh, hs, hp, po⟩
  obtain ⟨d, e, rfl, h1, h2⟩ := two hs
  cases d <;> cases e <;> simp only [prim, pGt, vB, reduceCtorEq] at hp
  cases hp
  exact op_gt pins s σ H x y v u Q I rx ry ⟨_, _, rs_int h1, rs_int h2, post_b po gh⟩
theorem or_ge : OpR X (compareOp .GtE) (PR2 W .ge) := by
  intro pins s σ H x y v u Q I rx ry ⟨G, ds, r, gh, hs, hp, po⟩
  obtain ⟨d, e, rfl, h1, h2⟩ := two hs
  cases d <;> cases e <;> simp only [prim, pGe, vB, reduceCtorEq] at hp
  cases hp
  exact op_ge pins s σ H x y v u Q I rx ry ⟨_, _, rs_int h1, rs_int h2, post_b po gh⟩
end
end Itp
set_option Elab.async false
set_option linter.all false
set_option maxRecDepth 100000
set_option maxHeartbeats 4000000
namespace Itp
open PySem L2
section
variable {W : Wd} {G H : Hp}
/-! ### dicts: keys, places -/
theorem rs_dct {t : Bool} {kvs : List (D × D)} {v : V} (x : Ex G H) (h : RepS W G H (.dct t kvs) v) : ∃ a u l, v = .ref a ∧ Rd H a u ∧ dObj t u l ∧ RepK W G kvs l := by
  rcases h with h | ⟨a, e, h⟩
  · simp only [Rep] at h
    obtain ⟨a, o, u, l, e, h1, h2, h3⟩ := h
    exact ⟨a, u, l, e, .inr ⟨o, x _ _ h1⟩, h2, h3⟩
  · obtain ⟨u, l, h1, h2, h3⟩ := h
    exact ⟨a, u, l, e, .inl h1, h2, h3⟩
theorem key_d {d : D} {v : V} (h : d.isKey = true) (r : RepS W G H d v) : ∃ k : Key, d = keyD k ∧ v = kV k := by
  cases d <;> simp only [D.isKey, Bool.false_eq_true] at h
  · exact ⟨.inl _, rfl, rs_int r⟩
  · exact ⟨.inr _, by simp [keyD], rs_str r⟩
theorem keys_d : ∀ {ds : List D} {vs : List V}, ds.all D.isKey = true → Reps W G ds vs → ∃ ks : List Key, ds = ks.map keyD ∧ vs = ks.map kV
  | [], _, _, h => by simp only [Reps] at h; subst h; exact ⟨[], rfl, rfl⟩
  | d :: ds, _, f, h => by
    simp only [Reps] at h
    obtain ⟨v, r, rfl, h1, h2⟩ := h
    rw [List.all_cons, Bool.and_eq_true] at f
    obtain ⟨k, rfl, rfl⟩ := key_d (H := G) f.1 (.inl h1)
    obtain ⟨ks, rfl, rfl⟩ := keys_d f.2 h2
    exact ⟨k :: ks, rfl, rfl⟩
theorem keyD_inj {a b : Key} (h : keyD a = keyD b) : a = b := by
  cases a <;> cases b <;> simp only [keyD, D.int.injEq, D.str.injEq, reduceCtorEq] at h
  · rw [h]
  · rename_i x y
    congr 1
    cases x; cases y
    simp only at h
    congr 1
    exact Array.toList_inj.mp h
theorem keysD_inj : ∀ {a b : List Key}, a.map keyD = b.map keyD → a = b
  | [], [], _ => rfl
  | [], _ :: _, h => by cases h
  | _ :: _, [], h => by cases h
  | x :: a, y :: b, h => by
    simp only [List.map_cons, List.cons.injEq] at h
    rw [keyD_inj h.1, keysD_inj h.2]
theorem beq_key (a b : Key) : D.beq (keyD a) (keyD b) = decide (a = b) := by
  by_cases h : a = b
  · subst h
    rw [decide_eq_true rfl]
    cases a <;> simp [keyD, D.beq]
  · rw [decide_eq_false h]
    cases a <;> cases b <;> simp only [keyD, D.beq]
    · rename_i x y
      rw [beq_eq_false_iff_ne]
      intro e; exact h (by rw [e])
    · rename_i x y
      rw [beq_eq_false_iff_ne]
      intro e; exact h (keyD_inj (by simp only [keyD]; rw [e]))
theorem beqs_keys : ∀ a b : List Key, D.beqs (a.map keyD) (b.map keyD) = decide (a = b)
  | [], [] => by simp [D.beqs]
  | [], _ :: _ => by simp [D.beqs]
  | _ :: _, [] => by simp [D.beqs]
  | x :: a, y :: b => by
    simp only [List.map_cons, D.beqs, beq_key, beqs_keys a b]
    by_cases h1 : x = y <;> by_cases h2 : a = b <;> simp [h1, h2]
theorem beq_keyT (a b : List Key) : D.beq (.tup (a.map keyD)) (.tup (b.map keyD)) = decide (a = b) := by simp only [D.beq]; exact beqs_keys a b
/-- what a dict's entries are, one by one -/
theorem dget_gen {κ : Type} [DecidableEq κ] (f : κ → D) (hf : ∀ a b, D.beq (f a) (f b) = decide (a = b)) (k : κ) : ∀ {kvs : List (D × D)} {m : List (κ × V)}, RepK W G kvs (m.map fun p => (f p.1, p.2)) →
    (∀ d, dget kvs (f k) = some d → ∃ v, valV m k = some v ∧ Rep W G d v) ∧ (dget kvs (f k) = none → valV m k = none)
  | [], m, h => by
    simp only [RepK] at h
    cases m with
    | nil => exact ⟨fun d e => (by cases e), fun _ => rfl⟩
    | cons p m => cases h
  | (x, y) :: kvs, m, h => by
    simp only [RepK] at h
    obtain ⟨v, r, e, h1, h2⟩ := h
    cases m with
    | nil => cases e
    | cons p m =>
      simp only [List.map_cons, List.cons.injEq, Prod.mk.injEq] at e
      obtain ⟨⟨e1, e2⟩, e3⟩ := e
      subst e1 e3
      have ih := dget_gen f hf k h2
      simp only [dget, hf]
      by_cases hk : p.1 = k
      · rw [valV_pos hk]
        simp only [decide_eq_true hk, if_true]
        refine ⟨fun d e => ?_, fun e => by cases e⟩
        cases e
        exact ⟨_, rfl, by rw [e2]; exact h1⟩
      · rw [valV_neg hk]
        simp only [decide_eq_false hk, Bool.false_eq_true, if_false]
        exact ih
theorem dGet_ok {t : Bool} {kvs : List (D × D)} {k : D} {x y : V} (gh : Ex G H) (hd : RepS W G H (.dct t kvs) x) (hk : RepS W G H k y) (ok : keyOk t k = true) :
    ∃ a o, x = .ref a ∧ DGet H a y o ∧ (∀ d, dget kvs k = some d → ∃ v, o = some v ∧ Rep W G d v) ∧ (dget kvs k = none → o = none) := by
  obtain ⟨a, u, l, rfl, h1, h2, h3⟩ := rs_dct gh hd
  cases t with
  | false =>
    obtain ⟨m, rfl, rfl⟩ := h2
    obtain ⟨κ, rfl, rfl⟩ := key_d ok hk
    have z := dget_gen keyD beq_key κ h3
    exact ⟨a, valV m κ, rfl, .inl ⟨m, κ, h1, rfl, rfl⟩, z.1, z.2⟩
  | true =>
    obtain ⟨m, rfl, rfl⟩ := h2
    cases k <;> simp only [keyOk, Bool.false_eq_true] at ok
    obtain ⟨b, vs, rfl, e1, r1⟩ := rs_tup gh hk
    obtain ⟨ks, rfl, rfl⟩ := keys_d ok r1
    have z := dget_gen (fun a : List Key => D.tup (a.map keyD)) beq_keyT ks h3
    exact ⟨a, valV m ks, rfl, .inr ⟨m, ks, b, h1, rfl, e1, rfl⟩, z.1, z.2⟩
theorem dget_some {κ : Type} [DecidableEq κ] (f : κ → D) (hf : ∀ a b, D.beq (f a) (f b) = decide (a = b)) (k : κ) {kvs : List (D × D)} {m : List (κ × V)} (h : RepK W G kvs (m.map fun p => (f p.1, p.2))) : (dget kvs (f k)).isSome = (m.any fun kv => decide (kv.1 = k)) := by
  rw [valV_any]
  obtain ⟨h1, h2⟩ := dget_gen f hf k h
  cases q : dget kvs (f k) with
  | none => rw [h2 q]; rfl
  | some d => obtain ⟨v, e, _⟩ := h1 d q; rw [e]; rfl
theorem repK_snoc {d : D} {v : V} (x : D) (r : Rep W G d v) : ∀ {kvs : List (D × D)} {l : List (D × V)}, RepK W G kvs l → RepK W G (kvs ++ [(x, d)]) (l ++ [(x, v)])
  | [], l, h => by
    simp only [RepK] at h
    subst h
    simp only [List.nil_append, RepK]
    exact ⟨v, [], rfl, r, rfl⟩
  | (a, b) :: kvs, l, h => by
    simp only [RepK] at h
    obtain ⟨u, q, rfl, h1, h2⟩ := h
    rw [List.cons_append, List.cons_append]
    simp only [RepK]
    exact ⟨u, _, rfl, h1, repK_snoc x r h2⟩
/-- an entry is put -/
theorem dput_gen {κ : Type} [DecidableEq κ] (f : κ → D) (hf : ∀ a b, D.beq (f a) (f b) = decide (a = b)) (k : κ) {d : D} {v : V} (r : Rep W G d v) {kvs : List (D × D)} {m : List (κ × V)} (h : RepK W G kvs (m.map fun p => (f p.1, p.2))) :
    RepK W G (dput kvs (f k) d) ((putK m k v).map fun p => (f p.1, p.2)) := by
  have mp : ∀ {kvs : List (D × D)} {m : List (κ × V)}, RepK W G kvs (m.map fun p => (f p.1, p.2)) → RepK W G (kvs.map fun p => if D.beq p.1 (f k) then (p.1, d) else p) ((m.map (fun kv => if kv.1 = k then (kv.1, v) else kv)).map fun p => (f p.1, p.2)) := by
    intro kvs
    induction kvs with
    | nil =>
      intro m h
      simp only [RepK] at h
      cases m with
      | nil => simp only [List.map_nil, RepK]
      | cons p m => cases h
    | cons xy kvs ih =>
      intro m h
      obtain ⟨x, y⟩ := xy
      simp only [RepK] at h
      obtain ⟨v', r', e, h1, h2⟩ := h
      cases m with
      | nil => cases e
      | cons p m =>
        simp only [List.map_cons, List.cons.injEq, Prod.mk.injEq] at e
        obtain ⟨⟨e1, e2⟩, e3⟩ := e
        subst e1 e3
        have i1 := ih h2
        rw [List.map_cons, List.map_cons, List.map_cons, hf]
        by_cases hk : p.1 = k
        · simp only [decide_eq_true hk, if_true, if_pos hk, RepK]
          exact ⟨v, _, rfl, r, i1⟩
        · simp only [decide_eq_false hk, Bool.false_eq_true, if_false, if_neg hk, RepK]
          exact ⟨p.2, _, rfl, by rw [e2]; exact h1, i1⟩
  unfold putK dput
  rw [dget_some f hf k h]
  split
  · exact mp h
  · rw [List.map_append]
    exact repK_snoc _ r h
end
end Itp
set_option Elab.async false
set_option linter.all false
set_option maxRecDepth 100000
set_option maxHeartbeats 4000000
namespace Itp
open PySem L2
section
variable {X : Cx} {W : Wd}
theorem flat_of {G H : Hp} {d : D} {v : V} (f : d.flat = true) (h : RepS W G H d v) : flatV v = true := by
  cases d <;> simp [D.flat] at f
  · rw [rs_non h]; rfl
  · rw [rs_bl h]; rfl
  · rw [rs_int h]; rfl
  · rw [rs_str h]; rfl
theorem eqV_of {G H : Hp} {d e : D} {v u : V} (f : d.flat = true) (g : e.flat = true) (h : RepS W G H d v) (k : RepS W G H e u) : eqV v u = D.eqv d e := by
  cases d <;> simp [D.flat] at f <;> cases e <;> simp [D.flat] at g
  all_goals first
    | (rw [rs_non h, rs_non k]; rfl)
    | (rw [rs_non h, rs_bl k]; rfl)
    | (rw [rs_non h, rs_int k]; rfl)
    | (rw [rs_non h, rs_str k]; rfl)
    | (rw [rs_bl h, rs_non k]; rfl)
    | (rw [rs_bl h, rs_bl k]; rfl)
    | (rw [rs_bl h, rs_int k]; rfl)
    | (rw [rs_bl h, rs_str k]; rfl)
    | (rw [rs_int h, rs_non k]; rfl)
    | (rw [rs_int h, rs_bl k]; rfl)
    | (rw [rs_int h, rs_int k]; rfl)
    | (rw [rs_int h, rs_str k]; rfl)
    | (rw [rs_str h, rs_non k]; rfl)
    | (rw [rs_str h, rs_bl k]; rfl)
    | (rw [rs_str h, rs_int k]; rfl)
    | (rw [rs_str h, rs_str k]; exact str_beq _ _)
theorem flats_of {G : Hp} : ∀ {ds : List D} {vs : List V}, ds.all D.flat = true → Reps W G ds vs → vs.all flatV = true
  | [], _, _, h => by simp only [Reps] at h; subst h; rfl
  | d :: ds, _, f, h => by
    simp only [Reps] at h
    obtain ⟨v, r, rfl, h1, h2⟩ := h
    simp only [List.all_cons, Bool.and_eq_true] at f ⊢
    exact ⟨flat_of (H := G) f.1 (.inl h1), flats_of f.2 h2⟩
theorem inV_of {G H : Hp} {d : D} {v : V} (f : d.flat = true) (h : RepS W G H d v) : ∀ {ds : List D} {vs : List V}, ds.all D.flat = true → Reps W G ds vs → inV v vs = ds.any fun y => D.eqv y d
  | [], _, _, k => by simp only [Reps] at k; subst k; rfl
  | e :: ds, _, g, k => by
    simp only [Reps] at k
    obtain ⟨u, r, rfl, k1, k2⟩ := k
    simp only [List.all_cons, Bool.and_eq_true] at g
    have ih := inV_of f h g.2 k2
    unfold inV at ih ⊢
    simp only [List.any_cons]
    rw [ih, eqV_of g.1 f (.inl k1) h]
theorem any_toP {d : D} (p : d.plain 64 = true) : ∀ (n : Nat) {ys : List D}, n ≤ 64 → D.plains n ys = true → (toPs ys).any (fun z => PyData.eqv z (toP d)) = ys.any fun y => D.eqv y d
  | _, [], _, _ => rfl
  | n, y :: ys, hn, q => by
    simp only [D.plains, Bool.and_eq_true] at q
    simp only [toPs, List.any_cons]
    rw [any_toP p n hn q.2, eqv_toP 64 y d (plain_le hn _ q.1) p]
where
  plain_le {n : Nat} (hn : n ≤ 64) : ∀ (y : D), y.plain n = true → y.plain 64 = true := fun y h => plain_mono n 64 hn y h
  plain_mono : ∀ (n m : Nat) (hn : n ≤ m) (y : D), y.plain n = true → y.plain m = true
    | n, m, hn, .non, h => by cases m <;> simp [D.plain]
    | n, m, hn, .bl _, h => by cases m <;> simp [D.plain]
    | n, m, hn, .int _, h => by cases m <;> simp [D.plain]
    | n, m, hn, .str _, h => by cases n <;> cases m <;> simpa [D.plain] using h
    | 0, m, hn, .tup _, h => by simp [D.plain] at h
    | 0, m, hn, .lst _, h => by simp [D.plain] at h
    | 0, m, hn, .ftp _, h => by simp [D.plain] at h
    | n + 1, 0, hn, _, h => by omega
    | n + 1, m + 1, hn, .tup xs, h => by
      simp only [D.plain] at h ⊢
      exact plains_mono n m (by omega) xs h
    | n + 1, m + 1, hn, .lst xs, h => by
      simp only [D.plain] at h ⊢
      exact plains_mono n m (by omega) xs h
    | n + 1, m + 1, hn, .ftp xs, h => by
      simp only [D.plain] at h ⊢
      exact plains_mono n m (by omega) xs h
    | n, m, hn, .dct _ _, h => by cases n <;> simp [D.plain] at h
    | n, m, hn, .fn _, h => by cases n <;> simp [D.plain] at h
    | n, m, hn, .scr _, h => by cases n <;> simp [D.plain] at h
  plains_mono : ∀ (n m : Nat) (hn : n ≤ m) (ys : List D), D.plains n ys = true → D.plains m ys = true
    | n, m, hn, [], h => by simp [D.plains]
    | n, m, hn, y :: ys, h => by
      simp only [D.plains, Bool.and_eq_true] at h ⊢
      exact ⟨plain_mono n m hn y h.1, plains_mono n m hn ys h.2⟩
theorem or_inn (hK : X.K = W.K) (hu : X.A.units + 65 < cLine) : OpR X (compareOp .In) (PR2 W .inn) := by
  intro pins s σ H x y v u Q I rx ry ⟨G, ds, r, gh, hs, hp, po⟩
  obtain ⟨d, e, rfl, h1, h2⟩ := two hs
  have genL : ∀ ys, e = .lst ys → small (d.plain 64 && (D.lst ys).plain 64) (Res.val (.bl (ys.any fun y => D.eqv y d))) = some r → wpAny (model X.prog X.w) X.A (compareOp .In v u) (EP X pins σ Q) X.xe s := fun ys e1 hq => by
    subst e1
    obtain ⟨c, rfl⟩ := small_some hq
    rw [Bool.and_eq_true] at c
    refine op_inD hu pins s σ H x y v u Q I rx ry ?_
    rw [hK]
    have h3 := dpS_of gh c.2 h2
    have h4 := shaped_of c.2
    simp only [toP] at h3 h4
    refine ⟨toP d, toPs ys, dpS_of gh c.1 h1, h3, shaped_of c.1, h4, ?_⟩
    rw [any_toP c.1 63 (by decide) (by simpa only [D.plain] using c.2)]
    exact post_b po gh
  have genT : ∀ ys, e = .tup ys → small (d.flat && ys.all D.flat) (Res.val (.bl (ys.any fun y => D.eqv y d))) = some r → wpAny (model X.prog X.w) X.A (compareOp .In v u) (EP X pins σ Q) X.xe s := fun ys e1 hq => by
    subst e1
    obtain ⟨c, rfl⟩ := small_some hq
    rw [Bool.and_eq_true] at c
    obtain ⟨b, us, rfl, e2, r2⟩ := rs_tup gh h2
    refine op_in_seq pins s σ H x _ v u Q I rx ry ⟨b, us, rfl, .inr (.inl (.inl e2)), flat_of c.1 h1, flats_of c.2 r2, ?_⟩
    rw [inV_of c.1 h1 c.2 r2]
    exact post_b po gh
  cases e with
  | lst ys =>
    refine genL ys rfl ?_
    cases d <;> simpa only [prim, pInn] using hp
  | tup ys =>
    refine genT ys rfl ?_
    cases d <;> simpa only [prim, pInn] using hp
  | str z =>
    cases d <;> simp only [prim, pInn, reduceCtorEq] at hp
    rename_i l
    match l, hp, h1 with
    | [c], hp, h1 =>
      simp only [pInn, vB] at hp
      cases hp
      refine op_in_sign pins s σ H x y v u Q I rx ry ⟨c, _, rs_str h1, rs_str h2, ?_⟩
      exact post_b po gh
    | [], hp, _ => simp [pInn] at hp
    | _ :: _ :: _, hp, _ => simp [pInn] at hp
  | dct t kvs =>
    have hp : small (keyOk t d) (Res.val (.bl (dget kvs d).isSome)) = some r := by
      cases d <;> first | (simpa only [prim, pInn] using hp) | (rename_i l; match l, hp with | [], hp => simpa only [prim, pInn] using hp | [_], hp => simpa only [prim, pInn] using hp | _ :: _ :: _, hp => simpa only [prim, pInn] using hp)
    obtain ⟨c, rfl⟩ := small_some hp
    obtain ⟨a, o, rfl, g, h3, h4⟩ := dGet_ok gh h2 h1 c
    obtain rfl : u = Value.ref a := ry
    refine d_in (by omega) I g rx fun s3 I3 => ⟨.bl o.isSome, H, I3, rfl, ?_⟩
    have e : o.isSome = (dget kvs d).isSome := by
      cases q : dget kvs d with
      | none => rw [h4 q]; rfl
      | some x => obtain ⟨v, e, _⟩ := h3 x q; rw [e]; rfl
    rw [e]
    exact post_b po gh
  | _ => cases d <;> simp only [prim, pInn, reduceCtorEq] at hp
theorem or_nin (hK : X.K = W.K) (hu : X.A.units + 65 < cLine) : OpR X (compareOp .NotIn) (PR2 W .nin) := by
  intro pins s σ H x y v u Q I rx ry ⟨G, ds, r, gh, hs, hp, po⟩
  obtain ⟨d, e, rfl, h1, h2⟩ := two hs
  have genL : ∀ ys, e = .lst ys → small (d.plain 64 && (D.lst ys).plain 64) (Res.val (.bl (!ys.any fun y => D.eqv y d))) = some r → wpAny (model X.prog X.w) X.A (compareOp .NotIn v u) (EP X pins σ Q) X.xe s := fun ys e1 hq => by
    subst e1
    obtain ⟨c, rfl⟩ := small_some hq
    rw [Bool.and_eq_true] at c
    refine op_notInD hu pins s σ H x y v u Q I rx ry ?_
    rw [hK]
    have h3 := dpS_of gh c.2 h2
    have h4 := shaped_of c.2
    simp only [toP] at h3 h4
    refine ⟨toP d, toPs ys, dpS_of gh c.1 h1, h3, shaped_of c.1, h4, ?_⟩
    rw [any_toP c.1 63 (by decide) (by simpa only [D.plain] using c.2)]
    exact post_b po gh
  have genT : ∀ ys, e = .tup ys → small (d.flat && ys.all D.flat) (Res.val (.bl (!ys.any fun y => D.eqv y d))) = some r → wpAny (model X.prog X.w) X.A (compareOp .NotIn v u) (EP X pins σ Q) X.xe s := fun ys e1 hq => by
    subst e1
    obtain ⟨c, rfl⟩ := small_some hq
    rw [Bool.and_eq_true] at c
    obtain ⟨b, us, rfl, e2, r2⟩ := rs_tup gh h2
    refine op_notIn_seq pins s σ H x _ v u Q I rx ry ⟨b, us, rfl, .inr (.inl (.inl e2)), flat_of c.1 h1, flats_of c.2 r2, ?_⟩
    rw [inV_of c.1 h1 c.2 r2]
    exact post_b po gh
  cases e with
  | lst ys =>
    refine genL ys rfl ?_
    cases d <;> simpa only [prim, pNin] using hp
  | tup ys =>
    refine genT ys rfl ?_
    cases d <;> simpa only [prim, pNin] using hp
  | str z =>
    cases d <;> simp only [prim, pNin, reduceCtorEq] at hp
    rename_i l
    match l, hp, h1 with
    | [c], hp, h1 =>
      simp only [pNin, vB] at hp
      cases hp
      refine op_notIn_sign pins s σ H x y v u Q I rx ry ⟨c, _, rs_str h1, rs_str h2, ?_⟩
      exact post_b po gh
    | [], hp, _ => simp [pNin] at hp
    | _ :: _ :: _, hp, _ => simp [pNin] at hp
  | dct t kvs =>
    have hp : small (keyOk t d) (Res.val (.bl (!(dget kvs d).isSome))) = some r := by
      cases d <;> first | (simpa only [prim, pNin] using hp) | (rename_i l; match l, hp with | [], hp => simpa only [prim, pNin] using hp | [_], hp => simpa only [prim, pNin] using hp | _ :: _ :: _, hp => simpa only [prim, pNin] using hp)
    obtain ⟨c, rfl⟩ := small_some hp
    obtain ⟨a, o, rfl, g, h3, h4⟩ := dGet_ok gh h2 h1 c
    obtain rfl : u = Value.ref a := ry
    refine d_notIn (by omega) I g rx fun s3 I3 => ⟨.bl (!o.isSome), H, I3, rfl, ?_⟩
    have e : o.isSome = (dget kvs d).isSome := by
      cases q : dget kvs d with
      | none => rw [h4 q]; rfl
      | some x => obtain ⟨v, e, _⟩ := h3 x q; rw [e]; rfl
    rw [e]
    exact post_b po gh
  | _ => cases d <;> simp only [prim, pNin, reduceCtorEq] at hp
theorem isnon_of {G H : Hp} {d : D} {v : V} (h : RepS W G H d v) : decide (v = .non) = (match d with | .non => true | _ => false) := by
  rcases h with h | ⟨a, rfl, h⟩
  · cases d <;> simp only [Rep] at h
    · subst h; rfl
    · subst h; rfl
    · subst h; rfl
    · subst h; rfl
    · obtain ⟨a, _, rfl, _⟩ := h; rfl
    · obtain ⟨a, _, rfl, _⟩ := h; rfl
    · obtain ⟨a, _, _, _, rfl, _⟩ := h; rfl
    · obtain ⟨a, _, rfl⟩ := h; rfl
    · obtain ⟨a, rfl, _⟩ := h; rfl
    · obtain ⟨a, o, _, rfl, _⟩ := h; rfl
  · cases d <;> first | rfl | exact h.elim
theorem or_isN : OpR X (compareOp .Is) (fun x y H Q => y = .non ∧ PR1 W .isN x H Q) := by
  intro pins s σ H x y v u Q I rx ry ⟨ey, G, ds, r, gh, hs, hp, po⟩
  obtain ⟨d, rfl, h1⟩ := one hs
  refine op_isN pins s σ H x y v u Q I rx ry ⟨ey, ?_⟩
  rw [isnon_of h1]
  cases d <;> simp only [prim, pIsN, vB] at hp <;> (cases hp; exact post_b po gh)
theorem or_notN : OpR X (compareOp .IsNot) (fun x y H Q => y = .non ∧ PR1 W .notN x H Q) := by
  intro pins s σ H x y v u Q I rx ry ⟨ey, G, ds, r, gh, hs, hp, po⟩
  obtain ⟨d, rfl, h1⟩ := one hs
  refine op_notN pins s σ H x y v u Q I rx ry ⟨ey, ?_⟩
  rw [isnon_of h1]
  cases d <;> simp only [prim, pNotN, vB] at hp <;> (cases hp; exact post_b po gh)
theorem xr_ix (hK : X.K = W.K) (hu : X.A.units + 1 < cLine) : IxR X (PR2 W .ix) := by
  intro value slice pins s σ H x y v u Q I rx ry ⟨G, ds, r, gh, hs, hp, po⟩ hsub
  obtain ⟨d, e, rfl, h1, h2⟩ := two hs
  by_cases hd : isDct d = true
  · obtain ⟨t, kvs, rfl⟩ := dct_of hd
    simp only [prim, pIx, Option.bind_eq_some_iff] at hp
    obtain ⟨o, hc, hp⟩ := hp
    obtain ⟨c, rfl⟩ := small_some hc
    cases q : dget kvs e with
    | none => rw [q] at hp; cases hp
    | some k =>
      rw [q] at hp
      cases hp
      obtain ⟨a, o, rfl, g, h3, h4⟩ := dGet_ok gh h1 h2 c
      obtain ⟨w, rfl, rw'⟩ := h3 k q
      obtain rfl : v = Value.ref a := rx
      exact PyProof.Rows.tail_any (dict_typeIs I g) PySem.F.slot_dict_getitem.lookup (d_getItem hu I g ry fun w' s3 I3 r3 => ⟨w, H, I3, r3, post_v po gh rw'⟩) hsub
  cases d <;> first | exact absurd rfl hd | skip
  all_goals cases e <;> simp only [prim, pIx, reduceCtorEq] at hp
  · rename_i z i
    cases c : small (decide (z.length ≤ big)) (at? z i) with
    | none => rw [c] at hp; simp at hp
    | some o =>
      obtain ⟨c1, rfl⟩ := small_some c
      rw [c] at hp
      simp only [decide_eq_true_eq] at c1
      cases q : at? z i with
      | none => rw [q] at hp; simp at hp
      | some k =>
        rw [q] at hp
        simp at hp
        subst hp
        refine ix_str value slice pins s σ H x y v u Q I rx ry ⟨_, _, k, rs_str h1, rs_int h2, big_line (by rw [str_len]; exact c1), ?_, post_s po gh (by simp)⟩ hsub
        exact q
  · rename_i z i
    cases q : at? z i with
    | none => rw [q] at hp; simp at hp
    | some k =>
      rw [q] at hp
      simp at hp
      subst hp
      obtain ⟨a, vs, rfl, e1, r1⟩ := rs_tup gh h1
      obtain ⟨w, hw, rw'⟩ := at_rep r1 q
      exact ix_tup value slice pins s σ H _ y v u Q I rx ry ⟨a, vs, _, w, rfl, rs_int h2, .inl (.inl e1), hw, post_v po gh rw'⟩ hsub
  · rename_i z i
    cases q : at? z i with
    | none => rw [q] at hp; simp at hp
    | some k =>
      rw [q] at hp
      simp at hp
      subst hp
      obtain ⟨a, vs, rfl, e1, r1⟩ := rs_lst gh h1
      obtain ⟨w, hw, rw'⟩ := at_rep r1 q
      exact ix_list value slice pins s σ H _ y v u Q I rx ry ⟨a, vs, _, w, rfl, rs_int h2, .inl (.inl e1), hw, post_v po gh rw'⟩ hsub
  · rename_i z i
    cases q : at? z i with
    | none => rw [q] at hp; simp at hp
    | some k =>
      rw [q] at hp
      simp at hp
      subst hp
      obtain ⟨a, rfl, e1⟩ := rs_scr gh h1
      refine ix_list value slice pins s σ H _ y v u Q I rx ry ⟨a, _, _, .int k, rfl, rs_int h2, by rw [hK]; exact e1, ?_, post_i po gh⟩ hsub
      unfold at? at q
      unfold atI
      rw [List.length_map]
      cases q2 : ixOf z.length i with
      | none => rw [q2] at q; simp at q
      | some j =>
        rw [q2] at q
        rw [show ixN z.length i = some j from q2]
        have q3 : z[j]? = some k := q
        show (z.map V.int)[j]? = some (V.int k)
        rw [List.getElem?_map, q3]
        rfl
  · rename_i z i
    cases q : at? z i with
    | none => rw [q] at hp; simp at hp
    | some k =>
      rw [q] at hp
      simp at hp
      subst hp
      obtain ⟨a, o, vs, rfl, _, e1, r1⟩ := rs_ftp gh h1
      obtain ⟨w, hw, rw'⟩ := at_rep r1 q
      exact ix_tup value slice pins s σ H _ y v u Q I rx ry ⟨a, vs, _, w, rfl, rs_int h2, .inl (.inr ⟨o, e1⟩), hw, post_v po gh rw'⟩ hsub
def slArgs (x : V) (lo hi : Option Int) : List V := x :: (lo.toList.map V.int ++ hi.toList.map V.int)
theorem cutS_of (z : List Nat) (lo hi : Option Int) : (cutS ⟨z.toArray⟩ lo hi).cps.toList = cut z lo hi := by
  unfold cutS cut
  rw [str_len]
theorem cut_len {α : Type} (xs : List α) (lo hi : Option Int) : (cut xs lo hi).length ≤ xs.length := by
  unfold cut
  rw [List.length_take, List.length_drop]
  omega
theorem cut_whole {α : Type} (xs : List α) (lo hi : Option Int) (h : HT.sIx xs.length 0 lo = 0 ∧ HT.sIx xs.length xs.length hi = xs.length) : cut xs lo hi = xs := by
  unfold cut
  rw [h.1, h.2]
  simp
theorem sl_gen {pins : List (Addr × Obj)} {s : Shared} {σ : St} {H : Hp} {x : V} {v vl vu : Value} {lo hi : Option Int} {sl : Addr} {Q : VK} (I : Inv X pins σ H s) (rx : RelV x v) (hs : s.heap.IsSliceOf sl vl vu .none) (pl : IsPart vl lo) (pu : IsPart vu hi)
    {G : Hp} {d : D} {r : Res} (gh : Ex G H) (h1 : RepS W G H d x) (po : Post W G H r Q)
    (hr : (∃ z, d = .str z ∧ z.length ≤ big ∧ r = .val (.str (cut z lo hi))) ∨ (∃ z, d = .lst z ∧ r = .new (.lst (cut z lo hi))) ∨ (∃ z, d = .tup z ∧ r = .val (.tup (cut z lo hi))) ∨ ∃ z, d = .ftp z ∧ (cut z lo hi).length < z.length ∧ r = .val (.tup (cut z lo hi))) :
    ∃ T id, typeLookup (.type T) "__getitem__" = pure (some (.builtin id)) ∧ s.TypeIs v T ∧ wpAny (model X.prog X.w) X.A (getItem v (.ref sl)) (EP X pins σ Q) X.xe s := by
  rcases hr with ⟨z, rfl, hz, rfl⟩ | ⟨z, rfl, rfl⟩ | ⟨z, rfl, rfl⟩ | ⟨z, rfl, hz, rfl⟩
  · exact sl_str pins s σ H x v vl vu lo hi sl Q I rx hs pl pu ⟨_, rs_str h1, big_line (by rw [str_len]; exact hz), post_s po gh (cutS_of _ _ _)⟩
  · obtain ⟨a, vs, rfl, e1, r1⟩ := rs_lst gh h1
    exact sl_list pins s σ H _ v vl vu lo hi sl Q I rx hs pl pu ⟨a, vs, rfl, .inl (.inl e1), fun p hp => post_l po gh hp (reps_cut lo hi r1)⟩
  · obtain ⟨a, vs, rfl, e1, r1⟩ := rs_tup gh h1
    refine sl_tupA pins s σ H _ v vl vu lo hi sl Q I rx hs pl pu ⟨a, vs, rfl, .inl (.inl e1), fun w => ?_, fun _ p hp => post_t po gh hp (reps_cut lo hi r1)⟩
    rw [reps_len r1] at w
    rw [cut_whole z lo hi w] at po
    exact post_v po gh (by rcases h1 with h1 | ⟨_, _, h1⟩; exact h1; exact h1.elim)
  · obtain ⟨a, o, vs, rfl, _, e1, r1⟩ := rs_ftp gh h1
    refine sl_tupA pins s σ H _ v vl vu lo hi sl Q I rx hs pl pu ⟨a, vs, rfl, .inl (.inr ⟨o, e1⟩), fun w => ?_, fun _ p hp => post_t po gh hp (reps_cut lo hi r1)⟩
    rw [reps_len r1] at w
    rw [cut_whole z lo hi w] at hz
    omega
theorem sr_slc : SlR X (fun x lo hi H Q => PRn W (.slc lo.isSome hi.isSome) (slArgs x lo hi) H Q) := by
  intro pins s σ H x v vl vu lo hi sl Q I rx hs pl pu ⟨G, ds, r, gh, hd, hp, po⟩
  cases lo with
  | none =>
    cases hi with
    | none =>
      obtain ⟨d, rfl, h1⟩ := one hd
      refine sl_gen I rx hs pl pu gh h1 po ?_
      cases d <;> simp only [prim, pSlc, Option.isSome, reduceCtorEq] at hp
      obtain ⟨c, rfl⟩ := small_some hp
      exact .inl ⟨_, rfl, of_decide_eq_true c, rfl⟩
    | some b =>
      obtain ⟨d, e, rfl, h1, h2⟩ := two hd
      refine sl_gen I rx hs pl pu gh h1 po ?_
      cases d <;> cases e <;> simp only [prim, pSlc, Option.isSome, reduceCtorEq] at hp
      · have := rs_int h2; cases this
        obtain ⟨c, rfl⟩ := small_some hp
        exact .inl ⟨_, rfl, of_decide_eq_true c, rfl⟩
      · have := rs_int h2; cases this
        cases hp
        exact .inr (.inr (.inl ⟨_, rfl, rfl⟩))
      · have := rs_int h2; cases this
        cases hp
        exact .inr (.inl ⟨_, rfl, rfl⟩)
  | some a =>
    cases hi with
    | none =>
      obtain ⟨d, e, rfl, h1, h2⟩ := two hd
      refine sl_gen I rx hs pl pu gh h1 po ?_
      cases d <;> cases e <;> simp only [prim, pSlc, Option.isSome, reduceCtorEq] at hp
      · have := rs_int h2; cases this
        obtain ⟨c, rfl⟩ := small_some hp
        exact .inl ⟨_, rfl, of_decide_eq_true c, rfl⟩
      · have := rs_int h2; cases this
        cases hp
        exact .inr (.inr (.inl ⟨_, rfl, rfl⟩))
      · have := rs_int h2; cases this
        cases hp
        exact .inr (.inl ⟨_, rfl, rfl⟩)
      · have := rs_int h2; cases this
        obtain ⟨c, rfl⟩ := small_some hp
        exact .inr (.inr (.inr ⟨_, rfl, of_decide_eq_true c, rfl⟩))
    | some b =>
      have l := rss_len hd
      match ds, l, hd with
      | [d, e, f], _, hd =>
        simp only [RepSs] at hd
        obtain ⟨v1, r1, q1, h1, v2, r2, rfl, h2, v3, r3, rfl, h3, rfl⟩ := hd
        cases q1
        refine sl_gen I rx hs pl pu gh h1 po ?_
        cases d <;> cases e <;> cases f <;> simp only [prim, pSlc, Option.isSome, reduceCtorEq] at hp
        · have := rs_int h2; cases this
          have := rs_int h3; cases this
          obtain ⟨c, rfl⟩ := small_some hp
          exact .inl ⟨_, rfl, of_decide_eq_true c, rfl⟩
        · have := rs_int h2; cases this
          have := rs_int h3; cases this
          cases hp
          exact .inr (.inr (.inl ⟨_, rfl, rfl⟩))
        · have := rs_int h2; cases this
          have := rs_int h3; cases this
          cases hp
          exact .inr (.inl ⟨_, rfl, rfl⟩)
        · have := rs_int h2; cases this
          have := rs_int h3; cases this
          obtain ⟨c, rfl⟩ := small_some hp
          exact .inr (.inr (.inr ⟨_, rfl, of_decide_eq_true c, rfl⟩))
end
end Itp
set_option Elab.async false
set_option linter.all false
set_option maxRecDepth 100000
set_option maxHeartbeats 4000000
namespace Itp
open PySem L2
section
variable {X : Cx} {W : Wd}
theorem repK_len {G : Hp} : ∀ {kvs : List (D × D)} {l : List (D × V)}, RepK W G kvs l → l.length = kvs.length
  | [], _, h => by simp only [RepK] at h; subst h; rfl
  | (a, b) :: kvs, _, h => by
    simp only [RepK] at h
    obtain ⟨v, r, rfl, _, h2⟩ := h
    simp [repK_len h2]
/-- list(x) of a text -/
theorem call_list_txt (hc : X.calm = true) : CallR X (.type "list") (r1 fun x H Q => ∃ a : List Nat, x = .str ⟨a.toArray⟩ ∧ a.length ≤ sizeLine ∧ ∀ q, H q = none → Q (.ref q) (upd H q (.lst (a.map fun c => V.str ⟨#[c]⟩)))) :=
  call_r1 fun pins s σ H x v Q I r h => by
    obtain ⟨a, rfl, hz, q⟩ := h
    obtain ⟨t, rfl⟩ := r
    refine call_list_str (I.ok.hd hc) _ t (hn := by simpa using hz) fun h' tk acc c' hk e hi => ?_
    refine ⟨.ref s.heap.objs.size, upd H s.heap.objs.size (.lst (a.map fun c => V.str ⟨#[c]⟩)), I.laid hk (Nat.le_refl _) ⟨by rw [List.length_map]; exact hz, acc.toList, c', ?_, by rw [Array.toArray_toList]; exact e⟩, rfl, q _ (I.hok.fresh (Nat.le_refl _))⟩
    refine vals_of_idx _ _ (by rw [List.length_map, Array.length_toList]; simpa using hi.1) fun j u hj => ?_
    obtain ⟨c, t', hc, rfl⟩ := hi.2 j u (by rw [← Array.getElem?_toList]; exact hj)
    exact ⟨.str ⟨#[c]⟩, by simpa using hc, ⟨_, rfl⟩⟩
theorem reps_signs {G : Hp} : ∀ a : List Nat, Reps W G (a.map fun c => D.str [c]) (a.map fun c => V.str ⟨#[c]⟩)
  | [] => by simp only [List.map_nil, Reps]
  | c :: a => by
    simp only [List.map_cons, Reps]
    exact ⟨_, _, rfl, by simp only [Rep], reps_signs a⟩
theorem cr_len (hK : X.K = W.K) : CallR X (.builtin "len") (PRn W .len) := by
  intro pins s σ H xs us Q I r0 ⟨G, ds, r, gh, hs, hp, po⟩
  match ds, hs, hp with
  | [], _, hp => simp [prim, pLen] at hp
  | _ :: _ :: _, _, hp => simp [prim, pLen] at hp
  | [d], hs, hp =>
    obtain ⟨v, rfl, h1⟩ := rss1 hs
    cases d <;> simp only [prim, pLen, vI, reduceCtorEq] at hp
    · obtain ⟨c, rfl⟩ := small_some hp
      refine call_len_str pins s σ H _ us Q I r0 ⟨_, by rw [rs_str h1], big_line (by rw [str_len]; exact of_decide_eq_true c), ?_⟩
      rw [str_len]
      exact post_i po gh
    · cases hp
      obtain ⟨a, vs, rfl, e1, r1⟩ := rs_tup gh h1
      refine call_len_seq pins s σ H _ us Q I r0 ⟨a, vs, rfl, .inr (.inl (.inl e1)), ?_⟩
      rw [reps_len r1]
      exact post_i po gh
    · cases hp
      obtain ⟨a, vs, rfl, e1, r1⟩ := rs_lst gh h1
      refine call_len_seq pins s σ H _ us Q I r0 ⟨a, vs, rfl, .inl (.inl (.inl e1)), ?_⟩
      rw [reps_len r1]
      exact post_i po gh
    · rename_i t kvs
      cases t <;> simp only [reduceCtorEq] at hp
      cases hp
      obtain ⟨a, u, l, rfl, g1, g2, g3⟩ := rs_dct gh h1
      obtain ⟨m, rfl, rfl⟩ := g2
      obtain ⟨u, rfl, rx⟩ := vals1 r0
      obtain rfl : u = Value.ref a := rx
      refine d_len I g1 fun t s' I' => ⟨.int m.length, H, I', ⟨_, rfl⟩, ?_⟩
      have := repK_len g3
      rw [List.length_map] at this
      rw [this]
      exact post_i po gh
    · cases hp
      obtain ⟨a, rfl, e1⟩ := rs_scr gh h1
      refine call_len_seq pins s σ H _ us Q I r0 ⟨a, _, rfl, .inl (by rw [hK]; exact e1), ?_⟩
      rw [List.length_map]
      exact post_i po gh
    · cases hp
      obtain ⟨a, o, vs, rfl, _, e1, r1⟩ := rs_ftp gh h1
      refine call_len_seq pins s σ H _ us Q I r0 ⟨a, vs, rfl, .inr (.inl (.inr ⟨o, e1⟩)), ?_⟩
      rw [reps_len r1]
      exact post_i po gh
theorem fig_all1 : ∀ a : Fin 10, PySem.intText? (⟨#[48 + a.val]⟩ : Str) = some (a.val : Int) := by decide +kernel
theorem fig_all2 : ∀ a b : Fin 10, PySem.intText? (⟨#[48 + a.val, 48 + b.val]⟩ : Str) = some (10 * (a.val : Int) + (b.val : Int)) := by decide +kernel
theorem fig_1 {a : Nat} (h : fig a = true) : PySem.intText? (⟨[a].toArray⟩ : Str) = some ((a : Int) - 48) := by
  simp only [fig, Bool.and_eq_true, decide_eq_true_eq] at h
  have := fig_all1 ⟨a - 48, by omega⟩
  simp only [show 48 + (a - 48) = a by omega] at this
  rw [show ((a - 48 : Nat) : Int) = (a : Int) - 48 by omega] at this
  exact this
theorem fig_2 {a b : Nat} (h : fig a = true) (g : fig b = true) : PySem.intText? (⟨[a, b].toArray⟩ : Str) = some (10 * ((a : Int) - 48) + ((b : Int) - 48)) := by
  simp only [fig, Bool.and_eq_true, decide_eq_true_eq] at h g
  have := fig_all2 ⟨a - 48, by omega⟩ ⟨b - 48, by omega⟩
  simp only [show 48 + (a - 48) = a by omega, show 48 + (b - 48) = b by omega] at this
  rw [show ((a - 48 : Nat) : Int) = (a : Int) - 48 by omega, show ((b - 48 : Nat) : Int) = (b : Int) - 48 by omega] at this
  exact this
theorem dec_all : ∀ n : Fin 100, ((toString (n.val : Int) : String) : Str).cps.toList = dec n.val := by decide +kernel
theorem dec_of {m : Nat} (h : m < 100) : ((toString (m : Int) : String) : Str).cps.toList = dec m := dec_all ⟨m, h⟩
theorem cr_int : CallR X (.type "int") (PRn W .int) := by
  intro pins s σ H xs us Q I r0 ⟨G, ds, r, gh, hs, hp, po⟩
  match ds, hs, hp with
  | [], _, hp => simp [prim, pInt] at hp
  | _ :: _ :: _, _, hp => simp [prim, pInt] at hp
  | [d], hs, hp =>
    obtain ⟨v, rfl, h1⟩ := rss1 hs
    cases d <;> simp only [prim, pInt, vI, reduceCtorEq] at hp
    · cases hp
      exact call_int1 pins s σ H _ us Q I r0 (.inr ⟨_, by rw [rs_bl h1], post_i po gh⟩)
    · cases hp
      exact call_int1 pins s σ H _ us Q I r0 (.inl ⟨_, by rw [rs_int h1], post_i po gh⟩)
    · rename_i z
      match z, hp, h1 with
      | [a], hp, h1 =>
        obtain ⟨k, rfl⟩ := small_some hp
        refine call_int_str pins s σ H _ us Q I r0 ⟨_, _, by rw [rs_str h1], fig_1 k, by simp [Str.length], post_i po gh⟩
      | [a, b], hp, h1 =>
        obtain ⟨k, rfl⟩ := small_some hp
        rw [Bool.and_eq_true] at k
        refine call_int_str pins s σ H _ us Q I r0 ⟨_, _, by rw [rs_str h1], fig_2 k.1 k.2, by simp [Str.length], post_i po gh⟩
      | [], hp, _ => simp [pInt] at hp
      | _ :: _ :: _ :: _, hp, _ => simp [pInt] at hp
theorem cr_str : CallR X (.type "str") (PRn W .str) := by
  intro pins s σ H xs us Q I r0 ⟨G, ds, r, gh, hs, hp, po⟩
  match ds, hs, hp with
  | [], _, hp => simp [prim, pStr] at hp
  | _ :: _ :: _, _, hp => simp [prim, pStr] at hp
  | [d], hs, hp =>
    obtain ⟨v, rfl, h1⟩ := rss1 hs
    cases d <;> simp only [prim, pStr, reduceCtorEq] at hp
    rename_i n
    obtain ⟨k, rfl⟩ := small_some hp
    rw [Bool.and_eq_true, decide_eq_true_eq, decide_eq_true_eq] at k
    obtain ⟨m, rfl⟩ : ∃ m : Nat, n = m := ⟨n.toNat, by omega⟩
    have hm : m < 100 := by omega
    refine call_str_int pins s σ H _ us Q I r0 ⟨_, by rw [rs_int h1], ?_, post_s po gh (by rw [Int.toNat_natCast]; exact dec_of hm)⟩
    rw [Int.natAbs_natCast]
    exact Nat.lt_of_le_of_lt (Nat.log2_le_self m) (by omega)
theorem cr_list (hc : X.calm = true) : CallR X (.type "list") (PRn W .list) := by
  intro pins s σ H xs us Q I r0 ⟨G, ds, r, gh, hs, hp, po⟩
  match ds, hs, hp with
  | [], _, hp => simp [prim, pList] at hp
  | _ :: _ :: _, _, hp => simp [prim, pList] at hp
  | [d], hs, hp =>
    obtain ⟨v, rfl, h1⟩ := rss1 hs
    cases d <;> simp only [prim, pList, reduceCtorEq] at hp
    · obtain ⟨c, rfl⟩ := small_some hp
      exact call_list_txt hc pins s σ H _ us Q I r0 ⟨_, rs_str h1, big_line (of_decide_eq_true c), fun p hp => post_l po gh hp (reps_signs _)⟩
    · cases hp
      obtain ⟨a, vs, rfl, e1, r1⟩ := rs_tup gh h1
      exact call_list_of pins s σ H _ us Q I r0 ⟨a, vs, rfl, .inr (.inl (.inl e1)), fun p hp => post_l po gh hp r1⟩
    · cases hp
      obtain ⟨a, vs, rfl, e1, r1⟩ := rs_lst gh h1
      exact call_list_of pins s σ H _ us Q I r0 ⟨a, vs, rfl, .inl (.inl (.inl e1)), fun p hp => post_l po gh hp r1⟩
    · cases hp
      obtain ⟨a, o, vs, rfl, _, e1, r1⟩ := rs_ftp gh h1
      exact call_list_of pins s σ H _ us Q I r0 ⟨a, vs, rfl, .inr (.inl (.inr ⟨o, e1⟩)), fun p hp => post_l po gh hp r1⟩
/-- tuple(list), the tuple's own object being told -/
theorem call_tuple_frz : CallR X (.type "tuple") (fun xs H Q => ∃ p ys, xs = [.ref p] ∧ SqL X.K H p ys ∧ ∀ (l : Addr) (o : Obj), H l = none → o.dict = none → Q (.ref l) (upd H l (.frz o (.tup ys)))) := by
  intro pins s σ H xs us Q I r h
  obtain ⟨p, ys, rfl, hq, q⟩ := h
  obtain ⟨u, rfl, rx⟩ := vals1 r
  cases rx
  obtain ⟨its, r', pl, hz⟩ := I.list hq
  have hlen := r'.length
  refine call_tuple_list pl.isList (fun h' kp => ?_) (by simp only [List.size_toArray] <;> omega)
  have I1 : L2.Inv X pins σ H { s with heap := h' } := I.kept (t' := s.toks) kp
  have I2 : L2.Inv X pins σ (upd H h'.objs.size (.frz { cls := .type "tuple", data := .seq its.toArray } (.tup ys))) { s with heap := h'.push { cls := .type "tuple", data := .seq its.toArray } } :=
    I1.laid (t' := s.toks) (fun b o e => Heap.get?_push_of_some _ e) (Nat.le_refl _) (show ObjOk X.prog X.w _ _ _ (.frz { cls := .type "tuple", data := .seq its.toArray } (.tup ys)) from ⟨Heap.get?_push_size _ rfl, hz, its, r', PyProof.Rows.IsTup.new _ _⟩)
  exact ⟨.ref h'.objs.size, _, I2, rfl, q _ _ (I1.hok.fresh (Nat.le_refl _)) rfl⟩
theorem cr_ftup : CallR X (.type "tuple") (PRn W .ftup) := by
  intro pins s σ H xs us Q I r0 ⟨G, ds, r, gh, hs, hp, po⟩
  match ds, hs, hp with
  | [], _, hp => simp [prim, pFtup] at hp
  | _ :: _ :: _, _, hp => simp [prim, pFtup] at hp
  | [d], hs, hp =>
    obtain ⟨v, rfl, h1⟩ := rss1 hs
    cases d <;> simp only [prim, pFtup, reduceCtorEq] at hp
    cases hp
    obtain ⟨a, vs, rfl, e1, r1⟩ := rs_lst gh h1
    refine call_tuple_frz pins s σ H _ us Q I r0 ⟨a, vs, rfl, .inl (.inl e1), fun l o hl ho => ?_⟩
    exact po (.ref l) _ _ (Grow.laidF gh hl) (by simp only [Rep]; exact ⟨l, o, vs, rfl, ho, upd_same, Reps.mono (Ex.new (gnone gh hl)) _ _ r1⟩)
theorem cr_tuple : CallR X (.type "tuple") (PRn W .tuple) := by
  intro pins s σ H xs us Q I r0 ⟨G, ds, r, gh, hs, hp, po⟩
  match ds, hs, hp with
  | [], _, hp => simp [prim, pTuple] at hp
  | _ :: _ :: _, _, hp => simp [prim, pTuple] at hp
  | [d], hs, hp =>
    obtain ⟨v, rfl, h1⟩ := rss1 hs
    cases d <;> simp only [prim, pTuple, reduceCtorEq] at hp
    · cases hp
      obtain ⟨a, vs, rfl, e1, r1⟩ := rs_tup gh h1
      refine call_tuple_of pins s σ H _ us Q I r0 ⟨a, vs, rfl, .inr ⟨.inl (.inl e1), ?_⟩⟩
      exact post_v po gh (by rcases h1 with h1 | ⟨_, _, h1⟩; exact h1; exact h1.elim)
    · cases hp
      obtain ⟨a, vs, rfl, e1, r1⟩ := rs_lst gh h1
      exact call_tuple_of pins s σ H _ us Q I r0 ⟨a, vs, rfl, .inl ⟨.inl (.inl e1), fun p hp => post_t po gh hp r1⟩⟩
theorem minI_spec : ∀ {l : List Int} {m : Int}, minI l = some m → m ∈ l ∧ ∀ y ∈ l, m ≤ y
  | [], _, h => by simp [minI] at h
  | [x], m, h => by simp [minI] at h; subst h; simp
  | x :: y :: r, m, h => by
    simp only [minI, Option.map_eq_some_iff] at h
    obtain ⟨n, h1, h2⟩ := h
    obtain ⟨q1, q2⟩ := minI_spec h1
    by_cases c : n < x
    · rw [if_pos c] at h2
      subst h2
      refine ⟨List.mem_cons_of_mem _ q1, fun z hz => ?_⟩
      rcases List.mem_cons.mp hz with rfl | hz
      · omega
      · exact q2 z hz
    · rw [if_neg c] at h2
      subst h2
      refine ⟨List.mem_cons_self, fun z hz => ?_⟩
      rcases List.mem_cons.mp hz with rfl | hz
      · omega
      · have := q2 z hz; omega
theorem maxI_spec : ∀ {l : List Int} {m : Int}, maxI l = some m → m ∈ l ∧ ∀ y ∈ l, y ≤ m
  | [], _, h => by simp [maxI] at h
  | [x], m, h => by simp [maxI] at h; subst h; simp
  | x :: y :: r, m, h => by
    simp only [maxI, Option.map_eq_some_iff] at h
    obtain ⟨n, h1, h2⟩ := h
    obtain ⟨q1, q2⟩ := maxI_spec h1
    by_cases c : x < n
    · rw [if_pos c] at h2
      subst h2
      refine ⟨List.mem_cons_of_mem _ q1, fun z hz => ?_⟩
      rcases List.mem_cons.mp hz with rfl | hz
      · omega
      · exact q2 z hz
    · rw [if_neg c] at h2
      subst h2
      refine ⟨List.mem_cons_self, fun z hz => ?_⟩
      rcases List.mem_cons.mp hz with rfl | hz
      · omega
      · have := q2 z hz; omega
theorem cr_min (hc : X.calm = true) (hK : X.K = W.K) (hu : X.A.units + 66 < cLine) : CallR X (.builtin "min") (PRn W .min) := by
  intro pins s σ H xs us Q I r0 ⟨G, ds, r, gh, hs, hp, po⟩
  match ds, hs, hp with
  | [], _, hp => simp [prim, pMin] at hp
  | _ :: _ :: _ :: _, _, hp => simp [prim, pMin] at hp
  | [d, e], hs, hp =>
    simp only [RepSs] at hs
    obtain ⟨v, r1, rfl, h1, v2, r2, rfl, h2, rfl⟩ := hs
    cases d <;> cases e <;> simp only [prim, pMin, vI, reduceCtorEq] at hp
    cases hp
    exact call_min2 hc pins s σ H _ us Q I r0 ⟨_, _, by rw [rs_int h1, rs_int h2], post_i po gh⟩
  | [d], hs, hp =>
    obtain ⟨v, rfl, h1⟩ := rss1 hs
    cases d <;> simp only [prim, pMin, reduceCtorEq] at hp
    rename_i ys
    cases e1 : ints? ys with
    | some l =>
      rw [e1] at hp
      simp only [Option.map_eq_some_iff] at hp
      obtain ⟨m, e2, rfl⟩ := hp
      obtain ⟨a, vs, rfl, e3, r1⟩ := rs_lst gh h1
      rw [reps_ints r1 e1] at e3
      obtain ⟨q1, q2⟩ := minI_spec e2
      refine L2.cr_min hc pins s σ H _ us Q I r0 ⟨a, l, rfl, .inl (.inl e3), List.length_pos_of_mem q1, fun n hn1 hn2 => ?_⟩
      have : n = m := Int.le_antisymm (hn2 m q1) (q2 n hn1)
      subst this
      exact post_i po gh
    | none =>
      rw [e1] at hp
      simp only [Option.ite_none_right_eq_some] at hp
      obtain ⟨hk, hp⟩ := hp
      obtain ⟨k1, k2, k3⟩ := pairs_lt hk
      obtain ⟨a, vs, rfl, e3, r1⟩ := rs_lst gh h1
      cases ys with
      | nil => simp [minP] at hp
      | cons x ys =>
        simp only [minP, Option.map_some, Option.some.injEq] at hp
        subst hp
        have dp : DpAll X.K H vs (toP x :: toPs ys) := by
          have := dps_of gh 64 (x :: ys) vs k3 r1
          rw [hK]
          simpa only [toPs] using this
        have dd := (plains_depth 64 (x :: ys) k3).1
        simp only [toPs] at dd
        have mm : ∀ p ∈ toP x :: toPs ys, ∃ z ∈ x :: ys, p = toP z := fun p hp => toPs_mem (xs := x :: ys) (by simpa only [toPs] using hp)
        obtain ⟨f1, f2⟩ := min_fold (ys := x :: ys) (fun a ha b hb => (k1 a ha b hb).1) ys x (by simp) (fun y hy => by simp [hy])
        refine cr_minData hc hu pins s σ H _ us Q I r0 ⟨a, vs, toP x, toPs ys, rfl, .inl (.inl e3), dp, ⟨fun p hp q hq => ?_, fun p hp => ?_⟩, dd, fun i y hy hm => ?_⟩
        · obtain ⟨z, hz, rfl⟩ := mm p hp
          obtain ⟨w, hw, rfl⟩ := mm q hq
          exact (k1 z hz w hw).2.1
        · obtain ⟨z, hz, rfl⟩ := mm p hp
          exact k2 z hz
        · rw [← f1] at hm
          obtain ⟨z, hz, e⟩ := toPs_get (xs := x :: ys) (i := i) (by simpa only [toPs] using hm)
          have hzm := List.mem_of_getElem? hz
          have e2 := (k1 _ f2 _ hzm).2.2 e
          obtain ⟨u, hu1, hu2⟩ := reps_get r1 hz
          rw [hy] at hu1
          cases hu1
          rw [← e2] at hu2
          exact post_v po gh hu2
theorem cr_max (hc : X.calm = true) : CallR X (.builtin "max") (PRn W .max) := by
  intro pins s σ H xs us Q I r0 ⟨G, ds, r, gh, hs, hp, po⟩
  match ds, hs, hp with
  | [], _, hp => simp [prim, pMax] at hp
  | _ :: _ :: _ :: _, _, hp => simp [prim, pMax] at hp
  | [d, e], hs, hp =>
    simp only [RepSs] at hs
    obtain ⟨v, r1, rfl, h1, v2, r2, rfl, h2, rfl⟩ := hs
    cases d <;> cases e <;> simp only [prim, pMax, vI, reduceCtorEq] at hp
    cases hp
    exact call_max2 hc pins s σ H _ us Q I r0 ⟨_, _, by rw [rs_int h1, rs_int h2], post_i po gh⟩
  | [d], hs, hp =>
    obtain ⟨v, rfl, h1⟩ := rss1 hs
    cases d <;> simp only [prim, pMax, reduceCtorEq] at hp
    simp only [Option.bind_eq_some_iff, Option.map_eq_some_iff] at hp
    obtain ⟨l, e1, m, e2, rfl⟩ := hp
    obtain ⟨a, vs, rfl, e3, r1⟩ := rs_lst gh h1
    rw [reps_ints r1 e1] at e3
    obtain ⟨q1, q2⟩ := maxI_spec e2
    refine L2.cr_max hc pins s σ H _ us Q I r0 ⟨a, l, rfl, .inl (.inl e3), List.length_pos_of_mem q1, fun n hn1 hn2 => ?_⟩
    have : n = m := Int.le_antisymm (q2 n hn1) (hn2 m q1)
    subst this
    exact post_i po gh
theorem cr_sum (hc : X.calm = true) : CallR X (.builtin "sum") (PRn W .sum) := by
  intro pins s σ H xs us Q I r0 ⟨G, ds, r, gh, hs, hp, po⟩
  match ds, hs, hp with
  | [], _, hp => simp [prim, pSum] at hp
  | _ :: _ :: _, _, hp => simp [prim, pSum] at hp
  | [d], hs, hp =>
    obtain ⟨v, rfl, h1⟩ := rss1 hs
    cases d <;> simp only [prim, pSum, reduceCtorEq] at hp
    · simp only [Option.map_eq_some_iff] at hp
      obtain ⟨l, e1, rfl⟩ := hp
      obtain ⟨a, vs, rfl, e3, r1⟩ := rs_tup gh h1
      rw [reps_ints r1 e1] at e3
      exact cr_sumT hc pins s σ H _ us Q I r0 ⟨a, l, rfl, .inl (.inl e3), post_i po gh⟩
    · simp only [Option.map_eq_some_iff] at hp
      obtain ⟨l, e1, rfl⟩ := hp
      obtain ⟨a, vs, rfl, e3, r1⟩ := rs_lst gh h1
      rw [reps_ints r1 e1] at e3
      exact L2.cr_sum hc pins s σ H _ us Q I r0 ⟨a, l, rfl, .inl (.inl e3), post_i po gh⟩
theorem cr_abs : CallR X (.builtin "abs") (PRn W .abs) := by
  intro pins s σ H xs us Q I r0 ⟨G, ds, r, gh, hs, hp, po⟩
  match ds, hs, hp with
  | [], _, hp => simp [prim, pAbs] at hp
  | _ :: _ :: _, _, hp => simp [prim, pAbs] at hp
  | [d], hs, hp =>
    obtain ⟨v, rfl, h1⟩ := rss1 hs
    cases d <;> simp only [prim, pAbs, vI, reduceCtorEq] at hp
    cases hp
    exact call_abs pins s σ H _ us Q I r0 ⟨_, by rw [rs_int h1], post_i po gh⟩
theorem cr_all (hc : X.calm = true) : CallR X (.builtin "all") (PRn W .all) := by
  intro pins s σ H xs us Q I r0 ⟨G, ds, r, gh, hs, hp, po⟩
  match ds, hs, hp with
  | [], _, hp => simp [prim, pAll] at hp
  | _ :: _ :: _, _, hp => simp [prim, pAll] at hp
  | [d], hs, hp =>
    obtain ⟨v, rfl, h1⟩ := rss1 hs
    cases d <;> simp only [prim, pAll, reduceCtorEq] at hp
    simp only [Option.map_eq_some_iff] at hp
    obtain ⟨l, e1, rfl⟩ := hp
    obtain ⟨a, vs, rfl, e3, r1⟩ := rs_lst gh h1
    rw [reps_bls r1 e1] at e3
    exact L2.cr_all hc pins s σ H _ us Q I r0 ⟨a, l, rfl, .inl (.inl e3), post_b po gh⟩
theorem cr_any (hc : X.calm = true) : CallR X (.builtin "any") (PRn W .any) := by
  intro pins s σ H xs us Q I r0 ⟨G, ds, r, gh, hs, hp, po⟩
  match ds, hs, hp with
  | [], _, hp => simp [prim, pAny] at hp
  | _ :: _ :: _, _, hp => simp [prim, pAny] at hp
  | [d], hs, hp =>
    obtain ⟨v, rfl, h1⟩ := rss1 hs
    cases d <;> simp only [prim, pAny, reduceCtorEq] at hp
    simp only [Option.map_eq_some_iff] at hp
    obtain ⟨l, e1, rfl⟩ := hp
    obtain ⟨a, vs, rfl, e3, r1⟩ := rs_lst gh h1
    rw [reps_bls r1 e1] at e3
    exact L2.cr_any hc pins s σ H _ us Q I r0 ⟨a, l, rfl, .inl (.inl e3), post_b po gh⟩
theorem glued_of (a : List Nat) : ∀ (l : List (List Nat)) (b : List Nat), ((l.map sOf).foldl (fun acc p => acc ++ (sOf a).cps ++ p.cps) b.toArray).toList = l.foldl (fun acc p => acc ++ a ++ p) b
  | [], b => by simp
  | x :: r, b => by
    simp only [List.map_cons, List.foldl_cons]
    have e : b.toArray ++ (sOf a).cps ++ (sOf x).cps = (b ++ a ++ x).toArray := by simp [sOf]
    rw [e]
    exact glued_of a r _
theorem join_of (a : List Nat) (l : List (List Nat)) : (Txt.join (sOf a) (l.map sOf)).cps.toList = joinL a l := by
  unfold Txt.join Builtin.Str.glued joinL
  cases l with
  | nil => rfl
  | cons x r => exact glued_of a r x
theorem mr_join : MtR X "str.join" (fun x xs H Q => PRn W .join (x :: xs) H Q) := by
  intro pins s σ H x xs v us Q I rx rs ⟨G, ds, r, gh, hs, hp, po⟩
  match ds, hs, hp with
  | [], _, hp => simp [prim, pJoin] at hp
  | [_], _, hp => simp [prim, pJoin] at hp
  | _ :: _ :: _ :: _, _, hp => simp [prim, pJoin] at hp
  | [d, e], hs, hp =>
    simp only [RepSs] at hs
    obtain ⟨v1, r1, e0, h1, v2, r2, rfl, h2, rfl⟩ := hs
    cases e0
    cases d <;> cases e <;> simp only [prim, pJoin, reduceCtorEq] at hp
    simp only [Option.bind_eq_some_iff] at hp
    obtain ⟨l, e1, hp⟩ := hp
    obtain ⟨c, rfl⟩ := small_some hp
    simp only [decide_eq_true_eq] at c
    obtain ⟨a, vs, rfl, e3, r1⟩ := rs_lst gh h2
    rw [reps_strs r1 e1] at e3
    refine mt_join pins s σ H _ _ v us Q I rx rs ⟨_, a, l.map sOf, rs_str h1, rfl, .inl (.inl (.inl e3)), ?_, post_s po gh (join_of _ l)⟩
    have e4 : (l.map sOf).map (·.length) = l.map (·.length) := by
      rw [List.map_map]
      exact List.map_congr_left fun z _ => str_len z
    rw [e4, str_len, List.length_map]
    exact Nat.le_trans c (by decide)
def tyN : Ty → String
  | .int => "int"
  | .str => "str"
  | .bool => "bool"
  | .list => "list"
  | .tuple => "tuple"
def tyD : D → String
  | .non => "NoneType"
  | .bl _ => "bool"
  | .int _ => "int"
  | .str _ => "str"
  | .tup _ => "tuple"
  | .lst _ => "list"
  | .dct _ _ => "dict"
  | .fn _ => ""
  | .scr _ => ""
  | .ftp _ => "tuple"
theorem tyX_of {K : PySem.W.Frag} {G H : Hp} {d : D} {v : V} (x : Ex G H) (t : typed d = true) (h : RepS W G H d v) : TyX K H v (.type (tyD d)) := by
  cases d <;> simp [typed] at t
  · rw [rs_non h]; exact .base .non
  · rw [rs_bl h]; exact .base (.bl _)
  · rw [rs_int h]; exact .base (.int _)
  · rw [rs_str h]; exact .base (.str _)
  · obtain ⟨a, vs, rfl, e, _⟩ := rs_tup x h; exact .base (.tup e)
  · obtain ⟨a, vs, rfl, e, _⟩ := rs_lst x h; exact .base (.lst e)
  · rename_i tt kvs
    subst t
    rcases h with h | ⟨a, rfl, h⟩
    · simp only [Rep] at h
      obtain ⟨a, o, u, l, rfl, e, ⟨m, rfl, _⟩, _⟩ := h
      exact .fDict (x _ _ e)
    · obtain ⟨u, l, e, ⟨m, rfl, _⟩, _⟩ := h
      exact .base (.dK e)
  · obtain ⟨a, o, vs, rfl, _, e, _⟩ := rs_ftp x h; exact .fTuple e
theorem kit_of_ty {K : PySem.W.Frag} {d : D} (t : typed d = true) (c : Ty) : PySem.W.kitOne K (.type (tyD d)) (.type (tyN c)) = some (typOf d c) := by
  cases d <;> simp [typed] at t <;> cases c <;> exact kit_ty (by dsimp only [tyD, tyN, typOf]; decide +kernel)
theorem kitAny_of {K : PySem.W.Frag} {d : D} (t : typed d = true) : ∀ cs : List Ty, PySem.W.kitAny K (.type (tyD d)) (cs.map fun c => Value.type (tyN c)) = some (cs.any (typOf d))
  | [] => rfl
  | c :: cs => by
    simp only [List.map_cons, List.any_cons]
    refine kitAny_cons (kit_of_ty t c) (fun e => ?_) fun e => by simp [e]
    rw [kitAny_of t cs, e]
    simp
theorem pr_isi {ts : List Ty} {xs : List V} {H : Hp} {Q : VK} (h : PRn W (.isi ts) xs H Q) : ∃ v d G, xs = [v] ∧ Ex G H ∧ RepS W G H d v ∧ typed d = true ∧ Q (.bl (ts.any (typOf d))) H := by
  obtain ⟨G, ds, r, gh, hs, hp, po⟩ := h
  match ds, hs, hp with
  | [], _, hp => simp [prim, pIsi] at hp
  | _ :: _ :: _, _, hp => simp [prim, pIsi] at hp
  | [d], hs, hp =>
    obtain ⟨v, rfl, h1⟩ := rss1 hs
    simp only [prim, pIsi] at hp
    obtain ⟨c, rfl⟩ := small_some hp
    exact ⟨v, d, G, rfl, gh, h1, c, post_b po gh⟩
/-- isinstance(x, T) -/
theorem cr_isi {t : Ty} : CallR X (.builtin "isinstance") (fun xs H Q => ∃ x, xs = [x, .ty (tyN t)] ∧ PRn W (.isi [t]) [x] H Q) := by
  intro pins s σ H xs us Q I r0 ⟨x, e, h⟩
  subst e
  obtain ⟨v, d, G, e1, gh, h1, c, q⟩ := pr_isi h
  cases e1
  refine call_isi pins s σ H _ us Q I r0 ⟨x, _, _, _, _, rfl, .ty _, tyX_of gh c h1, kit_of_ty c t, ?_⟩
  simpa using q
/-- isinstance(x, (T, U)), the tuple just laid -/
theorem paired_ty : ∀ ts : List Ty, Paired ClsV (ts.map fun t => V.ty (tyN t)) (ts.map fun t => Value.type (tyN t))
  | [] => .nil
  | t :: ts => .cons (.ty _) (paired_ty ts)
theorem cr_isiT {ts : List Ty} : CallR X (.builtin "isinstance") (fun xs H Q => ∃ x p, xs = [x, .ref p] ∧ H p = some (.tup (ts.map fun t => V.ty (tyN t))) ∧ PRn W (.isi ts) [x] H Q) := by
  intro pins s σ H xs us Q I r0 ⟨x, p, e, hp, h⟩
  subst e
  obtain ⟨v, d, G, e1, gh, h1, c, q⟩ := pr_isi h
  cases e1
  exact call_isiT pins s σ H _ us Q I r0 ⟨x, p, _, _, _, _, rfl, hp, paired_ty ts, tyX_of gh c h1, kitAny_of c ts, q⟩
end
end Itp
set_option Elab.async false
set_option linter.all false
set_option maxRecDepth 100000
set_option maxHeartbeats 4000000
namespace Itp
open PySem L2
section
variable {X : Cx} {W : Wd}
/-! ### s.find(c), s.find(c, i) -/
theorem findL_spec (c : Nat) : ∀ (l : List Nat) (k : Nat), (findL c l k = -1 ∧ ∀ j : Nat, l[j]? ≠ some c) ∨ ∃ j : Nat, findL c l k = ((k + j : Nat) : Int) ∧ l[j]? = some c ∧ ∀ m : Nat, m < j → l[m]? ≠ some c
  | [], k => .inl ⟨rfl, fun j => by simp⟩
  | x :: l, k => by
    simp only [findL]
    by_cases h : x = c
    · rw [if_pos h]
      exact .inr ⟨0, by simp, by simp [h], fun m hm => by omega⟩
    · rw [if_neg h]
      rcases findL_spec c l (k + 1) with ⟨h1, h2⟩ | ⟨j, h1, h2, h3⟩
      · refine .inl ⟨h1, fun j => ?_⟩
        cases j with
        | zero => simpa using h
        | succ j => simpa using h2 j
      · refine .inr ⟨j + 1, by rw [h1]; congr 1; omega, by simpa using h2, fun m hm => ?_⟩
        cases m with
        | zero => simpa using h
        | succ m => simpa using h3 m (by omega)
theorem getD_str (s : List Nat) (v : Nat) (h : v < s.length) : (⟨s.toArray⟩ : Str).cps.getD v 0 = s[v] := by
  simp [Array.getD, h]
theorem find3_eq (s : List Nat) (c : Nat) (i : Int) (h0 : 0 ≤ i) (h1 : i ≤ s.length) : Txt.find3 ⟨s.toArray⟩ ⟨#[c]⟩ i = findL c (s.drop i.toNat) i.toNat := by
  have hf : fromIndex (⟨s.toArray⟩ : Str).length i = i.toNat := by
    rw [str_len]
    unfold fromIndex
    split <;> omega
  have hs := StrLaws.find3_spec ⟨s.toArray⟩ c i
  rw [hf, str_len] at hs
  rcases hs with ⟨e, hn⟩ | ⟨k, e, h2, h3, h4, h5⟩ <;> rw [e]
  · rcases findL_spec c (s.drop i.toNat) i.toNat with ⟨g1, _⟩ | ⟨j, g1, g2, _⟩
    · rw [g1]
    · rw [List.getElem?_drop] at g2
      obtain ⟨hl, hv⟩ := List.getElem?_eq_some_iff.mp g2
      exact absurd (by rw [getD_str _ _ hl]; exact hv) (hn (i.toNat + j) (by omega) hl)
  · rw [getD_str _ _ h3] at h4
    rcases findL_spec c (s.drop i.toNat) i.toNat with ⟨_, g2⟩ | ⟨j, g1, g2, g3⟩
    · exact absurd (by rw [List.getElem?_drop, show i.toNat + (k - i.toNat) = k from by omega, List.getElem?_eq_getElem h3, h4]) (g2 (k - i.toNat))
    · rw [g1]
      rw [List.getElem?_drop] at g2
      obtain ⟨hl, hv⟩ := List.getElem?_eq_some_iff.mp g2
      have : ¬ k < i.toNat + j := fun z => g3 (k - i.toNat) (by omega) (by rw [List.getElem?_drop, show i.toNat + (k - i.toNat) = k from by omega, List.getElem?_eq_getElem h3, h4])
      have : ¬ i.toNat + j < k := fun z => h5 (i.toNat + j) (by omega) z (by rw [getD_str _ _ hl]; exact hv)
      congr 1
      omega
theorem find_eq (s : List Nat) (c : Nat) : Txt.find ⟨s.toArray⟩ ⟨#[c]⟩ = findL c s 0 := by
  have h := find3_eq s c 0 (by omega) (by omega)
  simp only [Int.toNat_zero, List.drop_zero] at h
  rw [← h]
  rfl
theorem mr_find : MtR X "str.find" (fun x xs H Q => PRn W .find (x :: xs) H Q) := by
  intro pins s σ H x xs v us Q I rx rs ⟨G, ds, r, gh, hs, hp, po⟩
  match ds, hs, hp with
  | [], _, hp => simp [prim, pFind] at hp
  | [_], _, hp => simp [prim, pFind] at hp
  | _ :: _ :: _ :: _ :: _, _, hp => simp [prim, pFind] at hp
  | [d, e], hs, hp =>
    simp only [RepSs] at hs
    obtain ⟨v1, r1, e0, h1, v2, r2, rfl, h2, rfl⟩ := hs
    cases e0
    cases d <;> cases e <;> simp only [prim, pFind, reduceCtorEq] at hp
    rename_i z y
    match y, hp, h2 with
    | [c], hp, h2 =>
      simp only [pFind, vI] at hp
      cases hp
      refine mt_find pins s σ H _ _ v us Q I rx rs ⟨_, _, rs_str h1, by rw [rs_str h2], ?_⟩
      rw [find_eq]
      exact post_i po gh
    | [], hp, _ => simp [pFind] at hp
    | _ :: _ :: _, hp, _ => simp [pFind] at hp
  | [d, e, f], hs, hp =>
    simp only [RepSs] at hs
    obtain ⟨v1, r1, e0, h1, v2, r2, rfl, h2, v3, r3, rfl, h3, rfl⟩ := hs
    cases e0
    cases d <;> cases e <;> cases f <;> simp only [prim, pFind, reduceCtorEq] at hp
    rename_i z y i
    match y, hp, h2 with
    | [c], hp, h2 =>
      simp only [pFind] at hp
      obtain ⟨k, rfl⟩ := small_some hp
      rw [Bool.and_eq_true, decide_eq_true_eq, decide_eq_true_eq] at k
      refine mt_find3 pins s σ H _ _ v us Q I rx rs ⟨_, _, _, rs_str h1, by rw [rs_str h2, rs_int h3], ?_⟩
      rw [find3_eq _ _ _ k.1 k.2]
      exact post_i po gh
    | [], hp, _ => simp [pFind] at hp
    | _ :: _ :: _, hp, _ => simp [pFind] at hp
/-! ### s.split(c) -/
theorem splitL_free {c : Nat} : ∀ p : List Nat, c ∉ p → splitL c p = [p]
  | [], _ => rfl
  | x :: p, h => by
    have hx : x ≠ c := fun e => h (by simp [e])
    rw [splitL, if_neg hx, splitL_free p fun z => h (by simp [z])]
theorem splitL_app {c : Nat} (r : List Nat) : ∀ p : List Nat, c ∉ p → splitL c (p ++ c :: r) = p :: splitL c r
  | [], _ => by rw [List.nil_append, splitL, if_pos rfl]
  | x :: p, h => by
    have hx : x ≠ c := fun e => h (by simp [e])
    rw [List.cons_append, splitL, if_neg hx, splitL_app r p fun z => h (by simp [z])]
theorem split_uniq {c : Nat} : ∀ (l : List Str) (a : Str), l ≠ [] → (∀ p ∈ l, c ∉ p.cps.toList) → Str.join ⟨#[c]⟩ l = a → l.map (·.cps.toList) = splitL c a.cps.toList
  | [], _, h, _, _ => absurd rfl h
  | [p], a, _, hp, e => by
    have e : p = a := e
    subst e
    rw [splitL_free _ (hp p (by simp))]
    rfl
  | p :: q :: l, a, _, hp, e => by
    have e : p ++ ⟨#[c]⟩ ++ Str.join ⟨#[c]⟩ (q :: l) = a := e
    have ih := split_uniq (q :: l) _ (by simp) (fun z hz => hp z (by simp [List.mem_cons.mp hz])) rfl
    have ea : a.cps.toList = p.cps.toList ++ c :: (Str.join ⟨#[c]⟩ (q :: l)).cps.toList := by
      rw [← e]
      show ((p.cps ++ #[c]) ++ (Str.join ⟨#[c]⟩ (q :: l)).cps).toList = _
      simp
    rw [ea, splitL_app _ _ (hp p (by simp)), ← ih]
    rfl
theorem split_of (a : List Nat) (c : Nat) : (Txt.split ⟨a.toArray⟩ ⟨#[c]⟩).map (·.cps.toList) = splitL c a := by
  have h1 := StrLaws.join_split ⟨a.toArray⟩ ⟨#[c]⟩
  have h2 := StrLaws.split_free ⟨a.toArray⟩ c
  have h3 : Txt.split ⟨a.toArray⟩ ⟨#[c]⟩ ≠ [] := by
    unfold Txt.split
    split
    · simp
    · split
      · simp
      · unfold Builtin.Str.partsBetween
        simp
  have := split_uniq _ _ h3 h2 h1
  simpa using this
theorem reps_txts {G : Hp} : ∀ (l : List Str), Reps W G ((l.map (·.cps.toList)).map D.str) (l.map V.str)
  | [] => by simp only [List.map_nil, Reps]
  | z :: l => by
    simp only [List.map_cons, Reps]
    exact ⟨_, _, rfl, by simp only [Rep], reps_txts l⟩
theorem mr_split : MtR X "str.split" (fun x xs H Q => PRn W .split (x :: xs) H Q) := by
  intro pins s σ H x xs v us Q I rx rs ⟨G, ds, r, gh, hs, hp, po⟩
  match ds, hs, hp with
  | [], _, hp => simp [prim, pSplit] at hp
  | [_], _, hp => simp [prim, pSplit] at hp
  | _ :: _ :: _ :: _, _, hp => simp [prim, pSplit] at hp
  | [d, e], hs, hp =>
    simp only [RepSs] at hs
    obtain ⟨v1, r1, e0, h1, v2, r2, rfl, h2, rfl⟩ := hs
    cases e0
    cases d <;> cases e <;> simp only [prim, pSplit, reduceCtorEq] at hp
    rename_i z y
    match y, hp, h2 with
    | [c], hp, h2 =>
      simp only [pSplit] at hp
      obtain ⟨k, rfl⟩ := small_some hp
      rw [decide_eq_true_eq] at k
      refine mt_split pins s σ H _ _ v us Q I rx rs ⟨_, _, rs_str h1, by rw [rs_str h2], rfl, ?_, fun p hp => ?_⟩
      · rw [str_len]
        exact Nat.le_trans (Nat.add_le_add_right k 2) (by decide)
      · refine post_l po gh hp ?_
        rw [← split_of z c]
        exact reps_txts _
    | [], hp, _ => simp [pSplit] at hp
    | _ :: _ :: _, hp, _ => simp [pSplit] at hp
/-! ### index -/
theorem posOf_spec {x : D} : ∀ {ys : List D} {j : Nat}, posOf x ys = some j → (∃ z, ys[j]? = some z ∧ D.eqv z x = true) ∧ ∀ m z, m < j → ys[m]? = some z → D.eqv z x = false
  | [], j, h => by cases h
  | y :: ys, j, h => by
    simp only [posOf] at h
    cases q : D.eqv y x with
    | true =>
      rw [q] at h
      simp only [if_true, Option.some.injEq] at h
      subst h
      exact ⟨⟨y, rfl, q⟩, fun m z hm => by omega⟩
    | false =>
      rw [q] at h
      simp only [Bool.false_eq_true, if_false, Option.map_eq_some_iff] at h
      obtain ⟨i, hi, rfl⟩ := h
      obtain ⟨⟨z, h1, h2⟩, h3⟩ := posOf_spec hi
      refine ⟨⟨z, by simpa using h1, h2⟩, fun m w hm hw => ?_⟩
      cases m with
      | zero => simp at hw; rw [← hw]; exact q
      | succ m => exact h3 m w (by omega) (by simpa using hw)
theorem posOf_V {G H : Hp} {d : D} {v : V} {ds : List D} {vs : List V} {j : Nat} (f : d.flat = true) (fs : ds.all D.flat = true) (hd : RepS W G H d v) (hs : Reps W G ds vs) (h : posOf d ds = some j) :
    ∃ z, vs[j]? = some z ∧ eqV z v = true ∧ ∀ (m : Nat) (z' : V), m < j → vs[m]? = some z' → eqV z' v = false := by
  obtain ⟨⟨z, h1, h2⟩, h3⟩ := posOf_spec h
  have fl : ∀ {m : Nat} {z : D}, ds[m]? = some z → z.flat = true := fun hz => List.all_eq_true.mp fs _ (List.mem_of_getElem? hz)
  obtain ⟨u, hu, ru⟩ := reps_get hs h1
  refine ⟨u, hu, by rw [eqV_of (fl h1) f (.inl ru) hd]; exact h2, fun m z' hm hz' => ?_⟩
  have hl : m < ds.length := by rw [← reps_len hs]; exact (List.getElem?_eq_some_iff.mp hz').1
  have e := List.getElem?_eq_getElem hl
  obtain ⟨u', hu', ru'⟩ := reps_get hs e
  rw [hz'] at hu'
  cases hu'
  rw [eqV_of (fl e) f (.inl ru') hd]
  exact h3 m _ hm e
theorem ix_pos {d e : D} {ds : List D} {r : Res} (h : ((small (e.flat && ds.all D.flat) (posOf e ds)).bind fun (o : Option Nat) => o.map fun (n : Nat) => Res.val (.int n)) = some r) : e.flat = true ∧ ds.all D.flat = true ∧ ∃ j, posOf e ds = some j ∧ r = .val (.int (j : Nat)) := by
  simp only [Option.bind_eq_some_iff] at h
  obtain ⟨o, h1, h2⟩ := h
  obtain ⟨c, rfl⟩ := small_some h1
  rw [Bool.and_eq_true] at c
  simp only [Option.map_eq_some_iff] at h2
  obtain ⟨j, h3, rfl⟩ := h2
  exact ⟨c.1, c.2, j, h3, rfl⟩
theorem mr_indexL : MtR X "list.index" (fun x xs H Q => ∃ G ys e r, Ex G H ∧ RepSs W G H [.lst ys, e] (x :: xs) ∧ prim .index [.lst ys, e] = some r ∧ Post W G H r Q) := by
  intro pins s σ H x xs v us Q I rx rs ⟨G, ys, e, r, gh, hs, hp, po⟩
  simp only [RepSs] at hs
  obtain ⟨v1, r1, e0, h1, v2, r2, rfl, h2, rfl⟩ := hs
  cases e0
  simp only [prim, pIndex] at hp
  obtain ⟨f1, f2, j, hj, rfl⟩ := ix_pos (d := e) hp
  obtain ⟨a, vs, rfl, e1, r1⟩ := rs_lst gh h1
  obtain ⟨z, g1, g2, g3⟩ := posOf_V f1 f2 h2 r1 hj
  exact mt_index pins s σ H _ _ v us Q I rx rs ⟨a, vs, v2, j, z, rfl, rfl, .inl (.inl e1), flat_of f1 h2, flats_of f2 r1, g1, g2, g3, post_i po gh⟩
/-- t.index(x) -/
theorem mt_tupIndex : MtR X "tuple.index" (fun x xs H Q => ∃ (a : Addr) (ys : List V) (y : V) (j : Nat) (z : V), x = V.ref a ∧ xs = [y] ∧ SqT X.K H a ys ∧ flatV y = true ∧ ys.all flatV = true ∧ ys[j]? = some z ∧ eqV z y = true ∧
    (∀ (m : Nat) (z' : V), m < j → ys[m]? = some z' → eqV z' y = false) ∧ Q (.int (j : Nat)) H) := by
  intro pins s σ H x xs v us Q I rx rxs h
  obtain ⟨a, ys, y, j, z, rfl, rfl, hs, fy, fys, hz, hzj, hno, q⟩ := h
  cases rx
  obtain ⟨uy, rfl, ry⟩ := vals1 rxs
  obtain ⟨its, rv, pl, hlen⟩ := I.tuple hs
  obtain ⟨⟨cls, dd, data, sl⟩, ho, hc, n, hd⟩ := pl
  simp only at hc hd
  subst hc hd
  obtain ⟨u, hu, ru⟩ := rv.get hz
  obtain ⟨hjl, hje⟩ := List.getElem?_eq_some_iff.mp hu
  have hvl := rv.length
  have hj : j < its.toArray.size := by simpa using hjl
  refine PySem.call_meets PySem.F.slot_tuple_index ⟨_, ho, rfl⟩ PySem.F.entry_tuple_index (PySem.F.args_tuple_index_2 _ _)
    (TI.tuple_indexAt a its.toArray n dd sl uy (eqU y) j hj ?_ ?_) ⟨ho, fun u' hu' => mem_eqAt ry fy rv fys u' (by simpa using hu'), ?_⟩
  · have e1 : its.toArray[j] = u := by simpa using hje
    rw [e1, eqU_of ru (flat_at fys hz)]
    exact hzj
  · intro m hm hmj
    have hml : m < its.length := by simpa using hm
    have hmy : m < ys.length := by omega
    have hy' : ys[m]? = some ys[m] := List.getElem?_eq_getElem hmy
    obtain ⟨u2, hu2, ru2⟩ := rv.get hy'
    obtain ⟨_, hme⟩ := List.getElem?_eq_some_iff.mp hu2
    have e1 : its.toArray[m] = u2 := by simpa using hme
    rw [e1, eqU_of ru2 (flat_at fys hy')]
    exact hno m _ hmj hy'
  · exact ⟨.int (j : Nat), H, I.tok _, ⟨_, rfl⟩, q⟩
theorem mr_indexF : MtR X "tuple.index" (fun x xs H Q => ∃ G ys e r, Ex G H ∧ RepSs W G H [.ftp ys, e] (x :: xs) ∧ prim .index [.ftp ys, e] = some r ∧ Post W G H r Q) := by
  intro pins s σ H x xs v us Q I rx rs ⟨G, ys, e, r, gh, hs, hp, po⟩
  simp only [RepSs] at hs
  obtain ⟨v1, r1, e0, h1, v2, r2, rfl, h2, rfl⟩ := hs
  cases e0
  have hp : (small (e.flat && ys.all D.flat) (posOf e ys)).bind (fun (o : Option Nat) => o.map fun (n : Nat) => Res.val (.int n)) = some r := by
    cases e <;> simpa only [prim, pIndex] using hp
  obtain ⟨f1, f2, j, hj, rfl⟩ := ix_pos (d := e) hp
  obtain ⟨a, o, vs, rfl, _, e1, r1⟩ := rs_ftp gh h1
  obtain ⟨z, g1, g2, g3⟩ := posOf_V f1 f2 h2 r1 hj
  exact mt_tupIndex pins s σ H _ _ v us Q I rx rs ⟨a, vs, v2, j, z, rfl, rfl, .inl (.inr ⟨o, e1⟩), flat_of f1 h2, flats_of f2 r1, g1, g2, g3, post_i po gh⟩
theorem mr_indexS : MtR X "str.index" (fun x xs H Q => ∃ G ys e r, Ex G H ∧ RepSs W G H [.str ys, e] (x :: xs) ∧ prim .index [.str ys, e] = some r ∧ Post W G H r Q) := by
  intro pins s σ H x xs v us Q I rx rs ⟨G, ys, e, r, gh, hs, hp, po⟩
  simp only [RepSs] at hs
  obtain ⟨v1, r1, e0, h1, v2, r2, rfl, h2, rfl⟩ := hs
  cases e0
  cases e <;> simp only [prim, pIndex, reduceCtorEq] at hp
  rename_i y
  match y, hp, h2 with
  | [c], hp, h2 =>
    simp only [pIndex] at hp
    obtain ⟨k, rfl⟩ := small_some hp
    rw [decide_eq_true_eq] at k
    have ne : (Builtin.Str.occurrences ⟨ys.toArray⟩ ⟨#[c]⟩ 0 (⟨ys.toArray⟩ : Str).length 1).isEmpty = false := by
      have := StrLaws.found_one ⟨ys.toArray⟩ c
      rw [decide_eq_true (by simpa using k)] at this
      simpa using this
    cases q : Builtin.Str.occurrences ⟨ys.toArray⟩ ⟨#[c]⟩ 0 (⟨ys.toArray⟩ : Str).length 1 with
    | nil => rw [q] at ne; cases ne
    | cons i rest =>
      refine mt_sindex pins s σ H _ _ v us Q I rx rs ⟨_, _, i, rest, rs_str h1, by rw [rs_str h2], q, ?_⟩
      have e := find_eq ys c
      unfold Txt.find at e
      rw [q] at e
      simp only at e
      rw [e]
      exact post_i po gh
  | [], hp, _ => simp [pIndex] at hp
  | _ :: _ :: _, hp, _ => simp [pIndex] at hp
theorem mr_count : MtR X "list.count" (fun x xs H Q => PRn W .count (x :: xs) H Q) := by
  intro pins s σ H x xs v us Q I rx rs ⟨G, ds, r, gh, hs, hp, po⟩
  match ds, hs, hp with
  | [], _, hp => simp [prim, pCount] at hp
  | [_], _, hp => simp [prim, pCount] at hp
  | _ :: _ :: _ :: _, _, hp => simp [prim, pCount] at hp
  | [d, e], hs, hp =>
    simp only [RepSs] at hs
    obtain ⟨v1, r1, e0, h1, v2, r2, rfl, h2, rfl⟩ := hs
    cases e0
    cases d <;> cases e <;> simp only [prim, pCount, reduceCtorEq] at hp
    simp only [Option.map_eq_some_iff] at hp
    obtain ⟨l, e1, rfl⟩ := hp
    obtain ⟨a, vs, rfl, e3, r1⟩ := rs_lst gh h1
    rw [reps_ints r1 e1] at e3
    exact mt_lcount pins s σ H _ _ v us Q I rx rs ⟨a, l, _, rfl, by rw [rs_int h2], .inl (.inl e3), post_i po gh⟩
/-! ### sorted, of ints -/
theorem ins_perm {α : Type} (le : α → α → Bool) (x : α) : ∀ l : List α, (isrt.ins le x l).Perm (x :: l)
  | [] => .refl _
  | y :: l => by
    simp only [isrt.ins]
    split
    · exact .refl _
    · exact ((ins_perm le x l).cons y).trans (.swap x y l)
theorem isrt_perm {α : Type} (le : α → α → Bool) : ∀ l : List α, (isrt le l).Perm l
  | [] => .refl _
  | x :: l => (ins_perm le x _).trans ((isrt_perm le l).cons x)
theorem ins_pair {α : Type} {le : α → α → Bool} (tr : ∀ a b c, le a b = true → le b c = true → le a c = true) (tot : ∀ a b, le a b = false → le b a = true) (x : α) : ∀ l : List α, l.Pairwise (fun a b => le a b = true) → (isrt.ins le x l).Pairwise (fun a b => le a b = true)
  | [], _ => by simp [isrt.ins]
  | y :: l, h => by
    rw [List.pairwise_cons] at h
    simp only [isrt.ins]
    cases q : le x y with
    | true =>
      simp only [if_true]
      refine List.pairwise_cons.mpr ⟨fun z hz => ?_, List.pairwise_cons.mpr h⟩
      rcases List.mem_cons.mp hz with rfl | hz
      · exact q
      · exact tr _ _ _ q (h.1 z hz)
    | false =>
      simp only [Bool.false_eq_true, if_false]
      refine List.pairwise_cons.mpr ⟨fun z hz => ?_, ins_pair tr tot x l h.2⟩
      rcases List.mem_cons.mp ((ins_perm le x l).mem_iff.mp hz) with rfl | hz
      · exact tot _ _ q
      · exact h.1 z hz
theorem isrt_pair {α : Type} {le : α → α → Bool} (tr : ∀ a b c, le a b = true → le b c = true → le a c = true) (tot : ∀ a b, le a b = false → le b a = true) : ∀ l : List α, (isrt le l).Pairwise (fun a b => le a b = true)
  | [] => .nil
  | x :: l => ins_pair tr tot x _ (isrt_pair tr tot l)
abbrev leI : Int → Int → Bool := fun a b => decide (a ≤ b)
theorem isrt_ints {l m : List Int} (hp : m.Perm l) (hs : m.Pairwise (· ≤ ·)) : m = isrt leI l := by
  have h2 := isrt_pair (le := leI) (fun a b c h1 h2 => by simp only [leI, decide_eq_true_eq] at *; omega) (fun a b h => by simp only [leI, decide_eq_false_iff_not, decide_eq_true_eq] at *; omega) l
  exact (hp.trans (isrt_perm leI l).symm).eq_of_pairwise (le := fun a b => a ≤ b) (fun a b _ _ h1 h2 => by omega) hs (h2.imp fun h => by simpa [leI] using h)
theorem ints_reps {G : Hp} : ∀ l : List Int, Reps W G (l.map D.int) (l.map V.int)
  | [] => by simp only [List.map_nil, Reps]
  | c :: a => by
    simp only [List.map_cons, Reps]
    exact ⟨_, _, rfl, by simp only [Rep], ints_reps a⟩
theorem repK_keys {G : Hp} : ∀ {kvs : List (D × D)} {m : List (Key × V)} {l : List (List Nat)}, RepK W G kvs (m.map fun p => (keyD p.1, p.2)) → strs? (kvs.map (·.1)) = some l → m.map (·.1) = (l.map fun z => (⟨z.toArray⟩ : Str)).map Sum.inr
  | [], m, l, h, e => by
    simp only [RepK, List.map_eq_nil_iff] at h
    subst h
    simp only [List.map_nil, strs?, Option.some.injEq] at e
    subst e
    rfl
  | (k, d) :: kvs, m, l, h, e => by
    simp only [RepK] at h
    obtain ⟨v, r, h1, h2, h3⟩ := h
    cases m with
    | nil => cases h1
    | cons p m =>
      rw [List.map_cons] at h1
      obtain ⟨e1, e2⟩ := List.cons.inj h1
      subst e2
      simp only [Prod.mk.injEq] at e1
      obtain ⟨e1, _⟩ := e1
      rw [List.map_cons] at e
      obtain ⟨key, y⟩ := p
      cases key with
      | inl i =>
        simp only [keyD] at e1
        subst e1
        simp [strs?] at e
      | inr x =>
        simp only [keyD] at e1
        subst e1
        simp only [strs?, Option.map_eq_some_iff] at e
        obtain ⟨l', e2, rfl⟩ := e
        rw [List.map_cons, List.map_cons, List.map_cons, repK_keys h3 e2]
theorem srtS_str (l : List (List Nat)) : ((l.map fun z => (⟨z.toArray⟩ : Str)).mergeSort strLe) = (srtS l).map fun z => (⟨z.toArray⟩ : Str) := by
  unfold srtS
  rw [PySem.W.sort_maps (s := strLe) (fun z : List Nat => (⟨z.toArray⟩ : Str)) (fun a _ b _ => by simp [strLe])]
theorem reps_srtS {G : Hp} (l : List (List Nat)) : Reps W G (l.map D.str) ((l.map fun z => (⟨z.toArray⟩ : Str)).map V.str) := by
  have := reps_txts (W := W) (G := G) (l.map fun z => (⟨z.toArray⟩ : Str))
  have e : (l.map fun z => (⟨z.toArray⟩ : Str)).map (·.cps.toList) = l := by
    rw [List.map_map]
    conv => rhs; rw [← List.map_id l]
    refine List.map_congr_left fun z _ => ?_
    simp
  rw [e] at this
  exact this
theorem strs_vs {G : Hp} : ∀ {ds : List D} {vs : List V} {l : List (List Nat)}, Reps W G ds vs → strs? ds = some l → vs = (l.map fun z => (⟨z.toArray⟩ : Str)).map V.str
  | [], vs, l, h, e => by
    simp only [Reps] at h
    subst h
    simp only [strs?, Option.some.injEq] at e
    subst e
    rfl
  | d :: ds, vs, l, h, e => by
    simp only [Reps] at h
    obtain ⟨v, r, rfl, h1, h2⟩ := h
    cases d <;> simp only [strs?, reduceCtorEq] at e
    simp only [Option.map_eq_some_iff] at e
    obtain ⟨l', e2, rfl⟩ := e
    simp only [Rep] at h1
    subst h1
    rw [List.map_cons, List.map_cons, ← strs_vs h2 e2]
theorem cr_srt (hc : X.calm = true) (hu : X.A.units + 66 < cLine) : CallR X (.builtin "sorted") (PRn W .srt) := by
  intro pins s σ H xs us Q I r0 ⟨G, ds, r, gh, hs, hp, po⟩
  match ds, hs, hp with
  | [], _, hp => simp [prim, pSrt] at hp
  | _ :: _ :: _, _, hp => simp [prim, pSrt] at hp
  | [d], hs, hp =>
    obtain ⟨v, rfl, h1⟩ := rss1 hs
    cases d <;> simp only [prim, pSrt, reduceCtorEq] at hp
    · rename_i ys
      obtain ⟨a, vs, rfl, e3, r1⟩ := rs_lst gh h1
      cases e1 : ints? ys with
      | some l =>
        rw [e1] at hp
        simp only [Option.some.injEq] at hp
        subst hp
        rw [reps_ints r1 e1] at e3
        refine cr_sortedI pins s σ H _ us Q I r0 ⟨a, l, rfl, .inl (.inl e3), fun ns' p h2 h3 hp => ?_⟩
        rw [isrt_ints h2 h3]
        exact post_l po gh hp (ints_reps _)
      | none =>
        rw [e1] at hp
        simp only [Option.map_eq_some_iff] at hp
        obtain ⟨l, e2, rfl⟩ := hp
        rw [strs_vs r1 e2] at e3
        refine cr_sortedLS hu pins s σ H _ us Q I r0 ⟨a, _, rfl, .inl (.inl e3), fun p hp => ?_⟩
        rw [srtS_str]
        exact post_l po gh hp (reps_srtS _)
    · rename_i t kvs
      cases t <;> simp only [reduceCtorEq] at hp
      simp only [Option.map_eq_some_iff] at hp
      obtain ⟨l, e2, rfl⟩ := hp
      obtain ⟨a, u, ls, rfl, h2, ⟨m, rfl, rfl⟩, h3⟩ := rs_dct gh h1
      refine cr_sortedDS hc hu pins s σ H _ us Q I r0 ⟨a, m, _, rfl, h2, repK_keys h3 e2, fun p hp => ?_⟩
      rw [srtS_str]
      exact post_l po gh hp (reps_srtS _)
end
end Itp
set_option Elab.async false
set_option linter.all false
set_option maxRecDepth 100000
set_option maxHeartbeats 4000000
namespace L2
open PySem PySem.Spec PyProof.Rows
/-! ### dict comprehensions, keys of either kind -/
/-- one store of a comprehension -/
theorem dset_any {B : Cx} {ps : List (Addr × Obj)} {τ : St} {H H' : Hp} {z : Shared} {E : Value → Shared → Prop} {d : Addr} {y v : V} {u r : Value} {Q : Unit → Shared → Prop} (room : B.A.units + 1 < cLine) (J : Inv B ps τ H z) (g : DPut H d y v H') (ru : RelV y u) (rr : RelV v r) (k : ∀ z', Inv B ps τ H' z' → Q () z') :
    wpAny (model B.prog B.w) B.A (dictSet d u r) Q E z := by
  rcases g with ⟨kvs, key, hd, rfl, hl, rfl⟩ | ⟨kvs, key, b, hd, rfl, hb, hl, rfl⟩
  · exact d_dictSet J hd hl ru rr k
  · cases (show u = Value.ref b from ru)
    obtain ⟨le, nm, xs, rel, dd⟩ := dt_of J.hok hd
    have len := Paired.length rel
    have grow := length_putK kvs key v
    refine wpAny_dictSet_heap (hsz := by omega) (show B.A.units < cLine by omega) (key_of J.hok hb) dd fun h' dd' same => k _ ?_
    obtain ⟨o, es, ep, a1, a2, a3, a4, _, a5⟩ := dd'
    refine d_write J (by rw [hd]; trivial) same ⟨o, a1⟩ ⟨by omega, nm, _, (rel.put key hb rr).keeps fun c ys hc => ?_, o, es, ep, a1, a2, a3, a4, a5⟩
    rw [upd_ne (ne_of hc hd fun q => nomatch q), hc]
/-- what a turn is run for: it ends, or it stores an entry, or it passes on -/
def DcTurn (J : It) (g : TG) (tt : TT) (tk tv : TE) (vs : List Nat) (d : Addr) (σ : St) (fin : Hp → Prop) (more : Hp → Prop) (i : Nat) (H : Hp) : Prop :=
  (J.stop i H ∧ fin H) ∨ (J.go i H ∧ ∀ x H', J.yld i H x H' → g x (wipe σ vs) H' fun τ H2 => wipe τ vs = wipe σ vs ∧ tt τ H2 fun b H3 => if b = true then tk τ H3 fun y H4 => tv τ H4 fun z H5 => ∃ H6, DPut H5 d y z H6 ∧ more H6 else more H3)
def tDcA (o : HO) (wi : TI) (g : TG) (tt : TT) (tk tv : TE) (vs : List Nat) : TE := fun σ H Q => wi σ H fun J H1 => ∀ d, H1 d = none → ∃ W : Nat → Nat → Hp → Prop, (∃ n, W 0 n (upd H1 d o)) ∧ ∀ i n H', W i n H' → DcTurn J g tt tk tv vs d σ (Q (.ref d)) (fun H2 => ∃ m, m < n ∧ W (i + 1) m H2) i H'
/-- the turns, in the block's own context B -/
theorem dc_turns {B : Cx} {R : Result → Shared → Prop} {J : It} {g : TG} {tt : TT} {tk tv : TE} {vs : List Nat} {d it : Addr} {fp : List Addr} {tn : Nat → Heap → Prop} {kx vx tg iter : Expr} {ifs : List Expr} {scope : Scope} {pos : Pos} {σ : St} {fin : Hp → Prop} {W : Nat → Nat → Hp → Prop}
    (calm : B.calm = true) (room : B.A.units + 1 < cLine) (T : Turn B.prog B.w B.K tg J fp it tn) (fpo : ∀ {τ : St} {H : Hp} {z : Shared}, Inv B [] τ H z → (∀ b ∈ fp, H b = none) → ∀ b ∈ fp, FpOk B [] H b)
    (pg : PG B tg g) (pt : PTs B ifs tt) (pk : PE B kx tk) (pv : PE B vx tv) (xe : ∀ e s, B.xe e s → notedBy (model B.prog B.w) B.A B.env (fun e s' => R (.error e) s') e s)
    (turn : ∀ i n H, W i n H → DcTurn J g tt tk tv vs d σ fin (fun H2 => ∃ m, m < n ∧ W (i + 1) m H2) i H)
    (leave : ∀ {H : Hp} {z : Shared}, Inv B [] (wipe σ vs) H z → (∀ b ∈ fp, H b = none) → fin H → R (.ok .next) z)
    {n : Nat} {H0 : Hp} {z0 : Shared} (I0 : Inv B [] (wipe σ vs) H0 z0) (s0 : tn 0 z0.heap) (f0 : ∀ b ∈ fp, H0 b = none) (w0 : W 0 n H0) :
    codeAny (model B.prog B.w) B.A (.compLoop (.DictComp kx vx [⟨tg, iter, ifs, 0⟩] scope pos) 0 (.ref it) (.ref d) B.env) R z0 := by
  refine compLoop_anyD (fun n z => ∃ i H, Inv B [] (wipe σ vs) H z ∧ tn i z.heap ∧ (∀ b ∈ fp, H b = none) ∧ W i n H) (fun n z ⟨i, H, I, st, fr, w⟩ => ?_) n ⟨0, H0, I0, s0, f0, w0⟩
  have lift : ∀ {α : Type} {c : Sem α} {P : α → Shared → Prop} {z : Shared}, wpAny (model B.prog B.w) B.A c P B.xe z → wpAny (model B.prog B.w) B.A c P (notedBy (model B.prog B.w) B.A B.env fun e s' => R (.error e) s') z := fun h => wpAny_mono h (fun _ _ q => q) fun e s q => xe e s q
  rcases turn i n H w with ⟨stop, en⟩ | ⟨go, step⟩
  · refine thnF (T.done B rfl rfl rfl calm i [] z _ H (fun _ _ => False) I (fpo I fr) st stop) fun r z' ⟨hr, I'⟩ => ?_
    subst hr
    exact leave I' fr en
  · refine thnF (T.item B rfl rfl rfl calm i [] z _ H (fun _ _ => False) I (fpo I fr) st go) fun r z1 ⟨u, hr, h1⟩ => ?_
    subst hr
    refine thnF h1 fun _ z2 ⟨x, H2, I2, rx, yx, st2, fr2⟩ => ?_
    have ends : ∀ {τ : St} {H' : Hp} {z' : Shared}, wipe τ vs = wipe σ vs → Inv B ([] ++ pinsAt fp z2.heap) τ H' z' → (∃ m, m < n ∧ W (i + 1) m H') → ∃ m, m < n ∧ ∃ j H, Inv B [] (wipe σ vs) H z' ∧ tn j z'.heap ∧ (∀ b ∈ fp, H b = none) ∧ W j m H := fun {τ H' z'} hw I' ⟨m, hm, w'⟩ => by
      have held : ∀ b ∈ fp, ∀ o, z2.heap.get? b = some o → z'.heap.get? b = some o ∧ H' b = none := fun b hb o ho => by
        have q := I'.pin (b, o) (List.mem_append_right _ (List.mem_append_right _ (mem_pinsAt hb ho)))
        exact ⟨q.1, q.2.1⟩
      refine ⟨m, hm, i + 1, H', (I'.unpinned (pins := [])).weak (by rw [← hw, wipe_length]) (fun j v e => ?_), T.keep _ _ _ st2 fun b hb o ho => (held b hb o ho).1, fun b hb => ?_, w'⟩
      · rw [← hw] at e; exact (wipe_some e).1
      · obtain ⟨o, ho, _⟩ := T.obj _ _ st2 b hb
        exact (held b hb o ho).2
    refine lift (thn (pg.run _ z2 _ H2 x u _ (I2.pinned (fpo I2 fr2) (T.obj _ _ st2)) rx (step x H2 yx)) fun _ z3 ⟨τ, H3, I3, hw, q3⟩ => ?_)
    refine lift (thn (pt.run _ z3 τ H3 _ I3 q3) fun b z4 ⟨H4, I4, q4⟩ => ?_)
    cases b with
    | false => exact ends hw I4 (by simpa using q4)
    | true =>
      simp only [if_true] at q4 ⊢
      refine lift (thn (pk.run _ z4 τ H4 _ I4 q4) fun ku z5 ⟨y, H5, I5, r5, q5⟩ => ?_)
      refine lift (thn (pv.run _ z5 τ H5 _ I5 q5) fun vu z6 ⟨v, H6, I6, r6, H7, put, q7⟩ => ?_)
      exact dset_any room I6 put r5 r6 fun z7 I7 => ends hw I7 q7
theorem blk_fp {X : Cx} {sB : Shared} {HB : Hp} {scope : Scope} {ce : Env} {fp : List Addr} {τ : St} {H : Hp} {z : Shared} (I : Inv (X.blk sB HB scope ce fp) [] τ H z) (fr : ∀ b ∈ fp, H b = none) (b : Addr) (hb : b ∈ fp) : FpOk (X.blk sB HB scope ce fp) [] H b := by
  have q := I.ok.exf b hb
  refine ⟨fr b hb, q.1, I.ok.exfs b hb, .inl hb, q.2, fun p hp => ?_⟩
  have hp : p ∈ ([] : List (Addr × Obj)) ++ [] := hp
  simp at hp
theorem dcA_core {X : Cx} {ps : List (Addr × Obj)} {s : Shared} {σ : St} {H : Hp} {Q : VK} {use : Option (Value → Sem Unit)} {Qf : Value → Shared → Prop} {pos' : Pos} {o : HO} {kx vx tg iter : Expr} {ifs : List Expr} {scope : Scope} {own : List (Str × Nat)} {pos : Pos} {wi : TI} {g : TG} {tt : TT} {tk tv : TE} (ho : o = .dK [] ∨ o = .dT []) (room : X.A.units + 1 < cLine) (calm : X.calm = true) (nd : X.N.Nodup) (walk : PI X tg iter wi) (blk : BlkOk X.N X.env.scope scope own)
    (pg : ∀ (z : Shared) (H : Hp) (C : Addr) (cl : List (Str × Addr)) (fp : List Addr), PG (X.blk z H scope (compEnvC scope cl C X.env) fp) tg g) (pt : ∀ (z : Shared) (H : Hp) (C : Addr) (cl : List (Str × Addr)) (fp : List Addr), PTs (X.blk z H scope (compEnvC scope cl C X.env) fp) ifs tt)
    (pk : ∀ (z : Shared) (H : Hp) (C : Addr) (cl : List (Str × Addr)) (fp : List Addr), PE (X.blk z H scope (compEnvC scope cl C X.env) fp) kx tk) (pv : ∀ (z : Shared) (H : Hp) (C : Addr) (cl : List (Str × Addr)) (fp : List Addr), PE (X.blk z H scope (compEnvC scope cl C X.env) fp) vx tv)
    (noset : ∀ x, foldedSetIterable iter X.env x = pure x) (I : Inv X ps σ H s) (want : tDcA o wi g tt tk tv (own.map (·.2)) σ H Q) (over : ∀ d C z m Hz, Inv X ps σ Hz z → Q (.ref d) Hz → z.heap.Ns C m → FpOk X ps Hz C → compPost (model X.prog X.w) X.A X.xe use Qf (.ref d) C (.ok .next) z) :
    wpAny (model X.prog X.w) X.A (comprehension (.DictComp kx vx [⟨tg, iter, ifs, 0⟩] scope pos) scope X.env pos' newDict false (eval iter X.env) use) Qf X.xe s := by
  have cells : ∀ y ∈ scope.names, y.2 = .free → ∃ c, X.env.cells.lookup y.1 = some c := fun y hy e => I.ok.has _ (blk.free y hy e)
  refine wpAny_comprehension_free (use := use) rfl noset (closure_ok cells) blk.kind (fun y hy e => by rw [blk.uniq y hy, e]) (thn (walk.run ps s σ H _ I want) fun _ _ got => thn got fun _ zA gotA => ?_)
  obtain ⟨it, fp, tn, J, HA, rfl, IA, T, stA, frA, gives⟩ := gotA
  refine wpAny_newObj_type (newEnv_comp ?_)
  have dNew : HA zA.heap.objs.size = none := IA.hok.fresh (Nat.le_refl _)
  obtain ⟨W, ⟨n0, w0⟩, turn⟩ := gives _ dNew
  have newOk : ObjOk X.prog X.w (upd HA zA.heap.objs.size o) (zA.heap.push { cls := .type "dict", data := .dict #[] }) zA.heap.objs.size o := by
    rcases ho with rfl | rfl
    · exact dk_empty zA.heap IA.big
    · exact dt_empty zA.heap IA.big
  have IB := IA.laid (t' := zA.toks) (fun b ob e => Heap.get?_push_of_some _ e) (Nat.le_refl _) newOk
  generalize dE : zA.heap.objs.size = d at IB dNew w0 turn ⊢
  generalize zE : ({ zA with heap := zA.heap.push { cls := .type "dict", data := .dict #[] } } : Shared) = zB at IB ⊢
  have hB : zB.heap = zA.heap.push { cls := .type "dict", data := .dict #[] } := by rw [← zE]
  have small : ∀ b ∈ fp, b < d := fun b hb => by
    obtain ⟨ob, e, _⟩ := T.obj _ _ stA b hb
    rw [← dE]; exact Heap.lt_size e
  have frB : ∀ b ∈ fp, FpOk X ps (upd HA d o) b ∧ b < zB.heap.objs.size := fun b hb => by
    refine ⟨⟨?_, (frA b hb).2⟩, ?_⟩
    · rw [upd_ne (Nat.ne_of_lt (small b hb))]; exact (frA b hb).1
    · rw [hB, Heap.size_push, dE]; exact Nat.lt_succ_of_lt (small b hb)
  have stB : tn 0 zB.heap := T.keep _ _ _ stA fun b _ ob e => by rw [hB]; exact Heap.get?_push_of_some _ e
  have IC := block_start IB blk nd frB
  generalize cE : cellsFrom (zB.heap.objs.size + 1) scope.names (cloFrom X.env.cells scope.names []) = cl at IC
  have stC : tn 0 (pushCells (zB.heap.push { cls := .type "dict", data := .dict #[] }) scope.names) := T.keep _ _ _ stB fun b _ ob e => pushCells_keeps _ _ _ _ (Heap.get?_push_of_some _ e)
  have frC : ∀ b ∈ fp, (upd HA d o) b = none := fun b hb => (frB b hb).1.1
  have run := dc_turns (B := X.blk zB (upd HA d o) scope (compEnvC scope cl zB.heap.objs.size X.env) fp) (R := compPost (model X.prog X.w) X.A X.xe use Qf (.ref d) zB.heap.objs.size) (kx := kx) (vx := vx) (iter := iter) (scope := scope) (pos := pos) calm room T (fun I fr => blk_fp I fr) (pg _ _ _ _ _) (pt _ _ _ _ _) (pk _ _ _ _ _) (pv _ _ _ _ _) (fun _ _ q => q.elim) turn
    (fun {Hz z} Iz _ en => by
      have back : Inv X ps σ Hz z := IB.call' (ch := fp) Iz.os Iz.base Iz.hok Iz.bare fun b hb => by
        obtain ⟨_, k1, k2, k3, k4, k5⟩ := (frB b hb).1
        exact ⟨k3, k1, k4, k5⟩
      have out : Hz zB.heap.objs.size = none := Iz.free
      obtain ⟨m, ns, _⟩ := Iz.loc
      exact over d zB.heap.objs.size z m Hz back en ns (IB.fpOk (Nat.le_refl _) out)) IC stC frC w0
  exact codeAny_compStart_dict run (T.self X.A 0 _ _ _ stC run)
section
variable {X : Cx} {o : HO} {kx vx tg iter : Expr} {ifs : List Expr} {scope : Scope} {own : List (Str × Nat)} {pos : Pos} {wi : TI} {g : TG} {tt : TT} {tk tv : TE} (ho : o = .dK [] ∨ o = .dT []) (room : X.A.units + 1 < cLine) (calm : X.calm = true) (nd : X.N.Nodup) (walk : PI X tg iter wi) (blk : BlkOk X.N X.env.scope scope own)
    (pg : ∀ (z : Shared) (H : Hp) (C : Addr) (cl : List (Str × Addr)) (fp : List Addr), PG (X.blk z H scope (compEnvC scope cl C X.env) fp) tg g) (pt : ∀ (z : Shared) (H : Hp) (C : Addr) (cl : List (Str × Addr)) (fp : List Addr), PTs (X.blk z H scope (compEnvC scope cl C X.env) fp) ifs tt)
    (pk : ∀ (z : Shared) (H : Hp) (C : Addr) (cl : List (Str × Addr)) (fp : List Addr), PE (X.blk z H scope (compEnvC scope cl C X.env) fp) kx tk) (pv : ∀ (z : Shared) (H : Hp) (C : Addr) (cl : List (Str × Addr)) (fp : List Addr), PE (X.blk z H scope (compEnvC scope cl C X.env) fp) vx tv)
    (noset : ∀ x, foldedSetIterable iter X.env x = pure x)
include ho room calm nd walk blk pg pt pk pv noset
/-- as a value -/
theorem pe_dcA : PE X (.DictComp kx vx [⟨tg, iter, ifs, 0⟩] scope pos) (tDcA o wi g tt tk tv (own.map (·.2))) := by
  refine ⟨fun ps s σ H Q I want => ?_⟩
  rw [arm_eval_DictComp]
  refine dcA_core ho room calm nd walk blk pg pt pk pv noset I want fun d C z m Hz back en ns fpk => ⟨m, ns, fun h' same => ⟨.ref d, Hz, ?_, rfl, en⟩⟩
  obtain ⟨c0, c1, c2, c3, c4, c5⟩ := fpk
  exact back.turned (t' := z.toks) (fun b ob hb e => (same.2 b hb).trans e) c0 c1 c3 c4 c5
/-- stored by a local name as it ends -/
theorem ps_setDcA {i : Nat} {y : Str} {py spos : Pos} (hy : X.N[i]? = some y) (loc : X.env.scope.names.lookup y = some .local) (sw : swapsWith (.DictComp kx vx [⟨tg, iter, ifs, 0⟩] scope pos) (some (.Name y py)) spos.line X.env = pure true) :
    PS X (.Assign [.Name y py] (.DictComp kx vx [⟨tg, iter, ifs, 0⟩] scope pos) spos) (fun De σ H => tDcA o wi g tt tk tv (own.map (·.2)) σ H fun x H1 => De.nx (σ.set i (some x)) H1) := by
  refine ⟨fun ps s σ H De I want => ?_⟩
  rw [exec_Assign_Name_used _ _ _ _ sw]
  refine wpAny_bind (wpAny_standAt (wpAny_bind (wpAny_bind ?_)))
  refine thn (dcA_core (Qf := fun _ z => SP X ps De .next z) ho room calm nd walk blk pg pt pk pv noset I want fun d C z m Hz back en ns fpk => ?_) fun _ z q => wpAny_pure (wpAny_pure q)
  obtain ⟨c0, c1, c2, c3, c4, c5⟩ := fpk
  show wpAny _ _ (assign (.Name y py) X.env (.ref d)) _ _ _
  refine wpAny_assign_Name (store_ok2 (v := V.ref d) back nd hy (.inl loc) rfl (fun z2 I2 ⟨c, sb, hc⟩ => ?_) (.inr loc))
  have ne : C ≠ c := by
    rcases hc with e | e
    · rw [e]; exact c1
    · exact fun e' => c4 y c e e'.symm
  exact ⟨m, ns.sameBut sb ne, fun h' same => ⟨_, Hz, I2.turned (t' := z2.toks) (fun b ob hb e => (same.2 b hb).trans e) c0 c1 c3 c4 c5, en⟩⟩
end
end L2
set_option Elab.async false
set_option linter.all false
set_option maxRecDepth 100000
set_option maxHeartbeats 4000000
namespace Itp
open PySem L2
/-! ### the small syntax against the row's own -/
structure Tab where
  fn : List (Str × Nat)
  cst : List (Str × D)
  cls : List (Str × Nat)
  fv : List (Str × Nat)
def lk {α : Type} : List (Str × α) → Str → Option α
  | [], _ => none
  | (y, a) :: r, x => if y = x then some a else lk r x
def bltNames : List Str := ["len", "int", "str", "list", "tuple", "min", "max", "sum", "abs", "all", "any", "isinstance", "range", "enumerate", "sorted", "set", "bool"]
def glB (sc : Scope) (x : Str) : Bool := match sc.names.lookup x with
  | some .globalImplicit => true
  | _ => false
def visB (sc : Scope) (x : Str) : Bool := match sc.names.lookup x with
  | some .local => true
  | some .cell => true
  | some .free => true
  | _ => false
def locB (sc : Scope) (x : Str) : Bool := match sc.names.lookup x with
  | some .local => true
  | some .cell => true
  | _ => false
def isVar (N : List Str) (sc : Scope) (i : Nat) (x : Str) : Bool := decide (N[i]? = some x) && visB sc x && !(x == ("__debug__" : Str)) && !(x == ("__classdict__" : Str))
def isBlt (sc : Scope) (n : Str) (x : Str) : Bool := decide (x = n) && glB sc x
def cstIs : D → Const → Bool
  | .non, .none => true
  | .bl a, .bool b => a == b
  | .int a, .int b => a == b
  | .str a, .str b => decide (b = ⟨a.toArray⟩)
  | _, _ => false
def notStar : Expr → Bool
  | .Starred _ _ => false
  | _ => true
def notSlice : Expr → Bool
  | .Slice _ _ _ _ => false
  | _ => true
def notSet : Expr → Bool
  | .Set _ _ _ => false
  | _ => true
def tyNames : List Expr → Option (List Str)
  | [] => some []
  | .Name x _ :: r => (tyNames r).map (x :: ·)
  | _ => none
def tyS : Ty → Str
  | .int => "int"
  | .str => "str"
  | .bool => "bool"
  | .list => "list"
  | .tuple => "tuple"
def isiB (sc : Scope) (ts : List Ty) : Expr → Bool
  | .Name x _ => match ts with
    | [t] => isBlt sc (tyS t) x
    | _ => false
  | .Tuple es _ _ => match tyNames es with
    | some xs => decide (xs = ts.map tyS) && xs.all (glB sc)
    | none => false
  | _ => false
/-- a method's call: the receiver and the arguments -/
def mthB (m n : Str) (ap cp : Pos) : Bool := decide (m = n) && (ap.endLine == cp.line)
def bltOp : Op → Option Str
  | .len => some "len"
  | .int => some "int"
  | .str => some "str"
  | .list => some "list"
  | .tuple => some "tuple"
  | .min => some "min"
  | .max => some "max"
  | .sum => some "sum"
  | .abs => some "abs"
  | .all => some "all"
  | .any => some "any"
  | .srt => some "sorted"
  | .ftup => some "tuple"
  | _ => none
def notSuper : Expr → Bool
  | .Call _ _ _ _ => false
  | _ => true
def binOf : Op → Option Operator
  | .add => some .Add
  | .sub => some .Sub
  | .mul => some .Mult
  | .fdiv => some .FloorDiv
  | .mod => some .Mod
  | .pow => some .Pow
  | _ => none
def cmpOf : Op → Option CmpOp
  | .eq => some .Eq
  | .ne => some .NotEq
  | .lt => some .Lt
  | .le => some .LtE
  | .gt => some .Gt
  | .ge => some .GtE
  | _ => none
def cmpOf2 : Op → Option CmpOp
  | .inn => some .In
  | .nin => some .NotIn
  | o => cmpOf o
def isOf : Op → Option CmpOp
  | .isN => some .Is
  | .notN => some .IsNot
  | _ => none
def isNone : Expr → Bool
  | .Constant .none _ _ => true
  | _ => false
def slOf : Op → Option (Bool × Bool)
  | .slc a b => some (a, b)
  | _ => none
def isiOf : Op → Option (List Ty)
  | .isi ts => some ts
  | _ => none
def mthOf : Op → Option Str
  | .join => some "join"
  | .find => some "find"
  | .index => some "index"
  | .count => some "count"
  | .split => some "split"
  | _ => none
def mthOf2 : Op → Option Str
  | .find => some "find"
  | .get => some "get"
  | _ => none
def dctOf : Op → Bool
  | .dct _ => true
  | _ => false
def rngOf : Op → Option Str
  | .trng => some "tuple"
  | .lrng => some "list"
  | _ => none
def optL {α : Type} : Option α → List α
  | some a => [a]
  | none => []
def rngP (sc : Scope) (n : Str) : Expr → Option (List Expr)
  | .Call (.Name x _) [.Call (.Name y _) [a] [] _] [] _ => if isBlt sc n x && isBlt sc "range" y && notStar a then some [a] else none
  | .Call (.Name x _) [.Call (.Name y _) [a, b] [] _] [] _ => if isBlt sc n x && isBlt sc "range" y && notStar a && notStar b then some [a, b] else none
  | _ => none
def lsP (sc : Scope) (o : Op) (x : Str) : Expr → List Expr → Option (List Expr)
  | .Call (.Name y _) [b] [] _, [] => if decide (o = .lset) && isBlt sc "len" x && isBlt sc "set" y && notStar b then some [b] else none
  | _, _ => none
def ssP (sc : Scope) (o : Op) (x : Str) : Expr → List Expr → Option (List Expr)
  | .Call (.Name y _) [b] [] _, [] => if decide (o = .sset) && isBlt sc "sorted" x && isBlt sc "set" y && notStar b then some [b] else none
  | _, _ => none
def fparts : List Expr → Option (List Expr)
  | [] => some []
  | .FormattedValue e c none _ :: r => if c = -1 then (fparts r).map fun es => e :: es else none
  | .Constant (.str x) b p :: r => (fparts r).map fun es => .Constant (.str x) b p :: es
  | _ => none
/-- the operands of an operation -/
def parts0 (sc : Scope) (o : Op) (e : Expr) : Option (List Expr) :=
  match e with
  | .BinOp a op b _ => if decide (binOf o = some op) then some [a, b] else none
  | .UnaryOp .USub a _ => if decide (o = .neg) then some [a] else none
  | .Compare a [op] [b] _ => if decide (cmpOf2 o = some op) && notSet b then some [a, b] else if decide (isOf o = some op) && isNone b then some [a] else none
  | .Subscript a (.Slice none none (some (.UnaryOp .USub (.Constant (.int 1) _ _) _)) _) _ => if decide (o = .rev) then some [a] else none
  | .Subscript a (.Slice l h none _) _ => if decide (slOf o = some (l.isSome, h.isSome)) then some (a :: (optL l ++ optL h)) else none
  | .Subscript a b _ => if decide (o = .ix) && notSlice b then some [a, b] else none
  | .Tuple es _ _ => if decide (o = .tup) && es.all notStar then some es else none
  | .Dict [] [] _ => if dctOf o then some [] else none
  | .List es _ => if decide (o = .lst) && es.all notStar then some es else none
  | .Call (.Name x _) (a :: as) [] _ => match bltOp o with
    | some n => if isBlt sc n x && (a :: as).all notStar then some (a :: as) else none
    | none => match isiOf o, as with
      | some ts, [b] => if isBlt sc "isinstance" x && notStar a && isiB sc ts b && decide (ts.length ≤ 5) then some [a] else none
      | _, _ => if decide (o = .lset) then lsP sc o x a as else ssP sc o x a as
  | .Call (.Attribute a m ap) [b] [] cp => match mthOf o with
    | some n => if mthB m n ap cp && notStar b && notSuper a then some [a, b] else none
    | none => none
  | .Call (.Attribute a m ap) [b, c] [] cp => match mthOf2 o with
    | some n => if mthB m n ap cp && notStar b && notStar c && notSuper a then some [a, b, c] else none
    | none => none
  | .JoinedStr (v1 :: v2 :: vs) _ => if decide (o = .fst) then fparts (v1 :: v2 :: vs) else none
  | _ => none
def parts (sc : Scope) (o : Op) (e : Expr) : Option (List Expr) := match rngOf o with
  | some n => rngP sc n e
  | none => parts0 sc o e
def itParts (sc : Scope) (k : ItK) (e : Expr) : Option (List Expr) :=
  match k, e with
  | .rng, .Call (.Name x _) [a] [] _ => if isBlt sc "range" x && notStar a then some [a] else none
  | .rng, .Call (.Name x _) [a, b] [] _ => if isBlt sc "range" x && notStar a && notStar b then some [a, b] else none
  | .rng, .Call (.Name x _) [a, b, c] [] _ => if isBlt sc "range" x && notStar a && notStar b && notStar c then some [a, b, c] else none
  | .enum, .Call (.Name x _) [a] [] _ => if isBlt sc "enumerate" x && notStar a then some [a] else none
  | .items, .Call (.Attribute a m ap) [] [] cp => if mthB m "items" ap cp && notSuper a then some [a] else none
  | .seq, e => if notSet e then some [e] else none
  | _, _ => none
def isTup : Expr → Bool
  | .Tuple _ _ _ => true
  | _ => false
mutual
def chkT (N : List Str) (sc : Scope) (fn : Str → Bool) : Tg → Expr → Bool
  | .nm i, .Name x _ => decide (N[i]? = some x) && locB sc x && (fn x || decide (sc.names.lookup x = some .local))
  | .tp ts, .Tuple es _ _ => chkTs N sc fn ts es
  | _, _ => false
def chkTs (N : List Str) (sc : Scope) (fn : Str → Bool) : List Tg → List Expr → Bool
  | [], [] => true
  | t :: ts, e :: es => notStar e && chkT N sc fn t e && chkTs N sc fn ts es
  | _, _ => false
end
mutual
def tgSlots : Tg → List Nat
  | .nm i => [i]
  | .tp ts => tgsSlots ts
def tgsSlots : List Tg → List Nat
  | [] => []
  | t :: ts => tgSlots t ++ tgsSlots ts
end
/-- the names of a comprehension's block, as they stand in it -/
def rl (scope sc : Scope) : Scope := { scope with names := scope.names.map fun (n, k) => if (k == NameKind.free && sc.kind == .function && sc.names.lookup n == some .cell) then (n, NameKind.cell) else (n, k) }
mutual
def chk (T : Tab) (N : List Str) (sc : Scope) : E → Expr → Bool
  | .var i, .Name x _ => isVar N sc i x
  | .pk i, .Name x _ => isVar N sc i x
  | .cst d, .Constant c _ _ => cstIs d c
  | .glb y d, .Name x _ => decide (x = y) && glB sc x && !(x == ("__debug__" : Str)) && (match lk T.cst x with
    | some d' => D.beq d d' && d.flat
    | none => false)
  | .op o as, e => match parts sc o e with
    | some es => chks T N sc as es
    | none => false
  | .and a b, .BoolOp .And (x :: y :: r) pos => chk T N sc a x && (match r with
    | [] => chk T N sc b y
    | _ :: _ => chk T N sc b (.BoolOp .And (y :: r) pos))
  | .or a b, .BoolOp .Or (x :: y :: r) pos => chk T N sc a x && (match r with
    | [] => chk T N sc b y
    | _ :: _ => chk T N sc b (.BoolOp .Or (y :: r) pos))
  | .not a, .UnaryOp .Not x _ => chk T N sc a x
  | .ite c a b, .IfExp x y z _ => chkB T N sc c x && chk T N sc a y && chk T N sc b z
  | .chain o p a b c, .Compare x [q, r] [y, z] _ => decide (cmpOf o = some q) && decide (cmpOf p = some r) && chk T N sc a x && chk T N sc b y && chk T N sc c z
  | .chain3 o p s a b c d, .Compare x [q, r, t] [y, z, u] _ => decide (cmpOf o = some q) && decide (cmpOf p = some r) && decide (cmpOf s = some t) && chk T N sc a x && chk T N sc b y && chk T N sc c z && chk T N sc d u
  | .fnv y g, .Name x _ => decide (x = y) && decide (lk T.fv x = some g) && glB sc x && !(x == ("__debug__" : Str))
  | .callV f as, .Call (.Subscript a b p) (e :: es) [] _ => chk T N sc f (.Subscript a b p) && (e :: es).all notStar && chks T N sc as (e :: es)
  | .call f as, .Call (.Name x _) es [] _ => decide (lk T.fn x = some f) && glB sc x && !(x == ("__debug__" : Str)) && es.all notStar && chks T N sc as es
  | .comp k as tg own conds elt, .ListComp elt' [⟨tg', iter, ifs, asy⟩] scope _ =>
    decide (asy = 0) && (match itParts sc k iter with
      | some es => chks T N sc as es
      | none => false) && (match k with
      | .enum => isTup tg'
      | .items => isTup tg'
      | _ => true) && notSet iter && chkT N (rl scope sc) (fun x => scope.names.lookup x == some .cell) tg tg' && (tgSlots tg).all (own.contains ·) && blkC N sc scope (own.map fun i => (N.getD i "", i)) && chkB1 T N (rl scope sc) conds ifs && chk T N (rl scope sc) elt elt'
  | .dct1 a b, .Dict [some x] [y] _ => chk T N sc a x && chk T N sc b y
  | .dcomp t k as tg own conds kx vx, .DictComp kx' vx' [⟨tg', iter, ifs, asy⟩] scope _ =>
    decide (asy = 0) && (match itParts sc k iter with
      | some es => chks T N sc as es
      | none => false) && (match k with
      | .enum => isTup tg'
      | .items => isTup tg'
      | _ => true) && notSet iter && chkT N (rl scope sc) (fun x => scope.names.lookup x == some .cell) tg tg' && (tgSlots tg).all (own.contains ·) && blkC N sc scope (own.map fun i => (N.getD i "", i)) && chkB1 T N (rl scope sc) conds ifs && chk T N (rl scope sc) kx kx' && chk T N (rl scope sc) vx vx'
  | .comp2 k as tg own k1 as1 tg1 own1 conds elt, .ListComp elt' [⟨tg', iter, ifs, asy⟩, ⟨tg1', iter1, ifs1, asy1⟩] scope _ =>
    decide (asy = 0) && decide (asy1 = 0) && ifs.isEmpty && (match itParts sc k iter with
      | some es => chks T N sc as es
      | none => false) && (match itParts (rl scope sc) k1 iter1 with
      | some es => chks T N (rl scope sc) as1 es
      | none => false) && decide (k = .seq) && decide (k1 = .seq) && notSet iter && notSet iter1 && chkT N (rl scope sc) (fun x => scope.names.lookup x == some .cell) tg tg' && chkT N (rl scope sc) (fun x => scope.names.lookup x == some .cell) tg1 tg1' && (tgSlots tg).all (own.contains ·) && (tgSlots tg1).all (own1.contains ·) && own1.all (own.contains ·) && blkC N sc scope (own.map fun i => (N.getD i "", i)) && chkB1 T N (rl scope sc) conds ifs1 && chk T N (rl scope sc) elt elt'
  | _, _ => false
/-- as a test -/
def chkB (T : Tab) (N : List Str) (sc : Scope) : E → Expr → Bool
  | .var i, .Name x _ => isVar N sc i x
  | .op o as, e => match parts sc o e with
    | some es => chks T N sc as es
    | none => false
  | .and a b, .BoolOp .And (x :: y :: r) pos => chkB T N sc a x && (match r with
    | [] => chkB T N sc b y
    | _ :: _ => chkB T N sc b (.BoolOp .And (y :: r) pos))
  | .or a b, .BoolOp .Or (x :: y :: r) pos => chkB T N sc a x && (match r with
    | [] => chkB T N sc b y
    | _ :: _ => chkB T N sc b (.BoolOp .Or (y :: r) pos))
  | .not a, .UnaryOp .Not x _ => chkB T N sc a x
  | .chain o p a b c, .Compare x [q, r] [y, z] _ => decide (cmpOf o = some q) && decide (cmpOf p = some r) && chk T N sc a x && chk T N sc b y && chk T N sc c z
  | .chain3 o p s a b c d, .Compare x [q, r, t] [y, z, u] _ => decide (cmpOf o = some q) && decide (cmpOf p = some r) && decide (cmpOf s = some t) && chk T N sc a x && chk T N sc b y && chk T N sc c z && chk T N sc d u
  | .call f as, .Call (.Name x _) es [] _ => decide (lk T.fn x = some f) && glB sc x && !(x == ("__debug__" : Str)) && es.all notStar && chks T N sc as es
  | _, _ => false
def chks (T : Tab) (N : List Str) (sc : Scope) : List E → List Expr → Bool
  | [], [] => true
  | a :: as, e :: es => chk T N sc a e && chks T N sc as es
  | _, _ => false
def chkB1 (T : Tab) (N : List Str) (sc : Scope) : List E → List Expr → Bool
  | [], [] => true
  | [a], [e] => chkB T N sc a e
  | _, _ => false
end
/-! ### promises of defs -/
def OkFins (W : Wd) (G H : Hp) : List V → List Arg → List D → Prop
  | [], [], l => l = []
  | _ :: vs, .val _ :: as, l => OkFins W G H vs as l
  | v :: vs, .lent _ :: as, l => ∃ d r a, l = d :: r ∧ v = .ref a ∧ G a = none ∧ Cont W G H a d ∧ OkFins W G H vs as r
  | _, _, _ => False
def spOf (W : Wd) (F : Fn) : Sp := fun vs H Q E => ∃ (G : Hp) (as : List Arg), as.length = vs.length ∧ StOk W G H (vs.map some) (as.map argSlot) ∧
  match F as with
  | .no => False
  | .ok r fin => ∀ v G' H', Keep (OwnA (vs.map some) (as.map argSlot)) G H (OwnA (vs.map some) (as.map argSlot)) G' H' → OkFins W G' H' vs as fin →
      ResOk W (OwnA (vs.map some) (as.map argSlot)) H (OwnA (vs.map some) (as.map argSlot)) G' H' r v → Q v H'
  | .ex x fin => ∀ c d G' H', Keep (OwnA (vs.map some) (as.map argSlot)) G H (OwnA (vs.map some) (as.map argSlot)) G' H' → OkFins W G' H' vs as fin → XOk W G' H' x c d → E c d H'
structure CxOk (X : Cx) (W : Wd) (C : Cfg) (T : Tab) (Wx : WX) : Prop where
  K : X.K = W.K
  nd : X.N.Nodup
  calm : X.calm = true
  units : X.A.units + 100 < cLine
  blt : ∀ x ∈ bltNames, X.mg x = none
  cst : ∀ x d, lk T.cst x = some d → ∃ u v, X.mg x = some u ∧ RelV v u ∧ ∀ G, d.flat = true → Rep W G d v
  tk : Takes X Wx
  fns : ∀ x f, lk T.fn x = some f → ∃ a fd k ps, FnOk X.prog X.w X.K X.mg X.base (L2.CX X.prog X.w) k a fd ps (spOf W (C.fns f)) ∧ Room k X.A ∧ X.mg x = some (.ref a) ∧ PySem.W.keepIn X.K (.ref a) = true ∧ Binds X.K fd ps []
  fvn : ∀ x g, lk T.fv x = some g → ∃ a, W.fa g = some a ∧ X.mg x = some (.ref a)
  fvc : ∀ g F a, C.fv g = some F → W.fa g = some a → ∃ fd k ps, FnOk X.prog X.w X.K X.mg X.base (L2.CX X.prog X.w) k a fd ps (spOf W F) ∧ Room k X.A ∧ PySem.W.keepIn X.K (.ref a) = true ∧ Binds X.K fd ps []
theorem glB_gl {X : Cx} {x : Str} (h : glB X.env.scope x = true) : Gl X x := by
  unfold glB at h
  unfold Gl Env.kindOf
  split at h
  · assumption
  · cases h
theorem visB_vis {sc : Scope} {x : Str} (h : visB sc x = true) : Vis sc x := by
  unfold visB at h
  unfold Vis
  split at h
  · exact .inl (by assumption)
  · exact .inr (.inl (by assumption))
  · exact .inr (.inr (by assumption))
  · cases h
theorem locB_loc {sc : Scope} {x : Str} (h : locB sc x = true) : L2.Loc sc x := by
  unfold locB at h
  unfold L2.Loc
  split at h
  · exact .inl (by assumption)
  · exact .inr (by assumption)
  · cases h
theorem star_each {e : Expr} {es : List Expr} {env : PySem.Env} (h : notStar e = true) : starEach (e :: es) env = (false, eval e env) :: starEach es env := by
  cases e <;> first | rfl | simp [notStar] at h
theorem star_any (pos : Pos) : ∀ (es : List Expr) {env : PySem.Env}, es.all notStar = true → (backTo pos (starEach es env)).any (·.1) = false ∧ (backTo pos (starEach es env)).all (fun x => !x.1) = true
  | [], env, _ => ⟨rfl, rfl⟩
  | e :: es, env, h => by
    simp only [List.all_cons, Bool.and_eq_true] at h
    rw [star_each h.1]
    have ih := star_any pos es (env := env) h.2
    constructor
    · show (false || (backTo pos (starEach es env)).any (·.1)) = false
      rw [ih.1]
      rfl
    · show (true && (backTo pos (starEach es env)).all fun x => !x.1) = true
      rw [ih.2]
      rfl
/-! ### operands in a row -/
def WQ (X : Cx) : List Expr → TA
  | [] => fun _ H R => R [] H
  | e :: es => fun σ H R => WE X e σ H fun v H1 => WQ X es σ H1 fun vs H2 => R (v :: vs) H2
theorem paU {X : Cx} : ∀ {es : List Expr}, es.all notStar = true → PA X es (WQ X es)
  | [], _ => pa_nil
  | e :: es, h => by
    simp only [List.all_cons, Bool.and_eq_true] at h
    exact pa_cons peU (paU h.2) (star_each h.1)
def OpdV (W : Wd) (G : Hp) (σ : St) : Opd → V → Prop
  | .d x, v => Rep W G x v
  | .pk i, v => σ[i]? = some (some v)
def OpdsV (W : Wd) (G : Hp) (σ : St) : List Opd → List V → Prop
  | [], vs => vs = []
  | o :: os, vs => ∃ v r, vs = v :: r ∧ OpdV W G σ o v ∧ OpdsV W G σ os r
def LOk (W : Wd) (σ : St) (_ : Addr → Prop) (_ : Hp) (_ : Addr → Prop) (G' _ : Hp) : List Opd → List V → Prop := fun os vs => OpdsV W G' σ os vs
theorem LOk.bears {W : Wd} {σ : St} : Bears (LOk W σ) := fun _ _ _ _ _ _ _ _ _ _ h => h
theorem OpdV.mono {W : Wd} {G G' : Hp} {σ : St} (x : Ex G G') {o : Opd} {v : V} (h : OpdV W G σ o v) : OpdV W G' σ o v := by
  cases o with
  | d y => exact Rep.mono x _ _ h
  | pk i => exact h
theorem opds_ok {W : Wd} {G H : Hp} {σ : St} {env : Env} (s : StOk W G H σ env) : ∀ {os : List Opd} {vs : List V} {ds : List D}, OpdsV W G σ os vs → opds env os = some ds → RepSs W G H ds vs
  | [], _, ds, h, e => by
    simp only [OpdsV] at h
    simp only [opds, Option.some.injEq] at e
    subst e h
    simp only [RepSs]
  | o :: os, _, ds, h, e => by
    simp only [OpdsV] at h
    obtain ⟨v, r, rfl, h1, h2⟩ := h
    simp only [opds] at e
    cases q1 : opd env o with
    | none => rw [q1] at e; simp at e
    | some x =>
      cases q2 : opds env os with
      | none => rw [q1, q2] at e; simp at e
      | some xs =>
        rw [q1, q2] at e
        simp only [Option.some.injEq] at e
        subst e
        simp only [RepSs]
        refine ⟨v, r, rfl, ?_, opds_ok s h2 q2⟩
        cases o with
        | d y => simp only [opd, Option.some.injEq] at q1; subst q1; exact .inl h1
        | pk i =>
          simp only [opd] at q1
          have h1 : σ[i]? = some (some v) := h1
          have z := s.sl i
          cases q : slot env i with
          | un => rw [q] at q1; simp [Slot.d?] at q1
          | val d =>
            rw [q] at q1 z
            simp only [Slot.d?, Option.some.injEq] at q1
            subst q1
            obtain ⟨v', e1, e2⟩ := z
            rw [h1] at e1
            cases e1
            exact .inl e2
          | own d =>
            rw [q] at q1 z
            simp only [Slot.d?, Option.some.injEq] at q1
            subst q1
            obtain ⟨a, e1, e2, e3⟩ := z
            rw [h1] at e1
            cases e1
            exact .inr ⟨a, rfl, e3⟩
          | par d =>
            rw [q] at q1 z
            simp only [Slot.d?, Option.some.injEq] at q1
            subst q1
            obtain ⟨a, e1, e2, e3⟩ := z
            rw [h1] at e1
            cases e1
            exact .inr ⟨a, rfl, e3⟩
end Itp
set_option Elab.async false
set_option linter.all false
set_option maxRecDepth 100000
set_option maxHeartbeats 4000000
namespace Itp
open PySem L2
section
variable {X : Cx} {W : Wd} {C : Cfg} {T : Tab} {Wx : WX}
theorem plainIx_of {b : Expr} (h : notSlice b = true) : PlainIx b := fun o i => by
  cases b <;> first | rfl | simp [notSlice] at h
theorem noset_marks {op : CmpOp} {b : Expr} (h : notSet b = true) : behindInMarks op b = false := by
  cases b <;> first | rfl | simp [notSet] at h
theorem isBlt_eq {sc : Scope} {n x : Str} (h : isBlt sc n x = true) : x = n ∧ glB sc x = true := by
  unfold isBlt at h
  rw [Bool.and_eq_true, decide_eq_true_eq] at h
  exact h
theorem blt_ne {x : Str} (h : x ∈ bltNames) : x ≠ "__name__" ∧ (x == ("__debug__" : Str)) = false := by
  simp only [bltNames, List.mem_cons, List.not_mem_nil, or_false] at h
  rcases h with h | h | h | h | h | h | h | h | h | h | h | h | h | h | h | h | h <;> (subst h; exact ⟨by decide, by decide⟩)
/-- a call of a built-in by its name -/
theorem we_blt (cx : CxOk X W C T Wx) {n x : Str} {id : String} {r : List V → Hp → VK → Prop} {p pos : Pos} {a : Expr} {as : List Expr} {σ : St} {H : Hp} {Q : VK} (hc : CallR X (.builtin id) r) (hv : bootBuiltins n = some (.builtin id)) (hn : n ∈ bltNames)
    (hx : isBlt X.env.scope n x = true) (hs : (a :: as).all notStar = true) (h : WQ X (a :: as) σ H fun vs H1 => r vs H1 Q) : WE X (.Call (.Name x p) (a :: as) [] pos) σ H Q := by
  obtain ⟨rfl, hg⟩ := isBlt_eq hx
  have hs' := hs
  simp only [List.all_cons, Bool.and_eq_true] at hs
  exact of_pe (pe_callB hc (glB_gl hg) (cx.blt _ hn) hv (paU hs') (blt_ne hn).1 (blt_ne hn).2 (star_each hs.1) (star_any pos as hs.2).1) h
theorem we_bty (cx : CxOk X W C T Wx) {n x : Str} {id : String} {r : List V → Hp → VK → Prop} {p pos : Pos} {a : Expr} {as : List Expr} {σ : St} {H : Hp} {Q : VK} (hc : CallR X (.type id) r) (hv : bootBuiltins n = some (.type id)) (hn : n ∈ bltNames)
    (hx : isBlt X.env.scope n x = true) (hs : (a :: as).all notStar = true) (h : WQ X (a :: as) σ H fun vs H1 => r vs H1 Q) : WE X (.Call (.Name x p) (a :: as) [] pos) σ H Q := by
  obtain ⟨rfl, hg⟩ := isBlt_eq hx
  have hs' := hs
  simp only [List.all_cons, Bool.and_eq_true] at hs
  exact of_pe (pe_callTy hc (glB_gl hg) (cx.blt _ hn) hv (paU hs') (blt_ne hn).1 (blt_ne hn).2 (star_each hs.1) (star_any pos as hs.2).1) h
theorem boot_tyS (t : Ty) : bootBuiltins (tyS t) = some (.type (tyN t)) := by cases t <;> decide +kernel
theorem tyS_mem (t : Ty) : tyS t ∈ bltNames := by cases t <;> decide
theorem we_ty (cx : CxOk X W C T Wx) {t : Ty} {x : Str} {p : Pos} {σ : St} {H : Hp} {Q : VK} (e : x = tyS t) (hg : glB X.env.scope x = true) (h : Q (.ty (tyN t)) H) : WE X (.Name x p) σ H Q := by
  subst e
  exact of_pe (pe_bltn (v := .ty (tyN t)) (glB_gl hg) (cx.blt _ (tyS_mem t)) (boot_tyS t) rfl (blt_ne (tyS_mem t)).1 (blt_ne (tyS_mem t)).2) h
theorem tyNames_ok (cx : CxOk X W C T Wx) : ∀ (ts : List Ty) (es : List Expr) (xs : List Str), tyNames es = some xs → xs = ts.map tyS → xs.all (glB X.env.scope) = true → ∀ {σ : St} {H : Hp} {R : List V → Hp → Prop}, R (ts.map fun t => V.ty (tyN t)) H →
    WQ X es σ H R ∧ es.all notStar = true
  | ts, [], xs, h, e, g, σ, H, R, q => by
    simp only [tyNames, Option.some.injEq] at h
    subst h
    cases ts with
    | nil => exact ⟨q, rfl⟩
    | cons t ts => simp at e
  | ts, e0 :: es, xs, h, e, g, σ, H, R, q => by
    cases e0 <;> simp only [tyNames, reduceCtorEq] at h
    rename_i x p
    simp only [Option.map_eq_some_iff] at h
    obtain ⟨ys, h1, rfl⟩ := h
    cases ts with
    | nil => simp at e
    | cons t ts =>
      simp only [List.map_cons, List.cons.injEq] at e
      simp only [List.all_cons, Bool.and_eq_true] at g
      have ih := fun (H : Hp) (R : List V → Hp → Prop) (q : R (ts.map fun t => V.ty (tyN t)) H) => tyNames_ok cx ts es ys h1 e.2 g.2 (σ := σ) (H := H) (R := R) q
      refine ⟨we_ty cx e.1 g.1 (ih H (fun vs H2 => R (.ty (tyN t) :: vs) H2) q).1, ?_⟩
      simp only [List.all_cons, Bool.and_eq_true]
      exact ⟨rfl, (ih H (fun _ _ => True) True.intro).2⟩
theorem tyNames_len : ∀ (es : List Expr) (xs : List Str), tyNames es = some xs → es.length = xs.length
  | [], xs, h => by simp [tyNames] at h; subst h; rfl
  | e0 :: es, xs, h => by
    cases e0 <;> simp only [tyNames, reduceCtorEq] at h
    simp only [Option.map_eq_some_iff] at h
    obtain ⟨ys, h1, rfl⟩ := h
    simp [tyNames_len es ys h1]
theorem star2 {a b : Expr} (h1 : notStar a = true) (h2 : notStar b = true) : [a, b].all notStar = true := by
  rw [List.all_cons, List.all_cons, h1, h2]
  rfl
theorem we_isi (cx : CxOk X W C T Wx) {ts : List Ty} {x : Str} {p pos : Pos} {a b : Expr} {σ : St} {H : Hp} {Q : VK} (hx : isBlt X.env.scope "isinstance" x = true) (ha : notStar a = true) (hb : isiB X.env.scope ts b = true) (hts : ts.length ≤ big)
    (h : WE X a σ H fun v H1 => PRn W (.isi ts) [v] H1 Q) : WE X (.Call (.Name x p) [a, b] [] pos) σ H Q := by
  cases b with
  | Name y q =>
    simp only [isiB] at hb
    split at hb
    · rename_i t
      obtain ⟨e, hg⟩ := isBlt_eq hb
      refine we_blt cx (cr_isi (W := W) (t := t)) PyProof.Rows.boot_isinstance (by decide) hx (star2 ha rfl) ?_
      intro pins s I
      refine thn (h pins s I) fun v s1 ⟨x1, H1, I1, r1, q1⟩ => ⟨x1, H1, I1, r1, ?_⟩
      exact we_ty cx e hg ⟨x1, rfl, q1⟩
    · cases hb
  | Tuple es k q =>
    simp only [isiB] at hb
    split at hb
    · rename_i xs hxs
      rw [Bool.and_eq_true, decide_eq_true_eq] at hb
      refine we_blt cx (cr_isiT (W := W) (ts := ts)) PyProof.Rows.boot_isinstance (by decide) hx (star2 ha rfl) ?_
      intro pins s I
      refine thn (h pins s I) fun v s1 ⟨x1, H1, I1, r1, q1⟩ => ⟨x1, H1, I1, r1, ?_⟩
      have hq := fun (R : List V → Hp → Prop) (q : R (ts.map fun t => V.ty (tyN t)) H1) => tyNames_ok cx ts es xs hxs hb.1 hb.2 (σ := σ) (H := H1) (R := R) q
      refine of_pe (pe_tup (paU (hq (fun _ _ => True) True.intro).2)) ?_
      refine (hq _ ?_).1
      refine ⟨?_, fun p hp => ⟨x1, p, rfl, upd_same, q1.step (Ex.new hp)⟩⟩
      rw [List.length_map]
      exact big_line hts
    · cases hb
  | _ => simp [isiB] at hb
theorem boot_sum' : bootBuiltins "sum" = some (.builtin "sum") := by decide +kernel
theorem boot_abs' : bootBuiltins "abs" = some (.builtin "abs") := by decide +kernel
theorem boot_all' : bootBuiltins "all" = some (.builtin "all") := by decide +kernel
theorem boot_any' : bootBuiltins "any" = some (.builtin "any") := by decide +kernel
theorem boot_min' : bootBuiltins "min" = some (.builtin "min") := by decide +kernel
theorem boot_max' : bootBuiltins "max" = some (.builtin "max") := by decide +kernel
theorem boot_len' : bootBuiltins "len" = some (.builtin "len") := by decide +kernel
theorem boot_str' : bootBuiltins "str" = some (.type "str") := by decide +kernel
theorem boot_int' : bootBuiltins "int" = some (.type "int") := by decide +kernel
theorem boot_list' : bootBuiltins "list" = some (.type "list") := by decide +kernel
theorem boot_tuple' : bootBuiltins "tuple" = some (.type "tuple") := by decide +kernel
/-- the methods of texts -/
theorem few1 {b : Expr} {cp : Pos} {env : PySem.Env} (hb : notStar b = true) : ((backTo cp (starEach [b] env)).all (fun x => !x.1) && (backToKw cp (keywordEach [] env)).all (fun x => x.1.isSome)
      && decide (([b] : List Expr).length + ([] : List Keyword).length + (if ([] : List Keyword).isEmpty then 0 else 1) < 30)) = true := by
  rw [(star_any cp [b] (by simp only [List.all_cons, hb]; rfl)).2]
  rfl
theorem base_of {a : Expr} {m : Str} {env : PySem.Env} (h : notSuper a = true) : attributeBase a m env (eval a env) = eval a env := by
  cases a <;> first | rfl | simp [notSuper] at h
theorem rsn_str {G H : Hp} {d : D} {v : V} {s : List Nat} (e : d = .str s) (h : RepS W G H d v) : v = .str ⟨s.toArray⟩ := by subst e; exact rs_str h
theorem fewN {es : List Expr} {cp : Pos} {env : PySem.Env} (hb : es.all notStar = true) (hl : es.length < 20) : ((backTo cp (starEach es env)).all (fun x => !x.1) && (backToKw cp (keywordEach [] env)).all (fun x => x.1.isSome)
      && decide (es.length + ([] : List Keyword).length + (if ([] : List Keyword).isEmpty then 0 else 1) < 30)) = true := by
  rw [(star_any cp es hb).2]
  have : decide (es.length + ([] : List Keyword).length + (if ([] : List Keyword).isEmpty then 0 else 1) < 30) = true := by
    rw [decide_eq_true_eq]
    show es.length + 0 + 0 < 30
    omega
  rw [this]
  rfl
/-- what must be known of the thing ahead of the dot -/
def Sees (X : Cx) (name : Str) (r : V → List V → Hp → VK → Prop) (x : V) (H : Hp) : Prop :=
  ∃ T id, PlainAttrs T ∧ PySem.Slot T name id ∧ typeOf (.builtin id) = pure (.type "method_descriptor") ∧ MtR X id r ∧
    ∀ pins σ s v, L2.Inv X pins σ H s → RelV x v → s.TypeIs v T ∧ ∀ a, v = .ref a → ∃ ob, s.heap.get? a = some ob ∧ ob.dict = none
theorem we_meth {r : V → List V → Hp → VK → Prop} {o e : Expr} {es : List Expr} {name : Str} {ap cp : Pos} {σ : St} {H : Hp} {Q : VK} (base : notSuper o = true) (stars : (e :: es).all notStar = true) (few : (e :: es).length < 20) (line : (ap.endLine == cp.line) = true)
    (h : WE X o σ H fun x H1 => Sees X name r x H1 ∧ WQ X (e :: es) σ H1 fun vs H2 => r x vs H2 Q) : WE X (.Call (.Attribute o name ap) (e :: es) [] cp) σ H Q := by
  intro pins s I
  refine wpAny_Call_method_late (base_of base) (fewN stars few) line rfl (thn (h pins s I) fun v s1 ⟨x, H1, I1, r1, sees, q1⟩ => ?_)
  obtain ⟨T, id, pa, slot, ty, mt, see⟩ := sees
  obtain ⟨t1, t2⟩ := see pins σ s1 v I1 r1
  refine ⟨T, id, pa, slot, ty, t1, t2, ?_⟩
  have args := (paU (X := X) stars).run cp pins s1 σ H1 _ I1 q1
  have s1 : notStar e = true ∧ es.all notStar = true := by simpa only [List.all_cons, Bool.and_eq_true] using stars
  rw [star_each s1.1] at args ⊢
  refine Calls.callWith_builtin ?_ (Calls.evalArgs_plain (thn args fun us s2 ⟨vs, H2, I2, r2, q2⟩ => mt pins s2 σ H2 x vs v us Q I2 r1 r2 q2))
  show (false || (backTo cp (starEach es X.env)).any (·.1)) = false
  rw [(star_any cp es s1.2).1]
  rfl
theorem sees_str {name : Str} {id : String} {r : V → List V → Hp → VK → Prop} {z : Str} {H : Hp} (slot : PySem.Slot "str" name id) (ty : typeOf (.builtin id) = pure (.type "method_descriptor")) (mt : MtR X id r) : Sees X name r (.str z) H :=
  ⟨"str", id, PySem.F.plainAttrs_str, slot, ty, mt, fun pins σ s v I q => by
    obtain ⟨t, rfl⟩ := q
    exact ⟨typeIs_str s z t, fun _ e => nomatch e⟩⟩
theorem sees_lst {name : Str} {id : String} {r : V → List V → Hp → VK → Prop} {a : Addr} {vs : List V} {H : Hp} (h : H a = some (.lst vs)) (slot : PySem.Slot "list" name id) (ty : typeOf (.builtin id) = pure (.type "method_descriptor")) (mt : MtR X id r) : Sees X name r (.ref a) H :=
  ⟨"list", id, PySem.F.plainAttrs_list, slot, ty, mt, fun pins σ s v I q => tyV_is I q (.inl ⟨rfl, vs, .inl (.inl h)⟩)⟩
theorem sees_ftp {name : Str} {id : String} {r : V → List V → Hp → VK → Prop} {a : Addr} {o : Obj} {vs : List V} {H : Hp} (h : H a = some (.frz o (.tup vs))) (ho : o.dict = none) (slot : PySem.Slot "tuple" name id) (ty : typeOf (.builtin id) = pure (.type "method_descriptor")) (mt : MtR X id r) : Sees X name r (.ref a) H :=
  ⟨"tuple", id, PySem.F.plainAttrs_tuple, slot, ty, mt, fun pins σ s v I q => by
    obtain rfl : v = Value.ref a := q
    have ok : ObjOk X.prog X.w H s.heap a (.frz o (.tup vs)) := I.hok a _ h
    obtain ⟨e, ok2⟩ := ok
    have ok3 : ObjOk X.prog X.w H s.heap a (.tup vs) := ok2
    obtain ⟨_, _, _, o2, e2, c2, _⟩ := ok3
    rw [e] at e2
    cases e2
    exact ⟨⟨o, e, c2⟩, fun b hb => by cases hb; exact ⟨o, e, ho⟩⟩⟩
theorem bin_r (hK : X.K = W.K) {o : Op} {op : Operator} (h : binOf o = some op) : OpR X (binaryOp op) (PR2 W o) := by
  cases o <;> simp only [binOf, reduceCtorEq, Option.some.injEq] at h <;> subst h
  · exact or_add hK
  · exact or_sub
  · exact or_mul hK
  · exact or_fdiv
  · exact or_mod
  · exact or_pow
theorem cmp_r (cx : CxOk X W C T Wx) {o : Op} {op : CmpOp} (h : cmpOf2 o = some op) : OpR X (compareOp op) (PR2 W o) := by
  have u64 : X.A.units + 64 < cLine := by have := cx.units; omega
  have u65 : X.A.units + 65 < cLine := by have := cx.units; omega
  cases o <;> simp only [cmpOf2, cmpOf, reduceCtorEq, Option.some.injEq] at h <;> subst h
  · exact or_eq cx.K u64
  · exact or_ne cx.K u64
  · exact or_lt
  · exact or_le
  · exact or_gt
  · exact or_ge
  · exact or_inn cx.K u65
  · exact or_nin cx.K u65
theorem is_r {o : Op} {op : CmpOp} (h : isOf o = some op) : OpR X (compareOp op) (fun x y H Q => y = .non ∧ PR1 W o x H Q) := by
  cases o <;> simp only [isOf, reduceCtorEq, Option.some.injEq] at h <;> subst h
  · exact or_isN
  · exact or_notN
theorem cmpOf_2 {o : Op} {op : CmpOp} (h : cmpOf o = some op) : cmpOf2 o = some op := by
  cases o <;> simp only [cmpOf, reduceCtorEq] at h <;> exact h
theorem pr_tup {vs : List V} {H : Hp} {Q : VK} (h : PRn W .tup vs H Q) (hf : ∀ G H ds, RepSs W G H ds vs → Reps W G ds vs) : vs.length ≤ sizeLine ∧ ∀ p, H p = none → Q (.ref p) (upd H p (.tup vs)) := by
  obtain ⟨G, ds, r, gh, hs, hp, po⟩ := h
  simp only [prim, pTup] at hp
  obtain ⟨c, rfl⟩ := small_some hp
  rw [decide_eq_true_eq] at c
  exact ⟨big_line (by rw [rss_len hs]; exact c), fun p hp => post_t po gh hp (hf _ _ _ hs)⟩
theorem pr_lst {vs : List V} {H : Hp} {Q : VK} (h : PRn W .lst vs H Q) (hf : ∀ G H ds, RepSs W G H ds vs → Reps W G ds vs) : vs.length ≤ sizeLine ∧ ∀ p, H p = none → Q (.ref p) (upd H p (.lst vs)) := by
  obtain ⟨G, ds, r, gh, hs, hp, po⟩ := h
  simp only [prim, pLst] at hp
  obtain ⟨c, rfl⟩ := small_some hp
  rw [decide_eq_true_eq] at c
  exact ⟨big_line (by rw [rss_len hs]; exact c), fun p hp => post_l po gh hp (hf _ _ _ hs)⟩
end
end Itp
set_option Elab.async false
set_option linter.all false
set_option maxRecDepth 100000
set_option maxHeartbeats 4000000
namespace Itp
open PySem L2
section
variable {X : Cx} {W : Wd} {C : Cfg} {T : Tab} {Wx : WX}
theorem isNone_eq {b : Expr} (h : isNone b = true) : ∃ k p, b = .Constant .none k p := by
  unfold isNone at h
  split at h
  · exact ⟨_, _, rfl⟩
  · cases h
theorem we_thn {e : Expr} {σ : St} {H : Hp} {Q Q' : VK} (h : WE X e σ H Q) (f : ∀ v H1, Q v H1 → Q' v H1) : WE X e σ H Q' :=
  fun pins s I => thn (h pins s I) fun _ _ ⟨x1, H1, I1, r1, q1⟩ => ⟨x1, H1, I1, r1, f _ _ q1⟩
theorem wq_thn : ∀ {es : List Expr} {σ : St} {H : Hp} {Q Q' : List V → Hp → Prop}, WQ X es σ H Q → (∀ v H1, Q v H1 → Q' v H1) → WQ X es σ H Q'
  | [], _, _, _, _, h, f => f _ _ h
  | e :: es, _, _, _, _, h, f => we_thn h fun v H1 q => wq_thn q fun vs H2 => f _ _
/-- operands in a row, those that are data being seen -/
def WQM (X : Cx) (W : Wd) : List Expr → List (Option D) → TA
  | [], [] => fun _ H R => R [] H
  | e :: es, some d :: ps => fun σ H R => WE X e σ H fun v H1 => (∃ G, Ex G H1 ∧ Rep W G d v) ∧ WQM X W es ps σ H1 fun vs H2 => R (v :: vs) H2
  | e :: es, none :: ps => fun σ H R => WE X e σ H fun v H1 => WQM X W es ps σ H1 fun vs H2 => R (v :: vs) H2
  | _, _ => fun _ _ _ => False
def RepO (W : Wd) (G : Hp) : List (Option D) → List V → Prop
  | [], vs => vs = []
  | some d :: ps, vs => ∃ v r, vs = v :: r ∧ Rep W G d v ∧ RepO W G ps r
  | none :: ps, vs => ∃ v r, vs = v :: r ∧ RepO W G ps r
/-- which operands are data -/
def odat : Opd → Option D
  | .d x => some x
  | .pk _ => none
/-- an operation at data that are known -/
def PRf (W : Wd) (o : Op) (ds : List D) (ps : List (Option D)) : List V → Hp → VK → Prop := fun xs H Q => ∃ G r, Ex G H ∧ RepSs W G H ds xs ∧ RepO W G ps xs ∧ prim o ds = some r ∧ Post W G H r Q
theorem PRf.n {o : Op} {ds : List D} {ps : List (Option D)} {xs : List V} {H : Hp} {Q : VK} (h : PRf W o ds ps xs H Q) : PRn W o xs H Q := by
  obtain ⟨G, r, h1, h2, _, h3, h4⟩ := h
  exact ⟨G, ds, r, h1, h2, h3, h4⟩
/-- what is known of the operands of an operation that looks at them in turn -/
structure Mid (o : Op) (ds : List D) (ps : List (Option D)) (r : Res) : Prop where
  pr : prim o ds = some r
  ln : ds.length = ps.length
  at_ : ∀ (i : Nat) (d : D), ps[i]? = some (some d) → ds[i]? = some d
  ok : ∃ os : List Opd, ps = os.map odat ∧ midBad o os = false
theorem wqm_wq : ∀ {es : List Expr} {ps : List (Option D)} {σ : St} {H : Hp} {R : List V → Hp → Prop}, WQM X W es ps σ H R → WQ X es σ H R
  | [], [], _, _, _, h => h
  | [], _ :: _, _, _, _, h => h.elim
  | _ :: _, [], _, _, _, h => h.elim
  | e :: es, some d :: ps, _, _, _, h => we_thn h fun v H1 q => wqm_wq q.2
  | e :: es, none :: ps, _, _, _, h => we_thn h fun v H1 q => wqm_wq q
theorem we_slc {a : Expr} {l h : Option Expr} {p q : Pos} {σ : St} {H : Hp} {Q : VK} (h1 : midOp (.slc l.isSome h.isSome) = false → WQ X (a :: (optL l ++ optL h)) σ H fun vs H1 => PRn W (.slc l.isSome h.isSome) vs H1 Q)
    (h2 : midOp (.slc l.isSome h.isSome) = true → ∃ ds ps r, ps.length = (a :: (optL l ++ optL h)).length ∧ Mid (.slc l.isSome h.isSome) ds ps r ∧ WQM X W (a :: (optL l ++ optL h)) ps σ H fun vs H1 => PRf W (.slc l.isSome h.isSome) ds ps vs H1 Q) : WE X (.Subscript a (.Slice l h none p) q) σ H Q := by
  have isI' : ∀ {o : Op} {x y : V} {H : Hp} {Q : VK}, (o = .slc true false ∨ o = .slc false true) → PRn W o [x, y] H Q → ∃ i, y = .int i := fun {o x y H Q} ho hp => by
    obtain ⟨G, ds, r, gh, hs, hp, _⟩ := hp
    obtain ⟨d, e, rfl, h1, h2⟩ := two hs
    rcases ho with rfl | rfl <;> cases d <;> cases e <;> simp only [prim, pSlc, reduceCtorEq] at hp <;> exact ⟨_, rs_int h2⟩
  cases l with
  | none =>
    cases h with
    | none => exact of_pe (pe_slice (sr_slc (W := W)) peU po_none po_none) (h1 rfl)
    | some h =>
      refine of_pe (pe_slice (sr_slc (W := W)) peU po_none (po_some peU)) ?_
      refine we_thn (h1 rfl) fun v H1 q => we_thn q fun u H2 q2 => ?_
      obtain ⟨i, rfl⟩ := isI' (.inr rfl) q2
      exact ⟨i, rfl, q2⟩
  | some l =>
    cases h with
    | none =>
      refine of_pe (pe_slice (sr_slc (W := W)) peU (po_some peU) po_none) ?_
      refine we_thn (h1 rfl) fun v H1 q => we_thn q fun u H2 q2 => ?_
      obtain ⟨i, rfl⟩ := isI' (.inl rfl) q2
      exact ⟨i, rfl, q2⟩
    | some h =>
      obtain ⟨ds, ps, r, hn, mi, h2⟩ := h2 rfl
      have hp := mi.pr
      obtain ⟨d, i, j, rfl⟩ : ∃ d i j, ds = [d, .int i, .int j] := by
        match ds, hp with
        | [], hp => simp [prim, pSlc] at hp
        | [_], hp => simp [prim, pSlc] at hp
        | [_, _], hp => simp [prim, pSlc] at hp
        | _ :: _ :: _ :: _ :: _, hp => simp [prim, pSlc] at hp
        | [d, e, f], hp => cases d <;> cases e <;> cases f <;> simp only [Option.isSome_some, prim, pSlc, reduceCtorEq] at hp <;> exact ⟨_, _, _, rfl⟩
      obtain ⟨p0, p2, rfl⟩ : ∃ p0 p2, ps = [p0, some (.int i), p2] := by
        obtain ⟨os, e1, e2⟩ := mi.ok
        match ps, hn with
        | [p0, p1, p2], _ =>
          match os, e1, e2 with
          | [o0, o1, o2], e1, e2 =>
            simp only [List.map_cons, List.map_nil, List.cons.injEq, and_true] at e1
            obtain ⟨rfl, rfl, rfl⟩ := e1
            cases o1 with
            | pk k => simp [midBad, isPk] at e2
            | d x =>
              have := mi.at_ 1 x rfl
              simp only [List.getElem?_cons_succ, List.getElem?_cons_zero, Option.some.injEq] at this
              subst this
              exact ⟨_, _, rfl⟩
      refine of_pe (pe_slice (sr_slc (W := W)) peU (po_some peU) (po_some peU)) ?_
      have fin : ∀ v u w H3, PRf W (.slc true true) [d, .int i, .int j] [p0, some (.int i), p2] [v, u, w] H3 Q → ∃ k, w = .int k ∧ PRn W (.slc true true) [v, u, w] H3 Q := fun v u w H3 q => by
        obtain ⟨G, r, _, hs, _⟩ := id q
        simp only [RepSs] at hs
        obtain ⟨v1, r1, e1, h1, v2, r2, rfl, h2, v3, r3, rfl, h3, rfl⟩ := hs
        cases e1
        exact ⟨j, rs_int h3, q.n⟩
      have last : ∀ v u H2, WQM X W [h] [p2] σ H2 (fun vs H3 => PRf W (.slc true true) [d, .int i, .int j] [p0, some (.int i), p2] (v :: u :: vs) H3 Q) → WE X h σ H2 fun w H3 => PRf W (.slc true true) [d, .int i, .int j] [p0, some (.int i), p2] [v, u, w] H3 Q := fun v u H2 q => by
        cases p2 with
        | some x => exact we_thn q fun w H3 q => q.2
        | none => exact q
      have mid : ∀ v H1, WQM X W [l, h] [some (.int i), p2] σ H1 (fun vs H3 => PRf W (.slc true true) [d, .int i, .int j] [p0, some (.int i), p2] (v :: vs) H3 Q) → WE X l σ H1 fun u H2 => ∃ k, u = .int k ∧ WE X h σ H2 fun w H3 => ∃ m, w = .int m ∧ PRn W (.slc true true) [v, u, w] H3 Q := fun v H1 q =>
        we_thn q fun u H2 ⟨⟨G, _, z1⟩, q3⟩ => by
          simp only [Rep] at z1
          exact ⟨i, z1, we_thn (last v u H2 q3) fun w H3 q4 => fin v u w H3 q4⟩
      have h2 : WE X a σ H fun v H1 => WQM X W [l, h] [some (.int i), p2] σ H1 (fun vs H3 => PRf W (.slc true true) [d, .int i, .int j] [p0, some (.int i), p2] (v :: vs) H3 Q) := by
        cases p0 with
        | some x => exact we_thn h2 fun w H3 q => q.2
        | none => exact h2
      refine we_thn h2 fun v H1 q => we_thn (mid v H1 q) fun u H2 ⟨k, e1, q2⟩ => ?_
      subst e1
      refine ⟨k, rfl, we_thn q2 fun w H3 ⟨m, e2, q3⟩ => ?_⟩
      subst e2
      exact ⟨m, rfl, q3⟩
/-- what an operation asks of its operands -/
def OpH (X : Cx) (W : Wd) (o : Op) (es : List Expr) (σ : St) (H : Hp) (Q : VK) : Prop :=
  (midOp o = false → WQ X es σ H fun vs H1 => PRn W o vs H1 Q) ∧ (midOp o = true → ∃ ds ps r, ps.length = es.length ∧ Mid o ds ps r ∧ WQM X W es ps σ H fun vs H1 => PRf W o ds ps vs H1 Q)
theorem OpH.wq {o : Op} {es : List Expr} {σ : St} {H : Hp} {Q : VK} (h : OpH X W o es σ H Q) : WQ X es σ H fun vs H1 => PRn W o vs H1 Q := by
  cases hm : midOp o with
  | false => exact h.1 hm
  | true =>
    obtain ⟨ds, ps, r, _, _, h2⟩ := h.2 hm
    exact wq_thn (wqm_wq h2) fun vs H1 q => q.n
theorem boot_sorted' : bootBuiltins "sorted" = some (.builtin "sorted") := by decide +kernel
theorem we_rng (cx : CxOk X W C T Wx) {o : Op} {n : Str} {e : Expr} {es : List Expr} {σ : St} {H : Hp} {Q : VK} (ho : rngOf o = some n) (hp : rngP X.env.scope n e = some es) (h : WQ X es σ H fun vs H1 => PRn W o vs H1 Q) : WE X e σ H Q := by
  have rg : ∀ (a b : Int), rgV a b = (rngD a (b - a).toNat).map fun d => match d with | .int i => V.int i | _ => .non := fun a b => by
    have key : ∀ (m : Nat) (a : Int), (List.range m).map (fun i : Nat => V.int (a + (i : Nat))) = (rngD a m).map fun d => match d with | .int i => V.int i | _ => .non := by
      intro m
      induction m with
      | zero => intro a; rfl
      | succ m ih =>
        intro a
        rw [List.range_succ_eq_map, List.map_cons, List.map_map, rngD, List.map_cons, ← ih (a + 1)]
        rw [List.cons.injEq]
        refine ⟨by simp, List.map_congr_left fun i _ => ?_⟩
        show V.int (a + ((i + 1 : Nat) : Int)) = V.int (a + 1 + (i : Nat))
        congr 1
        omega
    exact key _ _
  have rp : ∀ (G : Hp) (m : Nat) (a : Int), Reps W G (rngD a m) ((rngD a m).map fun d => match d with | .int i => V.int i | _ => .non) := by
    intro G m
    induction m with
    | zero => intro a; simp only [rngD, List.map_nil, Reps]
    | succ m ih =>
      intro a
      simp only [rngD, List.map_cons, Reps]
      exact ⟨_, _, rfl, by simp only [Rep], ih (a + 1)⟩
  have okR' : ∀ {a b : Int}, okR a b = true → RgOk a b := fun {a b} h => by
    unfold okR at h
    simp only [Bool.and_eq_true, decide_eq_true_eq, big] at h
    exact ⟨by omega, by omega, by omega, by omega, by omega⟩
  unfold rngP at hp
  split at hp
  · split at hp
    · cases hp
      rename_i x p1 y p2 a p3 p4 hb
      simp only [Bool.and_eq_true] at hb
      obtain ⟨rfl, hg⟩ := isBlt_eq hb.1.1
      obtain ⟨rfl, hg2⟩ := isBlt_eq hb.1.2
      have na := star_each (es := []) (env := X.env) hb.2
      have pr := prg_1 (p := p2) (pos := p3) (glB_gl hg2) (cx.blt _ (by decide)) (peU (X := X) (e := a)) na
      cases o <;> simp only [rngOf, reduceCtorEq, Option.some.injEq] at ho <;> subst ho
      · refine of_pe (pe_tupRg cx.calm (glB_gl hg) (cx.blt _ (by decide)) pr rfl) ?_
        refine we_thn h fun v H1 q => ?_
        obtain ⟨G, ds, r, gh, hs, hp, po⟩ := q
        obtain ⟨d, rfl, h1⟩ := one hs
        cases d <;> simp only [prim, pTrng, reduceCtorEq] at hp
        obtain ⟨c, rfl⟩ := small_some hp
        refine ⟨_, rs_int h1, okR' c, fun p hp => ?_⟩
        rw [rg]
        simp only [Int.sub_zero]
        exact post_t po gh hp (rp _ _ _)
      · refine of_pe (pe_listRg cx.calm (glB_gl hg) (cx.blt _ (by decide)) pr rfl) ?_
        refine we_thn h fun v H1 q => ?_
        obtain ⟨G, ds, r, gh, hs, hp, po⟩ := q
        obtain ⟨d, rfl, h1⟩ := one hs
        cases d <;> simp only [prim, pLrng, reduceCtorEq] at hp
        obtain ⟨c, rfl⟩ := small_some hp
        refine ⟨_, rs_int h1, okR' c, fun p hp => ?_⟩
        rw [rg]
        simp only [Int.sub_zero]
        exact post_l po gh hp (rp _ _ _)
    · cases hp
  · split at hp
    · cases hp
      rename_i x p1 y p2 a b p3 p4 hb
      simp only [Bool.and_eq_true] at hb
      obtain ⟨rfl, hg⟩ := isBlt_eq hb.1.1.1
      obtain ⟨rfl, hg2⟩ := isBlt_eq hb.1.1.2
      have na := star_each (es := [b]) (env := X.env) hb.1.2
      have nb := star_each (es := []) (env := X.env) hb.2
      have pr := prg_2 (p := p2) (pos := p3) (glB_gl hg2) (cx.blt _ (by decide)) (peU (X := X) (e := a)) (peU (X := X) (e := b)) na nb (star_any p3 [b] (by simp only [List.all_cons, hb.2]; rfl)).1
      cases o <;> simp only [rngOf, reduceCtorEq, Option.some.injEq] at ho <;> subst ho
      · refine of_pe (pe_tupRg cx.calm (glB_gl hg) (cx.blt _ (by decide)) pr rfl) ?_
        refine we_thn h fun v H1 q => we_thn q fun u H2 q => ?_
        obtain ⟨G, ds, r, gh, hs, hp, po⟩ := q
        obtain ⟨d, e, rfl, h1, h2⟩ := two hs
        cases d <;> cases e <;> simp only [prim, pTrng, reduceCtorEq] at hp
        obtain ⟨c, rfl⟩ := small_some hp
        refine ⟨_, _, rs_int h1, rs_int h2, okR' c, fun p hp => ?_⟩
        rw [rg]
        exact post_t po gh hp (rp _ _ _)
      · refine of_pe (pe_listRg cx.calm (glB_gl hg) (cx.blt _ (by decide)) pr rfl) ?_
        refine we_thn h fun v H1 q => we_thn q fun u H2 q => ?_
        obtain ⟨G, ds, r, gh, hs, hp, po⟩ := q
        obtain ⟨d, e, rfl, h1, h2⟩ := two hs
        cases d <;> cases e <;> simp only [prim, pLrng, reduceCtorEq] at hp
        obtain ⟨c, rfl⟩ := small_some hp
        refine ⟨_, _, rs_int h1, rs_int h2, okR' c, fun p hp => ?_⟩
        rw [rg]
        exact post_l po gh hp (rp _ _ _)
    · cases hp
  · cases hp
/-- methods -/
theorem mid_head {o : Op} {ds : List D} {ps : List (Option D)} {p : Option D} {r : Res} (mi : Mid o ds (p :: ps) r) (hm : mthd o = true) : ∃ d, p = some d ∧ ds[0]? = some d := by
  obtain ⟨os, e1, e2⟩ := mi.ok
  cases os with
  | nil => cases e1
  | cons a os =>
    simp only [List.map_cons, List.cons.injEq] at e1
    obtain ⟨rfl, rfl⟩ := e1
    have : isPk a = false := by
      cases o <;> simp only [mthd, Bool.false_eq_true] at hm <;> simp only [midBad, List.any_cons, Bool.or_eq_false_iff] at e2 <;> first | exact e2 | exact e2.1
    cases a with
    | pk k => simp [isPk] at this
    | d x => exact ⟨x, rfl, mi.at_ 0 x rfl⟩
theorem we_mth1 (cx : CxOk X W C T Wx) {o : Op} {n m : Str} {a b : Expr} {ap cp : Pos} {σ : St} {H : Hp} {Q : VK} (ho : mthOf o = some n) (hm : mthB m n ap cp = true) (hb : notStar b = true) (ha : notSuper a = true) (h : ∃ ds ps r, ps.length = 2 ∧ Mid o ds ps r ∧ WQM X W [a, b] ps σ H fun vs H1 => PRf W o ds ps vs H1 Q) :
    WE X (.Call (.Attribute a m ap) [b] [] cp) σ H Q := by
  unfold mthB at hm
  rw [Bool.and_eq_true, decide_eq_true_eq] at hm
  obtain ⟨rfl, hl⟩ := hm
  have hs : [b].all notStar = true := by simp only [List.all_cons, hb]; rfl
  obtain ⟨ds, ps, r, hn, mi, h⟩ := h
  have hmt : mthd o = true := by cases o <;> simp only [mthOf, reduceCtorEq] at ho <;> rfl
  obtain ⟨d, p, e, rfl, rfl⟩ : ∃ d p e, ps = [some d, p] ∧ ds = [d, e] := by
    have hl := mi.ln
    match ps, ds, hn, hl, mi with
    | [p0, p], [d0, e], _, _, mi =>
      obtain ⟨d, rfl, hd⟩ := mid_head mi hmt
      have hd : d0 = d := Option.some.inj hd
      subst hd
      exact ⟨_, p, e, rfl, rfl⟩
  replace h : WE X a σ H fun v H1 => (∃ G, Ex G H1 ∧ Rep W G d v) ∧ WE X b σ H1 fun u H2 => PRf W o [d, e] [some d, p] [v, u] H2 Q := by
    cases p with
    | some f => exact we_thn (h : WE X a σ H _) fun v H1 q => ⟨q.1, we_thn q.2 fun u H2 q2 => q2.2⟩
    | none => exact h
  have go : ∀ (R : V → List V → Hp → VK → Prop), (∀ v G H1, Ex G H1 → Rep W G d v → Sees X m R v H1) → (∀ v u H2, PRf W o [d, e] [some d, p] [v, u] H2 Q → R v [u] H2 Q) → WE X (.Call (.Attribute a m ap) [b] [] cp) σ H Q := fun R s1 s2 =>
    we_meth (r := R) ha hs (by show _ < 20; simp) hl (we_thn h fun v H1 ⟨⟨G, gh, hv⟩, q⟩ => ⟨s1 v G H1 gh hv, we_thn q fun u H2 q2 => s2 v u H2 q2⟩)
  have hp := mi.pr
  cases o <;> simp only [mthOf, reduceCtorEq, Option.some.injEq] at ho <;> subst ho
  · cases d <;> simp only [prim, pFind, reduceCtorEq] at hp
    refine go (fun x xs H Q => PRn W .find (x :: xs) H Q) (fun v G H1 gh hv => ?_) fun v u H2 q => q.n
    simp only [Rep] at hv
    subst hv
    exact sees_str PySem.F.slot_str_find PySem.F.type_str_find mr_find
  · cases d <;> simp only [prim, pCount, reduceCtorEq] at hp
    refine go (fun x xs H Q => PRn W .count (x :: xs) H Q) (fun v G H1 gh hv => ?_) fun v u H2 q => q.n
    simp only [Rep] at hv
    obtain ⟨p, vs, rfl, h1, _⟩ := hv
    exact sees_lst (gh _ _ h1) PySem.F.slot_list_count PySem.F.type_list_count mr_count
  · cases d <;> simp only [prim, pIndex, reduceCtorEq] at hp
    · refine go (fun x xs H Q => ∃ G ys e r, Ex G H ∧ RepSs W G H [.str ys, e] (x :: xs) ∧ prim .index [.str ys, e] = some r ∧ Post W G H r Q) (fun v G H1 gh hv => ?_) fun v u H2 ⟨G, r, q1, q2, _, q3, q4⟩ => ⟨G, _, e, r, q1, q2, q3, q4⟩
      simp only [Rep] at hv
      subst hv
      exact sees_str PySem.F.slot_str_index PySem.F.type_str_index mr_indexS
    · refine go (fun x xs H Q => ∃ G ys e r, Ex G H ∧ RepSs W G H [.lst ys, e] (x :: xs) ∧ prim .index [.lst ys, e] = some r ∧ Post W G H r Q) (fun v G H1 gh hv => ?_) fun v u H2 ⟨G, r, q1, q2, _, q3, q4⟩ => ⟨G, _, e, r, q1, q2, q3, q4⟩
      simp only [Rep] at hv
      obtain ⟨p, vs, rfl, h1, _⟩ := hv
      exact sees_lst (gh _ _ h1) PySem.F.slot_list_index PySem.F.type_list_index mr_indexL
    · refine go (fun x xs H Q => ∃ G ys e r, Ex G H ∧ RepSs W G H [.ftp ys, e] (x :: xs) ∧ prim .index [.ftp ys, e] = some r ∧ Post W G H r Q) (fun v G H1 gh hv => ?_) fun v u H2 ⟨G, r, q1, q2, _, q3, q4⟩ => ⟨G, _, e, r, q1, q2, q3, q4⟩
      simp only [Rep] at hv
      obtain ⟨p, o, vs, rfl, ho, h1, _⟩ := hv
      exact sees_ftp (gh _ _ h1) ho PySem.F.slot_tuple_index PySem.F.type_tuple_index mr_indexF
  · cases d <;> simp only [prim, pJoin, reduceCtorEq] at hp
    refine go (fun x xs H Q => PRn W .join (x :: xs) H Q) (fun v G H1 gh hv => ?_) fun v u H2 q => q.n
    simp only [Rep] at hv
    subst hv
    exact sees_str PySem.F.slot_str_join PySem.F.type_str_join mr_join
  · cases d <;> simp only [prim, pSplit, reduceCtorEq] at hp
    refine go (fun x xs H Q => PRn W .split (x :: xs) H Q) (fun v G H1 gh hv => ?_) fun v u H2 q => q.n
    simp only [Rep] at hv
    subst hv
    exact sees_str PySem.F.slot_str_split PySem.F.type_str_split mr_split
theorem we_mth2 (cx : CxOk X W C T Wx) {o : Op} {n m : Str} {a b c : Expr} {ap cp : Pos} {σ : St} {H : Hp} {Q : VK} (ho : mthOf2 o = some n) (hm : mthB m n ap cp = true) (hb : notStar b = true) (hc : notStar c = true) (ha : notSuper a = true) (h : ∃ ds ps r, ps.length = 3 ∧ Mid o ds ps r ∧ WQM X W [a, b, c] ps σ H fun vs H1 => PRf W o ds ps vs H1 Q) :
    WE X (.Call (.Attribute a m ap) [b, c] [] cp) σ H Q := by
  unfold mthB at hm
  rw [Bool.and_eq_true, decide_eq_true_eq] at hm
  obtain ⟨rfl, hl⟩ := hm
  have hs := star2 hb hc
  obtain ⟨ds, ps, r, hn, mi, h⟩ := h
  have hmt : mthd o = true := by cases o <;> simp only [mthOf2, reduceCtorEq] at ho <;> rfl
  obtain ⟨d, p, q, e, f, rfl, rfl⟩ : ∃ d p q e f, ps = [some d, p, q] ∧ ds = [d, e, f] := by
    have hl := mi.ln
    match ps, ds, hn, hl, mi with
    | [p0, p, q], [d0, e, f], _, _, mi =>
      obtain ⟨d, rfl, hd⟩ := mid_head mi hmt
      have hd : d0 = d := Option.some.inj hd
      subst hd
      exact ⟨_, p, q, e, f, rfl, rfl⟩
  have l2 : ∀ v u H2, WQM X W [c] [q] σ H2 (fun vs H3 => PRf W o [d, e, f] [some d, p, q] (v :: u :: vs) H3 Q) → WE X c σ H2 fun w H3 => PRf W o [d, e, f] [some d, p, q] [v, u, w] H3 Q := fun v u H2 z => by
    cases q with
    | some x => exact we_thn z fun w H3 z => z.2
    | none => exact z
  have l1 : ∀ v H1, WQM X W [b, c] [p, q] σ H1 (fun vs H3 => PRf W o [d, e, f] [some d, p, q] (v :: vs) H3 Q) → WE X b σ H1 fun u H2 => WE X c σ H2 fun w H3 => PRf W o [d, e, f] [some d, p, q] [v, u, w] H3 Q := fun v H1 z => by
    cases p with
    | some x => exact we_thn z fun w H3 z => l2 v w H3 z.2
    | none => exact we_thn z fun w H3 z => l2 v w H3 z
  replace h : WE X a σ H fun v H1 => (∃ G, Ex G H1 ∧ Rep W G d v) ∧ WE X b σ H1 fun u H2 => WE X c σ H2 fun w H3 => PRf W o [d, e, f] [some d, p, q] [v, u, w] H3 Q := we_thn (h : WE X a σ H _) fun v H1 z => ⟨z.1, l1 v H1 z.2⟩
  have hp := mi.pr
  cases o <;> simp only [mthOf2, reduceCtorEq, Option.some.injEq] at ho <;> subst ho
  · refine we_meth (r := fun x xs H Q => PRn W .find (x :: xs) H Q) ha hs (by show _ < 20; simp) hl (we_thn h fun v H1 ⟨⟨G, gh, hv⟩, q⟩ => ⟨?_, we_thn q fun u H2 q2 => we_thn q2 fun w H3 q3 => q3.n⟩)
    cases d <;> simp only [prim, pFind, reduceCtorEq] at hp
    simp only [Rep] at hv
    subst hv
    exact sees_str PySem.F.slot_str_find PySem.F.type_str_find mr_find
  · cases d <;> simp only [prim, pGet, reduceCtorEq] at hp
    rename_i t kvs
    obtain ⟨ck, rfl⟩ := small_some hp
    obtain ⟨rfl, rfl⟩ : p = some e ∧ q = some f := by
      obtain ⟨os, e1, e2⟩ := mi.ok
      have hn : os.length = 3 := by have := congrArg List.length e1; simpa using this.symm
      match os, hn, e1, e2 with
      | [o0, o1, o2], _, e1, e2 =>
        simp only [List.map_cons, List.map_nil, List.cons.injEq, and_true] at e1
        obtain ⟨_, rfl, rfl⟩ := e1
        simp only [midBad, List.any_cons, List.any_nil, Bool.or_false, Bool.or_eq_false_iff] at e2
        cases o1 with
        | pk k => simp [isPk] at e2
        | d x =>
          cases o2 with
          | pk k => simp [isPk] at e2
          | d y =>
            have h1 := mi.at_ 1 x rfl
            have h2 := mi.at_ 2 y rfl
            simp only [List.getElem?_cons_succ, List.getElem?_cons_zero, Option.some.injEq] at h1 h2
            exact ⟨by rw [h1]; rfl, by rw [h2]; rfl⟩
    have m2 : M2 X a "get" ap b c cp := ⟨base_of ha, fewN hs (by show _ < 20; simp), hl, by rw [star_each hb, star_each hc]; rfl⟩
    refine of_pe (pe_dget2 (by have := cx.units; omega) peU peU peU m2) ?_
    refine we_thn h fun v H1 ⟨⟨G, gh, hv⟩, q⟩ => ?_
    obtain ⟨p, u, l, rfl, h1, h2, _⟩ := rs_dct gh (.inl hv)
    refine ⟨p, rfl, ?_, we_thn q fun u H2 q2 => we_thn q2 fun w H3 q3 => ?_⟩
    · cases t with
      | false => obtain ⟨m, rfl, _⟩ := h2; exact .inl ⟨m, h1⟩
      | true => obtain ⟨m, rfl, _⟩ := h2; exact .inr ⟨m, h1⟩
    · obtain ⟨G3, r3, g3, _, rs3, hp3, po⟩ := q3
      simp only [RepO] at rs3
      obtain ⟨v1, r1, e1, k1, v2, r2, rfl, k2, v4, r4, rfl, k3, rfl⟩ := rs3
      cases e1
      rw [show prim .get [.dct t kvs, e, f] = small (keyOk t e) (.val ((dget kvs e).getD f)) from rfl] at hp3
      obtain ⟨_, rfl⟩ := small_some hp3
      obtain ⟨p', o, e2, g, h3, h4⟩ := dGet_ok g3 (.inl k1) (.inl k2) ck
      cases e2
      refine ⟨o, g, ?_⟩
      cases qd : dget kvs e with
      | none =>
        rw [h4 qd]
        rw [qd] at po
        exact post_v po g3 k3
      | some x =>
        obtain ⟨vv, rfl, rv⟩ := h3 x qd
        rw [qd] at po
        exact post_v po g3 rv
/-- sorted(set(..)) -/
theorem ssP_eq {sc : Scope} {o : Op} {x : Str} {a : Expr} {as es : List Expr} (h : ssP sc o x a as = some es) : ∃ y q b pos2, o = .sset ∧ a = .Call (.Name y q) [b] [] pos2 ∧ as = [] ∧ es = [b] ∧ isBlt sc "sorted" x = true ∧ isBlt sc "set" y = true ∧ notStar b = true := by
  unfold ssP at h
  split at h
  · split at h
    · cases h
      rename_i hb
      simp only [Bool.and_eq_true, decide_eq_true_eq] at hb
      exact ⟨_, _, _, _, hb.1.1.1, rfl, rfl, rfl, hb.1.1.2, hb.1.2, hb.2⟩
    · cases h
  · cases h
theorem insD_mem {k j : Int} : ∀ {l : List Int}, j ∈ insD k l ↔ j = k ∨ j ∈ l
  | [] => by simp [insD]
  | x :: l => by
    rw [insD]
    split
    · simp
    · split
      · rename_i h
        subst h
        simp
      · rw [List.mem_cons, insD_mem, List.mem_cons]
        constructor
        · rintro (h | h | h)
          · exact .inr (.inl h)
          · exact .inl h
          · exact .inr (.inr h)
        · rintro (h | h | h)
          · exact .inr (.inl h)
          · exact .inl h
          · exact .inr (.inr h)
theorem insD_up {k : Int} : ∀ {l : List Int}, l.Pairwise (· < ·) → (insD k l).Pairwise (· < ·)
  | [], _ => by simp [insD]
  | x :: l, h => by
    obtain ⟨h1, h2⟩ := List.pairwise_cons.mp h
    rw [insD]
    split
    · rename_i hk
      refine List.pairwise_cons.mpr ⟨fun y hy => ?_, h⟩
      rcases List.mem_cons.mp hy with rfl | hy
      · exact hk
      · have := h1 y hy; omega
    · split
      · exact h
      · rename_i n1 n2
        refine List.pairwise_cons.mpr ⟨fun y hy => ?_, insD_up h2⟩
        rcases insD_mem.mp hy with rfl | hy
        · omega
        · exact h1 y hy
theorem sdL_mem {j : Int} : ∀ {l : List Int}, j ∈ sdL l ↔ j ∈ l
  | [] => Iff.rfl
  | x :: l => by
    show j ∈ insD x (sdL l) ↔ _
    rw [insD_mem, sdL_mem, List.mem_cons]
theorem sdL_up : ∀ {l : List Int}, (sdL l).Pairwise (· < ·)
  | [] => List.Pairwise.nil
  | x :: l => insD_up sdL_up
theorem up_eq : ∀ {l m : List Int}, l.Pairwise (· < ·) → m.Pairwise (· < ·) → (∀ k, k ∈ l ↔ k ∈ m) → l = m
  | [], [], _, _, _ => rfl
  | [], y :: m, _, _, h => by have := (h y).mpr (by simp); cases this
  | x :: l, [], _, _, h => by have := (h x).mp (by simp); cases this
  | x :: l, y :: m, h1, h2, h => by
    obtain ⟨a1, a2⟩ := List.pairwise_cons.mp h1
    obtain ⟨b1, b2⟩ := List.pairwise_cons.mp h2
    have e : x = y := by
      rcases List.mem_cons.mp ((h x).mp (by simp)) with e | e
      · exact e
      · rcases List.mem_cons.mp ((h y).mpr (by simp)) with e' | e'
        · exact e'.symm
        · have := a1 y e'; have := b1 x e; omega
    subst e
    rw [up_eq a2 b2 fun k => ?_]
    have hk := h k
    rw [List.mem_cons, List.mem_cons] at hk
    constructor
    · intro z
      rcases hk.mp (.inr z) with e | e
      · subst e; have := a1 k z; omega
      · exact e
    · intro z
      rcases hk.mpr (.inr z) with e | e
      · subst e; have := b1 k z; omega
      · exact e
/-- set(t), t a tuple of numbers -/
def rSetTI (K : PySem.W.Frag) (w : World) : List V → Hp → VK → Prop := fun xs H Q => ∃ (l : Addr) (ns : List Int), xs = [V.ref l] ∧ SqT K H l (ns.map V.int) ∧ ns.length < 63 ∧
  ∀ a c, H a = none → c ≤ ns.length → Q (.ref a) (upd H a (SetO w a (fun j => decide (j ∈ ns)) c))
theorem cr_setTI (hc : X.calm = true) : CallR X (.type "set") (rSetTI X.K X.w) := by
  intro pins s σ H xs us Q I r h
  obtain ⟨l, ns, rfl, hT, hn, q⟩ := h
  rw [Vals.ref1 r]
  obtain ⟨its, rv, pt, hz⟩ := I.tuple hT
  have hf : H s.heap.objs.size = none := I.hok.fresh (Nat.le_refl _)
  refine call_set_tupI ns (I.ok.hd hc) (show s.heap.IsTuple l its.toArray from pt) (ints_of_vals rv) (by unfold PySem.scanBound; omega) fun h' tk c R hc k => ?_
  exact ⟨.ref s.heap.objs.size, upd H s.heap.objs.size (SetO X.w s.heap.objs.size (fun j => decide (j ∈ ns)) c), I.laid (t' := tk) k (Nat.le_refl _) (setO_new R), rfl, q _ c hf hc⟩
theorem fm_spec (f : Nat → Int) : ∀ n, (PyProof.Rows.firstMet f n).Nodup ∧ ∀ x, x ∈ PyProof.Rows.firstMet f n ↔ x ∈ (List.range n).map f
  | 0 => ⟨by rw [PyProof.Rows.firstMet_zero]; exact List.Pairwise.nil, fun x => by rw [PyProof.Rows.firstMet_zero]; rfl⟩
  | n + 1 => by
    obtain ⟨h1, h2⟩ := fm_spec f n
    rw [PyProof.Rows.firstMet_succ]
    unfold PyProof.Rows.step_dedup
    have nd : (f n ∈ PyProof.Rows.firstMet f n) ↔ ((PyProof.Rows.firstMet f n).any (· == f n)) = true := by
      rw [List.any_eq_true]
      constructor
      · intro h; exact ⟨_, h, by simp⟩
      · rintro ⟨y, hy, e⟩; rw [eq_of_beq e] at hy; exact hy
    rw [List.range_succ, List.map_append]
    by_cases h : (PyProof.Rows.firstMet f n).any (· == f n) = true
    · rw [if_pos h]
      refine ⟨h1, fun x => ?_⟩
      rw [List.mem_append, ← h2]
      constructor
      · intro q; exact .inl q
      · rintro (q | q)
        · exact q
        · simp only [List.map_cons, List.map_nil, List.mem_singleton] at q
          rw [q]; exact nd.mpr h
    · rw [if_neg h]
      refine ⟨?_, fun x => ?_⟩
      · rw [List.nodup_append]
        refine ⟨h1, by simp, fun a ha b hb e => ?_⟩
        simp only [List.mem_singleton] at hb
        rw [e, hb] at ha
        exact h (nd.mp ha)
      · rw [List.mem_append, List.mem_append, h2]
        rfl
theorem fm_len (ns : List Int) : (PyProof.Rows.firstMet (fun i => ns.getD i 0) ns.length).length = (sdL ns).length := by
  obtain ⟨h1, h2⟩ := fm_spec (fun i => ns.getD i 0) ns.length
  have e : (List.range ns.length).map (fun i => ns.getD i 0) = ns := by
    refine List.ext_getElem? fun i => ?_
    rw [List.getElem?_map]
    by_cases h : i < ns.length
    · rw [List.getElem?_range h, List.getElem?_eq_getElem h]
      simp [List.getD_eq_getElem?_getD, List.getElem?_eq_getElem h]
    · rw [List.getElem?_eq_none (by simpa using h), List.getElem?_eq_none (by simpa using h)]; rfl
  refine List.Perm.length_eq ?_
  rw [List.perm_ext_iff_of_nodup h1 (List.Pairwise.imp (fun h => Int.ne_of_lt h) sdL_up)]
  intro x
  rw [h2, e, sdL_mem]
/-- len(set(..)) -/
theorem pe_lenSetD {X : Cx} {a : Expr} {ta : TE} {p p2 q pos : Pos} (hg : Gl X "len") (hm : X.mg "len" = none) (hg2 : Gl X "set") (hm2 : X.mg "set" = none) (ha : PE X a ta) (hc : X.calm = true)
    (na : starEach [a] X.env = (false, eval a X.env) :: starEach [] X.env) : PE X (.Call (.Name "len" p) [.Call (.Name "set" p2) [a] [] q] [] pos) (fun σ H Q => ta σ H fun x H1 => ∃ (l : Addr) (ns : List Int), x = .ref l ∧ SqL X.K H1 l (ns.map V.int) ∧ ns.length ≤ 4000 ∧ Q (.int ((sdL ns).length : Nat)) H1) := by
  refine ⟨fun pins s σ H Q I h => ?_⟩
  refine PyProof.Rows.Call_ (ld_blt I hg hm PySem.boot_len ?_)
  refine PyProof.Rows.callWith_builtin1 (PyProof.Rows.args_cons ?_ rfl) rfl rfl
  refine PyProof.Rows.Call_ (ld_blt I hg2 hm2 PyProof.Rows.boot_set ?_)
  refine PyProof.Rows.callWith_type1 (PyProof.Rows.args_cons (thn (ha.run pins s σ H _ I h) fun v s1 ⟨x, H1, I1, r1, q1⟩ => PyProof.Rows.args_nil ?_) na) na rfl
  obtain ⟨l, ns, rfl, hq, hl, q1⟩ := q1
  cases r1
  obtain ⟨its, r, pl, hz⟩ := I1.list hq
  have hlen : its.toArray.size = ns.length := by rw [List.size_toArray, ← r.length, List.length_map]
  refine PySem.call_set_list (I1.ok.hd hc) pl.isList (by simpa using RZ.intsAre_vals r) (by rw [hlen]; unfold scanBound; omega) fun h' tk hS hk => ?_
  refine PyProof.Rows.args_nil ?_
  rw [hlen, fm_len] at hS
  obtain ⟨o, es, ep, t, ho, hex, hd, _, _, _, hf, hn⟩ := hS
  have I2 : L2.Inv X pins σ H1 { s1 with heap := h', toks := tk } := I1.kept fun b o e => hk b o (Heap.lt_size e) e
  have hb : (sdL ns).length ≤ ns.length := by
    rw [← fm_len]
    exact PyProof.Rows.firstMet_length_le _ _
  exact call_len_set ho hex hd hf (by rw [hn] <;> omega) ⟨.int (sdL ns).length, H1, I2.tok _, ⟨_, by rw [hn]⟩, q1⟩
theorem lsP_eq {sc : Scope} {o : Op} {x : Str} {a : Expr} {as es : List Expr} (h : lsP sc o x a as = some es) : ∃ y q b pos2, o = .lset ∧ a = .Call (.Name y q) [b] [] pos2 ∧ as = [] ∧ es = [b] ∧ isBlt sc "len" x = true ∧ isBlt sc "set" y = true ∧ notStar b = true := by
  unfold lsP at h
  split at h
  · split at h
    · cases h
      rename_i hb
      simp only [Bool.and_eq_true, decide_eq_true_eq] at hb
      exact ⟨_, _, _, _, hb.1.1.1, rfl, rfl, rfl, hb.1.1.2, hb.1.2, hb.2⟩
    · cases h
  · cases h
theorem we_lset (cx : CxOk X W C T Wx) {x y : Str} {p q pos pos2 : Pos} {b : Expr} {σ : St} {H : Hp} {Q : VK} (hx : isBlt X.env.scope "len" x = true) (hy : isBlt X.env.scope "set" y = true) (hb : notStar b = true)
    (h : WE X b σ H fun v H1 => PRn W .lset [v] H1 Q) : WE X (.Call (.Name x p) [.Call (.Name y q) [b] [] pos2] [] pos) σ H Q := by
  obtain ⟨rfl, hg⟩ := isBlt_eq hx
  obtain ⟨rfl, hg2⟩ := isBlt_eq hy
  refine of_pe (pe_lenSetD (glB_gl hg) (cx.blt _ (by decide)) (glB_gl hg2) (cx.blt _ (by decide)) peU cx.calm (star_each hb)) ?_
  refine we_thn h fun v H1 q => ?_
  obtain ⟨G, ds, r, gh, hs, hp, po⟩ := q
  obtain ⟨d, rfl, h1⟩ := one hs
  cases d <;> simp only [prim, pLset, reduceCtorEq] at hp
  rename_i xs
  rw [Option.bind_eq_some_iff] at hp
  obtain ⟨ns, e1, h2⟩ := hp
  obtain ⟨c, rfl⟩ := small_some h2
  rw [decide_eq_true_eq] at c
  obtain ⟨a, vs, rfl, e2, r1⟩ := rs_lst gh h1
  rw [reps_ints r1 e1] at e2
  exact ⟨a, ns, rfl, .inl (.inl e2), c, post_i po gh⟩
theorem we_sset (cx : CxOk X W C T Wx) {x y : Str} {p q pos pos2 : Pos} {b : Expr} {σ : St} {H : Hp} {Q : VK} (hx : isBlt X.env.scope "sorted" x = true) (hy : isBlt X.env.scope "set" y = true) (hb : notStar b = true)
    (h : WE X b σ H fun v H1 => PRn W .sset [v] H1 Q) : WE X (.Call (.Name x p) [.Call (.Name y q) [b] [] pos2] [] pos) σ H Q := by
  refine we_blt cx (cr_sortedSet cx.calm) boot_sorted' (by decide) hx rfl ?_
  show WE X (.Call (.Name y q) [b] [] pos2) σ H fun v H1 => rSortedSet X.w [v] H1 Q
  refine we_bty cx (cr_setTI cx.calm) PyProof.Rows.boot_set (by decide) hy (by rw [List.all_cons, hb]; rfl) ?_
  show WE X b σ H fun v H1 => rSetTI X.K X.w [v] H1 fun v H1 => rSortedSet X.w [v] H1 Q
  refine we_thn h fun v H1 q => ?_
  obtain ⟨G, ds, r, gh, hs, hp, po⟩ := q
  obtain ⟨d, rfl, h1⟩ := one hs
  cases d <;> simp only [prim, pSset, reduceCtorEq] at hp
  rename_i xs
  rw [Option.bind_eq_some_iff] at hp
  obtain ⟨ns, e1, h2⟩ := hp
  obtain ⟨c, rfl⟩ := small_some h2
  rw [decide_eq_true_eq] at c
  obtain ⟨a, vs, rfl, e2, r1⟩ := rs_tup gh h1
  rw [reps_ints r1 e1] at e2
  refine ⟨a, ns, rfl, .inl (.inl e2), by omega, fun b c hb hc => ⟨b, _, c, rfl, upd_same, by omega, fun ms p up hm hl hp => ?_⟩⟩
  have em : ms = sdL ns := up_eq up sdL_up fun k => by rw [hm, sdL_mem, decide_eq_true_eq]
  subst em
  have y := Ex.new (o := SetO X.w b (fun j => decide (j ∈ ns)) c) hb
  exact post_l (po.step ⟨Ex.refl G, gh.trans y, y, fun _ _ _ _ g => g⟩) (gh.trans y) hp (ints_reps _)
/-- f'..' -/
def fts (X : Cx) : List Expr → List TE
  | [] => []
  | .FormattedValue e _ _ _ :: r => tFmt (WE X e) :: fts X r
  | e :: r => WE X e :: fts X r
theorem fts_pj : ∀ {vs es : List Expr}, fparts vs = some es → PJ X vs (fts X vs)
  | [], es, _ => .nil
  | v :: vs, es, h => by
    cases v
    case Constant k b p =>
      cases k <;> simp only [fparts, reduceCtorEq] at h
      rw [Option.map_eq_some_iff] at h
      obtain ⟨es', h, _⟩ := h
      exact .cons peU (fts_pj h)
    case FormattedValue e c sp p =>
      cases sp with
      | some _ => simp [fparts] at h
      | none =>
        simp only [fparts] at h
        split at h
        · rename_i hc
          subst hc
          rw [Option.map_eq_some_iff] at h
          obtain ⟨es', h, _⟩ := h
          exact .cons (pe_fmt peU) (fts_pj h)
        · cases h
    all_goals simp [fparts] at h
theorem we_cstr {x : Str} {k : Nat} {p : Pos} {σ : St} {H : Hp} {Q : VK} (h : WE X (.Constant (.str x) k p) σ H Q) : WE X (.Constant (.str x) k p) σ H fun v H1 => (∃ y, v = .str y) ∧ Q v H1 := fun pins s I Γ q hΓ => by
  have t : EP X pins σ Q (.str x s.toks) { s with toks := s.toks + 1 } := h pins s I Γ q hΓ
  obtain ⟨x1, H1, I1, r1, q1⟩ := t
  have r : EP X pins σ (fun v H1 => (∃ y, v = .str y) ∧ Q v H1) (.str x s.toks) { s with toks := s.toks + 1 } := by
    refine ⟨x1, H1, I1, r1, ?_, q1⟩
    cases x1 <;> simp only [RelV, reduceCtorEq, exists_false] at r1
    exact ⟨_, rfl⟩
  exact r
theorem str_eta (x : Str) : x = ⟨x.cps.toList.toArray⟩ := by cases x; simp
theorem app_cps (x y : Str) : (x ++ y).cps.toList = x.cps.toList ++ y.cps.toList := by
  rw [str_eta x, str_eta y, str_app]
theorem len_cps (x : Str) : x.length = x.cps.toList.length := by
  rw [str_eta x, str_len]
theorem fstT_v {d : D} {a : List Nat} {G : Hp} {v : V} (h : fstT d = some a) (r : Rep W G d v) : (∃ y : Str, v = .str y ∧ y.cps.toList = a) ∨ ∃ i : Int, v = .int i ∧ i.natAbs.log2 < 1920 ∧ ((toString i : String) : Str).cps.toList = a := by
  cases d <;> simp only [fstT, reduceCtorEq] at h
  · rename_i n
    split at h
    · rename_i c
      cases h
      simp only [Rep] at r
      subst r
      obtain ⟨m, rfl⟩ : ∃ m : Nat, n = m := ⟨n.toNat, by omega⟩
      refine .inr ⟨_, rfl, ?_, by rw [Int.toNat_natCast]; exact dec_of (by omega)⟩
      rw [Int.natAbs_natCast]
      exact Nat.lt_of_le_of_lt (Nat.log2_le_self m) (by omega)
    · cases h
  · cases h
    simp only [Rep] at r
    subst r
    exact .inl ⟨_, rfl, by simp⟩
theorem fst_go : ∀ (vs es : List Expr) (ds : List D) (acc : Str) (s : List Nat) {σ : St} {H : Hp} {R : List V → Hp → Prop} {Q : VK},
    fparts vs = some es → ds.length = es.length → fstL ds = some s → acc.cps.toList.length + s.length ≤ big → WQM X W es (ds.map some) σ H R →
    (∀ us H1 (out : Str), R us H1 → out.cps.toList = acc.cps.toList ++ s → Q (.str out) H1) → tJs (fts X vs) acc σ H fun out H1 => Q (.str out) H1
  | [], es, ds, acc, s, σ, H, R, Q, hf, hl, hs, hb, h, k => by
    simp only [fparts, Option.some.injEq] at hf
    subst hf
    cases ds with
    | cons d ds => simp at hl
    | nil =>
      simp only [fstL, Option.some.injEq] at hs
      subst hs
      exact k [] H acc h (by simp)
  | v :: vs, es, ds, acc, s, σ, H, R, Q, hf, hl, hs, hb, h, k => by
    have step : ∀ (e : Expr) (es' : List Expr), fparts vs = some es' → es = e :: es' → WE X e σ H fun v H1 => ((∃ y : Str, v = .str y ∧ (acc ++ y).length ≤ sizeLine ∧ y.length ≤ sizeLine ∧ tJs (fts X vs) (acc ++ y) σ H1 fun out H1 => Q (.str out) H1) ∨
        ∃ i : Int, v = .int i ∧ i.natAbs.log2 < 1920 ∧ (acc ++ ((toString i : String) : Str)).length ≤ sizeLine ∧ tJs (fts X vs) (acc ++ ((toString i : String) : Str)) σ H1 fun out H1 => Q (.str out) H1) := by
      intro e es' h2 he
      subst he
      cases ds with
      | nil => simp at hl
      | cons d ds =>
        simp only [fstL] at hs
        rw [Option.bind_eq_some_iff] at hs
        obtain ⟨a, ha, hs⟩ := hs
        rw [Option.map_eq_some_iff] at hs
        obtain ⟨b, hb2, rfl⟩ := hs
        rw [List.length_append] at hb
        have go : ∀ (y : Str) v H1, y.cps.toList = a → WQM X W es' (ds.map some) σ H1 (fun vs H2 => R (v :: vs) H2) → (acc ++ y).length ≤ sizeLine ∧ y.length ≤ sizeLine ∧ tJs (fts X vs) (acc ++ y) σ H1 fun out H1 => Q (.str out) H1 := fun y v H1 hy q => by
          refine ⟨big_line ?_, big_line ?_, ?_⟩
          · rw [len_cps, app_cps, hy, List.length_append]; omega
          · rw [len_cps, hy]; omega
          · refine fst_go vs es' ds (acc ++ y) b h2 (by simpa using hl) hb2 (by rw [app_cps, hy, List.length_append]; omega) q fun us H1 out q2 e2 => k _ H1 out q2 ?_
            rw [e2, app_cps, hy, List.append_assoc]
        refine we_thn (h : WE X e σ H _) fun v H1 ⟨⟨G, gh, hv⟩, q⟩ => ?_
        rcases fstT_v ha hv with ⟨y, rfl, hy⟩ | ⟨i, rfl, hi, hy⟩
        · exact .inl ⟨y, rfl, go y _ H1 hy q⟩
        · obtain ⟨g1, _, g3⟩ := go _ _ H1 hy q
          exact .inr ⟨i, rfl, hi, g1, g3⟩
    cases v
    case Constant kk bb pp =>
      cases kk <;> simp only [fparts, reduceCtorEq] at hf
      rw [Option.map_eq_some_iff] at hf
      obtain ⟨es', h2, he⟩ := hf
      show WE X _ σ H fun x H1 => _
      refine we_thn (we_cstr (step _ es' h2 he.symm)) fun v H1 ⟨⟨z, hz⟩, q⟩ => ?_
      subst hz
      rcases q with ⟨y, e, g1, g2, g3⟩ | ⟨i, e, g1, g2, g3⟩
      · exact ⟨y, e, g1, g3⟩
      · cases e
    case FormattedValue e c sp p =>
      cases sp with
      | some _ => simp [fparts] at hf
      | none =>
        simp only [fparts] at hf
        split at hf
        · rw [Option.map_eq_some_iff] at hf
          obtain ⟨es', h2, he⟩ := hf
          show WE X e σ H fun x H1 => _
          refine we_thn (step e es' h2 he.symm) fun v H1 q => ?_
          rcases q with ⟨y, rfl, g1, g2, g3⟩ | ⟨i, rfl, g1, g2, g3⟩
          · exact .inl ⟨y, rfl, g2, y, rfl, g1, g3⟩
          · exact .inr ⟨i, rfl, g1, _, rfl, g2, g3⟩
        · cases hf
    all_goals simp [fparts] at hf
theorem we_fst {v1 v2 : Expr} {vs es : List Expr} {pos : Pos} {σ : St} {H : Hp} {Q : VK} (hp : fparts (v1 :: v2 :: vs) = some es) (h : ∃ ds ps r, ps.length = es.length ∧ Mid .fst ds ps r ∧ WQM X W es ps σ H fun vs H1 => PRf W .fst ds ps vs H1 Q) : WE X (.JoinedStr (v1 :: v2 :: vs) pos) σ H Q := by
  obtain ⟨ds, ps, r, hn, mi, h⟩ := h
  have eps : ps = ds.map some := by
    obtain ⟨os, e1, e2⟩ := mi.ok
    have e2 : os.any isPk = false := e2
    have ln := mi.ln
    refine List.ext_getElem? fun i => ?_
    rw [List.getElem?_map]
    cases hq : ps[i]? with
    | none =>
      rw [List.getElem?_eq_none_iff] at hq
      rw [List.getElem?_eq_none (by omega)]
      rfl
    | some p =>
      have e3 := hq
      rw [e1, List.getElem?_map, Option.map_eq_some_iff] at e3
      obtain ⟨o, ho, rfl⟩ := e3
      have : isPk o = false := by
        rw [List.any_eq_false] at e2
        simpa using e2 o (List.mem_of_getElem? ho)
      cases o with
      | pk k => simp [isPk] at this
      | d x =>
        rw [mi.at_ i x hq]
        rfl
  subst eps
  have hp2 := mi.pr
  simp only [prim, pFst] at hp2
  rw [Option.bind_eq_some_iff] at hp2
  obtain ⟨s, h1, h2⟩ := hp2
  obtain ⟨c, rfl⟩ := small_some h2
  rw [decide_eq_true_eq] at c
  refine of_pe (pe_joined (fts_pj hp)) (fst_go _ es ds Str.empty s hp (by rw [← hn, List.length_map]) h1 (by show 0 + s.length ≤ big; omega) h fun us H1 out q e => ?_)
  obtain ⟨G, r, gh, _, _, hpr, po⟩ := q
  simp only [prim, pFst, h1, Option.bind_some] at hpr
  obtain ⟨_, rfl⟩ := small_some hpr
  exact post_s po gh (by rw [e]; rfl)
theorem op_parts (cx : CxOk X W C T Wx) {o : Op} {e : Expr} {es : List Expr} (hp : parts X.env.scope o e = some es) (hd : disp o = false) {σ : St} {H : Hp} {Q : VK}
    (h' : OpH X W o es σ H Q) : WE X e σ H Q := by
  have h := h'.wq
  unfold parts at hp
  cases hr : rngOf o with
  | some n => rw [hr] at hp; exact we_rng cx hr hp h
  | none =>
  rw [hr] at hp
  simp only at hp
  unfold parts0 at hp
  split at hp
  · split at hp
    · cases hp
      rename_i hb
      exact of_pe (pe_op (bin_r cx.K (of_decide_eq_true hb)) peU peU) h
    · cases hp
  · split at hp
    · cases hp
      rename_i hb
      rw [decide_eq_true_eq] at hb
      subst hb
      exact of_pe (pe_un ur_neg peU) h
    · cases hp
  · split at hp
    · cases hp
      rename_i hb
      rw [Bool.and_eq_true, decide_eq_true_eq] at hb
      exact of_pe (pe_cmpR (cmp_r cx hb.1) peU peU (noset_marks hb.2)) h
    · split at hp
      · cases hp
        rename_i hb
        rw [Bool.and_eq_true, decide_eq_true_eq] at hb
        obtain ⟨k, p, rfl⟩ := isNone_eq hb.2
        refine of_pe (pe_cmpR (is_r (W := W) hb.1) peU pe_non rfl) ?_
        exact we_thn h fun v H1 q => ⟨rfl, q⟩
      · cases hp
  · split at hp
    · cases hp
      rename_i hb
      rw [decide_eq_true_eq] at hb
      subst hb
      refine of_pe (pe_revL peU) (we_thn h fun v H1 q => ?_)
      obtain ⟨G, ds, r, gh, hs, hp, po⟩ := q
      obtain ⟨d, rfl, h1⟩ := one hs
      cases d <;> simp only [prim, pRev, reduceCtorEq, Option.some.injEq] at hp
      subst hp
      obtain ⟨a, vs, rfl, e1, r1⟩ := rs_lst gh h1
      exact ⟨a, vs, rfl, .inl (.inl e1), fun p hp => post_l po gh hp (reps_rev r1)⟩
    · cases hp
  · split at hp
    · cases hp
      rename_i hb
      rw [decide_eq_true_eq] at hb
      cases o <;> simp only [slOf, reduceCtorEq, Option.some.injEq, Prod.mk.injEq] at hb
      obtain ⟨rfl, rfl⟩ := hb
      exact we_slc h'.1 h'.2
    · cases hp
  · split at hp
    · cases hp
      rename_i hb
      rw [Bool.and_eq_true, decide_eq_true_eq] at hb
      obtain ⟨rfl, hb⟩ := hb
      exact of_pe (pe_ix (xr_ix cx.K (by have := cx.units; omega)) peU peU (plainIx_of hb)) h
    · cases hp
  · split at hp
    · rename_i hb
      rw [Bool.and_eq_true, decide_eq_true_eq] at hb
      obtain ⟨rfl, _⟩ := hb
      simp [disp] at hd
    · cases hp
  · split at hp
    · cases hp
      rename_i hb
      cases o <;> simp only [dctOf, Bool.false_eq_true] at hb
      rename_i t
      have h : PRn W (.dct t) [] H Q := h
      obtain ⟨G, ds, r, gh, hs, hpr, po⟩ := h
      cases ds with
      | cons d ds => simp [RepSs] at hs
      | nil =>
        simp only [prim, pDct, Option.some.injEq] at hpr
        subst hpr
        cases t with
        | false => exact of_pe pe_dnewK fun p hp => po p G _ (Grow.laidN gh hp) hp (gnone gh hp) ⟨_, [], upd_same, ⟨[], rfl, rfl⟩, by simp only [RepK]⟩
        | true => exact of_pe pe_dnewT fun p hp => po p G _ (Grow.laidN gh hp) hp (gnone gh hp) ⟨_, [], upd_same, ⟨[], rfl, rfl⟩, by simp only [RepK]⟩
    · cases hp
  · split at hp
    · rename_i hb
      rw [Bool.and_eq_true, decide_eq_true_eq] at hb
      obtain ⟨rfl, _⟩ := hb
      simp [disp] at hd
    · cases hp
  · split at hp
    · rename_i n hn
      split at hp
      · cases hp
        rename_i hs
        rw [Bool.and_eq_true] at hs
        cases o <;> simp only [bltOp, reduceCtorEq, Option.some.injEq] at hn <;> subst hn
        · exact we_blt cx (cr_len cx.K) boot_len' (by decide) hs.1 hs.2 h
        · exact we_bty cx cr_int boot_int' (by decide) hs.1 hs.2 h
        · exact we_bty cx cr_str boot_str' (by decide) hs.1 hs.2 h
        · exact we_bty cx (cr_list cx.calm) boot_list' (by decide) hs.1 hs.2 h
        · exact we_bty cx cr_tuple boot_tuple' (by decide) hs.1 hs.2 h
        · exact we_blt cx (cr_min cx.calm cx.K (by have := cx.units; omega)) boot_min' (by decide) hs.1 hs.2 h
        · exact we_blt cx (cr_max cx.calm) boot_max' (by decide) hs.1 hs.2 h
        · exact we_blt cx (cr_sum cx.calm) boot_sum' (by decide) hs.1 hs.2 h
        · exact we_blt cx cr_abs boot_abs' (by decide) hs.1 hs.2 h
        · exact we_blt cx (cr_all cx.calm) boot_all' (by decide) hs.1 hs.2 h
        · exact we_blt cx (cr_any cx.calm) boot_any' (by decide) hs.1 hs.2 h
        · exact we_blt cx (cr_srt cx.calm (by have := cx.units; omega)) boot_sorted' (by decide) hs.1 hs.2 h
        · exact we_bty cx cr_ftup boot_tuple' (by decide) hs.1 hs.2 h
      · cases hp
    · split at hp
      · rename_i ts b hi
        split at hp
        · cases hp
          rename_i hs
          simp only [Bool.and_eq_true, decide_eq_true_eq] at hs
          cases o <;> simp only [isiOf, reduceCtorEq, Option.some.injEq] at hi
          subst hi
          refine we_isi cx hs.1.1.1 hs.1.1.2 hs.1.2 (Nat.le_trans hs.2 (by decide)) h
        · cases hp
      · split at hp
        · obtain ⟨y, q, b, pos2, rfl, rfl, rfl, rfl, h1, h2, h3⟩ := lsP_eq hp
          exact we_lset cx h1 h2 h3 h
        · obtain ⟨y, q, b, pos2, rfl, rfl, rfl, rfl, h1, h2, h3⟩ := ssP_eq hp
          exact we_sset cx h1 h2 h3 h
  · split at hp
    · rename_i n hn
      split at hp
      · cases hp
        rename_i hs
        simp only [Bool.and_eq_true] at hs
        have hm : midOp o = true := by cases o <;> simp only [mthOf, reduceCtorEq] at hn <;> rfl
        exact we_mth1 cx hn hs.1.1 hs.1.2 hs.2 (h'.2 hm)
      · cases hp
    · cases hp
  · split at hp
    · rename_i n hn
      split at hp
      · cases hp
        rename_i hs
        simp only [Bool.and_eq_true] at hs
        have hm : midOp o = true := by cases o <;> simp only [mthOf2, reduceCtorEq] at hn <;> rfl
        exact we_mth2 cx hn hs.1.1.1 hs.1.1.2 hs.1.2 hs.2 (h'.2 hm)
      · cases hp
    · cases hp
  · split at hp
    · rename_i hb
      rw [decide_eq_true_eq] at hb
      subst hb
      exact we_fst hp (h'.2 rfl)
    · cases hp
  · cases hp
/-- displays: every operand is let be -/
def PRd (W : Wd) (o : Op) : List V → Hp → VK → Prop := fun xs H Q => ∃ G ds r, Ex G H ∧ Reps W G ds xs ∧ prim o ds = some r ∧ Post W G H r Q
theorem disp_parts (cx : CxOk X W C T Wx) {o : Op} {e : Expr} {es : List Expr} (hp : parts X.env.scope o e = some es) (hd : disp o = true) {σ : St} {H : Hp} {Q : VK}
    (h : WQ X es σ H fun vs H1 => PRd W o vs H1 Q) : WE X e σ H Q := by
  have tup : o = .tup → ∀ vs H1, PRd W o vs H1 Q → vs.length ≤ sizeLine ∧ ∀ p, H1 p = none → Q (.ref p) (upd H1 p (.tup vs)) := fun e vs H1 q => by
    subst e
    obtain ⟨G, ds, r, gh, hs, hp, po⟩ := q
    simp only [prim, pTup] at hp
    obtain ⟨c, rfl⟩ := small_some hp
    rw [decide_eq_true_eq] at c
    exact ⟨big_line (by rw [reps_len hs]; exact c), fun p hp => post_t po gh hp hs⟩
  have lst : o = .lst → ∀ vs H1, PRd W o vs H1 Q → vs.length ≤ sizeLine ∧ ∀ p, H1 p = none → Q (.ref p) (upd H1 p (.lst vs)) := fun e vs H1 q => by
    subst e
    obtain ⟨G, ds, r, gh, hs, hp, po⟩ := q
    simp only [prim, pLst] at hp
    obtain ⟨c, rfl⟩ := small_some hp
    rw [decide_eq_true_eq] at c
    exact ⟨big_line (by rw [reps_len hs]; exact c), fun p hp => post_l po gh hp hs⟩
  unfold parts at hp
  have hr : rngOf o = none := by cases o <;> simp only [disp, reduceCtorEq] at hd <;> rfl
  rw [hr] at hp
  simp only at hp
  unfold parts0 at hp
  split at hp
  · split at hp
    · rename_i hb
      cases o <;> simp only [disp, reduceCtorEq] at hd <;> simp [binOf] at hb
    · cases hp
  · split at hp
    · rename_i hb
      rw [decide_eq_true_eq] at hb
      subst hb
      simp [disp] at hd
    · cases hp
  · split at hp
    · rename_i hb
      rw [Bool.and_eq_true, decide_eq_true_eq] at hb
      cases o <;> simp only [disp, reduceCtorEq] at hd <;> simp [cmpOf2, cmpOf] at hb
    · split at hp
      · rename_i hb
        rw [Bool.and_eq_true, decide_eq_true_eq] at hb
        cases o <;> simp only [disp, reduceCtorEq] at hd <;> simp [isOf] at hb
      · cases hp
  · split at hp
    · rename_i hb
      rw [decide_eq_true_eq] at hb
      subst hb
      simp [disp] at hd
    · cases hp
  · split at hp
    · rename_i hb
      rw [decide_eq_true_eq] at hb
      cases o <;> simp only [disp, reduceCtorEq] at hd <;> simp [slOf] at hb
    · cases hp
  · split at hp
    · rename_i hb
      rw [Bool.and_eq_true, decide_eq_true_eq] at hb
      obtain ⟨rfl, hb⟩ := hb
      simp [disp] at hd
    · cases hp
  · split at hp
    · cases hp
      rename_i hb
      rw [Bool.and_eq_true, decide_eq_true_eq] at hb
      exact of_pe (pe_tup (paU hb.2)) (wq_thn h (tup hb.1))
    · cases hp
  · split at hp
    · rename_i hb
      cases o <;> simp only [disp, reduceCtorEq] at hd <;> simp [dctOf] at hb
    · cases hp
  · split at hp
    · cases hp
      rename_i hb
      rw [Bool.and_eq_true, decide_eq_true_eq] at hb
      exact of_pe (pe_lst (paU hb.2)) (wq_thn h (lst hb.1))
    · cases hp
  · split at hp
    · rename_i n hn
      cases o <;> simp only [disp, reduceCtorEq] at hd <;> simp [bltOp] at hn
    · split at hp
      · rename_i ts b hi
        cases o <;> simp only [disp, reduceCtorEq] at hd <;> simp [isiOf] at hi
      · split at hp
        · obtain ⟨_, _, _, _, rfl, _⟩ := lsP_eq hp
          simp [disp] at hd
        · obtain ⟨_, _, _, _, rfl, _⟩ := ssP_eq hp
          simp [disp] at hd
  · split at hp
    · rename_i n hn
      cases o <;> simp only [disp, reduceCtorEq] at hd <;> simp [mthOf] at hn
    · cases hp
  · split at hp
    · rename_i n hn
      cases o <;> simp only [disp, reduceCtorEq] at hd <;> simp [mthOf2] at hn
    · cases hp
  · split at hp
    · rename_i hb
      rw [decide_eq_true_eq] at hb
      subst hb
      simp [disp] at hd
    · cases hp
  · cases hp
/-- the same as a test -/
theorem wt_val {e : Expr} {σ : St} {H : Hp} {Q : Bool → Hp → Prop} (he : ∀ whole, isTrue e X.env whole = (do let v ← whole; standAt e.pos; holding [v] (truthy v))) (h : WE X e σ H fun v H1 => ∃ b, v = .bl b ∧ Q b H1) : WT X e σ H Q :=
  of_pt (pt_val peU he) h
theorem op_partsB (cx : CxOk X W C T Wx) {o : Op} {e : Expr} {es : List Expr} (hp : parts X.env.scope o e = some es) (hd : disp o = false) {σ : St} {H : Hp} {Q : Bool → Hp → Prop}
    (h' : OpH X W o es σ H fun v H2 => ∃ b, v = .bl b ∧ Q b H2) : WT X e σ H Q := by
  have h := h'.wq
  cases e with
  | Compare a ops bs pos =>
    unfold parts at hp
    cases hr : rngOf o with
    | some n => rw [hr] at hp; simp [rngP] at hp
    | none =>
    rw [hr] at hp
    simp only at hp
    unfold parts0 at hp
    split at hp
    all_goals first | (rename_i e; cases e; done) | skip
    · rename_i e
      cases e
      split at hp
      · cases hp
        rename_i hb
        rw [Bool.and_eq_true, decide_eq_true_eq] at hb
        exact of_pt (pt_cmpR (cmp_r cx hb.1) peU peU (noset_marks hb.2)) h
      · split at hp
        · cases hp
          rename_i hb
          rw [Bool.and_eq_true, decide_eq_true_eq] at hb
          obtain ⟨k, p, rfl⟩ := isNone_eq hb.2
          refine of_pt (pt_cmpR (is_r (W := W) hb.1) peU pe_non rfl) ?_
          exact we_thn h fun v H1 q => ⟨rfl, q⟩
        · cases hp
    · cases hp
  | BoolOp => unfold parts at hp; cases hr : rngOf o <;> rw [hr] at hp <;> simp [parts0, rngP] at hp
  | UnaryOp op a p =>
    cases op with
    | USub => exact wt_val (fun _ => rfl) (op_parts cx hp hd h')
    | _ => unfold parts at hp; cases hr : rngOf o <;> rw [hr] at hp <;> simp [parts0, rngP] at hp
  | IfExp => unfold parts at hp; cases hr : rngOf o <;> rw [hr] at hp <;> simp [parts0, rngP] at hp
  | _ => exact wt_val (fun _ => rfl) (op_parts cx hp hd h')
end
end Itp
set_option Elab.async false
set_option linter.all false
set_option maxRecDepth 100000
set_option maxHeartbeats 4000000
namespace Itp
open PySem L2
section
variable {X : Cx} {W : Wd} {C : Cfg} {T : Tab} {Wx : WX}
/-! ### slots -/
theorem slot_set (e : Env) (i j : Nat) (s : Slot) : slot (e.set i s) j = if i = j then (if i < e.length then s else .un) else slot e j := by
  unfold slot
  simp only [List.getD_eq_getElem?_getD, List.getElem?_set]
  by_cases h : i = j
  · subst h
    by_cases h2 : i < e.length
    · simp [h2]
    · simp [h2]
  · simp [h]
def Slot.isPar : Slot → Bool
  | .par _ => true
  | _ => false
def ParK (σ : St) (e : Env) (σ' : St) (e' : Env) : Prop := ∀ i, (slot e' i).isPar = true → (slot e i).isPar = true ∧ σ'[i]? = σ[i]?
theorem ParK.refl (σ : St) (e : Env) : ParK σ e σ e := fun _ h => ⟨h, rfl⟩
theorem ParK.trans {σ σ1 σ2 : St} {e e1 e2 : Env} (a : ParK σ e σ1 e1) (b : ParK σ1 e1 σ2 e2) : ParK σ e σ2 e2 := fun i h => by
  obtain ⟨h1, h2⟩ := b i h
  obtain ⟨h3, h4⟩ := a i h1
  exact ⟨h3, h2.trans h4⟩
/-- the slot i gets a value that is let be -/
theorem StOk.setV {G H : Hp} {σ : St} {e : Env} (s : StOk W G H σ e) {i : Nat} {d : D} {v : V} (r : Rep W G d v) : StOk W G H (σ.set i (some v)) (e.set i (.val d)) where
  gh := s.gh
  len := by rw [List.length_set, List.length_set]; exact s.len
  sl := fun j => by
    rw [slot_set]
    by_cases h : i = j
    · subst h
      rw [if_pos rfl]
      by_cases h2 : i < e.length
      · rw [if_pos h2]
        refine ⟨v, ?_, r⟩
        rw [List.getElem?_set, if_pos rfl, if_pos (by rw [← s.len]; exact h2)]
      · rw [if_neg h2]; trivial
    · rw [if_neg h]
      have q := s.sl j
      have e1 : (σ.set i (some v))[j]? = σ[j]? := by rw [List.getElem?_set, if_neg h]
      cases hs : slot e j with
      | un => trivial
      | val d' => rw [hs] at q; obtain ⟨w, q1, q2⟩ := q; exact ⟨w, e1.trans q1, q2⟩
      | own d' => rw [hs] at q; obtain ⟨w, q1, q2⟩ := q; exact ⟨w, e1.trans q1, q2⟩
      | par d' => rw [hs] at q; obtain ⟨w, q1, q2⟩ := q; exact ⟨w, e1.trans q1, q2⟩
  inj := fun j k a hjk hj hk h1 => by
    rw [slot_set] at hj hk
    by_cases h : i = j
    · subst h
      rw [if_pos rfl] at hj
      by_cases h2 : i < e.length
      · rw [if_pos h2] at hj; cases hj
      · rw [if_neg h2] at hj; cases hj
    · by_cases h' : i = k
      · subst h'
        rw [if_pos rfl] at hk
        by_cases h2 : i < e.length
        · rw [if_pos h2] at hk; cases hk
        · rw [if_neg h2] at hk; cases hk
      · rw [if_neg h] at hj
        rw [if_neg h'] at hk
        rw [List.getElem?_set, if_neg h] at h1
        rw [List.getElem?_set, if_neg h']
        exact s.inj j k a hjk hj hk h1
theorem own_setV {σ : St} {e : Env} {i : Nat} {d : D} {v : V} {a : Addr} (h : OwnA (σ.set i (some v)) (e.set i (.val d)) a) : OwnA σ e a := by
  obtain ⟨j, h1, h2⟩ := h
  rw [slot_set] at h1
  by_cases hh : i = j
  · subst hh
    rw [if_pos rfl] at h1
    split at h1 <;> cases h1
  · rw [if_neg hh] at h1
    rw [List.getElem?_set, if_neg hh] at h2
    exact ⟨j, h1, h2⟩
theorem par_setV {σ : St} {e : Env} {i : Nat} {s : Slot} {v : Option V} (hp : s.isPar = false) : ParK σ e (σ.set i v) (e.set i s) := fun j h => by
  rw [slot_set] at h
  by_cases hh : i = j
  · subst hh
    rw [if_pos rfl] at h
    split at h
    · rw [hp] at h; cases h
    · cases h
  · rw [if_neg hh] at h
    exact ⟨h, by rw [List.getElem?_set, if_neg hh]⟩
/-! ### targets -/
def WG (X : Cx) (t : Expr) : TG := fun v σ H Q => ∀ (pins : List (Addr × Obj)) (s : Shared) (u : Value), Inv X pins σ H s → RelV v u → wpAny (model X.prog X.w) X.A (assign t X.env u) (fun _ s' => ∃ σ' H', Inv X pins σ' H' s' ∧ Q σ' H') X.xe s
def WGs (X : Cx) (t : List Expr) : TGs := fun vs σ H Q => ∀ (pins : List (Addr × Obj)) (s : Shared) (us : List Value), Inv X pins σ H s → Vals vs us → wpAny (model X.prog X.w) X.A (assignInOrder ((assignEach t X.env).map (·.2)) us) (fun _ s' => ∃ σ' H', Inv X pins σ' H' s' ∧ Q σ' H') X.xe s
theorem pgU {t : Expr} : PG X t (WG X t) := ⟨fun pins s _ _ _ u _ I r h => h pins s u I r⟩
theorem pgsU {t : List Expr} : PGs X t (WGs X t) := ⟨fun pins s _ _ _ us _ I r h => h pins s us I r⟩
theorem of_pg {t : Expr} {g : TG} {v : V} {σ : St} {H : Hp} {Q : St → Hp → Prop} (p : PG X t g) (h : g v σ H Q) : WG X t v σ H Q := fun pins s u I r => p.run pins s σ H v u Q I r h
theorem of_pgs {t : List Expr} {g : TGs} {vs : List V} {σ : St} {H : Hp} {Q : St → Hp → Prop} (p : PGs X t g) (h : g vs σ H Q) : WGs X t vs σ H Q := fun pins s us I r => p.run pins s σ H vs us Q I r h
theorem asg_star {e : Expr} {es : List Expr} {env : PySem.Env} (h : notStar e = true) : assignEach (e :: es) env = (false, assign e env) :: assignEach es env := by
  cases e <;> first | rfl | simp [notStar] at h
theorem asg_len {N : List Str} {sc : Scope} {fn : Str → Bool} {env : PySem.Env} : ∀ {ts : List Tg} {es : List Expr}, chkTs N sc fn ts es = true → (assignEach es env).length = ts.length ∧ (assignEach es env).findIdx? (·.1) = none
  | [], [], _ => ⟨rfl, rfl⟩
  | [], _ :: _, h => by simp [chkTs] at h
  | _ :: _, [], h => by simp [chkTs] at h
  | t :: ts, e :: es, h => by
    simp only [chkTs, Bool.and_eq_true] at h
    have ih := asg_len (env := env) h.2
    rw [asg_star h.1.1]
    refine ⟨by simp [ih.1], ?_⟩
    rw [List.findIdx?_cons, ih.2]
    rfl
def Wiped (σ σ' : St) (vs : List Nat) : Prop := ∀ us : List Nat, (∀ i ∈ vs, i ∈ us) → wipe σ' us = wipe σ us
theorem wipe_set {σ : St} {i : Nat} {v : Option V} : ∀ {us : List Nat}, i ∈ us → wipe (σ.set i v) us = wipe σ us
  | [], h => by simp at h
  | u :: us, h => by
    unfold wipe
    by_cases hi : i ∈ us
    · rw [wipe_set hi]
    · have hu : i = u := by
        rcases List.mem_cons.mp h with h | h
        · exact h
        · exact absurd h hi
      subst hu
      have : wipe (σ.set i v) us = (wipe σ us).set i v := by
        clear h
        induction us with
        | nil => rfl
        | cons w us ih =>
          have hw : i ≠ w := fun z => hi (by simp [z])
          have hi' : i ∉ us := fun z => hi (List.mem_cons_of_mem _ z)
          unfold wipe
          rw [ih hi', List.set_comm _ _ hw]
      rw [this, List.set_set]
mutual
theorem bindT_ok (cx : CxOk X W C T Wx) {G H : Hp} : ∀ (t : Tg) (e : Expr) (d : D) (v : V) (σ : St) (env env' : Env) (Q : St → Hp → Prop), chkT X.N X.env.scope X.fn t e = true → bindT t d env = some env' → StOk W G H σ env → Rep W G d v →
    (∀ σ', StOk W G H σ' env' → (∀ a, OwnA σ' env' a → OwnA σ env a) → ParK σ env σ' env' → Wiped σ σ' (tgSlots t) → Q σ' H) → WG X e v σ H Q
  | .nm i, e, d, v, σ, env, env', Q, hc, hb, s, r, k => by
    cases e <;> simp only [chkT, reduceCtorEq, Bool.false_eq_true] at hc
    rename_i x pos
    simp only [Bool.and_eq_true, Bool.or_eq_true, decide_eq_true_eq] at hc
    refine of_pg (pg_name cx.nd hc.1.1 (locB_loc hc.1.2) hc.2) ?_
    simp only [bindT] at hb
    have hb' : (slot env i).isPar = false ∧ env' = env.set i (.val d) := by
      cases hs : slot env i <;> rw [hs] at hb <;> simp at hb <;> exact ⟨rfl, hb.symm⟩
    obtain ⟨_, rfl⟩ := hb'
    exact k _ (s.setV r) (fun a => own_setV) (par_setV rfl) fun us hu => wipe_set (hu i (by simp [tgSlots]))
  | .tp ts, e, d, v, σ, env, env', Q, hc, hb, s, r, k => by
    cases e <;> simp only [chkT, reduceCtorEq, Bool.false_eq_true] at hc
    rename_i es kk pos
    have hl := asg_len (env := X.env) hc
    cases d <;> simp only [bindT, reduceCtorEq] at hb
    · rename_i xs
      simp only [Rep] at r
      obtain ⟨a, vs, rfl, h1, h2⟩ := r
      refine of_pg (pg_tup (n := ts.length) cx.calm pgsU hl.1 hl.2) ⟨a, vs, rfl, .inl (.inl (s.gh _ _ h1)), ?_, ?_⟩
      · rw [reps_len h2]; exact bindTs_len ts xs env env' hb
      · exact bindTs_ok cx ts es xs vs σ env env' Q hc hb s h2 (by simpa only [tgSlots] using k)
    · rename_i xs
      simp only [Rep] at r
      obtain ⟨a, vs, rfl, h1, h2⟩ := r
      refine of_pg (pg_lst (n := ts.length) cx.calm pgsU hl.1 hl.2) ⟨a, vs, rfl, .inl (.inl (s.gh _ _ h1)), ?_, ?_⟩
      · rw [reps_len h2]; exact bindTs_len ts xs env env' hb
      · exact bindTs_ok cx ts es xs vs σ env env' Q hc hb s h2 (by simpa only [tgSlots] using k)
theorem bindTs_ok (cx : CxOk X W C T Wx) {G H : Hp} : ∀ (ts : List Tg) (es : List Expr) (ds : List D) (vs : List V) (σ : St) (env env' : Env) (Q : St → Hp → Prop), chkTs X.N X.env.scope X.fn ts es = true → bindTs ts ds env = some env' → StOk W G H σ env → Reps W G ds vs →
    (∀ σ', StOk W G H σ' env' → (∀ a, OwnA σ' env' a → OwnA σ env a) → ParK σ env σ' env' → Wiped σ σ' (tgsSlots ts) → Q σ' H) → WGs X es vs σ H Q
  | [], [], ds, vs, σ, env, env', Q, hc, hb, s, r, k => by
    cases ds <;> simp only [bindTs, reduceCtorEq, Option.some.injEq] at hb
    subst hb
    simp only [Reps] at r
    exact of_pgs pgs_nil ⟨r, k σ s (fun _ h => h) (ParK.refl _ _) fun _ _ => rfl⟩
  | [], _ :: _, _, _, _, _, _, _, hc, _, _, _, _ => by simp [chkTs] at hc
  | _ :: _, [], _, _, _, _, _, _, hc, _, _, _, _ => by simp [chkTs] at hc
  | t :: ts, e :: es, ds, vs, σ, env, env', Q, hc, hb, s, r, k => by
    simp only [chkTs, Bool.and_eq_true] at hc
    cases ds <;> simp only [bindTs, reduceCtorEq] at hb
    rename_i d ds
    simp only [Reps] at r
    obtain ⟨v, vr, rfl, r1, r2⟩ := r
    cases q : bindT t d env with
    | none => rw [q] at hb; simp at hb
    | some e1 =>
      rw [q] at hb
      have hb : bindTs ts ds e1 = some env' := hb
      refine of_pgs (pgs_cons pgU pgsU (by rw [asg_star hc.1.1]; rfl)) ⟨v, vr, rfl, ?_⟩
      refine bindT_ok cx t e d v σ env e1 _ hc.1.2 q s r1 fun σ1 s1 o1 p1 w1 => ?_
      refine bindTs_ok cx ts es ds vr σ1 e1 env' Q hc.2 hb s1 r2 fun σ2 s2 o2 p2 w2 => ?_
      refine k σ2 s2 (fun a h => o1 a (o2 a h)) (p1.trans p2) fun us hu => ?_
      rw [w2 us fun i hi => hu i (by simp [tgsSlots, hi]), w1 us fun i hi => hu i (by simp [tgsSlots, hi])]
theorem bindTs_len : ∀ (ts : List Tg) (ds : List D) (env env' : Env), bindTs ts ds env = some env' → ds.length = ts.length
  | [], ds, env, env', h => by cases ds <;> simp [bindTs] at h; rfl
  | t :: ts, ds, env, env', h => by
    cases ds <;> simp only [bindTs, reduceCtorEq] at h
    rename_i d ds
    cases q : bindT t d env with
    | none => rw [q] at h; simp at h
    | some e1 =>
      rw [q] at h
      simp [bindTs_len ts ds e1 env' h]
end
end
end Itp
set_option Elab.async false
set_option linter.all false
set_option maxRecDepth 100000
set_option maxHeartbeats 4000000
namespace Itp
open PySem L2
section
variable {X : Cx} {W : Wd} {C : Cfg} {T : Tab} {Wx : WX}
/-! ### what is walked -/
structure Walks (W : Wd) (J : It) (ds : List D) (P : Hp → Prop) : Prop where
  mono : ∀ G G', Ex G G' → P G → P G'
  go : ∀ i G H, P G → Ex G H → i < ds.length → J.go i H
  stop : ∀ i G H, P G → Ex G H → ds.length ≤ i → J.stop i H
  yld : ∀ i G H x H' d, P G → Ex G H → ds[i]? = some d → J.yld i H x H' → ∃ G', Grow G H G' H' ∧ Rep W G' d x
theorem walk_list {K : PySem.W.Frag} {a : Addr} {ds : List D} {vs : List V} : Walks W (Itl K a) ds (fun G => G a = some (.lst vs) ∧ Reps W G ds vs) where
  mono := fun G G' x h => ⟨x _ _ h.1, Reps.mono x _ _ h.2⟩
  go := fun i G H h x hi => ⟨vs, vs[i]'(by rw [reps_len h.2]; exact hi), .inl (.inl (x _ _ h.1)), by simp⟩
  stop := fun i G H h x hi => ⟨vs, .inl (.inl (x _ _ h.1)), by rw [reps_len h.2]; exact hi⟩
  yld := fun i G H v H' d h x hd y => by
    obtain ⟨e, y⟩ := y
    subst e
    obtain ⟨w, h1, h2⟩ := reps_get h.2 hd
    have := y vs (.inl (.inl (x _ _ h.1)))
    rw [h1] at this
    cases this
    exact ⟨G, Grow.refl x, h2⟩
theorem walk_tup {K : PySem.W.Frag} {a : Addr} {ds : List D} {vs : List V} : Walks W (Itt K a) ds (fun G => G a = some (.tup vs) ∧ Reps W G ds vs) where
  mono := fun G G' x h => ⟨x _ _ h.1, Reps.mono x _ _ h.2⟩
  go := fun i G H h x hi => ⟨vs, vs[i]'(by rw [reps_len h.2]; exact hi), .inl (.inl (x _ _ h.1)), by simp⟩
  stop := fun i G H h x hi => ⟨vs, .inl (.inl (x _ _ h.1)), by rw [reps_len h.2]; exact hi⟩
  yld := fun i G H v H' d h x hd y => by
    obtain ⟨e, y⟩ := y
    subst e
    obtain ⟨w, h1, h2⟩ := reps_get h.2 hd
    have := y vs (.inl (.inl (x _ _ h.1)))
    rw [h1] at this
    cases this
    exact ⟨G, Grow.refl x, h2⟩
theorem walk_ftp {K : PySem.W.Frag} {a : Addr} {o : Obj} {ds : List D} {vs : List V} : Walks W (Itt K a) ds (fun G => G a = some (.frz o (.tup vs)) ∧ Reps W G ds vs) where
  mono := fun G G' x h => ⟨x _ _ h.1, Reps.mono x _ _ h.2⟩
  go := fun i G H h x hi => ⟨vs, vs[i]'(by rw [reps_len h.2]; exact hi), .inl (.inr ⟨o, x _ _ h.1⟩), by simp⟩
  stop := fun i G H h x hi => ⟨vs, .inl (.inr ⟨o, x _ _ h.1⟩), by rw [reps_len h.2]; exact hi⟩
  yld := fun i G H v H' d h x hd y => by
    obtain ⟨e, y⟩ := y
    subst e
    obtain ⟨w, h1, h2⟩ := reps_get h.2 hd
    have := y vs (.inl (.inr ⟨o, x _ _ h.1⟩))
    rw [h1] at this
    cases this
    exact ⟨G, Grow.refl x, h2⟩
theorem walk_str {s : List Nat} : Walks W (Its ⟨s.toArray⟩) (s.map fun c => .str [c]) (fun _ => True) where
  mono := fun _ _ _ _ => True.intro
  go := fun i G H _ _ hi => by
    show i < s.toArray.size
    simpa using hi
  stop := fun i G H _ _ hi => by
    show s.toArray.size ≤ i
    simpa using hi
  yld := fun i G H v H' d _ x hd y => by
    obtain ⟨e, c, y1, rfl⟩ := y
    subst e
    refine ⟨G, Grow.refl x, ?_⟩
    have y1 : s[i]? = some c := by simpa using y1
    rw [List.getElem?_map, y1] at hd
    simp at hd
    subst hd
    simp only [Rep]
theorem rngs_len (a : Int) : ∀ n, (rngs a n).length = n
  | 0 => rfl
  | n + 1 => by simp [rngs, rngs_len (a + 1) n]
theorem rngs_get (a : Int) : ∀ (n i : Nat), i < n → (rngs a n)[i]? = some (.int (a + i))
  | 0, i, h => by omega
  | n + 1, 0, _ => by simp [rngs]
  | n + 1, i + 1, h => by
    simp only [rngs, List.getElem?_cons_succ]
    rw [rngs_get (a + 1) n i (by omega)]
    congr 2
    omega
theorem walk_rng {a : Int} {n : Nat} : Walks W (Itr a n) (rngs a n) (fun _ => True) where
  mono := fun _ _ _ _ => True.intro
  go := fun i G H _ _ hi => by rw [rngs_len] at hi; exact hi
  stop := fun i G H _ _ hi => by rw [rngs_len] at hi; exact hi
  yld := fun i G H v H' d _ x hd y => by
    obtain ⟨e, rfl⟩ := y
    subst e
    refine ⟨G, Grow.refl x, ?_⟩
    have hi : i < n := by
      have := (List.getElem?_eq_some_iff.mp hd).1
      rwa [rngs_len] at this
    rw [rngs_get a n i hi] at hd
    cases hd
    simp only [Rep]
theorem enumF_len : ∀ (i : Int) (ds : List D), (enumF i ds).length = ds.length
  | _, [] => rfl
  | i, d :: ds => by simp [enumF, enumF_len (i + 1) ds]
theorem enumF_get : ∀ (j : Int) (ds : List D) (i : Nat) (d : D), ds[i]? = some d → (enumF j ds)[i]? = some (.tup [.int (j + i), d])
  | _, [], _, _, h => by simp at h
  | j, x :: ds, 0, d, h => by simp at h; subst h; simp [enumF]
  | j, x :: ds, i + 1, d, h => by
    simp only [enumF, List.getElem?_cons_succ] at h ⊢
    rw [enumF_get (j + 1) ds i d h]
    congr 4
    omega
theorem walk_enum {K : PySem.W.Frag} {a : Addr} {ds : List D} {vs : List V} : Walks W (Ite K a) (enumF 0 ds) (fun G => G a = some (.lst vs) ∧ Reps W G ds vs) where
  mono := fun G G' x h => ⟨x _ _ h.1, Reps.mono x _ _ h.2⟩
  go := fun i G H h x hi => by
    rw [enumF_len] at hi
    exact ⟨vs, vs[i]'(by rw [reps_len h.2]; exact hi), .inl (.inl (x _ _ h.1)), by simp⟩
  stop := fun i G H h x hi => by
    rw [enumF_len] at hi
    exact ⟨vs, .inl (.inl (x _ _ h.1)), by rw [reps_len h.2]; exact hi⟩
  yld := fun i G H v H' d h x hd y => by
    obtain ⟨T, w, rfl, hT, rfl, y⟩ := y
    have hi : i < ds.length := by
      have := (List.getElem?_eq_some_iff.mp hd).1
      rwa [enumF_len] at this
    have hd2 : ds[i]? = some ds[i] := List.getElem?_eq_getElem hi
    rw [enumF_get 0 ds i _ hd2] at hd
    cases hd
    obtain ⟨w', h1, h2⟩ := reps_get h.2 hd2
    have := y vs (.inl (.inl (x _ _ h.1)))
    rw [h1] at this
    cases this
    refine ⟨_, Grow.laidF x hT, ?_⟩
    simp only [Rep, Reps]
    refine ⟨T, _, rfl, upd_same, _, _, rfl, ?_, _, _, rfl, Rep.mono (Ex.new (gnone x hT)) _ _ h2, rfl⟩
    simp
theorem walk_enT {K : PySem.W.Frag} {a : Addr} {ds : List D} {vs : List V} : Walks W (IteT K a) (enumF 0 ds) (fun G => G a = some (.tup vs) ∧ Reps W G ds vs) where
  mono := fun G G' x h => ⟨x _ _ h.1, Reps.mono x _ _ h.2⟩
  go := fun i G H h x hi => by
    rw [enumF_len] at hi
    exact ⟨vs, vs[i]'(by rw [reps_len h.2]; exact hi), .inl (.inl (x _ _ h.1)), by simp⟩
  stop := fun i G H h x hi => by
    rw [enumF_len] at hi
    exact ⟨vs, .inl (.inl (x _ _ h.1)), by rw [reps_len h.2]; exact hi⟩
  yld := fun i G H v H' d h x hd y => by
    obtain ⟨T, w, rfl, hT, rfl, y⟩ := y
    have hi : i < ds.length := by
      have := (List.getElem?_eq_some_iff.mp hd).1
      rwa [enumF_len] at this
    have hd2 : ds[i]? = some ds[i] := List.getElem?_eq_getElem hi
    rw [enumF_get 0 ds i _ hd2] at hd
    cases hd
    obtain ⟨w', h1, h2⟩ := reps_get h.2 hd2
    have := y vs (.inl (.inl (x _ _ h.1)))
    rw [h1] at this
    cases this
    refine ⟨_, Grow.laidF x hT, ?_⟩
    simp only [Rep, Reps]
    refine ⟨T, _, rfl, upd_same, _, _, rfl, ?_, _, _, rfl, Rep.mono (Ex.new (gnone x hT)) _ _ h2, rfl⟩
    simp
theorem walk_enF {K : PySem.W.Frag} {a : Addr} {o : Obj} {ds : List D} {vs : List V} : Walks W (IteT K a) (enumF 0 ds) (fun G => G a = some (.frz o (.tup vs)) ∧ Reps W G ds vs) where
  mono := fun G G' x h => ⟨x _ _ h.1, Reps.mono x _ _ h.2⟩
  go := fun i G H h x hi => by
    rw [enumF_len] at hi
    exact ⟨vs, vs[i]'(by rw [reps_len h.2]; exact hi), .inl (.inr ⟨o, x _ _ h.1⟩), by simp⟩
  stop := fun i G H h x hi => by
    rw [enumF_len] at hi
    exact ⟨vs, .inl (.inr ⟨o, x _ _ h.1⟩), by rw [reps_len h.2]; exact hi⟩
  yld := fun i G H v H' d h x hd y => by
    obtain ⟨T, w, rfl, hT, rfl, y⟩ := y
    have hi : i < ds.length := by
      have := (List.getElem?_eq_some_iff.mp hd).1
      rwa [enumF_len] at this
    have hd2 : ds[i]? = some ds[i] := List.getElem?_eq_getElem hi
    rw [enumF_get 0 ds i _ hd2] at hd
    cases hd
    obtain ⟨w', h1, h2⟩ := reps_get h.2 hd2
    have := y vs (.inl (.inr ⟨o, x _ _ h.1⟩))
    rw [h1] at this
    cases this
    refine ⟨_, Grow.laidF x hT, ?_⟩
    simp only [Rep, Reps]
    refine ⟨T, _, rfl, upd_same, _, _, rfl, ?_, _, _, rfl, Rep.mono (Ex.new (gnone x hT)) _ _ h2, rfl⟩
    simp
theorem walk_enS {s : List Nat} : Walks W (IteS ⟨s.toArray⟩) (enumF 0 (s.map fun c => .str [c])) (fun _ => True) where
  mono := fun _ _ _ h => h
  go := fun i G H h x hi => by
    rw [enumF_len, List.length_map] at hi
    show i < s.toArray.size
    rw [List.size_toArray]
    exact hi
  stop := fun i G H h x hi => by
    rw [enumF_len, List.length_map] at hi
    show s.toArray.size ≤ i
    rw [List.size_toArray]
    exact hi
  yld := fun i G H v H' d h x hd y => by
    obtain ⟨T, c, rfl, hT, rfl, y⟩ := y
    have y : s.toArray[i]? = some c := y
    rw [List.getElem?_toArray] at y
    have hd2 : (s.map fun c => D.str [c])[i]? = some (.str [c]) := by rw [List.getElem?_map, y]; rfl
    rw [enumF_get 0 _ i _ hd2] at hd
    cases hd
    refine ⟨_, Grow.laidF x hT, ?_⟩
    simp only [Rep, Reps]
    refine ⟨T, _, rfl, upd_same, _, _, rfl, ?_, _, _, rfl, rfl, rfl⟩
    simp
theorem rngc_len (a c : Int) : ∀ n, (rngc a c n).length = n
  | 0 => rfl
  | n + 1 => by simp [rngc, rngc_len (a + c) c n]
theorem rngc_get (c : Int) : ∀ (n : Nat) (a : Int) (i : Nat), i < n → (rngc a c n)[i]? = some (.int (a + i * c))
  | 0, _, _, h => absurd h (Nat.not_lt_zero _)
  | n + 1, a, 0, _ => by simp [rngc]
  | n + 1, a, i + 1, h => by
    simp only [rngc, List.getElem?_cons_succ]
    rw [rngc_get c n (a + c) i (by omega)]
    congr 2
    rw [Int.natCast_add, Int.add_mul]
    omega
theorem walk_rngc {a c : Int} {n : Nat} : Walks W (Itc a c n) (rngc a c n) (fun _ => True) where
  mono := fun _ _ _ h => h
  go := fun i G H h x hi => by
    rw [rngc_len] at hi
    exact hi
  stop := fun i G H h x hi => by
    rw [rngc_len] at hi
    exact hi
  yld := fun i G H v H' d h x hd y => by
    obtain ⟨rfl, rfl⟩ := y
    have hi : i < n := by
      have := (List.getElem?_eq_some_iff.mp hd).1
      rwa [rngc_len] at this
    rw [rngc_get c n a i hi] at hd
    cases hd
    exact ⟨G, Grow.refl x, by simp only [Rep]⟩
/-! dicts: their keys, their pairs -/
theorem repK_get {G : Hp} : ∀ {kvs : List (D × D)} {l : List (D × V)} {i : Nat} {p : D × D}, RepK W G kvs l → kvs[i]? = some p → ∃ v, l[i]? = some (p.1, v) ∧ Rep W G p.2 v
  | [], _, _, _, _, e => by simp at e
  | (a, b) :: kvs, _, 0, _, h, e => by
    simp only [RepK] at h
    obtain ⟨v, r, rfl, h1, _⟩ := h
    simp at e; subst e
    exact ⟨v, rfl, h1⟩
  | (a, b) :: kvs, _, i + 1, _, h, e => by
    simp only [RepK] at h
    obtain ⟨v, r, rfl, _, h2⟩ := h
    simpa using repK_get h2 (by simpa using e)
theorem rep_key {G : Hp} (k : Key) : Rep W G (keyD k) (kV k) := by
  cases k with
  | inl i => simp only [keyD, kV, Rep]
  | inr x =>
    simp only [keyD, kV, Rep]
theorem reps_keys {G : Hp} : ∀ ks : List Key, Reps W G (ks.map keyD) (ks.map kV)
  | [] => by simp only [List.map_nil, Reps]
  | k :: ks => by
    simp only [List.map_cons, Reps]
    exact ⟨_, _, rfl, rep_key k, reps_keys ks⟩
theorem walk_keysK {a : Addr} {o : Obj} {kvs : List (D × D)} {m : List (Key × V)} : Walks W (Itk a o m) (kvs.map (·.1)) (fun G => G a = some (.frz o (.dK m)) ∧ RepK W G kvs (m.map fun p => (keyD p.1, p.2))) where
  mono := fun G G' x h => ⟨x _ _ h.1, RepK.mono x _ _ h.2⟩
  go := fun i G H h x hi => ⟨x _ _ h.1, by have := repK_len h.2; rw [List.length_map] at this hi; omega⟩
  stop := fun i G H h x hi => ⟨x _ _ h.1, by have := repK_len h.2; rw [List.length_map] at this hi; omega⟩
  yld := fun i G H v H' d h x hd y => by
    obtain ⟨rfl, k, u, y1, rfl⟩ := y
    rw [List.getElem?_map, Option.map_eq_some_iff] at hd
    obtain ⟨p, hp, rfl⟩ := hd
    obtain ⟨w, h1, _⟩ := repK_get h.2 hp
    rw [List.getElem?_map, y1] at h1
    simp only [Option.map_some, Option.some.injEq, Prod.mk.injEq] at h1
    exact ⟨G, Grow.refl x, by rw [← h1.1]; exact rep_key k⟩
/-- a tuple that stands is let be -/
theorem Grow.tup {G H : Hp} {q : Addr} {vs : List V} (x : Ex G H) (h : H q = some (.tup vs)) : ∃ G', Grow G H G' H ∧ G' q = some (.tup vs) := by
  cases e : G q with
  | some u =>
    have := x q u e
    rw [h] at this
    cases this
    exact ⟨G, Grow.refl x, e⟩
  | none =>
    refine ⟨upd G q (.tup vs), ⟨Ex.new e, fun b u hb => ?_, Ex.refl H, fun b u hb mu g => ?_⟩, upd_same⟩
    · by_cases z : b = q
      · subst z; rw [upd_same] at hb; cases hb; exact h
      · rw [upd_ne z] at hb; exact x b u hb
    · by_cases z : b = q
      · subst z
        rw [h] at hb
        cases hb
        exact mu.elim
      · rw [upd_ne z]; exact g
theorem walk_keysT {a : Addr} {o : Obj} {kvs : List (D × D)} {m : List (List Key × V)} : Walks W (Itkt a o m) (kvs.map (·.1)) (fun G => G a = some (.frz o (.dT m)) ∧ RepK W G kvs (m.map fun p => (.tup (p.1.map keyD), p.2))) where
  mono := fun G G' x h => ⟨x _ _ h.1, RepK.mono x _ _ h.2⟩
  go := fun i G H h x hi => ⟨x _ _ h.1, by have := repK_len h.2; rw [List.length_map] at this hi; omega⟩
  stop := fun i G H h x hi => ⟨x _ _ h.1, by have := repK_len h.2; rw [List.length_map] at this hi; omega⟩
  yld := fun i G H v H' d h x hd y => by
    obtain ⟨rfl, k, u, q, y1, rfl, y2⟩ := y
    rw [List.getElem?_map, Option.map_eq_some_iff] at hd
    obtain ⟨p, hp, rfl⟩ := hd
    obtain ⟨w, h1, _⟩ := repK_get h.2 hp
    rw [List.getElem?_map, y1] at h1
    simp only [Option.map_some, Option.some.injEq, Prod.mk.injEq] at h1
    obtain ⟨G', g, hq⟩ := Grow.tup x y2
    refine ⟨G', g, ?_⟩
    rw [← h1.1]
    simp only [Rep]
    exact ⟨q, _, rfl, hq, reps_keys k⟩
theorem walk_itemsK {a : Addr} {o : Obj} {kvs : List (D × D)} {m : List (Key × V)} : Walks W (Iti a o m) (kvs.map fun p => .tup [p.1, p.2]) (fun G => G a = some (.frz o (.dK m)) ∧ RepK W G kvs (m.map fun p => (keyD p.1, p.2))) where
  mono := fun G G' x h => ⟨x _ _ h.1, RepK.mono x _ _ h.2⟩
  go := fun i G H h x hi => ⟨x _ _ h.1, by have := repK_len h.2; rw [List.length_map] at this hi; omega⟩
  stop := fun i G H h x hi => ⟨x _ _ h.1, by have := repK_len h.2; rw [List.length_map] at this hi; omega⟩
  yld := fun i G H v H' d h x hd y => by
    obtain ⟨T, k, u, y1, rfl, hT, rfl⟩ := y
    rw [List.getElem?_map, Option.map_eq_some_iff] at hd
    obtain ⟨p, hp, rfl⟩ := hd
    obtain ⟨w, h1, rw'⟩ := repK_get h.2 hp
    rw [List.getElem?_map, y1] at h1
    simp only [Option.map_some, Option.some.injEq, Prod.mk.injEq] at h1
    obtain ⟨e1, rfl⟩ := h1
    have gT := gnone x hT
    refine ⟨_, Grow.laidF x hT, ?_⟩
    simp only [Rep, Reps]
    exact ⟨T, _, rfl, upd_same, _, _, rfl, by rw [← e1]; exact rep_key k, _, _, rfl, Rep.mono (Ex.new gT) _ _ rw', rfl⟩
theorem walk_itemsT {a : Addr} {o : Obj} {kvs : List (D × D)} {m : List (List Key × V)} : Walks W (ItiT a o m) (kvs.map fun p => .tup [p.1, p.2]) (fun G => G a = some (.frz o (.dT m)) ∧ RepK W G kvs (m.map fun p => (.tup (p.1.map keyD), p.2))) where
  mono := fun G G' x h => ⟨x _ _ h.1, RepK.mono x _ _ h.2⟩
  go := fun i G H h x hi => ⟨x _ _ h.1, by have := repK_len h.2; rw [List.length_map] at this hi; omega⟩
  stop := fun i G H h x hi => ⟨x _ _ h.1, by have := repK_len h.2; rw [List.length_map] at this hi; omega⟩
  yld := fun i G H v H' d h x hd y => by
    obtain ⟨T, k, u, q, y1, rfl, hT, hq, rfl⟩ := y
    rw [List.getElem?_map, Option.map_eq_some_iff] at hd
    obtain ⟨p, hp, rfl⟩ := hd
    obtain ⟨w, h1, rw'⟩ := repK_get h.2 hp
    rw [List.getElem?_map, y1] at h1
    simp only [Option.map_some, Option.some.injEq, Prod.mk.injEq] at h1
    obtain ⟨e1, rfl⟩ := h1
    obtain ⟨G1, g1, hq1⟩ := Grow.tup x hq
    have gT := gnone g1.gh hT
    refine ⟨_, g1.trans (Grow.laidF g1.gh hT), ?_⟩
    rw [← e1]
    simp only [Rep, Reps]
    exact ⟨T, _, rfl, upd_same, _, _, rfl, ⟨q, _, rfl, (Ex.new gT) _ _ hq1, reps_keys k⟩, _, _, rfl, Rep.mono (Ex.new gT) _ _ (Rep.mono g1.gg _ _ rw'), rfl⟩
def WI (X : Cx) (tg iter : Expr) : TI := fun σ H R => ∀ (pins : List (Addr × Obj)) (s : Shared), Inv X pins σ H s →
    wpAny (model X.prog X.w) X.A (eval iter X.env) (fun v s1 => wpAny (model X.prog X.w) X.A (pyIter v) (PIE X pins σ tg R) X.xe s1) X.xe s
theorem piU {tg iter : Expr} : PI X tg iter (WI X tg iter) := ⟨fun pins s _ _ _ I h => h pins s I⟩
theorem of_pi {tg iter : Expr} {wi : TI} {σ : St} {H : Hp} {R : It → Hp → Prop} (p : PI X tg iter wi) (h : wi σ H R) : WI X tg iter σ H R := fun pins s I => p.run pins s σ H R I h
def ItR (W : Wd) (ds xs : List D) (R : It → Hp → Prop) (vs : List V) (H : Hp) : Prop :=
  ∃ G, Ex G H ∧ Reps W G ds vs ∧ ∀ J P, Walks W J xs P → P G → R J H
theorem rep1 {G : Hp} {ds : List D} {v : V} (h : Reps W G ds [v]) : ∃ d, ds = [d] ∧ Rep W G d v := by
  have l := reps_len h
  match ds, l, h with
  | [d], _, h =>
    simp only [Reps] at h
    obtain ⟨w, r, e, h1, rfl⟩ := h
    cases e
    exact ⟨d, rfl, h1⟩
theorem rep2 {G : Hp} {ds : List D} {v u : V} (h : Reps W G ds [v, u]) : ∃ d e, ds = [d, e] ∧ Rep W G d v ∧ Rep W G e u := by
  have l := reps_len h
  match ds, l, h with
  | [d, e], _, h =>
    simp only [Reps] at h
    obtain ⟨w, r, e1, h1, w2, r2, rfl, h2, rfl⟩ := h
    cases e1
    exact ⟨d, e, rfl, h1, h2⟩
theorem rep3 {G : Hp} {ds : List D} {v u w : V} (h : Reps W G ds [v, u, w]) : ∃ d e f, ds = [d, e, f] ∧ Rep W G d v ∧ Rep W G e u ∧ Rep W G f w := by
  have l := reps_len h
  match ds, l, h with
  | [d, e, f], _, h =>
    simp only [Reps] at h
    obtain ⟨w, r, e1, h1, w2, r2, rfl, h2, w3, r3, rfl, h3, rfl⟩ := h
    cases e1
    exact ⟨d, e, f, rfl, h1, h2, h3⟩
theorem okI_of {i : Int} (h : okI i = true) : -(2 ^ 62) ≤ i ∧ i < 2 ^ 62 := by
  unfold okI at h
  simpa using h
theorem boot_enum' : bootBuiltins "enumerate" = some (.type "enumerate") := by decide +kernel
theorem it_ok (cx : CxOk X W C T Wx) {k : ItK} {tg iter : Expr} {es : List Expr} {ds xs : List D} {σ : St} {H : Hp} {R : It → Hp → Prop} (hp : itParts X.env.scope k iter = some es) (ht : k = .enum ∨ k = .items → isTup tg = true) (hi : items k ds = some xs)
    (h : WQ X es σ H (fun vs H1 => ItR W ds xs R vs H1)) : WI X tg iter σ H R := by
  unfold itParts at hp
  split at hp
  · split at hp
    · cases hp
      rename_i hb
      rw [Bool.and_eq_true] at hb
      obtain ⟨rfl, hg⟩ := isBlt_eq hb.1
      refine of_pi (pi_range1 (glB_gl hg) (cx.blt _ (by decide)) (paU (by simp only [List.all_cons, hb.2]; rfl)) (by rw [star_each hb.2]; rfl)) ?_
      refine we_thn h fun v H1 q => ?_
      obtain ⟨G, gh, hr, k⟩ := q
      obtain ⟨d, rfl, hd⟩ := rep1 hr
      cases d <;> simp only [items, reduceCtorEq] at hi
      obtain ⟨c, rfl⟩ := small_some hi
      simp only [Rep] at hd
      subst hd
      exact ⟨_, rfl, (okI_of c).1, (okI_of c).2, k _ _ walk_rng True.intro⟩
    · cases hp
  · split at hp
    · cases hp
      rename_i hb
      rw [Bool.and_eq_true, Bool.and_eq_true] at hb
      obtain ⟨rfl, hg⟩ := isBlt_eq hb.1.1
      refine of_pi (pi_range2 (glB_gl hg) (cx.blt _ (by decide)) (paU (star2 hb.1.2 hb.2)) (by rw [star_each hb.1.2, star_each hb.2]; rfl) (by rw [star_each hb.2]; rfl)) ?_
      refine we_thn h fun v H1 q => we_thn q fun u H2 q => ?_
      obtain ⟨G, gh, hr, k⟩ := q
      obtain ⟨d, e, rfl, hd, he⟩ := rep2 hr
      cases d <;> cases e <;> simp only [items, reduceCtorEq] at hi
      obtain ⟨c, rfl⟩ := small_some hi
      rw [Bool.and_eq_true] at c
      simp only [Rep] at hd he
      subst hd he
      exact ⟨_, _, rfl, ⟨(okI_of c.1).1, (okI_of c.1).2, (okI_of c.2).1, (okI_of c.2).2⟩, k _ _ walk_rng True.intro⟩
    · cases hp
  · split at hp
    · cases hp
      rename_i hb
      rw [Bool.and_eq_true, Bool.and_eq_true, Bool.and_eq_true] at hb
      obtain ⟨rfl, hg⟩ := isBlt_eq hb.1.1.1
      refine of_pi (pi_range3 (glB_gl hg) (cx.blt _ (by decide)) (paU (by simp only [List.all_cons, hb.1.1.2, hb.1.2, hb.2]; rfl)) (star_each hb.1.1.2) (by rw [star_each hb.1.2, star_each hb.2]; rfl)) ?_
      refine we_thn h fun v H1 q => we_thn q fun u H2 q => we_thn q fun w H3 q => ?_
      obtain ⟨G, gh, hr, k⟩ := q
      obtain ⟨d, e, f, rfl, hd, he, hf⟩ := rep3 hr
      cases d <;> cases e <;> cases f <;> simp only [items, reduceCtorEq] at hi
      obtain ⟨c, rfl⟩ := small_some hi
      simp only [Bool.and_eq_true, decide_eq_true_eq] at c
      obtain ⟨⟨c1, c2⟩, rfl⟩ := c
      simp only [Rep] at hd he hf
      subst hd he hf
      exact ⟨_, _, _, _, rfl, RgC.neg (okI_of c1).1 (okI_of c1).2 (okI_of c2).1 (okI_of c2).2, k _ _ walk_rngc True.intro⟩
    · cases hp
  · split at hp
    · cases hp
      rename_i hb
      rw [Bool.and_eq_true] at hb
      obtain ⟨rfl, hg⟩ := isBlt_eq hb.1
      have ht := ht (.inl rfl)
      cases tg <;> simp only [isTup, reduceCtorEq, Bool.false_eq_true] at ht
      refine of_pi (pi_enG (glB_gl hg) (cx.blt _ (by decide)) (paU (by simp only [List.all_cons, hb.2]; rfl)) (by rw [star_each hb.2]; rfl)) ?_
      refine we_thn h fun v H1 q => ?_
      obtain ⟨G, gh, hr, k⟩ := q
      obtain ⟨d, rfl, hd⟩ := rep1 hr
      cases d <;> simp only [items, reduceCtorEq, Option.some.injEq] at hi
      · subst hi
        simp only [Rep] at hd
        subst hd
        exact .inr (.inr ⟨_, rfl, k _ _ walk_enS trivial⟩)
      · subst hi
        simp only [Rep] at hd
        obtain ⟨a, vs, rfl, h1, h2⟩ := hd
        exact .inr (.inl ⟨a, vs, rfl, .inl (.inl (gh _ _ h1)), k _ _ walk_enT ⟨h1, h2⟩⟩)
      · subst hi
        simp only [Rep] at hd
        obtain ⟨a, vs, rfl, h1, h2⟩ := hd
        exact .inl ⟨a, vs, rfl, .inl (.inl (gh _ _ h1)), k _ _ walk_enum ⟨h1, h2⟩⟩
      · subst hi
        simp only [Rep] at hd
        obtain ⟨a, o, vs, rfl, _, h1, h2⟩ := hd
        exact .inr (.inl ⟨a, vs, rfl, .inl (.inr ⟨o, gh _ _ h1⟩), k _ _ walk_enF ⟨h1, h2⟩⟩)
    · cases hp
  · split at hp
    · cases hp
      rename_i hb
      rw [Bool.and_eq_true] at hb
      have ht := ht (.inr rfl)
      cases tg <;> simp only [isTup, reduceCtorEq, Bool.false_eq_true] at ht
      unfold mthB at hb
      rw [Bool.and_eq_true, decide_eq_true_eq] at hb
      obtain ⟨⟨rfl, hl⟩, hsup⟩ := hb
      match ds, hi with
      | [.dct true kvs], hi =>
        simp only [items, Option.some.injEq] at hi
        subst hi
        refine of_pi (pi_itemsT peU (base_of hsup) hl) (we_thn h fun v H1 q => ?_)
        obtain ⟨G, gh, hr, k⟩ := q
        obtain ⟨d, e, hd⟩ := rep1 hr
        cases e
        simp only [Rep] at hd
        obtain ⟨a, o, u, l, rfl, h1, ⟨m, rfl, rfl⟩, h2⟩ := hd
        exact ⟨a, o, m, rfl, gh _ _ h1, k _ _ walk_itemsT ⟨h1, h2⟩⟩
      | [.dct false kvs], hi =>
        simp only [items, Option.some.injEq] at hi
        subst hi
        refine of_pi (pi_items peU (base_of hsup) hl) (we_thn h fun v H1 q => ?_)
        obtain ⟨G, gh, hr, k⟩ := q
        obtain ⟨d, e, hd⟩ := rep1 hr
        cases e
        simp only [Rep] at hd
        obtain ⟨a, o, u, l, rfl, h1, ⟨m, rfl, rfl⟩, h2⟩ := hd
        exact ⟨a, o, m, rfl, gh _ _ h1, k _ _ walk_itemsK ⟨h1, h2⟩⟩
    · cases hp
  · split at hp
    · cases hp
      match ds, hi with
      | [.lst zs], hi =>
        simp only [items, Option.some.injEq] at hi
        subst hi
        refine of_pi (pi_list peU) (we_thn h fun v H1 q => ?_)
        obtain ⟨G, gh, hr, k⟩ := q
        obtain ⟨d, e, hd⟩ := rep1 hr
        cases e
        simp only [Rep] at hd
        obtain ⟨a, vs, rfl, h1, h2⟩ := hd
        exact ⟨a, rfl, ⟨vs, .inl (.inl (gh _ _ h1))⟩, k _ _ walk_list ⟨h1, h2⟩⟩
      | [.tup zs], hi =>
        simp only [items, Option.some.injEq] at hi
        subst hi
        refine of_pi (pi_tup peU) (we_thn h fun v H1 q => ?_)
        obtain ⟨G, gh, hr, k⟩ := q
        obtain ⟨d, e, hd⟩ := rep1 hr
        cases e
        simp only [Rep] at hd
        obtain ⟨a, vs, rfl, h1, h2⟩ := hd
        exact ⟨a, rfl, ⟨vs, .inl (.inl (gh _ _ h1))⟩, k _ _ walk_tup ⟨h1, h2⟩⟩
      | [.ftp zs], hi =>
        simp only [items, Option.some.injEq] at hi
        subst hi
        refine of_pi (pi_tup peU) (we_thn h fun v H1 q => ?_)
        obtain ⟨G, gh, hr, k⟩ := q
        obtain ⟨d, e, hd⟩ := rep1 hr
        cases e
        simp only [Rep] at hd
        obtain ⟨a, o, vs, rfl, _, h1, h2⟩ := hd
        exact ⟨a, rfl, ⟨vs, .inl (.inr ⟨o, gh _ _ h1⟩)⟩, k _ _ walk_ftp ⟨h1, h2⟩⟩
      | [.dct false kvs], hi =>
        simp only [items, Option.some.injEq] at hi
        subst hi
        refine of_pi (pi_keys peU) (we_thn h fun v H1 q => ?_)
        obtain ⟨G, gh, hr, k⟩ := q
        obtain ⟨d, e, hd⟩ := rep1 hr
        cases e
        simp only [Rep] at hd
        obtain ⟨a, o, u, l, rfl, h1, ⟨m, rfl, rfl⟩, h2⟩ := hd
        exact ⟨a, o, rfl, .inl ⟨m, gh _ _ h1, k _ _ walk_keysK ⟨h1, h2⟩⟩⟩
      | [.dct true kvs], hi =>
        simp only [items, Option.some.injEq] at hi
        subst hi
        refine of_pi (pi_keys peU) (we_thn h fun v H1 q => ?_)
        obtain ⟨G, gh, hr, k⟩ := q
        obtain ⟨d, e, hd⟩ := rep1 hr
        cases e
        simp only [Rep] at hd
        obtain ⟨a, o, u, l, rfl, h1, ⟨m, rfl, rfl⟩, h2⟩ := hd
        exact ⟨a, o, rfl, .inr ⟨m, gh _ _ h1, k _ _ walk_keysT ⟨h1, h2⟩⟩⟩
      | [.str zs], hi =>
        simp only [items, Option.some.injEq] at hi
        subst hi
        refine of_pi (pi_str peU) (we_thn h fun v H1 q => ?_)
        obtain ⟨G, gh, hr, k⟩ := q
        obtain ⟨d, e, hd⟩ := rep1 hr
        cases e
        simp only [Rep] at hd
        exact ⟨_, hd, k _ _ walk_str True.intro⟩
    · cases hp
  · cases hp
end
end Itp
set_option Elab.async false
set_option linter.all false
set_option maxRecDepth 100000
set_option maxHeartbeats 4000000
namespace Itp
open PySem L2
section
variable {X : Cx} {W : Wd} {C : Cfg} {T : Tab} {Wx : WX}
/-! ### arguments -/
theorem args_at {W : Wd} {G : Hp} {σ : St} {env : Env} : ∀ {os : List Opd} {vs : List V} {as : List Arg}, OpdsV W G σ os vs → toArgs env os = some as →
    as.length = vs.length ∧ os.length = vs.length ∧ ∀ (p : Nat) (v : V), vs[p]? = some v → ∃ o a, os[p]? = some o ∧ as[p]? = some a ∧ OpdV W G σ o v ∧ toArg env o = some a
  | [], vs, as, h, e => by
    simp only [OpdsV] at h
    simp only [toArgs, Option.some.injEq] at e
    subst h e
    exact ⟨rfl, rfl, fun p v h => by simp at h⟩
  | o :: os, vs, as, h, e => by
    simp only [OpdsV] at h
    obtain ⟨v, r, rfl, h1, h2⟩ := h
    simp only [toArgs] at e
    cases q1 : toArg env o with
    | none => rw [q1] at e; simp at e
    | some x =>
      cases q2 : toArgs env os with
      | none => rw [q1, q2] at e; simp at e
      | some xs =>
        rw [q1, q2] at e
        simp only [Option.some.injEq] at e
        subst e
        obtain ⟨l1, l2, ih⟩ := args_at h2 q2
        refine ⟨by simp [l1], by simp [l2], fun p w hp => ?_⟩
        cases p with
        | zero => simp at hp; subst hp; exact ⟨o, x, rfl, rfl, h1, q1⟩
        | succ p => simpa using ih p w (by simpa using hp)
theorem nodup_pk {env : Env} : ∀ {os : List Opd} {p q i j : Nat}, nodup (muts env os) = true → os[p]? = some (.pk i) → os[q]? = some (.pk j) → p ≠ q → (slot env i).isMut = true → (slot env j).isMut = true → i ≠ j
  | [], p, _, _, _, _, h, _, _, _, _ => by simp at h
  | o :: os, p, q, i, j, nd, hp, hq, hpq, hi, hj => by
    have mem : ∀ {os : List Opd} {p i : Nat}, os[p]? = some (.pk i) → (slot env i).isMut = true → i ∈ muts env os := by
      intro os
      induction os with
      | nil => intro p i h; simp at h
      | cons o os ih =>
        intro p i h hi
        cases p with
        | zero =>
          simp at h
          subst h
          simp only [muts, if_pos hi]
          exact List.mem_cons_self
        | succ p =>
          have := ih (by simpa using h) hi
          cases o with
          | d x => simpa only [muts] using this
          | pk k =>
            simp only [muts]
            split
            · exact List.mem_cons_of_mem _ this
            · exact this
    have tl : nodup (muts env os) = true := by
      cases o with
      | d x => simpa only [muts] using nd
      | pk k =>
        simp only [muts] at nd
        split at nd
        · simp only [nodup, Bool.and_eq_true] at nd; exact nd.2
        · exact nd
    cases p with
    | zero =>
      cases q with
      | zero => exact absurd rfl hpq
      | succ q =>
        simp at hp
        subst hp
        simp only [muts, if_pos hi, nodup, Bool.and_eq_true, Bool.not_eq_true', List.contains_eq_mem, decide_eq_false_iff_not] at nd
        intro z
        subst z
        exact nd.1 (mem (by simpa using hq) hj)
    | succ p =>
      cases q with
      | zero =>
        simp at hq
        subst hq
        simp only [muts, if_pos hj, nodup, Bool.and_eq_true, Bool.not_eq_true', List.contains_eq_mem, decide_eq_false_iff_not] at nd
        intro z
        subst z
        exact nd.1 (mem (by simpa using hp) hi)
      | succ q => exact nodup_pk tl (by simpa using hp) (by simpa using hq) (by omega) hi hj
theorem slot_arg {as : List Arg} {p : Nat} : slot (as.map argSlot) p = match as[p]? with
    | some a => argSlot a
    | none => .un := by
  unfold slot
  rw [List.getD_eq_getElem?_getD, List.getElem?_map]
  cases as[p]? <;> rfl
theorem toArg_pk {env : Env} {o : Opd} {d : D} (h : toArg env o = some (.lent d)) : ∃ i, o = .pk i ∧ (slot env i).isMut = true ∧ (slot env i).d? = some d := by
  cases o with
  | d x => simp [toArg] at h
  | pk i =>
    simp only [toArg] at h
    refine ⟨i, rfl, ?_⟩
    cases q : slot env i <;> rw [q] at h <;> simp at h <;> subst h <;> exact ⟨rfl, rfl⟩
theorem arg_mut {as : List Arg} {p : Nat} (h : (slot (as.map argSlot) p).isMut = true) : ∃ d, as[p]? = some (.lent d) := by
  rw [slot_arg] at h
  cases q : as[p]? with
  | none => rw [q] at h; cases h
  | some a =>
    rw [q] at h
    cases a with
    | val d => cases h
    | lent d => exact ⟨d, rfl⟩
theorem args_ok {G H : Hp} {σ : St} {env : Env} {os : List Opd} {vs : List V} {as : List Arg} (s : StOk W G H σ env) (h : OpdsV W G σ os vs) (e : toArgs env os = some as) (nd : nodup (muts env os) = true) :
    StOk W G H (vs.map some) (as.map argSlot) ∧ ∀ a, OwnA (vs.map some) (as.map argSlot) a → OwnA σ env a := by
  obtain ⟨l1, l2, at'⟩ := args_at h e
  have vat : ∀ (p : Nat) (w : V), (vs.map some)[p]? = some (some w) → vs[p]? = some w := fun p w q => by
    rw [List.getElem?_map] at q
    cases z : vs[p]? with
    | none => rw [z] at q; simp at q
    | some y => rw [z] at q; simp at q; rw [q]
  have main : ∀ (p : Nat) (d : D), as[p]? = some (Arg.lent d) → ∃ (i : Nat) (a : Addr), os[p]? = some (.pk i) ∧ (slot env i).isMut = true ∧ σ[i]? = some (some (.ref a)) ∧ vs[p]? = some (.ref a) ∧ G a = none ∧ Cont W G H a d := fun p d hp => by
    have hlt : p < vs.length := by rw [← l1]; exact (List.getElem?_eq_some_iff.mp hp).1
    obtain ⟨o, a, q1, q2, q3, q4⟩ := at' p vs[p] (List.getElem?_eq_getElem hlt)
    rw [hp] at q2
    cases q2
    obtain ⟨i, rfl, m1, m2⟩ := toArg_pk q4
    obtain ⟨d', a, z1, z2, z3, z4⟩ := s.mut m1
    rw [m2] at z1
    cases z1
    have q3 : σ[i]? = some (some vs[p]) := q3
    have q5 : vs[p] = .ref a := by rw [q3] at z2; simpa using z2
    exact ⟨i, a, q1, m1, z2, by rw [List.getElem?_eq_getElem hlt, q5], z3, z4⟩
  refine ⟨⟨s.gh, by simp [l1], fun p => ?_, fun p q a hpq hp hq h1 h2 => ?_⟩, fun a ⟨p, hp, h1⟩ => ?_⟩
  · rw [slot_arg]
    cases z : as[p]? with
    | none => trivial
    | some arg =>
      have hlt : p < vs.length := by rw [← l1]; exact (List.getElem?_eq_some_iff.mp z).1
      cases arg with
      | val d =>
        obtain ⟨o, a, q1, q2, q3, q4⟩ := at' p vs[p] (List.getElem?_eq_getElem hlt)
        rw [z] at q2
        cases q2
        refine ⟨vs[p], by rw [List.getElem?_map, List.getElem?_eq_getElem hlt]; rfl, ?_⟩
        cases o with
        | d x => simp only [toArg, Option.some.injEq, Arg.val.injEq] at q4; subst q4; exact q3
        | pk i =>
          simp only [toArg] at q4
          have q := s.sl i
          have q3 : σ[i]? = some (some vs[p]) := q3
          cases w : slot env i <;> rw [w] at q4 q <;> simp at q4
          subst q4
          obtain ⟨v', e1, e2⟩ := q
          rw [q3] at e1
          cases e1
          exact e2
      | lent d =>
        obtain ⟨i, a, _, _, _, q4, q5, q6⟩ := main p d z
        exact ⟨a, by rw [List.getElem?_map, q4]; rfl, q5, q6⟩
  · obtain ⟨d, hd⟩ := arg_mut hp
    obtain ⟨d', hd'⟩ := arg_mut hq
    obtain ⟨i, a1, o1, m1, s1, v1, _⟩ := main p d hd
    obtain ⟨j, a2, o2, m2, s2, v2, _⟩ := main q d' hd'
    have w1 := vat p _ h1
    have w2 := vat q _ h2
    rw [v1] at w1
    rw [v2] at w2
    cases w1
    cases w2
    exact s.inj i j _ (nodup_pk nd o1 o2 hpq m1 m2) m1 m2 s1 s2
  · obtain ⟨d, hd⟩ := arg_mut hp
    obtain ⟨i, a1, o1, m1, s1, v1, _⟩ := main p d hd
    have w1 := vat p _ h1
    rw [v1] at w1
    cases w1
    exact ⟨i, m1, s1⟩
theorem put_mut {s : Slot} {d : D} (h : s.isMut = true) : (s.put d).isMut = true ∧ (s.put d).d? = some d ∧ (s.put d).isPar = s.isPar := by
  cases s with
  | un => cases h
  | val _ => cases h
  | own _ => exact ⟨rfl, rfl, rfl⟩
  | par _ => exact ⟨rfl, rfl, rfl⟩
theorem slotOk_mut {G H : Hp} {σ : St} {i : Nat} {s : Slot} {a : Addr} {d : D} (h : s.isMut = true) (hd : s.d? = some d) (h1 : σ[i]? = some (some (.ref a))) (h2 : G a = none) (h3 : Cont W G H a d) : SlotOk W G H σ i s := by
  cases s with
  | un => cases h
  | val _ => cases h
  | own _ => simp [Slot.d?] at hd; subst hd; exact ⟨a, h1, h2, h3⟩
  | par _ => simp [Slot.d?] at hd; subst hd; exact ⟨a, h1, h2, h3⟩
/-- what a callee has made of the things it was lent -/
theorem putBack_ok {G H : Hp} {σ : St} {env0 : Env} : ∀ (os : List Opd) (vs : List V) (as : List Arg) (fin : List D) (env env2 : Env), (∃ G0, OpdsV W G0 σ os vs) → toArgs env0 os = some as → OkFins W G H vs as fin → putBack env (muts env0 os) fin = some env2 → nodup (muts env0 os) = true →
    (∀ i, i ∈ muts env0 os → slot env i = slot env0 i) → (∀ i, i ∈ muts env0 os → i < env.length) → (∀ i, i ∉ muts env0 os → SlotOk W G H σ i (slot env i)) →
    (∀ i, SlotOk W G H σ i (slot env2 i)) ∧ env2.length = env.length ∧ (∀ i, (slot env2 i).isMut = (slot env i).isMut ∧ (slot env2 i).isPar = (slot env i).isPar)
  | [], vs, as, fin, env, env2, h, e, hf, hb, nd, hs, hl, hk => by
    simp only [muts] at hb
    cases fin <;> simp only [putBack, reduceCtorEq, Option.some.injEq] at hb
    subst hb
    exact ⟨fun i => hk i (by simp [muts]), rfl, fun i => ⟨rfl, rfl⟩⟩
  | o :: os, vs, as, fin, env, env2, ⟨G0, h⟩, e, hf, hb, nd, hs, hl, hk => by
    simp only [OpdsV] at h
    obtain ⟨v, r, rfl, h1, h2⟩ := h
    simp only [toArgs] at e
    cases q1 : toArg env0 o with
    | none => rw [q1] at e; simp at e
    | some x =>
      cases q2 : toArgs env0 os with
      | none => rw [q1, q2] at e; simp at e
      | some xs =>
        rw [q1, q2] at e
        simp only [Option.some.injEq] at e
        subst e
        cases x with
        | val d =>
          have hm : muts env0 (o :: os) = muts env0 os := by
            cases o with
            | d y => rfl
            | pk i =>
              simp only [toArg] at q1
              simp only [muts]
              cases w : slot env0 i <;> rw [w] at q1 <;> simp at q1
              rfl
          rw [hm] at hb nd hs hl hk
          exact putBack_ok os r xs fin env env2 ⟨G0, h2⟩ q2 (by simpa only [OkFins] using hf) hb nd hs hl hk
        | lent d =>
          obtain ⟨i, rfl, m1, m2⟩ := toArg_pk q1
          have hm : muts env0 (.pk i :: os) = i :: muts env0 os := by simp only [muts, if_pos m1]
          rw [hm] at hb nd hs hl hk
          simp only [OkFins] at hf
          obtain ⟨d', rest, a, rfl, rfl, g1, c1, hf⟩ := hf
          simp only [putBack] at hb
          simp only [nodup, Bool.and_eq_true, Bool.not_eq_true', List.contains_eq_mem, decide_eq_false_iff_not] at nd
          have hi : i < env.length := hl i List.mem_cons_self
          have hsi : slot env i = slot env0 i := hs i List.mem_cons_self
          have mi : (slot env i).isMut = true := by rw [hsi]; exact m1
          have ih := putBack_ok os r xs rest (env.set i ((slot env i).put d')) env2 ⟨G0, h2⟩ q2 hf hb nd.2 (fun j hj => by
            rw [slot_set, if_neg fun z => nd.1 (by rw [z]; exact hj)]
            exact hs j (List.mem_cons_of_mem _ hj)) (fun j hj => by
            rw [List.length_set]
            exact hl j (List.mem_cons_of_mem _ hj)) fun j hj => by
              rw [slot_set]
              by_cases z : i = j
              · subst z
                rw [if_pos rfl, if_pos hi]
                have pm := put_mut (d := d') mi
                exact slotOk_mut pm.1 pm.2.1 h1 g1 c1
              · rw [if_neg z]
                refine hk j fun hm => ?_
                rcases List.mem_cons.mp hm with hm | hm
                · exact z hm.symm
                · exact hj hm
          refine ⟨ih.1, by rw [ih.2.1, List.length_set], fun j => ?_⟩
          rw [(ih.2.2 j).1, (ih.2.2 j).2, slot_set]
          by_cases z : i = j
          · subst z
            rw [if_pos rfl, if_pos hi]
            have pm := put_mut (d := d') mi
            exact ⟨pm.1.trans mi.symm, pm.2.2⟩
          · rw [if_neg z]
            exact ⟨rfl, rfl⟩
theorem muts_mem {env : Env} : ∀ {os : List Opd} {i : Nat}, i ∈ muts env os → (slot env i).isMut = true ∧ ∃ p : Nat, os[p]? = some (.pk i)
  | [], i, h => by simp [muts] at h
  | .d x :: os, i, h => by
    obtain ⟨h1, p, h2⟩ := muts_mem (os := os) (i := i) h
    exact ⟨h1, p + 1, by simpa using h2⟩
  | .pk k :: os, i, h => by
    simp only [muts] at h
    split at h
    · rename_i hk
      rcases List.mem_cons.mp h with rfl | h
      · exact ⟨hk, 0, rfl⟩
      · obtain ⟨h1, p, h2⟩ := muts_mem h
        exact ⟨h1, p + 1, by simpa using h2⟩
    · obtain ⟨h1, p, h2⟩ := muts_mem h
      exact ⟨h1, p + 1, by simpa using h2⟩
theorem muts_of {env : Env} {i : Nat} : ∀ {os : List Opd} {p : Nat}, os[p]? = some (.pk i) → (slot env i).isMut = true → i ∈ muts env os
  | [], _, h, _ => by simp at h
  | o :: os, 0, h, mi => by simp at h; subst h; simp only [muts, if_pos mi]; exact List.mem_cons_self
  | o :: os, p + 1, h, mi => by
    have := muts_of (os := os) (p := p) (by simpa using h) mi
    cases o with
    | d x => simpa only [muts] using this
    | pk k =>
      simp only [muts]
      split
      · exact List.mem_cons_of_mem _ this
      · exact this
theorem slot_lt {e : Env} {i : Nat} (h : (slot e i).isMut = true) : i < e.length := by
  unfold slot at h
  by_cases hi : i < e.length
  · exact hi
  · rw [List.getD_eq_getElem?_getD, List.getElem?_eq_none (by omega)] at h
    cases h
/-- behind a call -/
theorem after_call {G H G' H' : Hp} {σ : St} {env env2 : Env} {os : List Opd} {vs : List V} {as : List Arg} {fin : List D} (s : StOk W G H σ env) (h : OpdsV W G σ os vs) (e : toArgs env os = some as) (nd : nodup (muts env os) = true)
    (k : Keep (OwnA (vs.map some) (as.map argSlot)) G H (OwnA (vs.map some) (as.map argSlot)) G' H') (hf : OkFins W G' H' vs as fin) (hb : putBack env (muts env os) fin = some env2) :
    Keep (OwnA σ env) G H (OwnA σ env2) G' H' ∧ StOk W G' H' σ env2 ∧ (∀ a, OwnA σ env2 a ↔ OwnA σ env a) ∧ ParK σ env σ env2 := by
  obtain ⟨sa, sub⟩ := args_ok s h e nd
  have hk : ∀ i, i ∉ muts env os → SlotOk W G' H' σ i (slot env i) := fun i hi => by
    have q := s.sl i
    cases w : slot env i with
    | un => trivial
    | val d => rw [w] at q; obtain ⟨v, q1, q2⟩ := q; exact ⟨v, q1, Rep.mono k.gg _ _ q2⟩
    | _ =>
      have mi : (slot env i).isMut = true := by rw [w]; rfl
      obtain ⟨d, a, z1, z2, z3, z4⟩ := s.mut mi
      have na : ¬ OwnA (vs.map some) (as.map argSlot) a := fun ho => by
        obtain ⟨p, hp, h1⟩ := ho
        obtain ⟨d', hd'⟩ := arg_mut hp
        obtain ⟨l1, l2, at'⟩ := args_at h e
        have hlt : p < vs.length := by rw [← l1]; exact (List.getElem?_eq_some_iff.mp hd').1
        obtain ⟨o, a', q1, q2, q3, q4⟩ := at' p vs[p] (List.getElem?_eq_getElem hlt)
        rw [hd'] at q2
        cases q2
        obtain ⟨j, rfl, m1, m2⟩ := toArg_pk q4
        have q3 : σ[j]? = some (some vs[p]) := q3
        have q5 : vs[p] = .ref a := by
          rw [List.getElem?_map, List.getElem?_eq_getElem hlt] at h1
          simpa using h1
        rw [q5] at q3
        have hij : i = j := by
          by_cases z : i = j
          · exact z
          · exact absurd q3 (s.inj i j a z mi m1 z2)
        subst hij
        exact hi (muts_of q1 mi)
      obtain ⟨o, ho, mu⟩ := z4.mu
      rw [← w]
      exact slotOk_mut mi z1 z2 (k.hg a o ho mu na z3) (z4.mono k.gg fun u hu => k.hh a u hu na)
  obtain ⟨p1, p2, p3⟩ := putBack_ok os vs as fin env env2 ⟨G, h⟩ e hf hb nd (fun i _ => rfl) (fun i hi => slot_lt (muts_mem hi).1) hk
  have own : ∀ a, OwnA σ env2 a ↔ OwnA σ env a := fun a => ⟨fun ⟨i, h1, h2⟩ => ⟨i, by rw [← (p3 i).1]; exact h1, h2⟩, fun ⟨i, h1, h2⟩ => ⟨i, by rw [(p3 i).1]; exact h1, h2⟩⟩
  refine ⟨⟨k.gg, k.gh, fun a o h1 h2 => k.hh a o h1 fun z => h2 (sub a z), fun a o h1 mu h2 h3 => k.hg a o h1 mu (fun z => h2 (sub a z)) h3, fun a h1 => .inl ((own a).mp h1)⟩, ⟨k.gh, by rw [p2]; exact s.len, p1, fun i j a hij h1 h2 => ?_⟩, own, fun i hi => ⟨by rw [← (p3 i).2]; exact hi, rfl⟩⟩
  rw [(p3 i).1] at h1
  rw [(p3 j).1] at h2
  exact s.inj i j a hij h1 h2
end
end Itp
set_option Elab.async false
set_option linter.all false
set_option maxRecDepth 100000
set_option maxHeartbeats 4000000
namespace Itp
open PySem L2
section
variable {X : Cx} {W : Wd} {C : Cfg} {T : Tab} {Wx : WX}
/-! ### from results to data, to truth -/
theorem we_lock {e : Expr} {σ : St} {H : Hp} {Q Q' : VK} (h : WE X e σ H Q) (f : ∀ v H1, Q v H1 → Lk H1 (Q' v)) : WE X e σ H Q' := fun pins s I => thn (h pins s I) fun v s1 ⟨x, H1, I1, r1, q1⟩ => by
  rcases f x H1 q1 with q | ⟨a, u, ha, mu, q⟩
  · exact ⟨x, H1, I1, r1, q⟩
  · obtain ⟨od, I2⟩ := I1.lock ha mu
    exact ⟨x, _, I2, r1, q od⟩
theorem Lk.mono {H : Hp} {P P' : Hp → Prop} (h : Lk H P) (f : ∀ H, P H → P' H) : Lk H P' := by
  rcases h with h | ⟨a, u, h1, h2, h3⟩
  · exact .inl (f _ h)
  · exact .inr ⟨a, u, h1, h2, fun od => f _ (h3 od)⟩
theorem good_fz {e : Expr} {m : M Res} (g : GoodE X W Wx e m) {env : Env} {σ : St} {G H : Hp} {Q : VK} (s : StOk W G H σ env) (h : Aft W (DOk W) σ (OwnA σ env) G H Q Wx (fz m env)) : WE X e σ H Q := by
  refine we_lock (Q := fun v H1 => Lk H1 (Q v)) (g env σ G H _ s ?_) fun v H1 q => q
  unfold fz at h
  cases q : m env with
  | no => rw [q] at h; exact h
  | ex x e' => rw [q] at h; exact h
  | ok r e' =>
    rw [q] at h
    intro v G' H' k s' r'
    refine (freeze k s' r').mono fun H'' ⟨G'', k2, s2, r2⟩ => ?_
    exact h v G'' H'' k2 s2 r2
theorem aft_asB {m : M Res} {env : Env} {σ : St} {S : Addr → Prop} {G H : Hp} {Q : Bool → Hp → Prop} (h : Aft W BOk σ S G H Q Wx (asB m env)) : Aft W (ResOk W) σ S G H (fun v H1 => ∃ b, v = .bl b ∧ Q b H1) Wx (m env) := by
  unfold asB at h
  cases q : m env with
  | no => rw [q] at h; exact h
  | ex x e' => rw [q] at h; exact h
  | ok r e' =>
    rw [q] at h
    intro v G' H' k s' r'
    match r, h, r' with
    | .val (.bl b), h, r' =>
      have r' : Rep W G' (.bl b) v := r'
      simp only [Rep] at r'
      exact ⟨b, r', h b G' H' k s' rfl⟩
theorem good_B {e : Expr} {m : M Res} (g : GoodE X W Wx e m) {env : Env} {σ : St} {G H : Hp} {Q : Bool → Hp → Prop} (s : StOk W G H σ env) (h : Aft W BOk σ (OwnA σ env) G H Q Wx (asB m env)) : WE X e σ H fun v H1 => ∃ b, v = .bl b ∧ Q b H1 :=
  g env σ G H _ s (aft_asB h)
def GoodB (X : Cx) (W : Wd) (Wx : WX) (e : Expr) (m : M Bool) : Prop := ∀ (env : Env) (σ : St) (G H : Hp) (Q : Bool → Hp → Prop), StOk W G H σ env → Aft W BOk σ (OwnA σ env) G H Q Wx (m env) → WT X e σ H Q
def GoodL (X : Cx) (W : Wd) (Wx : WX) (es : List Expr) (m : M (List Opd)) : Prop := ∀ (env : Env) (σ : St) (G H : Hp) (Q : List V → Hp → Prop), StOk W G H σ env → Aft W (LOk W σ) σ (OwnA σ env) G H Q Wx (m env) → WQ X es σ H Q
/-- from an outcome to the next -/
theorem aft_bind {α β α' β' : Type} {R : (Addr → Prop) → Hp → (Addr → Prop) → Hp → Hp → α → β → Prop} {R' : (Addr → Prop) → Hp → (Addr → Prop) → Hp → Hp → α' → β' → Prop} (B : Bears R') {σ : St} {S : Addr → Prop} {G H : Hp} {Q : β → Hp → Prop} {Q' : β' → Hp → Prop} {o : Rs α} {f : α → Env → Rs α'}
    (h : Aft W R' σ S G H Q' Wx (o.bind f)) (k : ∀ a e1 v G1 H1, o = .ok a e1 → Keep S G H (OwnA σ e1) G1 H1 → StOk W G1 H1 σ e1 → R S H (OwnA σ e1) G1 H1 a v → Aft W R' σ (OwnA σ e1) G1 H1 Q' Wx (f a e1) → Q v H1) : Aft W R σ S G H Q Wx o := by
  cases o with
  | no => exact h
  | ex x e' => exact h
  | ok a e1 => exact fun v G1 H1 k1 s1 r1 => k a e1 v G1 H1 rfl k1 s1 r1 (Aft.step B k1 h)
/-- a slot of one's own is let be -/
theorem freeze_slot1 {G H H' : Hp} {σ : St} {env : Env} {i : Nat} {d : D} {a : Addr} {o : HO} {ob : Obj} (s : StOk W G H σ env) (hs : slot env i = .own d) (q1 : σ[i]? = some (some (.ref a))) (q2 : G a = none) (q3 : Cont W G H a d) (ho : H a = some o) (ha : H' a = some (lockO d ob o)) (hb : ∀ b, b ≠ a → H' b = H b) :
    ∃ G', Keep (OwnA σ env) G H (OwnA σ (env.set i (.val d))) G' H' ∧ StOk W G' H' σ (env.set i (.val d)) ∧ Rep W G' d (.ref a) := by
  have x : Ex G (upd G a (lockO d ob o)) := Ex.new q2
  have y : Ex (upd G a (lockO d ob o)) H' := fun b u h => by
    by_cases e : b = a
    · subst e; rw [upd_same] at h; cases h; exact ha
    · rw [upd_ne e] at h; rw [hb b e]; exact s.gh b u h
  have hm : (slot env i).isMut = true := by rw [hs]; rfl
  have hi : i < env.length := slot_lt hm
  have sub : ∀ b, OwnA σ (env.set i (.val d)) b → OwnA σ env b ∧ b ≠ a := fun b ⟨j, h1, h2⟩ => by
    rw [slot_set] at h1
    by_cases z : i = j
    · subst z
      rw [if_pos rfl, if_pos hi] at h1
      cases h1
    · rw [if_neg z] at h1
      exact ⟨⟨j, h1, h2⟩, fun e => by subst e; exact s.inj i j b z hm h1 q1 h2⟩
  have rp : Rep W (upd G a (lockO d ob o)) d (.ref a) := (q3.mono x fun _ h => h).rep (o := ob) fun u hu => by
    rw [upd_same]
    rw [ho] at hu
    cases hu
    rfl
  have nS : ∀ b, ¬ OwnA σ env b → b ≠ a := fun b h2 e => h2 (by subst e; exact ⟨i, hm, q1⟩)
  refine ⟨upd G a (lockO d ob o), ⟨x, y, fun b u h n => by rw [hb b (nS b n)]; exact h, fun b u h1 mu h2 h3 => ?_, fun b hb => .inl (sub b hb).1⟩, ⟨y, by rw [List.length_set]; exact s.len, fun j => ?_, fun j k b hjk hj hk h1 => ?_⟩, rp⟩
  · rw [upd_ne (nS b h2)]
    exact h3
  · rw [slot_set]
    by_cases z : i = j
    · subst z
      rw [if_pos rfl, if_pos hi]
      exact ⟨.ref a, q1, rp⟩
    · rw [if_neg z]
      have q := s.sl j
      cases w : slot env j with
      | un => trivial
      | val d' => rw [w] at q; obtain ⟨v, e1, e2⟩ := q; exact ⟨v, e1, Rep.mono x _ _ e2⟩
      | _ =>
        have mj : (slot env j).isMut = true := by rw [w]; rfl
        obtain ⟨d', b, z1, z2, z3, z4⟩ := s.mut mj
        have nb : b ≠ a := fun e => by subst e; exact s.inj i j b z hm mj q1 z2
        rw [← w]
        exact slotOk_mut mj z1 z2 (by rw [upd_ne nb]; exact z3) (z4.mono x fun u h => by rw [hb b nb]; exact h)
  · rw [slot_set] at hj hk
    by_cases z : i = j
    · subst z
      rw [if_pos rfl, if_pos hi] at hj
      cases hj
    · by_cases z' : i = k
      · subst z'
        rw [if_pos rfl, if_pos hi] at hk
        cases hk
      · rw [if_neg z] at hj
        rw [if_neg z'] at hk
        exact s.inj j k b hjk hj hk h1
theorem freeze_slot {G H : Hp} {σ : St} {env : Env} {i : Nat} {d : D} (s : StOk W G H σ env) (hs : slot env i = .own d) :
    ∃ a, σ[i]? = some (some (.ref a)) ∧ Lk H fun H' => ∃ G', Keep (OwnA σ env) G H (OwnA σ (env.set i (.val d))) G' H' ∧ StOk W G' H' σ (env.set i (.val d)) ∧ Rep W G' d (.ref a) := by
  have q := s.sl i
  rw [hs] at q
  obtain ⟨a, q1, q2, q3⟩ := q
  obtain ⟨o, ho⟩ := q3.some
  refine ⟨a, q1, ?_⟩
  cases hd : isDct d with
  | false => exact .inl (freeze_slot1 (ob := ⟨.none, none, .fields #[], #[]⟩) s hs q1 q2 q3 ho (by rw [lock_no hd]; exact ho) fun _ _ => rfl)
  | true => exact .inr ⟨a, o, ho, q3.mut ho (dct_of hd), fun od => freeze_slot1 (ob := od) s hs q1 q2 q3 ho (by rw [lock_yes hd]; exact upd_same) fun b hb => upd_ne hb⟩
theorem isVar_ok {i : Nat} {x : Str} {pos : Pos} {σ : St} {H : Hp} {Q : VK} {v : V} (h : isVar X.N X.env.scope i x = true) (hv : σ[i]? = some (some v)) (q : Q v H) : WE X (.Name x pos) σ H Q := by
  unfold isVar at h
  simp only [Bool.and_eq_true, decide_eq_true_eq, Bool.not_eq_true'] at h
  exact of_pe (pe_var h.1.1.1 (visB_vis h.1.1.2) h.1.2 h.2) ⟨v, hv, q⟩
theorem var_ok {i : Nat} {x : Str} {pos : Pos} (h : isVar X.N X.env.scope i x = true) : GoodE X W Wx (.Name x pos) (rdVar i) := by
  intro env σ G H Q s a
  unfold rdVar at a
  cases w : slot env i with
  | un => rw [w] at a; exact a.elim
  | par d => rw [w] at a; exact a.elim
  | val d =>
    rw [w] at a
    have q := s.sl i
    rw [w] at q
    obtain ⟨v, q1, q2⟩ := q
    exact isVar_ok h q1 (a v G H (Keep.refl s.gh) s q2)
  | own d =>
    rw [w] at a
    obtain ⟨b, q1, lk⟩ := freeze_slot s w
    refine we_lock (Q := fun v H1 => v = .ref b ∧ H1 = H) (isVar_ok h q1 ⟨rfl, rfl⟩) fun v H1 ⟨e1, e2⟩ => ?_
    subst e1 e2
    exact lk.mono fun H' ⟨G', k, s', r⟩ => a _ G' H' k s' r
theorem cst_ok {d : D} {c : Const} {k : Nat} {pos : Pos} (h : cstIs d c = true) : GoodE X W Wx (.Constant c k pos) (fun e => .ok (.val d) e) := by
  intro env σ G H Q s a
  have go : ∀ v, Rep W G d v → Q v H := fun v r => a v G H (Keep.refl s.gh) s r
  cases d <;> cases c <;> simp only [cstIs, reduceCtorEq, Bool.false_eq_true] at h
  · exact of_pe pe_non (go _ (by simp only [Rep]))
  · simp only [beq_iff_eq] at h
    subst h
    exact of_pe pe_bl (go _ (by simp only [Rep]))
  · simp only [beq_iff_eq] at h
    subst h
    exact of_pe pe_int (go _ (by simp only [Rep]))
  · rw [decide_eq_true_eq] at h
    subst h
    exact of_pe pe_str (go _ (by simp only [Rep]))
mutual
theorem beq_eq : ∀ (a b : D), D.beq a b = true → a = b
  | .non, b, h => by cases b <;> simp [D.beq] at h; rfl
  | .bl _, b, h => by cases b <;> simp [D.beq] at h; rw [h]
  | .int _, b, h => by cases b <;> simp [D.beq] at h; rw [h]
  | .str _, b, h => by cases b <;> simp [D.beq] at h; rw [h]
  | .tup xs, b, h => by cases b <;> simp only [D.beq, reduceCtorEq, Bool.false_eq_true] at h; rw [beqs_eq _ _ h]
  | .lst xs, b, h => by cases b <;> simp only [D.beq, reduceCtorEq, Bool.false_eq_true] at h; rw [beqs_eq _ _ h]
  | .dct t xs, b, h => by cases b <;> simp only [D.beq, reduceCtorEq, Bool.false_eq_true, Bool.and_eq_true, beq_iff_eq] at h; rw [h.1, beqk_eq _ _ h.2]
  | .fn _, b, h => by cases b <;> simp [D.beq] at h; rw [h]
  | .scr _, b, h => by cases b <;> simp [D.beq] at h
  | .ftp _, b, h => by cases b <;> simp [D.beq] at h
theorem beqs_eq : ∀ (a b : List D), D.beqs a b = true → a = b
  | [], b, h => by cases b <;> simp [D.beqs] at h; rfl
  | x :: xs, b, h => by
    cases b <;> simp only [D.beqs, Bool.and_eq_true, Bool.false_eq_true] at h
    rw [beq_eq _ _ h.1, beqs_eq _ _ h.2]
theorem beqk_eq : ∀ (a b : List (D × D)), D.beqk a b = true → a = b
  | [], b, h => by cases b <;> simp [D.beqk] at h; rfl
  | (x, y) :: xs, b, h => by
    cases b with
    | nil => simp [D.beqk] at h
    | cons p ps =>
      obtain ⟨p1, p2⟩ := p
      simp only [D.beqk, Bool.and_eq_true] at h
      rw [beq_eq _ _ h.1.1, beq_eq _ _ h.1.2, beqk_eq _ _ h.2]
end
theorem glb_ok (cx : CxOk X W C T Wx) {x y : Str} {d : D} {pos : Pos} (h : chk T X.N X.env.scope (.glb y d) (.Name x pos) = true) : GoodE X W Wx (.Name x pos) (fun e => .ok (.val d) e) := by
  intro env σ G H Q s a
  simp only [chk, Bool.and_eq_true, decide_eq_true_eq, Bool.not_eq_true'] at h
  obtain ⟨⟨⟨h1, h2⟩, h3⟩, h4⟩ := h
  split at h4
  · rename_i d' hd
    rw [Bool.and_eq_true] at h4
    have := beq_eq _ _ h4.1
    subst this
    obtain ⟨u, v, m1, m2, m3⟩ := cx.cst x d hd
    exact of_pe (pe_glob (glB_gl h2) m1 m2 h3) (a v G H (Keep.refl s.gh) s (m3 G h4.2))
  · cases h4
theorem opd_fz {G H : Hp} {σ : St} {env : Env} (s : StOk W G H σ env) : ∀ {os : List Opd} {vs : List V} {ds : List D}, OpdsV W G σ os vs → opds env os = some ds → (muts env os).isEmpty = true → Reps W G ds vs
  | [], _, ds, h, e, _ => by
    simp only [OpdsV] at h
    simp only [opds, Option.some.injEq] at e
    subst e h
    simp only [Reps]
  | o :: os, _, ds, h, e, m => by
    simp only [OpdsV] at h
    obtain ⟨v, r, rfl, h1, h2⟩ := h
    simp only [opds] at e
    cases q1 : opd env o with
    | none => rw [q1] at e; simp at e
    | some x =>
      cases q2 : opds env os with
      | none => rw [q1, q2] at e; simp at e
      | some xs =>
        rw [q1, q2] at e
        simp only [Option.some.injEq] at e
        subst e
        simp only [Reps]
        cases o with
        | d y =>
          simp only [opd, Option.some.injEq] at q1
          subst q1
          exact ⟨v, r, rfl, h1, opd_fz s h2 q2 (by simpa only [muts] using m)⟩
        | pk i =>
          simp only [muts] at m
          split at m
          · simp at m
          · rename_i hm
            refine ⟨v, r, rfl, ?_, opd_fz s h2 q2 m⟩
            simp only [opd] at q1
            have h1 : σ[i]? = some (some v) := h1
            have z := s.sl i
            cases q : slot env i with
            | un => rw [q] at q1; simp [Slot.d?] at q1
            | val d =>
              rw [q] at q1 z
              simp only [Slot.d?, Option.some.injEq] at q1
              subst q1
              obtain ⟨v', e1, e2⟩ := z
              rw [h1] at e1
              cases e1
              exact e2
            | own d => rw [q] at hm; exact absurd rfl hm
            | par d => rw [q] at hm; exact absurd rfl hm
theorem opds_at {env : Env} : ∀ {os : List Opd} {ds : List D}, opds env os = some ds → ds.length = os.length ∧ ∀ (i : Nat) (d : D), (os.map odat)[i]? = some (some d) → ds[i]? = some d
  | [], ds, h => by
    simp only [opds, Option.some.injEq] at h
    subst h
    exact ⟨rfl, fun i d e => by simp at e⟩
  | o :: os, ds, h => by
    simp only [opds] at h
    cases q1 : opd env o with
    | none => rw [q1] at h; simp at h
    | some x =>
      cases q2 : opds env os with
      | none => rw [q1, q2] at h; simp at h
      | some xs =>
        rw [q1, q2] at h
        simp only [Option.some.injEq] at h
        subst h
        obtain ⟨h1, h2⟩ := opds_at q2
        refine ⟨by simp [h1], fun i d e => ?_⟩
        cases i with
        | zero =>
          cases o with
          | d y =>
            simp only [opd, Option.some.injEq] at q1
            simp only [List.map_cons, odat, List.getElem?_cons_zero, Option.some.injEq] at e
            rw [← e, q1]
            rfl
          | pk k => simp [odat] at e
        | succ i => simpa using h2 i d (by simpa using e)
theorem opdsV_repO {G : Hp} {σ : St} : ∀ {os : List Opd} {vs : List V}, OpdsV W G σ os vs → RepO W G (os.map odat) vs
  | [], _, h => by simpa only [List.map_nil, OpdsV, RepO] using h
  | o :: os, _, h => by
    simp only [OpdsV] at h
    obtain ⟨v, r, rfl, h1, h2⟩ := h
    cases o with
    | d y => simp only [List.map_cons, odat, RepO]; exact ⟨v, r, rfl, h1, opdsV_repO h2⟩
    | pk k => simp only [List.map_cons, odat, RepO]; exact ⟨v, r, rfl, opdsV_repO h2⟩
end
end Itp
set_option Elab.async false
set_option linter.all false
set_option maxRecDepth 100000
set_option maxHeartbeats 4000000
namespace Itp
open PySem L2
section
variable {X : Cx} {W : Wd} {C : Cfg} {T : Tab} {Wx : WX}
/-! ### a block's own slots -/
theorem hide_len (e : Env) : ∀ own : List Nat, (hideE e own).length = e.length
  | [] => rfl
  | i :: is => by unfold hideE; rw [List.length_set, hide_len e is]
theorem hide_slot (e : Env) (j : Nat) : ∀ own : List Nat, slot (hideE e own) j = if j ∈ own then .un else slot e j
  | [] => by simp [hideE]
  | i :: is => by
    unfold hideE
    rw [slot_set, hide_slot e j is]
    by_cases h : i = j
    · subst h
      simp
    · rw [if_neg h]
      by_cases h2 : j ∈ is
      · rw [if_pos h2, if_pos (List.mem_cons_of_mem _ h2)]
      · rw [if_neg h2, if_neg]
        intro z
        rcases List.mem_cons.mp z with z | z
        · exact h z.symm
        · exact h2 z
theorem back_len (e e0 : Env) : ∀ own : List Nat, (backE e e0 own).length = e.length
  | [] => rfl
  | i :: is => by unfold backE; rw [List.length_set, back_len e e0 is]
theorem slot_out {e : Env} {j : Nat} (h : e.length ≤ j) : slot e j = .un := by
  unfold slot
  rw [List.getD_eq_getElem?_getD, List.getElem?_eq_none h]
  rfl
theorem back_slot (e e0 : Env) (hl : e.length = e0.length) (j : Nat) : ∀ own : List Nat, slot (backE e e0 own) j = if j ∈ own then slot e0 j else slot e j
  | [] => by simp [backE]
  | i :: is => by
    unfold backE
    rw [slot_set, back_slot e e0 hl j is, back_len]
    by_cases h : i = j
    · subst h
      rw [if_pos rfl, if_pos List.mem_cons_self]
      by_cases h2 : i < e.length
      · rw [if_pos h2]
      · rw [if_neg h2, slot_out (by omega)]
    · rw [if_neg h]
      by_cases h2 : j ∈ is
      · rw [if_pos h2, if_pos (List.mem_cons_of_mem _ h2)]
      · rw [if_neg h2, if_neg]
        intro z
        rcases List.mem_cons.mp z with z | z
        · exact h z.symm
        · exact h2 z
theorem wipe_get (σ : St) (j : Nat) : ∀ {own : List Nat}, j ∉ own → (wipe σ own)[j]? = σ[j]?
  | [], _ => rfl
  | i :: is, h => by
    unfold wipe
    rw [List.getElem?_set, if_neg fun z => h (by simp [z]), wipe_get σ j fun z => h (List.mem_cons_of_mem _ z)]
theorem wipe_wipe (σ : St) (own : List Nat) : wipe (wipe σ own) own = wipe σ own := by
  have gen : ∀ (us own : List Nat), (∀ i ∈ us, i ∈ own) → wipe (wipe σ own) us = wipe σ own := by
    intro us
    induction us with
    | nil => intro own _; rfl
    | cons i is ih =>
      intro own h
      show (wipe (wipe σ own) is).set i none = wipe σ own
      rw [ih own fun j hj => h j (List.mem_cons_of_mem _ hj)]
      have hi := h i List.mem_cons_self
      clear ih h
      induction own with
      | nil => simp at hi
      | cons k ks ih2 =>
        show ((wipe σ ks).set k none).set i none = (wipe σ ks).set k none
        by_cases e : i = k
        · subst e; rw [List.set_set]
        · rcases List.mem_cons.mp hi with z | z
          · exact absurd z e
          · rw [List.set_comm _ _ (fun z => e z.symm), ih2 z]
  exact gen own own fun _ h => h
theorem slotOk_at {G H : Hp} {σ σ' : St} {j : Nat} {s : Slot} (e : σ'[j]? = σ[j]?) (h : SlotOk W G H σ j s) : SlotOk W G H σ' j s := by
  cases s with
  | un => trivial
  | val d => obtain ⟨v, h1, h2⟩ := h; exact ⟨v, e.trans h1, h2⟩
  | own d => obtain ⟨v, h1, h2⟩ := h; exact ⟨v, e.trans h1, h2⟩
  | par d => obtain ⟨v, h1, h2⟩ := h; exact ⟨v, e.trans h1, h2⟩
theorem hide_own {σ : St} {e : Env} {own : List Nat} {a : Addr} (h : OwnA (wipe σ own) (hideE e own) a) : ∃ j, j ∉ own ∧ (slot e j).isMut = true ∧ σ[j]? = some (some (.ref a)) := by
  obtain ⟨j, h1, h2⟩ := h
  rw [hide_slot] at h1
  by_cases hj : j ∈ own
  · rw [if_pos hj] at h1; cases h1
  · rw [if_neg hj] at h1
    rw [wipe_get σ j hj] at h2
    exact ⟨j, hj, h1, h2⟩
theorem hide_ok {G H : Hp} {σ : St} {e : Env} (own : List Nat) (s : StOk W G H σ e) : StOk W G H (wipe σ own) (hideE e own) where
  gh := s.gh
  len := by rw [hide_len, wipe_length]; exact s.len
  sl := fun j => by
    rw [hide_slot]
    by_cases hj : j ∈ own
    · rw [if_pos hj]; trivial
    · rw [if_neg hj]
      exact slotOk_at (wipe_get σ j hj) (s.sl j)
  inj := fun i j a hij h1 h2 h3 h4 => by
    rw [hide_slot] at h1 h2
    by_cases hi : i ∈ own
    · rw [if_pos hi] at h1; cases h1
    · by_cases hj : j ∈ own
      · rw [if_pos hj] at h2; cases h2
      · rw [if_neg hi] at h1
        rw [if_neg hj] at h2
        rw [wipe_get σ i hi] at h3
        rw [wipe_get σ j hj] at h4
        exact s.inj i j a hij h1 h2 h3 h4
theorem back_ok {G1 H1 G2 H2 : Hp} {σ : St} {e1 e2 : Env} {own : List Nat} (s1 : StOk W G1 H1 σ e1) (s2 : StOk W G2 H2 (wipe σ own) e2) (k : Keep (OwnA (wipe σ own) (hideE e1 own)) G1 H1 (OwnA (wipe σ own) e2) G2 H2) :
    StOk W G2 H2 σ (backE e2 e1 own) ∧ Keep (OwnA σ e1) G1 H1 (OwnA σ (backE e2 e1 own)) G2 H2 := by
  have hl : e2.length = e1.length := by rw [s2.len, wipe_length, s1.len]
  have nin : ∀ j a, j ∈ own → (slot e1 j).isMut = true → σ[j]? = some (some (.ref a)) → ¬ OwnA (wipe σ own) (hideE e1 own) a := fun j a hj h1 h2 ho => by
    obtain ⟨i, hi, q1, q2⟩ := hide_own ho
    exact s1.inj j i a (fun z => hi (z ▸ hj)) h1 q1 h2 q2
  refine ⟨⟨k.gh, by rw [back_len, s2.len, wipe_length], fun j => ?_, fun i j a hij h1 h2 h3 h4 => ?_⟩, ⟨k.gg, k.gh, fun a o h1 h2 => k.hh a o h1 fun z => ?_, fun a o h1 mu h2 h3 => k.hg a o h1 mu (fun z => ?_) h3, fun a ⟨j, h1, h2⟩ => ?_⟩⟩
  · rw [back_slot e2 e1 hl]
    by_cases hj : j ∈ own
    · rw [if_pos hj]
      have q := s1.sl j
      cases w : slot e1 j with
      | un => trivial
      | val d => rw [w] at q; obtain ⟨v, q1, q2⟩ := q; exact ⟨v, q1, Rep.mono k.gg _ _ q2⟩
      | _ =>
        have mj : (slot e1 j).isMut = true := by rw [w]; rfl
        obtain ⟨d, a, z1, z2, z3, z4⟩ := s1.mut mj
        obtain ⟨o, ho, mu⟩ := z4.mu
        have na := nin j a hj mj z2
        rw [← w]
        exact slotOk_mut mj z1 z2 (k.hg a o ho mu na z3) (z4.mono k.gg fun u hu => k.hh a u hu na)
    · rw [if_neg hj]
      exact slotOk_at (wipe_get σ j hj).symm (s2.sl j)
  · rw [back_slot e2 e1 hl] at h1 h2
    have mixed : ∀ i j, i ∈ own → j ∉ own → (slot e1 i).isMut = true → (slot e2 j).isMut = true → σ[i]? = some (some (.ref a)) → σ[j]? = some (some (.ref a)) → False := fun i j hi hj m1 m2 q1 q2 => by
      rcases k.ss a ⟨j, m2, by rw [wipe_get σ j hj]; exact q2⟩ with z | z
      · exact nin i a hi m1 q1 z
      · obtain ⟨o, ho⟩ := s1.own_some ⟨i, m1, q1⟩
        rw [ho] at z
        cases z
    by_cases hi : i ∈ own
    · rw [if_pos hi] at h1
      by_cases hj : j ∈ own
      · rw [if_pos hj] at h2
        exact s1.inj i j a hij h1 h2 h3 h4
      · rw [if_neg hj] at h2
        exact mixed i j hi hj h1 h2 h3 h4
    · rw [if_neg hi] at h1
      by_cases hj : j ∈ own
      · rw [if_pos hj] at h2
        exact mixed j i hj hi h2 h1 h4 h3
      · rw [if_neg hj] at h2
        exact s2.inj i j a hij h1 h2 (by rw [wipe_get σ i hi]; exact h3) (by rw [wipe_get σ j hj]; exact h4)
  · obtain ⟨j, hj, q1, q2⟩ := hide_own z; exact h2 ⟨j, q1, q2⟩
  · obtain ⟨j, hj, q1, q2⟩ := hide_own z; exact h2 ⟨j, q1, q2⟩
  · rw [back_slot e2 e1 hl] at h1
    by_cases hj : j ∈ own
    · rw [if_pos hj] at h1; exact .inl ⟨j, h1, h2⟩
    · rw [if_neg hj] at h1
      rcases k.ss a ⟨j, h1, by rw [wipe_get σ j hj]; exact h2⟩ with z | z
      · obtain ⟨i, hi, q1, q2⟩ := hide_own z; exact .inl ⟨i, q1, q2⟩
      · exact .inr z
/-- a thing that is nobody's here is changed -/
theorem StOk.other {G H : Hp} {σ : St} {e : Env} (s : StOk W G H σ e) {a : Addr} {o : HO} (hg : G a = none) (ho : ¬ OwnA σ e a) : StOk W G (upd H a o) σ e :=
  s.grow (Ex.refl G) (fun b u h => by rw [upd_ne (ne_of_none h hg)]; exact s.gh b u h) (fun b u hb h => by rw [upd_ne (show b ≠ a from fun z => ho (by rw [← z]; exact hb))]; exact h) fun b hb => s.own_none hb
def WTs (X : Cx) (ifs : List Expr) : TT := fun σ H Q => ∀ (pins : List (Addr × Obj)) (s : Shared), Inv X pins σ H s →
    wpAny (model X.prog X.w) X.A (forIn ifs true fun c r => if r = true then do let ok ← isTrue c X.env (eval c X.env); pure (ForInStep.yield ok) else pure (ForInStep.yield r)) (TP X pins σ Q) X.xe s
theorem ptsU {ifs : List Expr} : PTs X ifs (WTs X ifs) := ⟨fun pins s _ _ _ I h => h pins s I⟩
theorem of_pts {ifs : List Expr} {t : TT} {σ : St} {H : Hp} {Q : Bool → Hp → Prop} (p : PTs X ifs t) (h : t σ H Q) : WTs X ifs σ H Q := fun pins s I => p.run pins s σ H Q I h
def GoodTs (X : Cx) (W : Wd) (Wx : WX) (ifs : List Expr) (m : M Bool) : Prop := ∀ (env : Env) (σ : St) (G H : Hp) (Q : Bool → Hp → Prop), StOk W G H σ env → Aft W BOk σ (OwnA σ env) G H Q Wx (m env) → WTs X ifs σ H Q
abbrev WF : WX := fun _ _ _ _ => False
theorem takesF : Takes X WF := fun _ _ x => by
  obtain ⟨_, _, _, _, _, _, _, _, _, _, _, _, _, _, _, _, z⟩ := x
  exact z.elim
abbrev blkX (X : Cx) (scope : Scope) (s : Shared) (H : Hp) (Cc : Addr) (cl : List (Str × Addr)) (fp : List Addr) : Cx := X.blk s H scope (compEnvC scope cl Cc X.env) fp
theorem CxOk.blk (cx : CxOk X W C T Wx) (scope : Scope) (s : Shared) (H : Hp) (Cc : Addr) (cl : List (Str × Addr)) (fp : List Addr) : CxOk (blkX X scope s H Cc cl fp) W C T WF :=
  ⟨cx.K, cx.nd, cx.calm, cx.units, cx.blt, cx.cst, takesF, cx.fns, cx.fvn, cx.fvc⟩
theorem blk_scope (scope : Scope) (s : Shared) (H : Hp) (Cc : Addr) (cl : List (Str × Addr)) (fp : List Addr) : (blkX X scope s H Cc cl fp).env.scope = rl scope X.env.scope := rfl
theorem drop_cons {α : Type} {xs : List α} {i : Nat} {x : α} {r : List α} (h : xs.drop i = x :: r) : xs[i]? = some x ∧ xs.drop (i + 1) = r ∧ i < xs.length := by
  have hi : i < xs.length := by
    rcases Nat.lt_or_ge i xs.length with z | z
    · exact z
    · rw [List.drop_eq_nil_of_le z] at h; cases h
  rw [List.drop_eq_getElem_cons hi] at h
  injection h with h1 h2
  exact ⟨by rw [List.getElem?_eq_getElem hi, h1], h2, hi⟩
theorem Keep.sub {S S' : Addr → Prop} {G H : Hp} (x : Ex G H) (h : ∀ a, S' a → S a) : Keep S G H S' G H := ⟨Ex.refl G, x, fun _ _ h _ => h, fun _ _ _ _ _ h => h, fun a q => .inl (h a q)⟩
/-- the thing at D let out of sight -/
theorem Keep.at {S S' : Addr → Prop} {G H G' H' : Hp} {D : Addr} {o : HO} (k : Keep S G H S' G' H') (hS' : ¬ S' D) (hG' : G' D = none) : Keep S G (upd H D o) S' G' (upd H' D o) := by
  refine ⟨k.gg, fun b u h => ?_, fun b u h n => ?_, fun b u h mu n g => ?_, fun b h => ?_⟩
  · have hb : b ≠ D := ne_of_none h hG'
    rw [upd_ne hb]
    exact k.gh b u h
  · by_cases hb : b = D
    · subst hb; rw [upd_same] at h ⊢; exact h
    · rw [upd_ne hb] at h ⊢; exact k.hh b u h n
  · by_cases hb : b = D
    · subst hb; exact hG'
    · rw [upd_ne hb] at h; exact k.hg b u h mu n g
  · by_cases hb : b = D
    · subst hb; exact absurd h hS'
    · rcases k.ss b h with z | z
      · exact .inl z
      · exact .inr (by rw [upd_ne hb]; exact z)
def tgB (X : Cx) (scope : Scope) (t : Expr) : TG := fun v σ H Q => ∀ s H0 Cc cl fp, WG (blkX X scope s H0 Cc cl fp) t v σ H Q
def ttB (X : Cx) (scope : Scope) (ifs : List Expr) : TT := fun σ H Q => ∀ s H0 Cc cl fp, WTs (blkX X scope s H0 Cc cl fp) ifs σ H Q
def teB (X : Cx) (scope : Scope) (e : Expr) : TE := fun σ H Q => ∀ s H0 Cc cl fp, WE (blkX X scope s H0 Cc cl fp) e σ H Q
theorem comp_core (cx : CxOk X W C T Wx) {k : ItK} {es : List Expr} {tg : Tg} {tg' iter elt : Expr} {ifs : List Expr} {own : List Nat} {scope : Scope} {mA : M (List Opd)} {mC : M Bool} {mE : M Res}
    (hit : itParts X.env.scope k iter = some es) (hen : k = .enum ∨ k = .items → isTup tg' = true) (hT : chkT X.N (rl scope X.env.scope) (fun x => scope.names.lookup x == some .cell) tg tg' = true) (hsl : ∀ i ∈ tgSlots tg, i ∈ own)
    (hA : GoodL X W Wx es mA) (hC : ∀ s H0 Cc cl fp, GoodTs (blkX X scope s H0 Cc cl fp) W WF ifs mC) (hE : ∀ s H0 Cc cl fp, GoodE (blkX X scope s H0 Cc cl fp) W WF elt mE)
    {env : Env} {σ : St} {G H : Hp} {Q : VK} (s : StOk W G H σ env) (a : Aft W (ResOk W) σ (OwnA σ env) G H Q Wx (compM (itM k mA) tg own mC (fz mE) env)) :
    tLc (WI X tg' iter) (tgB X scope tg') (ttB X scope ifs) (teB X scope elt) own σ H Q := by
  unfold compM itM at a
  -- what is walked
  cases qA : mA env with
  | no => rw [qA] at a; exact a.elim
  | ex x e' => rw [qA] at a; exact a.elim
  | ok os e1 =>
    rw [qA] at a
    simp only at a
    cases qo : opds e1 os with
    | none => rw [qo] at a; exact a.elim
    | some ds =>
      rw [qo] at a
      simp only at a
      by_cases hm : (muts e1 os).isEmpty = true
      · rw [if_pos hm] at a
        cases qi : items k ds with
        | none => rw [qi] at a; exact a.elim
        | some xs =>
          rw [qi] at a
          simp only [ofO, Rs.bind] at a
          cases qc : compL tg own mC (fz mE) xs [] (hideE e1 own) with
          | no => rw [qc] at a; exact a.elim
          | ex x e2 => rw [qc] at a; exact a.elim
          | ok out e2 =>
            rw [qc] at a
            simp only at a
            refine it_ok cx hit hen qi (hA env σ G H _ s ?_)
            rw [qA]
            intro vs G1 H1 k1 s1 r1
            refine ⟨G1, s1.gh, opd_fz s1 r1 qo hm, fun J P wk pG D hD => ?_⟩
            have gD : G1 D = none := gnone s1.gh hD
            have sI := hide_ok own s1
            -- the word of the walk
            refine ⟨fun i m H2 => m = xs.length - i ∧ i ≤ xs.length ∧ ∃ G2 acc av ei, StOk W G2 H2 (wipe σ own) ei ∧ Keep (OwnA (wipe σ own) (hideE e1 own)) G1 (upd H1 D (.lst [])) (OwnA (wipe σ own) ei) G2 (upd H2 D (.lst [])) ∧ P G2 ∧ G2 D = none ∧ H2 D = some (.lst av) ∧ Reps W G2 acc av ∧ ¬ OwnA (wipe σ own) ei D ∧ compL tg own mC (fz mE) (xs.drop i) acc ei = .ok out e2, ⟨xs.length, by simp, Nat.zero_le _, G1, [], [], hideE e1 own, ?_, ?_, pG, gD, upd_same, by simp only [Reps], ?_, by simpa using qc⟩, ?_⟩
            · exact sI.other gD fun ho => by
                obtain ⟨o, h1⟩ := sI.own_some ho
                rw [hD] at h1; cases h1
            · rw [upd_upd]
              exact Keep.refl (sI.gh.trans (Ex.new hD))
            · intro ho
              obtain ⟨o, h1⟩ := sI.own_some ho
              rw [hD] at h1; cases h1
            · rintro i m H2 ⟨rfl, hi, G2, acc, av, ei, s2, k2, pG2, gD2, hD2, ra, nD, run⟩
              cases hx : xs.drop i with
              | nil =>
                -- the end
                have hlen : xs.length ≤ i := by
                  have := congrArg List.length hx
                  simp at this
                  omega
                rw [hx] at run
                simp only [compL, Rs.ok.injEq] at run
                obtain ⟨rfl, rfl⟩ := run
                refine .inl ⟨wk.stop i G2 H2 pG2 s2.gh hlen, ?_⟩
                -- back to the slots of the def
                have kk : Keep (OwnA (wipe σ own) (hideE e1 own)) G1 H1 (OwnA (wipe σ own) ei) G2 H2 := by
                  refine ⟨k2.gg, s2.gh, fun b o h1 h2 => ?_, fun b o h1 mu h2 h3 => ?_, fun b h1 => ?_⟩
                  · have hb : b ≠ D := ne_of_none h1 hD
                    have := k2.hh b o (by rw [upd_ne hb]; exact h1) h2
                    rwa [upd_ne hb] at this
                  · have hb : b ≠ D := ne_of_none h1 hD
                    exact k2.hg b o (by rw [upd_ne hb]; exact h1) mu h2 h3
                  · rcases k2.ss b h1 with z | z
                    · exact .inl z
                    · by_cases hb : b = D
                      · subst hb; exact .inr hD
                      · rw [upd_ne hb] at z; exact .inr z
                obtain ⟨s3, k3⟩ := back_ok s1 s2 kk
                refine a (.ref D) G2 H2 (k1.trans k3) s3 ⟨D, rfl, gD2, ⟨av, hD2, ra⟩, fun ho => ?_, k1.fresh (.inr hD)⟩
                rcases k3.ss D ho with z | z
                · obtain ⟨o, h1⟩ := s1.own_some z
                  rw [hD] at h1; cases h1
                · obtain ⟨j, h1, h2⟩ := ho
                  have hl : ei.length = e1.length := by rw [s2.len, wipe_length, s1.len]
                  rw [back_slot ei e1 hl] at h1
                  by_cases hj : j ∈ own
                  · rw [if_pos hj] at h1
                    obtain ⟨o, h3⟩ := s1.own_some ⟨j, h1, h2⟩
                    rw [hD] at h3; cases h3
                  · rw [if_neg hj] at h1
                    exact nD ⟨j, h1, by rw [wipe_get σ j hj]; exact h2⟩
              | cons x rest =>
                obtain ⟨hx1, hx2, hx3⟩ := drop_cons hx
                rw [hx] at run
                simp only [compL] at run
                cases qb : bindT tg x ei with
                | none => rw [qb] at run; cases run
                | some e3 =>
                  rw [qb] at run
                  simp only at run
                  refine .inr ⟨wk.go i G2 H2 pG2 s2.gh hx3, fun H' => ∃ m', m' < xs.length - i ∧ (m' = xs.length - (i + 1) ∧ i + 1 ≤ xs.length ∧ ∃ G2 acc av ei, StOk W G2 H' (wipe σ own) ei ∧ Keep (OwnA (wipe σ own) (hideE e1 own)) G1 (upd H1 D (.lst [])) (OwnA (wipe σ own) ei) G2 (upd H' D (.lst [])) ∧ P G2 ∧ G2 D = none ∧ H' D = some (.lst av) ∧ Reps W G2 acc av ∧ ¬ OwnA (wipe σ own) ei D ∧ compL tg own mC (fz mE) (xs.drop (i + 1)) acc ei = .ok out e2), fun H' h => h, fun xv H3 hy => ?_⟩
                  obtain ⟨G3, g3, rx⟩ := wk.yld i G2 H2 xv H3 x pG2 s2.gh hx1 hy
                  have s3 := g3.st s2
                  have hD3 : H3 D = some (.lst av) := g3.hh D _ hD2
                  have gD3 : G3 D = none := g3.hg D _ hD2 trivial gD2
                  intro s0 H0 Cc cl fp
                  refine bindT_ok (cx.blk scope s0 H0 Cc cl fp) tg tg' x xv (wipe σ own) ei e3 _ hT qb s3 rx fun σ2 s4 o4 p4 w4 => ?_
                  have hw : wipe σ2 own = wipe σ own := by
                    rw [w4 own hsl, wipe_wipe]
                  refine ⟨hw, ?_⟩
                  intro s0 H0 Cc cl fp
                  have nD3 : ¬ OwnA σ2 e3 D := fun z => nD (o4 D z)
                  refine hC s0 H0 Cc cl fp e3 σ2 G3 H3 _ s4 ?_
                  cases qC : mC e3 with
                  | no => rw [qC] at run; cases run
                  | ex x e4 => rw [qC] at run; cases run
                  | ok b e4 =>
                    rw [qC] at run
                    intro b' G4 H4 k4 s5 rb
                    have rb : b' = b := rb
                    subst rb
                    have hD4 : H4 D = some (.lst av) := k4.hh D _ hD3 nD3
                    have gD4 : G4 D = none := k4.hg D _ hD3 trivial nD3 gD3
                    have nD4 : ¬ OwnA σ2 e4 D := fun z => by
                      rcases k4.ss D z with z | z
                      · exact nD3 z
                      · rw [hD3] at z; cases z
                    have kTo : Keep (OwnA (wipe σ own) ei) G2 H2 (OwnA σ2 e4) G4 H4 := (g3.keep.trans (Keep.sub s3.gh o4)).trans k4
                    cases b' with
                    | false =>
                      simp only at run
                      rw [if_neg Bool.false_ne_true]
                      have nD5 : ¬ OwnA (wipe σ own) (hideE e4 own) D := fun z => by
                        rw [← hw] at z
                        obtain ⟨j, _, q1, q2⟩ := hide_own z
                        exact nD4 ⟨j, q1, q2⟩
                      refine ⟨xs.length - (i + 1), by omega, rfl, hx3, G4, acc, av, hideE e4 own, ?_, ?_, wk.mono G2 G4 (g3.gg.trans k4.gg) pG2, gD4, hD4, Reps.mono (g3.gg.trans k4.gg) _ _ ra, nD5, by rw [hx2]; exact run⟩
                      · have := hide_ok own s5
                        rw [hw] at this
                        exact this
                      · refine k2.trans (Keep.at (kTo.trans (Keep.sub s5.gh fun b hb => ?_)) nD5 gD4)
                        rw [← hw] at hb
                        obtain ⟨j, _, q1, q2⟩ := hide_own hb
                        exact ⟨j, q1, q2⟩
                    | true =>
                      simp only at run
                      rw [if_pos rfl]
                      intro s0 H0 Cc cl fp
                      refine good_fz (hE s0 H0 Cc cl fp) s5 ?_
                      cases qE : fz mE e4 with
                      | no => rw [qE] at run; cases run
                      | ex x e5 => rw [qE] at run; cases run
                      | ok d e5 =>
                        rw [qE] at run
                        simp only at run
                        intro y G5 H5 k5 s6 ry
                        have hD5 : H5 D = some (.lst av) := k5.hh D _ hD4 nD4
                        have gD5 : G5 D = none := k5.hg D _ hD4 trivial nD4 gD4
                        have nD5 : ¬ OwnA σ2 e5 D := fun z => by
                          rcases k5.ss D z with z | z
                          · exact nD4 z
                          · rw [hD4] at z; cases z
                        by_cases hb : acc.length < big
                        · rw [if_pos hb] at run
                          have nD6 : ¬ OwnA (wipe σ own) (hideE e5 own) D := fun z => by
                            rw [← hw] at z
                            obtain ⟨j, _, q1, q2⟩ := hide_own z
                            exact nD5 ⟨j, q1, q2⟩
                          have gg : Ex G2 G5 := (g3.gg.trans k4.gg).trans k5.gg
                          have ry : Rep W G5 d y := ry
                          refine ⟨av, hD5, Nat.lt_of_lt_of_le (by rw [reps_len ra]; exact hb) (by decide), xs.length - (i + 1), by omega, rfl, hx3, G5, acc ++ [d], av ++ [y], hideE e5 own, ?_, ?_, wk.mono G2 G5 gg pG2, gD5, upd_same, reps_append (Reps.mono gg _ _ ra) (by simp only [Reps]; exact ⟨y, [], rfl, ry, rfl⟩), nD6, by rw [hx2]; exact run⟩
                          · have := hide_ok own s6
                            rw [hw] at this
                            exact this.other gD5 nD6
                          · rw [upd_upd]
                            refine k2.trans (Keep.at ((kTo.trans k5).trans (Keep.sub s6.gh fun b hb => ?_)) nD6 gD5)
                            rw [← hw] at hb
                            obtain ⟨j, _, q1, q2⟩ := hide_own hb
                            exact ⟨j, q1, q2⟩
                        · rw [if_neg hb] at run
                          cases run
      · rw [if_neg hm] at a
        exact a.elim
end
end Itp
set_option Elab.async false
set_option linter.all false
set_option maxRecDepth 100000
set_option maxHeartbeats 4000000
namespace Itp
open PySem L2
section
variable {X : Cx} {W : Wd} {C : Cfg} {T : Tab} {Wx : WX}
def dEmp : Bool → HO
  | false => .dK []
  | true => .dT []
theorem dEmp_ok {t : Bool} : dObj t (dEmp t) [] := by cases t <;> exact ⟨[], rfl, rfl⟩
/-- an entry is put -/
theorem dPut_ok {G H : Hp} {t : Bool} {D : Addr} {u : HO} {l : List (Itp.D × V)} {kvs : List (Itp.D × Itp.D)} {k d : Itp.D} {y v : V} (hD : H D = some u) (ho : dObj t u l) (hr : RepK W G kvs l) (gh : Ex G H) (hk : RepS W G H k y) (ok : keyOk t k = true) (hv : Rep W G d v) (hl : kvs.length < big) :
    ∃ u' l', DPut H D y v (upd H D u') ∧ dObj t u' l' ∧ RepK W G (dput kvs k d) l' := by
  have len := repK_len hr
  cases t with
  | false =>
    obtain ⟨m, rfl, rfl⟩ := ho
    obtain ⟨κ, rfl, rfl⟩ := key_d ok hk
    rw [List.length_map] at len
    exact ⟨_, _, DPut.k hD (Nat.lt_of_lt_of_le (by rw [len]; exact hl) (by decide)), ⟨_, rfl, rfl⟩, dput_gen keyD beq_key κ hv hr⟩
  | true =>
    obtain ⟨m, rfl, rfl⟩ := ho
    cases k <;> simp only [keyOk, Bool.false_eq_true] at ok
    obtain ⟨b, vs, rfl, e1, r1⟩ := rs_tup gh hk
    obtain ⟨ks, rfl, rfl⟩ := keys_d ok r1
    rw [List.length_map] at len
    exact ⟨_, _, DPut.t hD e1 (Nat.lt_of_lt_of_le (by rw [len]; exact hl) (by decide)), ⟨_, rfl, rfl⟩, dput_gen (fun a : List Key => Itp.D.tup (a.map keyD)) beq_keyT ks hv hr⟩
theorem dcomp_core {t : Bool} (cx : CxOk X W C T Wx) {k : ItK} {es : List Expr} {tg : Tg} {tg' iter kx vx : Expr} {ifs : List Expr} {own : List Nat} {scope : Scope} {mA : M (List Opd)} {mC : M Bool} {mK mV : M Res}
    (hit : itParts X.env.scope k iter = some es) (hen : k = .enum ∨ k = .items → isTup tg' = true) (hT : chkT X.N (rl scope X.env.scope) (fun x => scope.names.lookup x == some .cell) tg tg' = true) (hsl : ∀ i ∈ tgSlots tg, i ∈ own)
    (hA : GoodL X W Wx es mA) (hC : ∀ s H0 Cc cl fp, GoodTs (blkX X scope s H0 Cc cl fp) W WF ifs mC) (hK : ∀ s H0 Cc cl fp, GoodE (blkX X scope s H0 Cc cl fp) W WF kx mK) (hV : ∀ s H0 Cc cl fp, GoodE (blkX X scope s H0 Cc cl fp) W WF vx mV)
    {env : Env} {σ : St} {G H : Hp} {Q : VK} (s : StOk W G H σ env) (a : Aft W (ResOk W) σ (OwnA σ env) G H Q Wx (dcompM t (itM k mA) tg own mC (fz mK) (fz mV) env)) :
    tDcA (dEmp t) (WI X tg' iter) (tgB X scope tg') (ttB X scope ifs) (teB X scope kx) (teB X scope vx) own σ H Q := by
  unfold dcompM itM at a
  -- what is walked
  cases qA : mA env with
  | no => rw [qA] at a; exact a.elim
  | ex x e' => rw [qA] at a; exact a.elim
  | ok os e1 =>
    rw [qA] at a
    simp only at a
    cases qo : opds e1 os with
    | none => rw [qo] at a; exact a.elim
    | some ds =>
      rw [qo] at a
      simp only at a
      by_cases hm : (muts e1 os).isEmpty = true
      · rw [if_pos hm] at a
        cases qi : items k ds with
        | none => rw [qi] at a; exact a.elim
        | some xs =>
          rw [qi] at a
          simp only [ofO, Rs.bind] at a
          cases qc : dcompL t tg own mC (fz mK) (fz mV) xs [] (hideE e1 own) with
          | no => rw [qc] at a; exact a.elim
          | ex x e2 => rw [qc] at a; exact a.elim
          | ok out e2 =>
            rw [qc] at a
            simp only at a
            refine it_ok cx hit hen qi (hA env σ G H _ s ?_)
            rw [qA]
            intro vs G1 H1 k1 s1 r1
            refine ⟨G1, s1.gh, opd_fz s1 r1 qo hm, fun J P wk pG D hD => ?_⟩
            have gD : G1 D = none := gnone s1.gh hD
            have sI := hide_ok own s1
            -- the word of the walk
            refine ⟨fun i m H2 => m = xs.length - i ∧ i ≤ xs.length ∧ ∃ G2 acc av ei, StOk W G2 H2 (wipe σ own) ei ∧ Keep (OwnA (wipe σ own) (hideE e1 own)) G1 (upd H1 D (dEmp t)) (OwnA (wipe σ own) ei) G2 (upd H2 D (dEmp t)) ∧ P G2 ∧ G2 D = none ∧ (∃ u, H2 D = some u ∧ dObj t u av) ∧ RepK W G2 acc av ∧ ¬ OwnA (wipe σ own) ei D ∧ dcompL t tg own mC (fz mK) (fz mV) (xs.drop i) acc ei = .ok out e2, ⟨xs.length, by simp, Nat.zero_le _, G1, [], [], hideE e1 own, ?_, ?_, pG, gD, ⟨_, upd_same, dEmp_ok⟩, by simp only [RepK], ?_, by simpa using qc⟩, ?_⟩
            · exact sI.other gD fun ho => by
                obtain ⟨o, h1⟩ := sI.own_some ho
                rw [hD] at h1; cases h1
            · rw [upd_upd]
              exact Keep.refl (sI.gh.trans (Ex.new hD))
            · intro ho
              obtain ⟨o, h1⟩ := sI.own_some ho
              rw [hD] at h1; cases h1
            · rintro i m H2 ⟨rfl, hi, G2, acc, av, ei, s2, k2, pG2, gD2, ⟨ou, hD2, hou⟩, ra, nD, run⟩
              cases hx : xs.drop i with
              | nil =>
                -- the end
                have hlen : xs.length ≤ i := by
                  have := congrArg List.length hx
                  simp at this
                  omega
                rw [hx] at run
                simp only [dcompL, Rs.ok.injEq] at run
                obtain ⟨rfl, rfl⟩ := run
                refine .inl ⟨wk.stop i G2 H2 pG2 s2.gh hlen, ?_⟩
                -- back to the slots of the def
                have kk : Keep (OwnA (wipe σ own) (hideE e1 own)) G1 H1 (OwnA (wipe σ own) ei) G2 H2 := by
                  refine ⟨k2.gg, s2.gh, fun b o h1 h2 => ?_, fun b o h1 mu h2 h3 => ?_, fun b h1 => ?_⟩
                  · have hb : b ≠ D := ne_of_none h1 hD
                    have := k2.hh b o (by rw [upd_ne hb]; exact h1) h2
                    rwa [upd_ne hb] at this
                  · have hb : b ≠ D := ne_of_none h1 hD
                    exact k2.hg b o (by rw [upd_ne hb]; exact h1) mu h2 h3
                  · rcases k2.ss b h1 with z | z
                    · exact .inl z
                    · by_cases hb : b = D
                      · subst hb; exact .inr hD
                      · rw [upd_ne hb] at z; exact .inr z
                obtain ⟨s3, k3⟩ := back_ok s1 s2 kk
                refine a (.ref D) G2 H2 (k1.trans k3) s3 ⟨D, rfl, gD2, ⟨ou, av, hD2, hou, ra⟩, fun ho => ?_, k1.fresh (.inr hD)⟩
                rcases k3.ss D ho with z | z
                · obtain ⟨o, h1⟩ := s1.own_some z
                  rw [hD] at h1; cases h1
                · obtain ⟨j, h1, h2⟩ := ho
                  have hl : ei.length = e1.length := by rw [s2.len, wipe_length, s1.len]
                  rw [back_slot ei e1 hl] at h1
                  by_cases hj : j ∈ own
                  · rw [if_pos hj] at h1
                    obtain ⟨o, h3⟩ := s1.own_some ⟨j, h1, h2⟩
                    rw [hD] at h3; cases h3
                  · rw [if_neg hj] at h1
                    exact nD ⟨j, h1, by rw [wipe_get σ j hj]; exact h2⟩
              | cons x rest =>
                obtain ⟨hx1, hx2, hx3⟩ := drop_cons hx
                rw [hx] at run
                simp only [dcompL] at run
                cases qb : bindT tg x ei with
                | none => rw [qb] at run; cases run
                | some e3 =>
                  rw [qb] at run
                  simp only at run
                  refine .inr ⟨wk.go i G2 H2 pG2 s2.gh hx3, fun xv H3 hy => ?_⟩
                  obtain ⟨G3, g3, rx⟩ := wk.yld i G2 H2 xv H3 x pG2 s2.gh hx1 hy
                  have s3 := g3.st s2
                  have hD3 : H3 D = some ou := g3.hh D _ hD2
                  have gD3 : G3 D = none := g3.hg D _ hD2 hou.mut gD2
                  intro s0 H0 Cc cl fp
                  refine bindT_ok (cx.blk scope s0 H0 Cc cl fp) tg tg' x xv (wipe σ own) ei e3 _ hT qb s3 rx fun σ2 s4 o4 p4 w4 => ?_
                  have hw : wipe σ2 own = wipe σ own := by
                    rw [w4 own hsl, wipe_wipe]
                  refine ⟨hw, ?_⟩
                  intro s0 H0 Cc cl fp
                  have nD3 : ¬ OwnA σ2 e3 D := fun z => nD (o4 D z)
                  refine hC s0 H0 Cc cl fp e3 σ2 G3 H3 _ s4 ?_
                  cases qC : mC e3 with
                  | no => rw [qC] at run; cases run
                  | ex x e4 => rw [qC] at run; cases run
                  | ok b e4 =>
                    rw [qC] at run
                    intro b' G4 H4 k4 s5 rb
                    have rb : b' = b := rb
                    subst rb
                    have hD4 : H4 D = some ou := k4.hh D _ hD3 nD3
                    have gD4 : G4 D = none := k4.hg D _ hD3 hou.mut nD3 gD3
                    have nD4 : ¬ OwnA σ2 e4 D := fun z => by
                      rcases k4.ss D z with z | z
                      · exact nD3 z
                      · rw [hD3] at z; cases z
                    have kTo : Keep (OwnA (wipe σ own) ei) G2 H2 (OwnA σ2 e4) G4 H4 := (g3.keep.trans (Keep.sub s3.gh o4)).trans k4
                    cases b' with
                    | false =>
                      simp only at run
                      rw [if_neg Bool.false_ne_true]
                      have nD5 : ¬ OwnA (wipe σ own) (hideE e4 own) D := fun z => by
                        rw [← hw] at z
                        obtain ⟨j, _, q1, q2⟩ := hide_own z
                        exact nD4 ⟨j, q1, q2⟩
                      refine ⟨xs.length - (i + 1), by omega, rfl, hx3, G4, acc, av, hideE e4 own, ?_, ?_, wk.mono G2 G4 (g3.gg.trans k4.gg) pG2, gD4, ⟨ou, hD4, hou⟩, RepK.mono (g3.gg.trans k4.gg) _ _ ra, nD5, by rw [hx2]; exact run⟩
                      · have := hide_ok own s5
                        rw [hw] at this
                        exact this
                      · refine k2.trans (Keep.at (kTo.trans (Keep.sub s5.gh fun b hb => ?_)) nD5 gD4)
                        rw [← hw] at hb
                        obtain ⟨j, _, q1, q2⟩ := hide_own hb
                        exact ⟨j, q1, q2⟩
                    | true =>
                      simp only at run
                      rw [if_pos rfl]
                      intro s0 H0 Cc cl fp
                      refine good_fz (hK s0 H0 Cc cl fp) s5 ?_
                      cases qK : fz mK e4 with
                      | no => rw [qK] at run; cases run
                      | ex x e5 => rw [qK] at run; cases run
                      | ok dk e5 =>
                        rw [qK] at run
                        simp only at run
                        intro y G5 H5 k5 s6 ry
                        have ry : Rep W G5 dk y := ry
                        have hD5 : H5 D = some ou := k5.hh D _ hD4 nD4
                        have gD5 : G5 D = none := k5.hg D _ hD4 hou.mut nD4 gD4
                        have nD5 : ¬ OwnA σ2 e5 D := fun z => by
                          rcases k5.ss D z with z | z
                          · exact nD4 z
                          · rw [hD4] at z; cases z
                        intro s0 H0 Cc cl fp
                        refine good_fz (hV s0 H0 Cc cl fp) s6 ?_
                        cases qV : fz mV e5 with
                        | no => rw [qV] at run; cases run
                        | ex x e6 => rw [qV] at run; cases run
                        | ok dv e6 =>
                          rw [qV] at run
                          simp only at run
                          intro z G6 H6 k6 s7 rz
                          have rz : Rep W G6 dv z := rz
                          have hD6 : H6 D = some ou := k6.hh D _ hD5 nD5
                          have gD6 : G6 D = none := k6.hg D _ hD5 hou.mut nD5 gD5
                          have nD6 : ¬ OwnA σ2 e6 D := fun z => by
                            rcases k6.ss D z with z | z
                            · exact nD5 z
                            · rw [hD5] at z; cases z
                          by_cases hb : (decide (acc.length < big) && keyOk t dk) = true
                          · rw [if_pos hb] at run
                            rw [Bool.and_eq_true, decide_eq_true_eq] at hb
                            have nD7 : ¬ OwnA (wipe σ own) (hideE e6 own) D := fun z => by
                              rw [← hw] at z
                              obtain ⟨j, _, q1, q2⟩ := hide_own z
                              exact nD6 ⟨j, q1, q2⟩
                            have gg : Ex G2 G6 := ((g3.gg.trans k4.gg).trans k5.gg).trans k6.gg
                            obtain ⟨u', l', put, o', r'⟩ := dPut_ok hD6 hou (RepK.mono gg _ _ ra) s7.gh (.inl (Rep.mono k6.gg _ _ ry)) hb.2 rz hb.1
                            refine ⟨_, put, xs.length - (i + 1), by omega, rfl, hx3, G6, dput acc dk dv, l', hideE e6 own, ?_, ?_, wk.mono G2 G6 gg pG2, gD6, ⟨u', upd_same, o'⟩, r', nD7, by rw [hx2]; exact run⟩
                            · have := hide_ok own s7
                              rw [hw] at this
                              exact this.other gD6 nD7
                            · rw [upd_upd]
                              refine k2.trans (Keep.at (((kTo.trans k5).trans k6).trans (Keep.sub s7.gh fun b hb => ?_)) nD7 gD6)
                              rw [← hw] at hb
                              obtain ⟨j, _, q1, q2⟩ := hide_own hb
                              exact ⟨j, q1, q2⟩
                          · rw [if_neg hb] at run
                            cases run
      · rw [if_neg hm] at a
        exact a.elim
end
end Itp
set_option Elab.async false
set_option linter.all false
set_option maxRecDepth 100000
set_option maxHeartbeats 4000000
namespace Itp
open PySem L2
section
variable {X : Cx} {W : Wd} {C : Cfg} {T : Tab} {Wx : WX}
theorem wipe_sub {σ : St} {own1 own : List Nat} (h : ∀ i ∈ own1, i ∈ own) : wipe (wipe σ own1) own = wipe σ own := by
  induction own1 with
  | nil => rfl
  | cons i is ih =>
    show wipe ((wipe σ is).set i none) own = _
    rw [wipe_set (h i (by simp)), ih fun j hj => h j (by simp [hj])]
def wiB (X : Cx) (scope : Scope) (t it : Expr) : TI := fun σ H R => ∀ s H0 Cc cl fp, WI (blkX X scope s H0 Cc cl fp) t it σ H R
theorem comp2_core (cx : CxOk X W C T Wx) {k kk1 : ItK} {es es1 : List Expr} {tg tg1 : Tg} {tg' iter tg1' iter1 elt : Expr} {ifs1 : List Expr} {own own1 : List Nat} {scope : Scope} {mA mA1 : M (List Opd)} {mC : M Bool} {mE : M Res}
    (hit : itParts X.env.scope k iter = some es) (hen : k = .enum ∨ k = .items → isTup tg' = true) (hT : chkT X.N (rl scope X.env.scope) (fun x => scope.names.lookup x == some .cell) tg tg' = true) (hsl : ∀ i ∈ tgSlots tg, i ∈ own)
    (hit1 : itParts (rl scope X.env.scope) kk1 iter1 = some es1) (hen1 : kk1 = .enum ∨ kk1 = .items → isTup tg1' = true) (hT1 : chkT X.N (rl scope X.env.scope) (fun x => scope.names.lookup x == some .cell) tg1 tg1' = true) (hsl1 : ∀ i ∈ tgSlots tg1, i ∈ own1) (hso : ∀ i ∈ own1, i ∈ own)
    (hA : GoodL X W Wx es mA) (hA1 : ∀ s H0 Cc cl fp, GoodL (blkX X scope s H0 Cc cl fp) W WF es1 mA1) (hC0 : ∀ s H0 Cc cl fp, GoodTs (blkX X scope s H0 Cc cl fp) W WF [] (fun e => .ok true e)) (hC : ∀ s H0 Cc cl fp, GoodTs (blkX X scope s H0 Cc cl fp) W WF ifs1 mC) (hE : ∀ s H0 Cc cl fp, GoodE (blkX X scope s H0 Cc cl fp) W WF elt mE)
    {env : Env} {σ : St} {G H : Hp} {Q : VK} (s : StOk W G H σ env) (a : Aft W (ResOk W) σ (OwnA σ env) G H Q Wx (compM2 (itM k mA) tg own (itM kk1 mA1) tg1 own1 mC (fz mE) env)) :
    tLc2 (WI X tg' iter) (tgB X scope tg') (ttB X scope []) (wiB X scope tg1' iter1) (tgB X scope tg1') (ttB X scope ifs1) (teB X scope elt) own own1 σ H Q := by
  unfold compM2 at a
  generalize hI : itM kk1 mA1 = its1 at a
  unfold itM at a
  -- what is walked
  cases qA : mA env with
  | no => rw [qA] at a; exact a.elim
  | ex x e' => rw [qA] at a; exact a.elim
  | ok os e1 =>
    rw [qA] at a
    simp only at a
    cases qo : opds e1 os with
    | none => rw [qo] at a; exact a.elim
    | some ds =>
      rw [qo] at a
      simp only at a
      by_cases hm : (muts e1 os).isEmpty = true
      · rw [if_pos hm] at a
        cases qi : items k ds with
        | none => rw [qi] at a; exact a.elim
        | some xs =>
          rw [qi] at a
          simp only [ofO, Rs.bind] at a
          cases qc : compL2 tg own its1 tg1 own1 mC (fz mE) xs [] (hideE e1 own) with
          | no => rw [qc] at a; exact a.elim
          | ex x e2 => rw [qc] at a; exact a.elim
          | ok out e2 =>
            rw [qc] at a
            simp only at a
            refine it_ok cx hit hen qi (hA env σ G H _ s ?_)
            rw [qA]
            intro vs G1 H1 k1 s1 r1
            refine ⟨G1, s1.gh, opd_fz s1 r1 qo hm, fun J P wk pG D hD => ?_⟩
            have gD : G1 D = none := gnone s1.gh hD
            have sI := hide_ok own s1
            -- the word of the walk
            refine ⟨fun i m H2 => m = xs.length - i ∧ i ≤ xs.length ∧ ∃ G2 acc av ei, StOk W G2 H2 (wipe σ own) ei ∧ Keep (OwnA (wipe σ own) (hideE e1 own)) G1 (upd H1 D (.lst [])) (OwnA (wipe σ own) ei) G2 (upd H2 D (.lst [])) ∧ P G2 ∧ G2 D = none ∧ H2 D = some (.lst av) ∧ Reps W G2 acc av ∧ ¬ OwnA (wipe σ own) ei D ∧ compL2 tg own its1 tg1 own1 mC (fz mE) (xs.drop i) acc ei = .ok out e2, ⟨xs.length, by simp, Nat.zero_le _, G1, [], [], hideE e1 own, ?_, ?_, pG, gD, upd_same, by simp only [Reps], ?_, by simpa using qc⟩, ?_⟩
            · exact sI.other gD fun ho => by
                obtain ⟨o, h1⟩ := sI.own_some ho
                rw [hD] at h1; cases h1
            · rw [upd_upd]
              exact Keep.refl (sI.gh.trans (Ex.new hD))
            · intro ho
              obtain ⟨o, h1⟩ := sI.own_some ho
              rw [hD] at h1; cases h1
            · rintro i m H2 ⟨rfl, hi, G2, acc, av, ei, s2, k2, pG2, gD2, hD2, ra, nD, run⟩
              cases hx : xs.drop i with
              | nil =>
                -- the end
                have hlen : xs.length ≤ i := by
                  have := congrArg List.length hx
                  simp at this
                  omega
                rw [hx] at run
                simp only [compL2, Rs.ok.injEq] at run
                obtain ⟨rfl, rfl⟩ := run
                refine .inl ⟨wk.stop i G2 H2 pG2 s2.gh hlen, ?_⟩
                -- back to the slots of the def
                have kk : Keep (OwnA (wipe σ own) (hideE e1 own)) G1 H1 (OwnA (wipe σ own) ei) G2 H2 := by
                  refine ⟨k2.gg, s2.gh, fun b o h1 h2 => ?_, fun b o h1 mu h2 h3 => ?_, fun b h1 => ?_⟩
                  · have hb : b ≠ D := ne_of_none h1 hD
                    have := k2.hh b o (by rw [upd_ne hb]; exact h1) h2
                    rwa [upd_ne hb] at this
                  · have hb : b ≠ D := ne_of_none h1 hD
                    exact k2.hg b o (by rw [upd_ne hb]; exact h1) mu h2 h3
                  · rcases k2.ss b h1 with z | z
                    · exact .inl z
                    · by_cases hb : b = D
                      · subst hb; exact .inr hD
                      · rw [upd_ne hb] at z; exact .inr z
                obtain ⟨s3, k3⟩ := back_ok s1 s2 kk
                refine a (.ref D) G2 H2 (k1.trans k3) s3 ⟨D, rfl, gD2, ⟨av, hD2, ra⟩, fun ho => ?_, k1.fresh (.inr hD)⟩
                rcases k3.ss D ho with z | z
                · obtain ⟨o, h1⟩ := s1.own_some z
                  rw [hD] at h1; cases h1
                · obtain ⟨j, h1, h2⟩ := ho
                  have hl : ei.length = e1.length := by rw [s2.len, wipe_length, s1.len]
                  rw [back_slot ei e1 hl] at h1
                  by_cases hj : j ∈ own
                  · rw [if_pos hj] at h1
                    obtain ⟨o, h3⟩ := s1.own_some ⟨j, h1, h2⟩
                    rw [hD] at h3; cases h3
                  · rw [if_neg hj] at h1
                    exact nD ⟨j, h1, by rw [wipe_get σ j hj]; exact h2⟩
              | cons x rest =>
                obtain ⟨hx1, hx2, hx3⟩ := drop_cons hx
                rw [hx] at run
                simp only [compL2] at run
                cases qb : bindT tg x ei with
                | none => rw [qb] at run; cases run
                | some e3 =>
                  rw [qb] at run
                  simp only at run
                  refine .inr ⟨wk.go i G2 H2 pG2 s2.gh hx3, fun H' => ∃ m', m' < xs.length - i ∧ (m' = xs.length - (i + 1) ∧ i + 1 ≤ xs.length ∧ ∃ G2 acc av ei, StOk W G2 H' (wipe σ own) ei ∧ Keep (OwnA (wipe σ own) (hideE e1 own)) G1 (upd H1 D (.lst [])) (OwnA (wipe σ own) ei) G2 (upd H' D (.lst [])) ∧ P G2 ∧ G2 D = none ∧ H' D = some (.lst av) ∧ Reps W G2 acc av ∧ ¬ OwnA (wipe σ own) ei D ∧ compL2 tg own its1 tg1 own1 mC (fz mE) (xs.drop (i + 1)) acc ei = .ok out e2), fun H' h => h, fun xv H3 hy => ?_⟩
                  obtain ⟨G3, g3, rx⟩ := wk.yld i G2 H2 xv H3 x pG2 s2.gh hx1 hy
                  have s3 := g3.st s2
                  have hD3 : H3 D = some (.lst av) := g3.hh D _ hD2
                  have gD3 : G3 D = none := g3.hg D _ hD2 trivial gD2
                  intro s0 H0 Cc cl fp
                  refine bindT_ok (cx.blk scope s0 H0 Cc cl fp) tg tg' x xv (wipe σ own) ei e3 _ hT qb s3 rx fun σ2 s4 o4 p4 w4 => ?_
                  have hw : wipe σ2 own = wipe σ own := by
                    rw [w4 own hsl, wipe_wipe]
                  refine ⟨hw, ?_⟩
                  intro s0 H0 Cc cl fp
                  have nD3 : ¬ OwnA σ2 e3 D := fun z => nD (o4 D z)
                  refine hC0 s0 H0 Cc cl fp e3 σ2 G3 H3 _ s4 ?_
                  intro b' G4 H4 k4 s5 rb
                  have rb : b' = true := rb
                  subst rb
                  rw [if_pos rfl]
                  have hD4 : H4 D = some (.lst av) := k4.hh D _ hD3 nD3
                  have gD4 : G4 D = none := k4.hg D _ hD3 trivial nD3 gD3
                  have nD4 : ¬ OwnA σ2 e3 D := nD3
                  have kTo : Keep (OwnA (wipe σ own) ei) G2 H2 (OwnA σ2 e3) G4 H4 := (g3.keep.trans (Keep.sub s3.gh o4)).trans k4
                  -- what the second for walks
                  rw [← hI] at run
                  simp only [itM] at run
                  cases qA1 : mA1 e3 with
                  | no => rw [qA1] at run; cases run
                  | ex x e' => rw [qA1] at run; cases run
                  | ok os1 e4 =>
                    rw [qA1] at run
                    simp only at run
                    cases qo1 : opds e4 os1 with
                    | none => rw [qo1] at run; cases run
                    | some ds1 =>
                      rw [qo1] at run
                      simp only at run
                      by_cases hm1 : (muts e4 os1).isEmpty = true
                      · rw [if_pos hm1] at run
                        cases qi1 : items kk1 ds1 with
                        | none => rw [qi1] at run; cases run
                        | some ys =>
                          rw [qi1] at run
                          simp only [ofO] at run
                          cases qc1 : compL tg1 own1 mC (fz mE) ys acc (hideE e4 own1) with
                          | no => rw [qc1] at run; cases run
                          | ex x e5 => rw [qc1] at run; cases run
                          | ok acc2 e5 =>
                            rw [qc1] at run
                            simp only at run
                            intro s0 H0 Cc cl fp
                            refine it_ok (cx.blk scope s0 H0 Cc cl fp) hit1 hen1 qi1 (hA1 s0 H0 Cc cl fp e3 σ2 G4 H4 _ s5 ?_)
                            rw [qA1]
                            intro vs1 G5 H5 k5 s6 r6
                            refine ⟨G5, s6.gh, opd_fz s6 r6 qo1 hm1, fun J1 P1 wk1 pG1 => ?_⟩
                            have hD5 : H5 D = some (.lst av) := k5.hh D _ hD4 nD4
                            have gD5 : G5 D = none := k5.hg D _ hD4 trivial nD4 gD4
                            have nD5 : ¬ OwnA σ2 e4 D := fun z => by
                              rcases k5.ss D z with z | z
                              · exact nD4 z
                              · rw [hD4] at z; cases z
                            have hs5 := hide_ok own1 s6
                            have nH5 : ¬ OwnA (wipe σ2 own1) (hideE e4 own1) D := fun z => by
                              obtain ⟨j, _, q1, q2⟩ := hide_own z
                              exact nD5 ⟨j, q1, q2⟩
                            have gg5 : Ex G2 G5 := (g3.gg.trans k4.gg).trans k5.gg
                            have kT5 : Keep (OwnA (wipe σ own) ei) G2 H2 (OwnA (wipe σ2 own1) (hideE e4 own1)) G5 H5 := (kTo.trans k5).trans (Keep.sub s6.gh fun b hb => by
                              obtain ⟨j, _, q1, q2⟩ := hide_own hb
                              exact ⟨j, q1, q2⟩)
                            -- the word of the second walk
                            refine ⟨fun j m H6 => m = ys.length - j ∧ j ≤ ys.length ∧ ∃ G6 acc6 av6 ei6, StOk W G6 H6 (wipe σ2 own1) ei6 ∧ Keep (OwnA (wipe σ own) (hideE e1 own)) G1 (upd H1 D (.lst [])) (OwnA (wipe σ2 own1) ei6) G6 (upd H6 D (.lst [])) ∧ P G6 ∧ P1 G6 ∧ G6 D = none ∧ H6 D = some (.lst av6) ∧ Reps W G6 acc6 av6 ∧ ¬ OwnA (wipe σ2 own1) ei6 D ∧ compL tg1 own1 mC (fz mE) (ys.drop j) acc6 ei6 = .ok acc2 e5, ⟨ys.length, by simp, Nat.zero_le _, G5, acc, av, hideE e4 own1, hs5, k2.trans (Keep.at kT5 nH5 gD5), wk.mono G2 G5 gg5 pG2, pG1, gD5, hD5, Reps.mono gg5 _ _ ra, nH5, by simpa using qc1⟩, ?_⟩
                            rintro j m6 H6 ⟨rfl, hj, G6, acc6, av6, ei6, s7, k7, pG6, p1G6, gD6, hD6, ra6, nD6, run6⟩
                            cases hy1 : ys.drop j with
                            | nil =>
                              have hlen : ys.length ≤ j := by
                                have := congrArg List.length hy1
                                simp at this
                                omega
                              rw [hy1] at run6
                              simp only [compL, Rs.ok.injEq] at run6
                              obtain ⟨rfl, rfl⟩ := run6
                              refine .inl ⟨wk1.stop j G6 H6 p1G6 s7.gh hlen, ?_⟩
                              have hw7 : wipe (wipe σ2 own1) own = wipe σ own := by rw [wipe_sub hso, hw]
                              have s8 := hide_ok own s7
                              rw [hw7] at s8
                              have nD8 : ¬ OwnA (wipe σ own) (hideE ei6 own) D := fun z => by
                                rw [← hw7] at z
                                obtain ⟨j, _, q1, q2⟩ := hide_own z
                                exact nD6 ⟨j, q1, q2⟩
                              refine ⟨xs.length - (i + 1), by omega, rfl, hx3, G6, acc6, av6, hideE ei6 own, s8, ?_, pG6, gD6, hD6, ra6, nD8, by rw [hx2, ← hI]; exact run⟩
                              refine k7.trans (Keep.at (Keep.sub s7.gh fun b hb => ?_) nD8 gD6)
                              rw [← hw7] at hb
                              obtain ⟨j, _, q1, q2⟩ := hide_own hb
                              exact ⟨j, q1, q2⟩
                            | cons y rest1 =>
                              obtain ⟨hy1', hy2, hy3⟩ := drop_cons hy1
                              rw [hy1] at run6
                              simp only [compL] at run6
                              cases qb1 : bindT tg1 y ei6 with
                              | none => rw [qb1] at run6; cases run6
                              | some e7 =>
                                rw [qb1] at run6
                                simp only at run6
                                refine .inr ⟨wk1.go j G6 H6 p1G6 s7.gh hy3, fun H' => ∃ m', m' < ys.length - j ∧ (m' = ys.length - (j + 1) ∧ j + 1 ≤ ys.length ∧ ∃ G6 acc6 av6 ei6, StOk W G6 H' (wipe σ2 own1) ei6 ∧ Keep (OwnA (wipe σ own) (hideE e1 own)) G1 (upd H1 D (.lst [])) (OwnA (wipe σ2 own1) ei6) G6 (upd H' D (.lst [])) ∧ P G6 ∧ P1 G6 ∧ G6 D = none ∧ H' D = some (.lst av6) ∧ Reps W G6 acc6 av6 ∧ ¬ OwnA (wipe σ2 own1) ei6 D ∧ compL tg1 own1 mC (fz mE) (ys.drop (j + 1)) acc6 ei6 = .ok acc2 e5), fun H' h => h, fun yv H7 hyy => ?_⟩
                                obtain ⟨G7, g7, ry1⟩ := wk1.yld j G6 H6 yv H7 y p1G6 s7.gh hy1' hyy
                                have s8 := g7.st s7
                                have hD7 : H7 D = some (.lst av6) := g7.hh D _ hD6
                                have gD7 : G7 D = none := g7.hg D _ hD6 trivial gD6
                                intro s0 H0 Cc cl fp
                                refine bindT_ok (cx.blk scope s0 H0 Cc cl fp) tg1 tg1' y yv (wipe σ2 own1) ei6 e7 _ hT1 qb1 s8 ry1 fun σ3 s9 o9 p9 w9 => ?_
                                have hw3 : wipe σ3 own1 = wipe σ2 own1 := by
                                  rw [w9 own1 hsl1, wipe_wipe]
                                refine ⟨hw3, ?_⟩
                                intro s0 H0 Cc cl fp
                                have nD7 : ¬ OwnA σ3 e7 D := fun z => nD6 (o9 D z)
                                refine hC s0 H0 Cc cl fp e7 σ3 G7 H7 _ s9 ?_
                                cases qC : mC e7 with
                                | no => rw [qC] at run6; cases run6
                                | ex x e8 => rw [qC] at run6; cases run6
                                | ok b e8 =>
                                  rw [qC] at run6
                                  intro b' G8 H8 k8 s10 rb
                                  have rb : b' = b := rb
                                  subst rb
                                  have hD8 : H8 D = some (.lst av6) := k8.hh D _ hD7 nD7
                                  have gD8 : G8 D = none := k8.hg D _ hD7 trivial nD7 gD7
                                  have nD8 : ¬ OwnA σ3 e8 D := fun z => by
                                    rcases k8.ss D z with z | z
                                    · exact nD7 z
                                    · rw [hD7] at z; cases z
                                  have kTo8 : Keep (OwnA (wipe σ2 own1) ei6) G6 H6 (OwnA σ3 e8) G8 H8 := (g7.keep.trans (Keep.sub s8.gh o9)).trans k8
                                  cases b' with
                                  | false =>
                                    simp only at run6
                                    rw [if_neg Bool.false_ne_true]
                                    have nD9 : ¬ OwnA (wipe σ2 own1) (hideE e8 own1) D := fun z => by
                                      rw [← hw3] at z
                                      obtain ⟨j, _, q1, q2⟩ := hide_own z
                                      exact nD8 ⟨j, q1, q2⟩
                                    refine ⟨ys.length - (j + 1), by omega, rfl, hy3, G8, acc6, av6, hideE e8 own1, ?_, ?_, wk.mono G6 G8 (g7.gg.trans k8.gg) pG6, wk1.mono G6 G8 (g7.gg.trans k8.gg) p1G6, gD8, hD8, Reps.mono (g7.gg.trans k8.gg) _ _ ra6, nD9, by rw [hy2]; exact run6⟩
                                    · have := hide_ok own1 s10
                                      rw [hw3] at this
                                      exact this
                                    · refine k7.trans (Keep.at (kTo8.trans (Keep.sub s10.gh fun b hb => ?_)) nD9 gD8)
                                      rw [← hw3] at hb
                                      obtain ⟨j, _, q1, q2⟩ := hide_own hb
                                      exact ⟨j, q1, q2⟩
                                  | true =>
                                    simp only at run6
                                    rw [if_pos rfl]
                                    intro s0 H0 Cc cl fp
                                    refine good_fz (hE s0 H0 Cc cl fp) s10 ?_
                                    cases qE : fz mE e8 with
                                    | no => rw [qE] at run6; cases run6
                                    | ex x e9 => rw [qE] at run6; cases run6
                                    | ok d e9 =>
                                      rw [qE] at run6
                                      simp only at run6
                                      intro yy G9 H9 k9 s11 ry
                                      have hD9 : H9 D = some (.lst av6) := k9.hh D _ hD8 nD8
                                      have gD9 : G9 D = none := k9.hg D _ hD8 trivial nD8 gD8
                                      have nD9 : ¬ OwnA σ3 e9 D := fun z => by
                                        rcases k9.ss D z with z | z
                                        · exact nD8 z
                                        · rw [hD8] at z; cases z
                                      by_cases hb : acc6.length < big
                                      · rw [if_pos hb] at run6
                                        have nD10 : ¬ OwnA (wipe σ2 own1) (hideE e9 own1) D := fun z => by
                                          rw [← hw3] at z
                                          obtain ⟨j, _, q1, q2⟩ := hide_own z
                                          exact nD9 ⟨j, q1, q2⟩
                                        have gg : Ex G6 G9 := (g7.gg.trans k8.gg).trans k9.gg
                                        have ry : Rep W G9 d yy := ry
                                        refine ⟨av6, hD9, Nat.lt_of_lt_of_le (by rw [reps_len ra6]; exact hb) (by decide), ys.length - (j + 1), by omega, rfl, hy3, G9, acc6 ++ [d], av6 ++ [yy], hideE e9 own1, ?_, ?_, wk.mono G6 G9 gg pG6, wk1.mono G6 G9 gg p1G6, gD9, upd_same, reps_append (Reps.mono gg _ _ ra6) (by simp only [Reps]; exact ⟨yy, [], rfl, ry, rfl⟩), nD10, by rw [hy2]; exact run6⟩
                                        · have := hide_ok own1 s11
                                          rw [hw3] at this
                                          exact this.other gD9 nD10
                                        · rw [upd_upd]
                                          refine k7.trans (Keep.at ((kTo8.trans k9).trans (Keep.sub s11.gh fun b hb => ?_)) nD10 gD9)
                                          rw [← hw3] at hb
                                          obtain ⟨j, _, q1, q2⟩ := hide_own hb
                                          exact ⟨j, q1, q2⟩
                                      · rw [if_neg hb] at run6
                                        cases run6
                      · rw [if_neg hm1] at run
                        cases run
      · rw [if_neg hm] at a
        exact a.elim
end
end Itp
set_option Elab.async false
set_option linter.all false
set_option maxRecDepth 100000
set_option maxHeartbeats 4000000
namespace Itp
open PySem L2
section
variable {W : Wd} {C : Cfg} {T : Tab}
theorem cmp_mark {o : Op} {op : CmpOp} (h : cmpOf o = some op) (b : Expr) : behindInMarks op b = false := by
  cases o <;> simp only [cmpOf, reduceCtorEq, Option.some.injEq] at h <;> subst h <;> exact nomark b
/-- an operation, its operands being good -/
theorem op_core {X : Cx} {Wx : WX} {o : Op} {es : List Expr} {m : M (List Opd)} (hL : GoodL X W Wx es m)
    (hP : ∀ (env : Env) (σ : St) (G H : Hp) (R : List V → Hp → Prop) (os : List Opd) (e1 : Env), m env = .ok os e1 → StOk W G H σ env →
      (∀ vs G' H', Keep (OwnA σ env) G H (OwnA σ e1) G' H' → StOk W G' H' σ e1 → OpdsV W G' σ os vs → R vs H') → os.length = es.length ∧ WQM X W es (os.map odat) σ H R)
    {env : Env} {σ : St} {G H : Hp} {Q : VK} (s : StOk W G H σ env) (a : Aft W (ResOk W) σ (OwnA σ env) G H Q Wx (opM o m env)) :
    (disp o = true → WQ X es σ H fun vs H1 => PRd W o vs H1 Q) ∧ (disp o = false → OpH X W o es σ H Q) := by
  unfold opM at a
  cases q : m env with
  | no => rw [q] at a; exact a.elim
  | ex x e1 =>
    rw [q] at a
    simp only at a
    by_cases hm : midOp o = true
    · rw [if_pos hm] at a; exact a.elim
    · rw [if_neg hm] at a
      exact ⟨fun hd => hL env σ G H _ s (by rw [q]; exact a), fun hd => ⟨fun _ => hL env σ G H _ s (by rw [q]; exact a), fun z => absurd z hm⟩⟩
  | ok os e1 =>
    rw [q] at a
    simp only at a
    cases qo : opds e1 os with
    | none => rw [qo] at a; exact a.elim
    | some ds =>
      rw [qo] at a
      simp only at a
      refine ⟨fun hd => ?_, fun hd' => ?_⟩
      · by_cases hm : (muts e1 os).isEmpty = true
        · rw [hd, hm] at a
          have hmid : midOp o = false := by cases o <;> simp [disp] at hd <;> rfl
          rw [hmid] at a
          simp only [Bool.not_true, Bool.and_false, Bool.false_eq_true, if_false, Bool.false_and] at a
          cases qp : prim o ds with
          | none => rw [qp] at a; exact a.elim
          | some r =>
            rw [qp] at a
            simp only [ofO] at a
            refine hL env σ G H _ s ?_
            rw [q]
            intro vs G' H' k s' r'
            exact ⟨G', ds, r, s'.gh, opd_fz s' r' qo hm, qp, post_of_aft s' (Aft.step ResOk.bears k a)⟩
        · simp [hd, hm] at a
          exact a.elim
      · rw [hd'] at a
        simp only [Bool.false_and, Bool.false_eq_true, if_false] at a
        by_cases hm : midOp o = true
        · rw [hm] at a
          simp only [Bool.true_and] at a
          by_cases hk : midBad o os = true
          · rw [if_pos hk] at a; exact a.elim
          · rw [if_neg hk] at a
            cases qp : prim o ds with
            | none => rw [qp] at a; exact a.elim
            | some r =>
              rw [qp] at a
              simp only [ofO] at a
              obtain ⟨hl, hw⟩ := hP env σ G H (fun vs H1 => PRf W o ds (os.map odat) vs H1 Q) os e1 q s fun vs G' H' k s' r' => ⟨G', r, s'.gh, opds_ok s' r' qo, opdsV_repO r', qp, post_of_aft s' (Aft.step ResOk.bears k a)⟩
              obtain ⟨n1, n2⟩ := opds_at qo
              exact ⟨fun z => (by rw [hm] at z; cases z), fun _ => ⟨ds, os.map odat, r, by rw [List.length_map]; exact hl, ⟨qp, by rw [List.length_map]; exact n1, n2, os, rfl, by simpa using hk⟩, hw⟩⟩
        · have hm' : midOp o = false := by simpa using hm
          rw [hm'] at a
          simp only [Bool.false_and, Bool.false_eq_true, if_false] at a
          cases qp : prim o ds with
          | none => rw [qp] at a; exact a.elim
          | some r =>
            rw [qp] at a
            simp only [ofO] at a
            refine ⟨fun _ => hL env σ G H _ s ?_, fun z => absurd z hm⟩
            rw [q]
            intro vs G' H' k s' r'
            exact ⟨G', ds, r, s'.gh, opds_ok s' r' qo, qp, post_of_aft s' (Aft.step ResOk.bears k a)⟩
/-- the peeked or read operand -/
theorem opd_ok {X : Cx} {Wx : WX} {c : E} {e : Expr} (hpk : ∀ i, c = .pk i → ∃ x pos, e = .Name x pos ∧ isVar X.N X.env.scope i x = true) (g : GoodE X W Wx e (ev C c)) {env : Env} {σ : St} {G H : Hp} {Q : VK} (s : StOk W G H σ env)
    (a : Aft W (fun _ _ _ G' _ o v => OpdV W G' σ o v) σ (OwnA σ env) G H Q Wx (opdM c (ev C c) env)) : WE X e σ H Q := by
  by_cases hc : ∃ i, c = .pk i
  · obtain ⟨i, rfl⟩ := hc
    obtain ⟨x, pos, rfl, hv⟩ := hpk i rfl
    simp only [opdM] at a
    have q := s.sl i
    cases w : slot env i with
    | un => rw [w] at a; exact a.elim
    | val d => rw [w] at a q; obtain ⟨v, q1, _⟩ := q; exact isVar_ok hv q1 (a v G H (Keep.refl s.gh) s q1)
    | own d => rw [w] at a q; obtain ⟨v, q1, _⟩ := q; exact isVar_ok hv q1 (a _ G H (Keep.refl s.gh) s q1)
    | par d => rw [w] at a q; obtain ⟨v, q1, _⟩ := q; exact isVar_ok hv q1 (a _ G H (Keep.refl s.gh) s q1)
  · have e1 : opdM c (ev C c) = fun e => (fz (ev C c) e).bind fun d e1 => .ok (.d d) e1 := by
      cases c <;> first | rfl | exact absurd ⟨_, rfl⟩ hc
    rw [e1] at a
    simp only at a
    refine good_fz g s ?_
    cases q : fz (ev C c) env with
    | no => rw [q] at a; exact a
    | ex x e' => rw [q] at a; exact a
    | ok d e' => rw [q] at a; exact fun v G' H' k s' r => a v G' H' k s' r
theorem pk_of {X : Cx} {c : E} {e : Expr} (h : chk T X.N X.env.scope c e = true) : ∀ i, c = .pk i → ∃ x pos, e = .Name x pos ∧ isVar X.N X.env.scope i x = true := fun i hi => by
  subst hi
  cases e <;> simp only [chk, reduceCtorEq, Bool.false_eq_true] at h
  exact ⟨_, _, rfl, h⟩
/-- the arguments of a call, and what it gives -/
theorem call_key {X : Cx} {Wx : WX} {F : Fn} {es : List Expr} {m : M (List Opd)} (hL : GoodL X W Wx es m) {env : Env} {σ : St} {G H : Hp} {Q : VK} (s : StOk W G H σ env) (a : Aft W (ResOk W) σ (OwnA σ env) G H Q Wx (callM F m env)) :
    WQ X es σ H fun vs H1 => spOf W F (vs ++ []) H1 Q (L2.WE Wx σ) := by
  unfold callM at a
  refine hL env σ G H _ s ?_
  refine aft_bind ResOk.bears a fun os e1 vs G1 H1 qm k1 s1 r1 a1 => ?_
  have r1 : OpdsV W G1 σ os vs := r1
  rw [List.append_nil]
  cases qa : toArgs e1 os with
  | none => rw [qa] at a1; exact a1.elim
  | some as =>
    rw [qa] at a1
    simp only at a1
    by_cases nd : nodup (muts e1 os) = true
    · rw [if_pos nd] at a1
      obtain ⟨sa, sub⟩ := args_ok s1 r1 qa nd
      refine ⟨G1, as, (args_at r1 qa).1, sa, ?_⟩
      cases qf : F as with
      | no => rw [qf] at a1; exact a1.elim
      | ok r fin =>
        rw [qf] at a1
        simp only at a1
        intro v G' H' kk hf rr
        cases qb : putBack e1 (muts e1 os) fin with
        | none => rw [qb] at a1; exact a1.elim
        | some e2 =>
          rw [qb] at a1
          obtain ⟨k2, s2, own, _⟩ := after_call s1 r1 qa nd kk hf qb
          refine a1 v G' H' k2 s2 ?_
          cases r with
          | val d => exact rr
          | new d =>
            obtain ⟨b, h1, h2, h3, h4, h5⟩ := rr
            have hb1 : H1 b = none := by
              rcases h5 with h5 | h5
              · exact absurd h5 h4
              · exact h5
            refine ⟨b, h1, h2, h3, fun ho => ?_, .inr hb1⟩
            obtain ⟨o, ho⟩ := s1.own_some ((own b).mp ho)
            rw [hb1] at ho
            cases ho
      | ex xc fin =>
        rw [qf] at a1
        simp only at a1
        intro c d G' H' kk hf rr
        cases qb : putBack e1 (muts e1 os) fin with
        | none => rw [qb] at a1; exact a1.elim
        | some e2 =>
          rw [qb] at a1
          obtain ⟨k2, s2, own, _⟩ := after_call s1 r1 qa nd kk hf qb
          exact a1 c d G' H' k2 s2 rr
    · rw [if_neg nd] at a1
      exact a1.elim
/-- a call of a def -/
theorem call_ok {X : Cx} {Wx : WX} (cx : CxOk X W C T Wx) {x : Str} {f : Nat} {p pos : Pos} {es : List Expr} {m : M (List Opd)} (hl : lk T.fn x = some f) (hg : glB X.env.scope x = true) (hdb : (x == ("__debug__" : Str)) = false) (hs : es.all notStar = true) (hL : GoodL X W Wx es m) :
    GoodE X W Wx (.Call (.Name x p) es [] pos) (callM (C.fns f) m) := by
  intro env σ G H Q s a
  obtain ⟨fa, fd, k, ps, F, hr, hm, hk, hb⟩ := cx.fns x f hl
  have key := call_key (F := C.fns f) hL s a
  cases es with
  | nil =>
    intro pins s0 I
    refine wpAny_Call_Name_kw (ld_glob I (glB_gl hg) hm ?_ hdb)
    exact PySem.W.callWith_K0 I.kIn hk (run_fnSD (us := []) (E := L2.WE Wx) F hr hb .nil (passAt cx.tk σ) I .nil key)
  | cons e es =>
    have hs' := hs
    simp only [List.all_cons, Bool.and_eq_true] at hs
    exact of_pe (pe_callSD F hr (glB_gl hg) hm hk hb .nil (fun σ => passAt cx.tk σ) (paU hs') hdb (star_each hs.1) (star_any pos es hs.2).1) key
/-- a call of a def that an expression gives -/
theorem callV_ok {X : Cx} {Wx : WX} (cx : CxOk X W C T Wx) {a b e : Expr} {p pos : Pos} {es : List Expr} {mf : M Res} {m : M (List Opd)} (hs : (e :: es).all notStar = true) (hf : GoodE X W Wx (.Subscript a b p) mf) (hL : GoodL X W Wx (e :: es) m) :
    GoodE X W Wx (.Call (.Subscript a b p) (e :: es) [] pos) (fun env => (mf env).bind fun r e1 => match r with
    | .val (.fn g) => (match C.fv g with
      | some F => callM F m e1
      | none => .no)
    | _ => .no) := by
  intro env σ G H Q s aa pins s0 I
  have hs' := hs
  simp only [List.all_cons, Bool.and_eq_true] at hs
  have fe : WE X (.Subscript a b p) σ H (fun v H1 => ∃ fa F fd k ps, v = .ref fa ∧ FnOk X.prog X.w X.K X.mg X.base (L2.CX X.prog X.w) k fa fd ps (spOf W F) ∧ Room k X.A ∧ PySem.W.keepIn X.K (.ref fa) = true ∧ Binds X.K fd ps [] ∧ WQ X (e :: es) σ H1 fun vs H2 => spOf W F (vs ++ []) H2 Q (L2.WE Wx σ)) := by
    refine hf env σ G H _ s (aft_bind ResOk.bears aa fun r e1 v G1 H1 _ k1 s1 r1 a1 => ?_)
    match r, r1, a1 with
    | .val (.fn g), r1, a1 =>
      have r1 : Rep W G1 (.fn g) v := r1
      simp only [Rep] at r1
      obtain ⟨fa, hfa, rfl⟩ := r1
      simp only at a1
      cases q : C.fv g with
      | none => rw [q] at a1; exact a1.elim
      | some F =>
        rw [q] at a1
        obtain ⟨fd, k, ps, F1, hr, hk, hb⟩ := cx.fvc g F fa q hfa
        exact ⟨fa, F, fd, k, ps, rfl, F1, hr, hk, hb, call_key hL s1 a1⟩
    | .val .non, _, a1 => exact a1.elim
    | .val (.bl _), _, a1 => exact a1.elim
    | .val (.int _), _, a1 => exact a1.elim
    | .val (.str _), _, a1 => exact a1.elim
    | .val (.tup _), _, a1 => exact a1.elim
    | .val (.lst _), _, a1 => exact a1.elim
    | .val (.dct _ _), _, a1 => exact a1.elim
    | .val (.scr _), _, a1 => exact a1.elim
    | .val (.ftp _), _, a1 => exact a1.elim
    | .new _, _, a1 => exact a1.elim
  refine PyProof.Rows.Call_ (L2.thn (fe pins s0 I) fun u s1 ⟨v, H1, I1, r1, fa, F, fd, k, ps, ev, F1, hr, hk, hb, key⟩ => ?_)
  subst ev
  cases r1
  refine PySem.W.callWith_K (h₀ := X.base) I.ok.mod.kin hk (L2.thn ((paU hs').run pos pins s1 σ _ _ I1 key) fun us s2 ⟨vs, H2, I2, r, q⟩ => ⟨I2.kIn, ?_⟩) (star_each hs.1) (star_any pos es hs.2).1
  exact run_fnSD (E := L2.WE Wx) F1 hr hb .nil (passAt cx.tk σ) I2 r q
end
end Itp
set_option Elab.async false
set_option linter.all false
set_option maxRecDepth 100000
set_option maxHeartbeats 4000000
namespace Itp
open PySem L2
open PyProof.Rows (Compare_chain chain_link chain_last isTrue_chain test_link test_last ite_tt ite_ff)
section
variable {W : Wd} {C : Cfg} {T : Tab}
theorem OpdOk.bears {σ : St} : Bears (fun (_ : Addr → Prop) (_ : Hp) (_ : Addr → Prop) (G' _ : Hp) (o : Opd) (v : V) => OpdV W G' σ o v) := fun _ _ _ _ _ _ _ _ _ _ h => h
theorem own_map (N : List Str) (own : List Nat) : (own.map fun i => ((N.getD i "", i) : Str × Nat)).map (·.2) = own := by
  rw [List.map_map]
  conv => rhs; rw [← List.map_id own]
  exact List.map_congr_left fun i _ => rfl
theorem noset_fold {e : Expr} (h : notSet e = true) : ∀ (env : PySem.Env) (x : Value), foldedSetIterable e env x = pure x := fun env x => by
  cases e <;> first | rfl | simp [notSet] at h
theorem aft_asB' {Wx : WX} {m : M Res} {env : Env} {σ : St} {S : Addr → Prop} {G H : Hp} {Q : VK} (h : Aft W (ResOk W) σ S G H Q Wx ((asB m env).bind fun b e2 => .ok (.val (.bl b)) e2)) : Aft W (ResOk W) σ S G H Q Wx (m env) := by
  unfold asB at h
  cases q : m env with
  | no => rw [q] at h; exact h
  | ex x e' => rw [q] at h; exact h
  | ok r e' =>
    rw [q] at h
    match r, h with
    | .val (.bl b), h => exact h
theorem asB_re (r : Rs Bool) (f : Bool → Bool) : ((r.bind fun b e2 => Rs.ok (Res.val (.bl (f b))) e2).bind fun r e1 => match r with
    | .val (.bl b) => Rs.ok b e1
    | _ => .no) = r.bind fun b e2 => .ok (f b) e2 := by cases r <;> rfl
theorem asB_and (C : Cfg) (c1 c2 : E) (e : Env) : asB (ev C (.and c1 c2)) e = (asB (ev C c1) e).bind fun b e1 => if b then asB (ev C c2) e1 else .ok false e1 := by
  show (ev C (.and c1 c2) e).bind _ = _
  simp only [ev]
  cases q : asB (ev C c1) e with
  | no => rfl
  | ex x e' => rfl
  | ok b e' =>
    cases b with
    | false => rfl
    | true =>
      simp only [Rs.bind, if_true]
      cases q2 : asB (ev C c2) e' <;> rfl
theorem asB_or (C : Cfg) (c1 c2 : E) (e : Env) : asB (ev C (.or c1 c2)) e = (asB (ev C c1) e).bind fun b e1 => if b then .ok true e1 else asB (ev C c2) e1 := by
  show (ev C (.or c1 c2) e).bind _ = _
  simp only [ev]
  cases q : asB (ev C c1) e with
  | no => rfl
  | ex x e' => rfl
  | ok b e' =>
    cases b with
    | true => rfl
    | false =>
      simp only [Rs.bind, Bool.false_eq_true, if_false]
      cases q2 : asB (ev C c2) e' <;> rfl
theorem asB_not (C : Cfg) (c1 : E) (e : Env) : asB (ev C (.not c1)) e = (asB (ev C c1) e).bind fun b e1 => .ok (!b) e1 := by
  show (ev C (.not c1) e).bind _ = _
  simp only [ev]
  cases q : asB (ev C c1) e <;> rfl
theorem pwU {X : Cx} {op : BoolOp} {vs : List Expr} {pos : Pos} : PW X (.BoolOp op vs pos) (WT X (.BoolOp op vs pos)) := ⟨fun whole pins s σ H Q I h => by
  have e : isTrue (.BoolOp op vs pos) X.env whole = isTrue (.BoolOp op vs pos) X.env (eval (.BoolOp op vs pos) X.env) := by rfl
  rw [e]
  exact h pins s I⟩
/-- a op b op' c -/
theorem chain_q {X : Cx} {Wx : WX} (cx : CxOk X W C T Wx) {o p : Op} {q r : CmpOp} {x y z : Expr} {ma mb mc : M Res} (hq : cmpOf o = some q) (hr : cmpOf p = some r) (ga : GoodE X W Wx x ma) (gb : GoodE X W Wx y mb) (gc : GoodE X W Wx z mc)
    {env : Env} {σ : St} {G H : Hp} {Q : VK} (s : StOk W G H σ env) (a : Aft W (ResOk W) σ (OwnA σ env) G H Q Wx ((fz ma env).bind fun x e1 => (fz mb e1).bind fun y e2 => match prim o [x, y] with
    | some (.val (.bl true)) => (fz mc e2).bind fun z e3 => ofO (prim p [y, z]) e3
    | some (.val (.bl false)) => .ok (.val (.bl false)) e2
    | _ => .no)) : tChain (PR2 W o) (PR2 W p) (WE X x) (WE X y) (WE X z) σ H Q := by
  refine good_fz ga s (aft_bind ResOk.bears a fun d1 e1 v1 G1 H1 _ k1 s1 r1 a1 => ?_)
  refine good_fz gb s1 (aft_bind ResOk.bears a1 fun d2 e2 v2 G2 H2 _ k2 s2 r2 a2 => ?_)
  have r1 : Rep W G2 d1 v1 := Rep.mono k2.gg _ _ r1
  have r2 : Rep W G2 d2 v2 := r2
  have rr : RepSs W G2 H2 [d1, d2] [v1, v2] := by simp only [RepSs]; exact ⟨v1, [v2], rfl, .inl r1, v2, [], rfl, .inl r2, rfl⟩
  split at a2
  · rename_i hp
    refine ⟨G2, [d1, d2], _, s2.gh, rr, hp, fun v G3 H3 g3 r3 => ?_⟩
    simp only [Rep] at r3
    refine ⟨true, r3, ?_⟩
    rw [if_pos rfl]
    have s3 := g3.st s2
    have a3 := Aft.step ResOk.bears (g3.keep (S := OwnA σ e2)) a2
    refine good_fz gc s3 (aft_bind ResOk.bears a3 fun d3 e3 v3 G4 H4 _ k4 s4 r4 a4 => ?_)
    have r4 : Rep W G4 d3 v3 := r4
    cases hp2 : prim p [d2, d3] with
    | none => rw [hp2] at a4; exact a4.elim
    | some r =>
      rw [hp2] at a4
      refine ⟨G4, [d2, d3], r, s4.gh, ?_, hp2, post_of_aft s4 a4⟩
      simp only [RepSs]
      exact ⟨v2, [v3], rfl, .inl (Rep.mono (g3.gg.trans k4.gg) _ _ r2), v3, [], rfl, .inl r4, rfl⟩
  · rename_i hp
    refine ⟨G2, [d1, d2], _, s2.gh, rr, hp, fun v G3 H3 g3 r3 => ?_⟩
    simp only [Rep] at r3
    refine ⟨false, r3, ?_⟩
    rw [if_neg Bool.false_ne_true]
    exact a2 (.bl false) G3 H3 g3.keep (g3.st s2) (by simp only [ResOk, Rep])
  · exact a2.elim
/-- a op b op' c op'' d -/
def tChain3 (r r' r'' : R2) (ta tb tc td : TE) : TE := fun σ H Q => ta σ H fun x H1 => tb σ H1 fun y H2 => r x y H2 fun z H3 => ∃ k, z = .bl k ∧
  (if k = true then tc σ H3 fun w' H4 => r' y w' H4 fun z' H5 => ∃ k', z' = .bl k' ∧ (if k' = true then td σ H5 fun v' H6 => r'' w' v' H6 Q else Q (.bl false) H5) else Q (.bl false) H3)
theorem pe_chain3 {X : Cx} {a b c d : Expr} {ta tb tc td : TE} {pos : Pos} {o1 o2 o3 : CmpOp} {r r' r'' : R2} (h1 : OpR X (compareOp o1) r) (h2 : OpR X (compareOp o2) r') (h3 : OpR X (compareOp o3) r'') (ha : PE X a ta) (hb : PE X b tb) (hc : PE X c tc) (hd : PE X d td)
    (hm : lastMarks [o1, o2, o3] [b, c, d] = false) : PE X (.Compare a [o1, o2, o3] [b, c, d] pos) (tChain3 r r' r'' ta tb tc td) := by
  refine ⟨fun pins s σ H Q I h => ?_⟩
  refine Compare_chain (L2.thn (ha.run pins s σ H _ I h) fun v s1 ⟨x, H1, I1, r1, q1⟩ => chain_link (L2.thn (hb.run pins s1 σ H1 _ I1 q1) fun u s2 ⟨y, H2, I2, r2, q2⟩ =>
    L2.thn (h1 pins s2 σ H2 x y v u _ I2 r1 r2 q2) fun dd s3 ⟨z, H3, I3, r3, k, e, q3⟩ => ?_)) hm
  subst e
  cases r3
  refine wpAny_truthy_bool ?_
  cases k with
  | false => exact ite_ff ⟨.bl false, H3, I3, rfl, q3⟩
  | true =>
    refine ite_tt (chain_link (L2.thn (hc.run pins s3 σ H3 _ I3 q3) fun w' s4 ⟨z', H4, I4, r4, q4⟩ => L2.thn (h2 pins s4 σ H4 y z' u w' _ I4 r2 r4 q4) fun d2 s5 ⟨y5, H5, I5, r5, k5, e5, q5⟩ => ?_))
    subst e5
    cases r5
    refine wpAny_truthy_bool ?_
    cases k5 with
    | false => exact ite_ff ⟨.bl false, H5, I5, rfl, q5⟩
    | true => exact ite_tt (chain_last (L2.thn (hd.run pins s5 σ H5 _ I5 q5) fun v6 s6 ⟨x6, H6, I6, r6, q6⟩ => h3 pins s6 σ H6 z' x6 w' v6 Q I6 r4 r6 q6))
theorem pt_chain3 {X : Cx} {a b c d : Expr} {ta tb tc td : TE} {pos : Pos} {o1 o2 o3 : CmpOp} {r r' r'' : R2} (h1 : OpR X (compareOp o1) r) (h2 : OpR X (compareOp o2) r') (h3 : OpR X (compareOp o3) r'') (ha : PE X a ta) (hb : PE X b tb) (hc : PE X c tc) (hd : PE X d td)
    (hm : lastMarks [o1, o2, o3] [b, c, d] = false) : PT X (.Compare a [o1, o2, o3] [b, c, d] pos) (tTest (tChain3 r r' r'' ta tb tc td)) := by
  refine ⟨fun pins s σ H Q I h => ?_⟩
  refine isTrue_chain (L2.thn (ha.run pins s σ H _ I h) fun v s1 ⟨x, H1, I1, r1, q1⟩ => test_link (L2.thn (hb.run pins s1 σ H1 _ I1 q1) fun u s2 ⟨y, H2, I2, r2, q2⟩ =>
    L2.thn (h1 pins s2 σ H2 x y v u _ I2 r1 r2 q2) fun dd s3 ⟨z, H3, I3, r3, k, e, q3⟩ => ?_)) hm
  subst e
  cases r3
  refine wpAny_truthy_bool ?_
  cases k with
  | false =>
    obtain ⟨k', e', q'⟩ := q3
    cases e'
    exact ite_ff ⟨H3, I3, q'⟩
  | true =>
    refine ite_tt (test_link (L2.thn (hc.run pins s3 σ H3 _ I3 q3) fun w' s4 ⟨z', H4, I4, r4, q4⟩ => L2.thn (h2 pins s4 σ H4 y z' u w' _ I4 r2 r4 q4) fun d2 s5 ⟨y5, H5, I5, r5, k5, e5, q5⟩ => ?_))
    subst e5
    cases r5
    refine wpAny_truthy_bool ?_
    cases k5 with
    | false =>
      obtain ⟨k', e', q'⟩ := q5
      cases e'
      exact ite_ff ⟨H5, I5, q'⟩
    | true =>
      refine ite_tt (test_last (L2.thn (hd.run pins s5 σ H5 _ I5 q5) fun v6 s6 ⟨x6, H6, I6, r6, q6⟩ => L2.thn (h3 pins s6 σ H6 z' x6 w' v6 _ I6 r4 r6 q6) fun d7 s7 ⟨z7, H7, I7, r7, k7, e7, q7⟩ => ?_))
      subst e7
      cases r7
      exact wpAny_truthy_bool ⟨H7, I7, q7⟩
theorem mark3 {o1 o2 o3 : CmpOp} {b c d : Expr} (h : behindInMarks o3 d = false) : lastMarks [o1, o2, o3] [b, c, d] = false := h
theorem chain3_q {X : Cx} {Wx : WX} (cx : CxOk X W C T Wx) {o p t : Op} {q r q3 : CmpOp} {x y z u : Expr} {ma mb mc md : M Res} (hq : cmpOf o = some q) (hr : cmpOf p = some r) (ht : cmpOf t = some q3) (ga : GoodE X W Wx x ma) (gb : GoodE X W Wx y mb) (gc : GoodE X W Wx z mc) (gd : GoodE X W Wx u md)
    {env : Env} {σ : St} {G H : Hp} {Q : VK} (s : StOk W G H σ env) (a : Aft W (ResOk W) σ (OwnA σ env) G H Q Wx ((fz ma env).bind fun x e1 => (fz mb e1).bind fun y e2 => match prim o [x, y] with
    | some (.val (.bl true)) => (fz mc e2).bind fun z e3 => (match prim p [y, z] with
      | some (.val (.bl true)) => (fz md e3).bind fun u e4 => ofO (prim t [z, u]) e4
      | some (.val (.bl false)) => .ok (.val (.bl false)) e3
      | _ => .no)
    | some (.val (.bl false)) => .ok (.val (.bl false)) e2
    | _ => .no)) : tChain3 (PR2 W o) (PR2 W p) (PR2 W t) (WE X x) (WE X y) (WE X z) (WE X u) σ H Q := by
  have two' : ∀ {G H : Hp} {d e : D} {v w : V}, Rep W G d v → Rep W G e w → RepSs W G H [d, e] [v, w] := fun {G H d e v w} h1 h2 => by
    simp only [RepSs]
    exact ⟨v, [w], rfl, .inl h1, w, [], rfl, .inl h2, rfl⟩
  refine good_fz ga s (aft_bind ResOk.bears a fun d1 e1 v1 G1 H1 _ k1 s1 r1 a1 => ?_)
  refine good_fz gb s1 (aft_bind ResOk.bears a1 fun d2 e2 v2 G2 H2 _ k2 s2 r2 a2 => ?_)
  have r1 : Rep W G2 d1 v1 := Rep.mono k2.gg _ _ r1
  have r2 : Rep W G2 d2 v2 := r2
  split at a2
  · rename_i hp
    refine ⟨G2, [d1, d2], _, s2.gh, two' r1 r2, hp, fun v G3 H3 g3 r3 => ?_⟩
    simp only [Rep] at r3
    refine ⟨true, r3, ?_⟩
    rw [if_pos rfl]
    have s3 := g3.st s2
    have a3 := Aft.step ResOk.bears (g3.keep (S := OwnA σ e2)) a2
    refine good_fz gc s3 (aft_bind ResOk.bears a3 fun d3 e3 v3 G4 H4 _ k4 s4 r4 a4 => ?_)
    have r4 : Rep W G4 d3 v3 := r4
    have r2' : Rep W G4 d2 v2 := Rep.mono (g3.gg.trans k4.gg) _ _ r2
    split at a4
    · rename_i hp4
      refine ⟨G4, [d2, d3], _, s4.gh, two' r2' r4, hp4, fun v G5 H5 g5 r5 => ?_⟩
      simp only [Rep] at r5
      refine ⟨true, r5, ?_⟩
      rw [if_pos rfl]
      have s5 := g5.st s4
      have a5 := Aft.step ResOk.bears (g5.keep (S := OwnA σ e3)) a4
      refine good_fz gd s5 (aft_bind ResOk.bears a5 fun d6 e6 v6 G6 H6 _ k6 s6 r6 a6 => ?_)
      have r6 : Rep W G6 d6 v6 := r6
      cases hp6 : prim t [d3, d6] with
      | none => rw [hp6] at a6; exact a6.elim
      | some r =>
        rw [hp6] at a6
        exact ⟨G6, [d3, d6], r, s6.gh, two' (Rep.mono (g5.gg.trans k6.gg) _ _ r4) r6, hp6, post_of_aft s6 a6⟩
    · rename_i hp4
      refine ⟨G4, [d2, d3], _, s4.gh, two' r2' r4, hp4, fun v G5 H5 g5 r5 => ?_⟩
      simp only [Rep] at r5
      refine ⟨false, r5, ?_⟩
      rw [if_neg Bool.false_ne_true]
      exact a4 (.bl false) G5 H5 g5.keep (g5.st s4) (by simp only [ResOk, Rep])
    · exact a4.elim
  · rename_i hp
    refine ⟨G2, [d1, d2], _, s2.gh, two' r1 r2, hp, fun v G3 H3 g3 r3 => ?_⟩
    simp only [Rep] at r3
    refine ⟨false, r3, ?_⟩
    rw [if_neg Bool.false_ne_true]
    exact a2 (.bl false) G3 H3 g3.keep (g3.st s2) (by simp only [ResOk, Rep])
  · exact a2.elim
theorem fnv_ok {X : Cx} {Wx : WX} (cx : CxOk X W C T Wx) {x y : Str} {g : Nat} {pos : Pos} (h : chk T X.N X.env.scope (.fnv y g) (.Name x pos) = true) : GoodE X W Wx (.Name x pos) (fun e => .ok (.val (.fn g)) e) := by
  intro env σ G H Q s a
  simp only [chk, Bool.and_eq_true, decide_eq_true_eq, Bool.not_eq_true'] at h
  obtain ⟨⟨⟨rfl, h2⟩, h3⟩, h4⟩ := h
  obtain ⟨fa, h5, h6⟩ := cx.fvn x g h2
  refine of_pe (pe_glob (v := .ref fa) (glB_gl h3) h6 rfl h4) ?_
  refine a _ G H (Keep.refl s.gh) s ?_
  simp only [ResOk, Rep]
  exact ⟨fa, h5, rfl⟩
/-- a comprehension, as it is read -/
theorem compL_of (k : ItK) (as : List E) (tg : Tg) (own : List Nat) (conds : List E) (elt : E) {X : Cx} {Wx : WX} {elt' tg' iter : Expr} {ifs : List Expr} {scope : Scope} {pos : Pos} (hA : ∀ {X : Cx} {Wx : WX} {es : List Expr}, CxOk X W C T Wx → chks T X.N X.env.scope as es = true → GoodL X W Wx es (evs C as))
    (hC : ∀ {X : Cx} {Wx : WX} {ifs : List Expr}, CxOk X W C T Wx → chkB1 T X.N X.env.scope conds ifs = true → GoodTs X W Wx ifs (evAll C conds)) (hE : ∀ {X : Cx} {Wx : WX} {e : Expr}, CxOk X W C T Wx → chk T X.N X.env.scope elt e = true → GoodE X W Wx e (ev C elt))
    (cx : CxOk X W C T Wx) (h : chk T X.N X.env.scope (.comp k as tg own conds elt) (.ListComp elt' [⟨tg', iter, ifs, 0⟩] scope pos) = true) :
    BlkOk X.N X.env.scope scope (own.map fun i => (X.N.getD i "", i)) ∧ notSet iter = true ∧ ∀ (env : Env) (σ : St) (G H : Hp) (Q : VK), StOk W G H σ env →
      Aft W (ResOk W) σ (OwnA σ env) G H Q Wx (compM (itM k (evs C as)) tg own (evAll C conds) (fz (ev C elt)) env) → tLc (WI X tg' iter) (tgB X scope tg') (ttB X scope ifs) (teB X scope elt') own σ H Q := by
  simp only [chk, Bool.and_eq_true] at h
  obtain ⟨⟨⟨⟨⟨⟨⟨⟨_, h1⟩, h2⟩, h3⟩, h4⟩, h5⟩, h6⟩, h7⟩, h8⟩ := h
  refine ⟨blkOk_by h6, h3, fun env σ G H Q s a => ?_⟩
  split at h1
  · rename_i es hit
    refine comp_core cx hit (fun hk => ?_) h4 (fun i hi => ?_) (hA cx h1) (fun s H0 Cc cl fp => hC (cx.blk scope s H0 Cc cl fp) h7) (fun s H0 Cc cl fp => hE (cx.blk scope s H0 Cc cl fp) h8) s a
    · rcases hk with rfl | rfl <;> exact h2
    · have := List.all_eq_true.mp h5 i hi
      simpa using this
  · cases h1
theorem goodTs_nil {X : Cx} {Wx : WX} : GoodTs X W Wx [] (fun e => .ok true e) := fun env σ G H Q s a => of_pts pts_nil (a true G H (Keep.refl s.gh) s rfl)
theorem comp2L_of (k : ItK) (as : List E) (tg : Tg) (own : List Nat) (k1 : ItK) (as1 : List E) (tg1 : Tg) (own1 : List Nat) (conds : List E) (elt : E) {X : Cx} {Wx : WX} {elt' tg' iter tg1' iter1 : Expr} {ifs1 : List Expr} {scope : Scope} {pos : Pos} (hA : ∀ {X : Cx} {Wx : WX} {es : List Expr}, CxOk X W C T Wx → chks T X.N X.env.scope as es = true → GoodL X W Wx es (evs C as))
    (hA1 : ∀ {X : Cx} {Wx : WX} {es : List Expr}, CxOk X W C T Wx → chks T X.N X.env.scope as1 es = true → GoodL X W Wx es (evs C as1))
    (hC0 : ∀ {X : Cx} {Wx : WX}, CxOk X W C T Wx → GoodTs X W Wx [] (fun e => .ok true e))
    (hC : ∀ {X : Cx} {Wx : WX} {ifs : List Expr}, CxOk X W C T Wx → chkB1 T X.N X.env.scope conds ifs = true → GoodTs X W Wx ifs (evAll C conds)) (hE : ∀ {X : Cx} {Wx : WX} {e : Expr}, CxOk X W C T Wx → chk T X.N X.env.scope elt e = true → GoodE X W Wx e (ev C elt))
    (cx : CxOk X W C T Wx) (h : chk T X.N X.env.scope (.comp2 k as tg own k1 as1 tg1 own1 conds elt) (.ListComp elt' [⟨tg', iter, [], 0⟩, ⟨tg1', iter1, ifs1, 0⟩] scope pos) = true) :
    BlkOk X.N X.env.scope scope (own.map fun i => (X.N.getD i "", i)) ∧ notSet iter = true ∧ notSet iter1 = true ∧ (∀ i ∈ own1, i ∈ (own.map fun i => ((X.N.getD i "", i) : Str × Nat)).map (·.2)) ∧ ∀ (env : Env) (σ : St) (G H : Hp) (Q : VK), StOk W G H σ env →
      Aft W (ResOk W) σ (OwnA σ env) G H Q Wx (compM2 (itM k (evs C as)) tg own (itM k1 (evs C as1)) tg1 own1 (evAll C conds) (fz (ev C elt)) env) → tLc2 (WI X tg' iter) (tgB X scope tg') (ttB X scope []) (wiB X scope tg1' iter1) (tgB X scope tg1') (ttB X scope ifs1) (teB X scope elt') own own1 σ H Q := by
  simp only [chk, Bool.and_eq_true, decide_eq_true_eq] at h
  obtain ⟨⟨⟨⟨⟨⟨⟨⟨⟨⟨⟨⟨⟨⟨_, h1⟩, h2⟩, rfl⟩, rfl⟩, h3⟩, h4⟩, h5⟩, h6⟩, h7⟩, h8⟩, h9⟩, h10⟩, h11⟩, h12⟩ := h
  have hso : ∀ i ∈ own1, i ∈ own := fun i hi => by
    have := List.all_eq_true.mp h9 i hi
    simpa using this
  refine ⟨blkOk_by h10, h3, h4, by rw [own_map]; exact hso, fun env σ G H Q s a => ?_⟩
  split at h1
  · rename_i es hit
    split at h2
    · rename_i es1 hit1
      refine comp2_core cx hit (fun hk => ?_) h5 (fun i hi => ?_) hit1 (fun hk => ?_) h6 (fun i hi => ?_) hso (hA cx h1) (fun s H0 Cc cl fp => hA1 (cx.blk scope s H0 Cc cl fp) h2) (fun s H0 Cc cl fp => hC0 (cx.blk scope s H0 Cc cl fp)) (fun s H0 Cc cl fp => hC (cx.blk scope s H0 Cc cl fp) h11) (fun s H0 Cc cl fp => hE (cx.blk scope s H0 Cc cl fp) h12) s a
      · rcases hk with hk | hk <;> cases hk
      · have := List.all_eq_true.mp h7 i hi
        simpa using this
      · rcases hk with hk | hk <;> cases hk
      · have := List.all_eq_true.mp h8 i hi
        simpa using this
    · cases h2
  · cases h1
theorem comp2_shape {T : Tab} {N : List Str} {sc : Scope} {k k1 : ItK} {as as1 : List E} {tg tg1 : Tg} {own own1 : List Nat} {conds : List E} {elt : E} {elt' : Expr} {gens : List Comprehension} {scope : Scope} {pos : Pos} (h : chk T N sc (.comp2 k as tg own k1 as1 tg1 own1 conds elt) (.ListComp elt' gens scope pos) = true) : ∃ tg' iter tg1' iter1 ifs1, gens = [⟨tg', iter, [], 0⟩, ⟨tg1', iter1, ifs1, 0⟩] := by
  match gens, h with
  | [⟨tg', iter, ifs, n⟩, ⟨tg1', iter1, ifs1, n1⟩], h =>
    simp only [chk, Bool.and_eq_true, decide_eq_true_eq] at h
    obtain ⟨⟨⟨⟨⟨⟨⟨⟨⟨⟨⟨⟨⟨⟨⟨⟨q1, q2⟩, q3⟩, _⟩, _⟩, _⟩, _⟩, _⟩, _⟩, _⟩, _⟩, _⟩, _⟩, _⟩, _⟩, _⟩, _⟩ := h
    subst q1; subst q2
    cases ifs with
    | nil => exact ⟨_, _, _, _, _, rfl⟩
    | cons _ _ => cases q3
  | [], h => simp [chk] at h
  | [_], h => simp [chk] at h
  | _ :: _ :: _ :: _, h => simp [chk] at h
theorem dcompL_of (t : Bool) (k : ItK) (as : List E) (tg : Tg) (own : List Nat) (conds : List E) (kx vx : E) {X : Cx} {Wx : WX} {kx' vx' tg' iter : Expr} {ifs : List Expr} {scope : Scope} {pos : Pos} (hA : ∀ {X : Cx} {Wx : WX} {es : List Expr}, CxOk X W C T Wx → chks T X.N X.env.scope as es = true → GoodL X W Wx es (evs C as))
    (hC : ∀ {X : Cx} {Wx : WX} {ifs : List Expr}, CxOk X W C T Wx → chkB1 T X.N X.env.scope conds ifs = true → GoodTs X W Wx ifs (evAll C conds)) (hK : ∀ {X : Cx} {Wx : WX} {e : Expr}, CxOk X W C T Wx → chk T X.N X.env.scope kx e = true → GoodE X W Wx e (ev C kx)) (hV : ∀ {X : Cx} {Wx : WX} {e : Expr}, CxOk X W C T Wx → chk T X.N X.env.scope vx e = true → GoodE X W Wx e (ev C vx))
    (cx : CxOk X W C T Wx) (h : chk T X.N X.env.scope (.dcomp t k as tg own conds kx vx) (.DictComp kx' vx' [⟨tg', iter, ifs, 0⟩] scope pos) = true) :
    BlkOk X.N X.env.scope scope (own.map fun i => (X.N.getD i "", i)) ∧ notSet iter = true ∧ ∀ (env : Env) (σ : St) (G H : Hp) (Q : VK), StOk W G H σ env →
      Aft W (ResOk W) σ (OwnA σ env) G H Q Wx (dcompM t (itM k (evs C as)) tg own (evAll C conds) (fz (ev C kx)) (fz (ev C vx)) env) → tDcA (dEmp t) (WI X tg' iter) (tgB X scope tg') (ttB X scope ifs) (teB X scope kx') (teB X scope vx') own σ H Q := by
  simp only [chk, Bool.and_eq_true] at h
  obtain ⟨⟨⟨⟨⟨⟨⟨⟨⟨_, h1⟩, h2⟩, h3⟩, h4⟩, h5⟩, h6⟩, h7⟩, h8⟩, h9⟩ := h
  refine ⟨blkOk_by h6, h3, fun env σ G H Q s a => ?_⟩
  split at h1
  · rename_i es hit
    refine dcomp_core cx hit (fun hk => ?_) h4 (fun i hi => ?_) (hA cx h1) (fun s H0 Cc cl fp => hC (cx.blk scope s H0 Cc cl fp) h7) (fun s H0 Cc cl fp => hK (cx.blk scope s H0 Cc cl fp) h8) (fun s H0 Cc cl fp => hV (cx.blk scope s H0 Cc cl fp) h9) s a
    · rcases hk with rfl | rfl <;> exact h2
    · have := List.all_eq_true.mp h5 i hi
      simpa using this
  · cases h1
theorem dct1_ok {X : Cx} {Wx : WX} {x y : Expr} {mk mv : M Res} {pos : Pos} (gk : GoodE X W Wx x mk) (gv : GoodE X W Wx y mv) :
    GoodE X W Wx (.Dict [some x] [y] pos) (fun e => (fz mk e).bind fun a e1 => (fz mv e1).bind fun b e2 => if a.isKey then .ok (.new (.dct false [(a, b)])) e2 else .no) := by
  intro env σ G H Q s a
  replace a : Aft W (ResOk W) σ (OwnA σ env) G H Q Wx ((fz mk env).bind fun a e1 => (fz mv e1).bind fun b e2 => if a.isKey then .ok (.new (.dct false [(a, b)])) e2 else .no) := a
  refine of_pe (pe_disp (pps_cons peU peU pps_nil) rfl rfl (by simp) (by simp)) fun p hp => ?_
  have s0 : StOk W G (upd H p (.dK [])) σ env := s.laidN hp
  have np : ¬ OwnA σ env p := fun z => by
    obtain ⟨o, h1⟩ := s.own_some z
    rw [hp] at h1; cases h1
  have k0 : Keep (OwnA σ env) G H (OwnA σ env) G (upd H p (.dK [])) := Keep.laidN s.gh hp
  have e0 : (upd H p (.dK []) : Hp) p = some (.dK []) := upd_same
  refine good_fz gk s0 ?_
  cases q1 : fz mk env with
  | no => rw [q1] at a; exact a.elim
  | ex e' x' => rw [q1] at a; exact fun c d G' H' k' s' x' => a c d G' H' (k0.trans k') s' x'
  | ok da e1 =>
    rw [q1] at a
    simp only [Rs.bind] at a
    intro va G1 H1 k1 s1 r1
    have n1 : ¬ OwnA σ e1 p := fun z => by
      rcases k1.ss p z with z | z
      · exact np z
      · rw [e0] at z; cases z
    have h1 : H1 p = some (.dK []) := k1.hh p _ e0 np
    refine good_fz gv s1 ?_
    cases q2 : fz mv e1 with
    | no => rw [q2] at a; exact a.elim
    | ex e' x' => rw [q2] at a; exact fun c d G' H' k' s' x' => a c d G' H' ((k0.trans k1).trans k') s' x'
    | ok db e2 =>
      rw [q2] at a
      simp only [Rs.bind] at a
      intro vb G2 H2 k2 s2 r2
      have r1 : Rep W G2 da va := Rep.mono k2.gg _ _ r1
      have r2 : Rep W G2 db vb := r2
      have n2 : ¬ OwnA σ e2 p := fun z => by
        rcases k2.ss p z with z | z
        · exact n1 z
        · rw [h1] at z; cases z
      have h2 : H2 p = some (.dK []) := k2.hh p _ h1 n1
      have g2 : G2 p = none := k2.hg p _ h1 trivial n1 (k1.hg p _ e0 trivial np (gnone s.gh hp))
      by_cases hk : da.isKey = true
      · rw [if_pos hk] at a
        obtain ⟨κ, rfl, rfl⟩ := key_d (H := H2) hk (.inl r1)
        refine ⟨h2, [(κ, vb)], rfl, by simp, ?_⟩
        have kk := (k0.trans k1).trans k2
        refine a (.ref p) G2 _ ⟨kk.gg, fun b u hb => ?_, fun b u hb n => ?_, kk.hg, kk.ss⟩ (s2.other g2 n2) ⟨p, rfl, g2, ⟨.dK [(κ, vb)], _, upd_same, ⟨[(κ, vb)], rfl, rfl⟩, ?_⟩, n2, .inr hp⟩
        · rw [upd_ne (ne_of_none hb g2)]; exact s2.gh b u hb
        · rw [upd_ne (ne_of_none hb hp)]; exact kk.hh b u hb n
        · simp only [List.map_cons, List.map_nil, RepK]
          exact ⟨vb, [], rfl, r2, rfl⟩
      · rw [if_neg hk] at a
        exact a.elim
theorem evs_len' : ∀ (cs : List E) {N : List Str} {sc : Scope} {es : List Expr} {env e1 : Env} {os : List Opd}, evs C cs env = .ok os e1 → chks T N sc cs es = true → os.length = es.length
  | [], N, sc, es, env, e1, os, q, h => by
    cases es <;> simp only [chks, reduceCtorEq, Bool.false_eq_true] at h
    simp only [evs, Rs.ok.injEq] at q
    rw [← q.1]
    rfl
  | c :: cs, N, sc, es, env, e1, os, q, h => by
    cases es <;> simp only [chks, reduceCtorEq, Bool.false_eq_true] at h
    simp only [Bool.and_eq_true] at h
    simp only [evs] at q
    cases q1 : opdM c (ev C c) env with
    | no => rw [q1] at q; cases q
    | ex x e2 => rw [q1] at q; cases q
    | ok o e2 =>
      rw [q1] at q
      simp only [Rs.bind] at q
      cases q2 : evs C cs e2 with
      | no => rw [q2] at q; cases q
      | ex x e3 => rw [q2] at q; cases q
      | ok os' e3 =>
        rw [q2] at q
        simp only [Rs.ok.injEq] at q
        rw [← q.1, List.length_cons, List.length_cons, evs_len' cs q2 h.2]
mutual
theorem ev_ok : ∀ (c : E) {X : Cx} {Wx : WX} {e : Expr}, CxOk X W C T Wx → chk T X.N X.env.scope c e = true → GoodE X W Wx e (ev C c)
  | .var i, X, Wx, e, cx, h => by
    cases e <;> simp only [chk, reduceCtorEq, Bool.false_eq_true] at h
    simp only [ev]
    exact var_ok h
  | .pk i, X, Wx, e, cx, h => by
    intro env σ G H Q s a
    simp only [ev] at a
    exact a.elim
  | .cst d, X, Wx, e, cx, h => by
    cases e <;> simp only [chk, reduceCtorEq, Bool.false_eq_true] at h
    simp only [ev]
    exact cst_ok h
  | .glb y d, X, Wx, e, cx, h => by
    cases e <;> first | (simp only [chk, reduceCtorEq, Bool.false_eq_true] at h; done) | skip
    simp only [ev]
    exact glb_ok cx h
  | .op o as, X, Wx, e, cx, h => by
    simp only [chk] at h
    split at h
    · rename_i es hp
      intro env σ G H Q s a
      simp only [ev] at a
      have co := op_core (X := X) (Wx := Wx) (es := es) (evs_ok as cx h) (fun env σ G H R os e1 => evsP_ok as cx h env σ G H R os e1) s a
      cases hd : disp o with
      | true => exact disp_parts cx hp hd (co.1 hd)
      | false => exact op_parts cx hp hd (co.2 hd)
    · cases h
  | .and c1 c2, X, Wx, e, cx, h => by
    cases e <;> first | (simp only [chk, reduceCtorEq, Bool.false_eq_true] at h; done) | skip
    rename_i op vals pos
    cases op with
    | Or => simp [chk] at h
    | And =>
      match vals, h with
      | [], h => simp [chk] at h
      | [_], h => simp [chk] at h
      | x :: y :: r, h =>
        simp only [chk, Bool.and_eq_true] at h
        intro env σ G H Q s a
        simp only [ev] at a
        have g2 : ∃ t, PE X (.BoolOp .And (y :: r) pos) t ∧ ∀ (env : Env) (σ : St) (G H : Hp) (Q : VK), StOk W G H σ env → Aft W (ResOk W) σ (OwnA σ env) G H Q Wx (ev C c2 env) → t σ H Q := by
          cases r with
          | nil => exact ⟨_, pe_one peU, ev_ok c2 cx h.2⟩
          | cons z r => exact ⟨_, peU, ev_ok c2 cx h.2⟩
        obtain ⟨t, pt, gt⟩ := g2
        refine of_pe (pe_and peU pt) ?_
        refine we_thn (good_B (Q := fun b H1 => if b = true then t σ H1 Q else Q (.bl false) H1) (ev_ok c1 cx h.1) s (aft_bind ResOk.bears a fun b e1 b' G1 H1 _ k1 s1 r1 a1 => ?_)) fun v H1 q => q
        have r1 : b' = b := r1
        subst r1
        cases b' with
        | true =>
          rw [if_pos rfl] at a1 ⊢
          refine gt e1 σ G1 H1 Q s1 ?_
          refine aft_asB' a1
        | false =>
          rw [if_neg Bool.false_ne_true] at a1 ⊢
          exact a1 _ G1 H1 (Keep.refl s1.gh) s1 (by simp only [ResOk, Rep])
  | .or c1 c2, X, Wx, e, cx, h => by
    cases e <;> first | (simp only [chk, reduceCtorEq, Bool.false_eq_true] at h; done) | skip
    rename_i op vals pos
    cases op with
    | And => simp [chk] at h
    | Or =>
      match vals, h with
      | [], h => simp [chk] at h
      | [_], h => simp [chk] at h
      | x :: y :: r, h =>
        simp only [chk, Bool.and_eq_true] at h
        intro env σ G H Q s a
        simp only [ev] at a
        have g2 : ∃ t, PE X (.BoolOp .Or (y :: r) pos) t ∧ ∀ (env : Env) (σ : St) (G H : Hp) (Q : VK), StOk W G H σ env → Aft W (ResOk W) σ (OwnA σ env) G H Q Wx (ev C c2 env) → t σ H Q := by
          cases r with
          | nil => exact ⟨_, pe_one peU, ev_ok c2 cx h.2⟩
          | cons z r => exact ⟨_, peU, ev_ok c2 cx h.2⟩
        obtain ⟨t, pt, gt⟩ := g2
        refine of_pe (pe_or peU pt) ?_
        refine we_thn (good_B (Q := fun b H1 => if b = true then Q (.bl true) H1 else t σ H1 Q) (ev_ok c1 cx h.1) s (aft_bind ResOk.bears a fun b e1 b' G1 H1 _ k1 s1 r1 a1 => ?_)) fun v H1 q => q
        have r1 : b' = b := r1
        subst r1
        cases b' with
        | false =>
          rw [if_neg Bool.false_ne_true] at a1 ⊢
          exact gt e1 σ G1 H1 Q s1 (aft_asB' a1)
        | true =>
          rw [if_pos rfl] at a1 ⊢
          exact a1 _ G1 H1 (Keep.refl s1.gh) s1 (by simp only [ResOk, Rep])
  | .not c1, X, Wx, e, cx, h => by
    cases e <;> first | (simp only [chk, reduceCtorEq, Bool.false_eq_true] at h; done) | skip
    rename_i op x pos
    cases op <;> first | (simp only [chk, reduceCtorEq, Bool.false_eq_true] at h; done) | skip
    simp only [chk] at h
    intro env σ G H Q s a
    simp only [ev] at a
    refine of_pe (pe_not peU) ?_
    refine we_thn (good_B (Q := fun b H1 => Q (.bl (!b)) H1) (ev_ok c1 cx h) s (aft_bind ResOk.bears a fun b e1 b' G1 H1 _ k1 s1 r1 a1 => ?_)) fun v H1 q => q
    have r1 : b' = b := r1
    subst r1
    exact a1 _ G1 H1 (Keep.refl s1.gh) s1 (by simp only [ResOk, Rep])
  | .ite c0 c1 c2, X, Wx, e, cx, h => by
    cases e <;> simp only [chk, reduceCtorEq, Bool.false_eq_true] at h
    simp only [Bool.and_eq_true] at h
    intro env σ G H Q s a
    simp only [ev] at a
    refine of_pe (pe_ifExp ptU peU peU) ?_
    refine evB_ok c0 cx h.1.1 env σ G H _ s (aft_bind ResOk.bears a fun b e1 b' G1 H1 _ k1 s1 r1 a1 => ?_)
    have r1 : b' = b := r1
    subst r1
    cases b' with
    | true =>
      rw [if_pos rfl] at a1 ⊢
      exact ev_ok c1 cx h.1.2 e1 σ G1 H1 Q s1 a1
    | false =>
      rw [if_neg Bool.false_ne_true] at a1 ⊢
      exact ev_ok c2 cx h.2 e1 σ G1 H1 Q s1 a1
  | .chain o p c1 c2 c3, X, Wx, e, cx, h => by
    cases e <;> first | (simp only [chk, reduceCtorEq, Bool.false_eq_true] at h; done) | skip
    rename_i x ops cs pos
    match ops, cs, h with
    | [q, r], [y, z], h =>
      simp only [chk, Bool.and_eq_true, decide_eq_true_eq] at h
      obtain ⟨⟨⟨⟨hq, hr⟩, h1⟩, h2⟩, h3⟩ := h
      intro env σ G H Q s a
      simp only [ev] at a
      exact of_pe (pe_chain (cmp_r cx (cmpOf_2 hq)) (cmp_r cx (cmpOf_2 hr)) peU peU peU (cmp_mark hr z)) (chain_q cx hq hr (ev_ok c1 cx h1) (ev_ok c2 cx h2) (ev_ok c3 cx h3) s a)
    | [], _, h => simp [chk] at h
    | [_], _, h => simp [chk] at h
    | _ :: _ :: _ :: _, _, h => simp [chk] at h
    | [_, _], [], h => simp [chk] at h
    | [_, _], [_], h => simp [chk] at h
    | [_, _], _ :: _ :: _ :: _, h => simp [chk] at h
  | .chain3 o p t c1 c2 c3 c4, X, Wx, e, cx, h => by
    obtain ⟨x, q, r, q3, y, z, u, pos, rfl⟩ : ∃ x q r q3 y z u pos, e = .Compare x [q, r, q3] [y, z, u] pos := by
      unfold chk at h
      split at h <;> first | (rename_i w _; cases w; done) | (rename_i w; cases w; done) | skip
      · rename_i w _
        cases w
        exact ⟨_, _, _, _, _, _, _, _, rfl⟩
      · cases h
    simp only [chk, Bool.and_eq_true, decide_eq_true_eq] at h
    obtain ⟨⟨⟨⟨⟨⟨hq, hr⟩, ht⟩, h1⟩, h2⟩, h3⟩, h4⟩ := h
    intro env σ G H Q s a
    simp only [ev] at a
    exact of_pe (pe_chain3 (cmp_r cx (cmpOf_2 hq)) (cmp_r cx (cmpOf_2 hr)) (cmp_r cx (cmpOf_2 ht)) peU peU peU peU (mark3 (cmp_mark ht u))) (chain3_q cx hq hr ht (ev_ok c1 cx h1) (ev_ok c2 cx h2) (ev_ok c3 cx h3) (ev_ok c4 cx h4) s a)
  | .fnv y g, X, Wx, e, cx, h => by
    cases e <;> first | (simp only [chk, reduceCtorEq, Bool.false_eq_true] at h; done) | skip
    simp only [ev]
    exact fnv_ok cx h
  | .callV f as, X, Wx, e, cx, h => by
    obtain ⟨a, b, p, e1, es, pos, rfl⟩ : ∃ a b p e1 es pos, e = .Call (.Subscript a b p) (e1 :: es) [] pos := by
      unfold chk at h
      split at h <;> first | (rename_i w _; cases w; done) | (rename_i w; cases w; done) | skip
      · rename_i w _
        cases w
        exact ⟨_, _, _, _, _, _, rfl⟩
      · cases h
    simp only [chk, Bool.and_eq_true] at h
    simp only [ev]
    exact callV_ok cx (by simpa only [Bool.and_eq_true] using h.1.2) (ev_ok f cx h.1.1) (evs_ok as cx h.2)
  | .call f as, X, Wx, e, cx, h => by
    cases e <;> first | (simp only [chk, reduceCtorEq, Bool.false_eq_true] at h; done) | skip
    rename_i fn es kws pos
    cases fn <;> first | (simp only [chk, reduceCtorEq, Bool.false_eq_true] at h; done) | skip
    rename_i x p
    cases kws <;> first | (simp only [chk, reduceCtorEq, Bool.false_eq_true] at h; done) | skip
    simp only [chk, Bool.and_eq_true, decide_eq_true_eq, Bool.not_eq_true'] at h
    obtain ⟨⟨⟨⟨h1, h2⟩, h3⟩, h4⟩, h5⟩ := h
    simp only [ev]
    exact call_ok cx h1 h2 h3 h4 (evs_ok as cx h5)
  | .comp k as tg own conds elt, X, Wx, e, cx, h => by
    obtain ⟨elt', tg', iter, ifs, scope, pos, rfl⟩ : ∃ elt' tg' iter ifs scope pos, e = .ListComp elt' [⟨tg', iter, ifs, 0⟩] scope pos := by
      cases e <;> first | (simp only [chk, reduceCtorEq, Bool.false_eq_true] at h; done) | skip
      rename_i elt' gens scope pos
      match gens, h with
      | [⟨tg', iter, ifs, n⟩], h =>
        by_cases hn : n = 0
        · subst hn; exact ⟨_, _, _, _, _, _, rfl⟩
        · simp [chk, hn] at h
      | [], h => simp [chk] at h
      | _ :: _ :: _, h => simp [chk] at h
    obtain ⟨okB, nset, tlc⟩ := compL_of k as tg own conds elt (fun cx h => evs_ok as cx h) (fun cx h => evAll_ok conds cx h) (fun cx h => ev_ok elt cx h) cx h
    intro env σ G H Q s a
    simp only [ev] at a
    have pe : PE X (.ListComp elt' [⟨tg', iter, ifs, 0⟩] scope pos) (tLc (WI X tg' iter) (tgB X scope tg') (ttB X scope ifs) (teB X scope elt') ((own.map fun i => ((X.N.getD i "", i) : Str × Nat)).map (·.2))) :=
      pe_lc cx.calm cx.nd piU okB (fun s H Cc cl fp => ⟨fun pins s0 σ H v u Q I r h => h s _ Cc cl fp pins s0 u I r⟩) (fun s H Cc cl fp => ⟨fun pins s0 σ H Q I h => h s _ Cc cl fp pins s0 I⟩) (fun s H Cc cl fp => ⟨fun pins s0 σ H Q I h => h s _ Cc cl fp pins s0 I⟩) (fun x => noset_fold nset X.env x)
    rw [own_map] at pe
    exact of_pe pe (tlc env σ G H Q s a)
  | .comp2 k as tg own k1 as1 tg1 own1 conds elt, X, Wx, e, cx, h => by
    obtain ⟨elt', tg', iter, tg1', iter1, ifs1, scope, pos, rfl⟩ : ∃ elt' tg' iter tg1' iter1 ifs1 scope pos, e = .ListComp elt' [⟨tg', iter, [], 0⟩, ⟨tg1', iter1, ifs1, 0⟩] scope pos := by
      cases e <;> first | (simp only [chk, reduceCtorEq, Bool.false_eq_true] at h; done) | skip
      obtain ⟨_, _, _, _, _, rfl⟩ := comp2_shape h
      exact ⟨_, _, _, _, _, _, _, _, rfl⟩
    obtain ⟨okB, nset, nset1, hv, tlc⟩ := comp2L_of k as tg own k1 as1 tg1 own1 conds elt (fun cx h => evs_ok as cx h) (fun cx h => evs_ok as1 cx h) (fun _ => goodTs_nil) (fun cx h => evAll_ok conds cx h) (fun cx h => ev_ok elt cx h) cx h
    intro env σ G H Q s a
    simp only [ev] at a
    have pe : PE X (.ListComp elt' [⟨tg', iter, [], 0⟩, ⟨tg1', iter1, ifs1, 0⟩] scope pos) (tLc2 (WI X tg' iter) (tgB X scope tg') (ttB X scope []) (wiB X scope tg1' iter1) (tgB X scope tg1') (ttB X scope ifs1) (teB X scope elt') ((own.map fun i => ((X.N.getD i "", i) : Str × Nat)).map (·.2)) own1) :=
      pe_lc2 cx.calm cx.nd piU okB hv (fun s H Cc cl fp => ⟨fun pins s0 σ H v u Q I r h => h s _ Cc cl fp pins s0 u I r⟩) (fun s H Cc cl fp => ⟨fun pins s0 σ H Q I h => h s _ Cc cl fp pins s0 I⟩) (fun s H Cc cl fp => ⟨fun pins s0 σ H Q I h => h s _ Cc cl fp pins s0 I⟩) (fun s H Cc cl fp => ⟨fun pins s0 σ H v u Q I r h => h s _ Cc cl fp pins s0 u I r⟩) (fun s H Cc cl fp => ⟨fun pins s0 σ H Q I h => h s _ Cc cl fp pins s0 I⟩) (fun s H Cc cl fp => ⟨fun pins s0 σ H Q I h => h s _ Cc cl fp pins s0 I⟩) (fun x => noset_fold nset X.env x) (fun env x => noset_fold nset1 env x)
    rw [own_map] at pe
    exact of_pe pe (tlc env σ G H Q s a)
  | .dct1 k v, X, Wx, e, cx, h => by
    obtain ⟨x, y, pos, rfl⟩ : ∃ x y pos, e = .Dict [some x] [y] pos := by
      cases e <;> first | (simp only [chk, reduceCtorEq, Bool.false_eq_true] at h; done) | skip
      rename_i ks vs pos
      match ks, vs, h with
      | [some x], [y], h => exact ⟨x, y, pos, rfl⟩
      | [], _, h => simp [chk] at h
      | [none], _, h => simp [chk] at h
      | [some _], [], h => simp [chk] at h
      | [some _], _ :: _ :: _, h => simp [chk] at h
      | _ :: _ :: _, _, h => simp [chk] at h
    simp only [chk, Bool.and_eq_true] at h
    simp only [ev]
    exact dct1_ok (ev_ok k cx h.1) (ev_ok v cx h.2)
  | .dcomp t k as tg own conds kx vx, X, Wx, e, cx, h => by
    obtain ⟨kx', vx', tg', iter, ifs, scope, pos, rfl⟩ : ∃ kx' vx' tg' iter ifs scope pos, e = .DictComp kx' vx' [⟨tg', iter, ifs, 0⟩] scope pos := by
      cases e <;> first | (simp only [chk, reduceCtorEq, Bool.false_eq_true] at h; done) | skip
      rename_i kx' vx' gens scope pos
      match gens, h with
      | [⟨tg', iter, ifs, n⟩], h =>
        by_cases hn : n = 0
        · subst hn; exact ⟨_, _, _, _, _, _, _, rfl⟩
        · simp [chk, hn] at h
      | [], h => simp [chk] at h
      | _ :: _ :: _, h => simp [chk] at h
    obtain ⟨okB, nset, tdc⟩ := dcompL_of t k as tg own conds kx vx (fun cx h => evs_ok as cx h) (fun cx h => evAll_ok conds cx h) (fun cx h => ev_ok kx cx h) (fun cx h => ev_ok vx cx h) cx h
    intro env σ G H Q s a
    simp only [ev] at a
    have pe : PE X (.DictComp kx' vx' [⟨tg', iter, ifs, 0⟩] scope pos) (tDcA (dEmp t) (WI X tg' iter) (tgB X scope tg') (ttB X scope ifs) (teB X scope kx') (teB X scope vx') ((own.map fun i => ((X.N.getD i "", i) : Str × Nat)).map (·.2))) :=
      pe_dcA (by cases t <;> simp [dEmp]) (by have := cx.units; omega) cx.calm cx.nd piU okB (fun s H Cc cl fp => ⟨fun pins s0 σ H v u Q I r h => h s _ Cc cl fp pins s0 u I r⟩) (fun s H Cc cl fp => ⟨fun pins s0 σ H Q I h => h s _ Cc cl fp pins s0 I⟩) (fun s H Cc cl fp => ⟨fun pins s0 σ H Q I h => h s _ Cc cl fp pins s0 I⟩) (fun s H Cc cl fp => ⟨fun pins s0 σ H Q I h => h s _ Cc cl fp pins s0 I⟩) (fun x => noset_fold nset X.env x)
    rw [own_map] at pe
    exact of_pe pe (tdc env σ G H Q s a)
theorem evAll_ok : ∀ (cs : List E) {X : Cx} {Wx : WX} {ifs : List Expr}, CxOk X W C T Wx → chkB1 T X.N X.env.scope cs ifs = true → GoodTs X W Wx ifs (evAll C cs)
  | [], X, Wx, ifs, cx, h => by
    cases ifs <;> simp only [chkB1, reduceCtorEq, Bool.false_eq_true] at h
    intro env σ G H Q s a
    simp only [evAll] at a
    exact of_pts pts_nil (a true G H (Keep.refl s.gh) s rfl)
  | [c], X, Wx, ifs, cx, h => by
    match ifs, h with
    | [], h => simp [chkB1] at h
    | _ :: _ :: _, h => simp [chkB1] at h
    | [e], h =>
      simp only [chkB1] at h
      intro env σ G H Q s a
      simp only [evAll] at a
      refine of_pts (pts_one ptU) (evB_ok c cx h env σ G H Q s ?_)
      cases q : asB (ev C c) env with
      | no => rw [q] at a; exact a
      | ex x e' => rw [q] at a; exact a
      | ok b e' =>
        rw [q] at a
        cases b <;> exact a
  | _ :: _ :: _, X, Wx, ifs, cx, h => by cases ifs <;> simp [chkB1] at h
theorem evB_ok : ∀ (c : E) {X : Cx} {Wx : WX} {e : Expr}, CxOk X W C T Wx → chkB T X.N X.env.scope c e = true → GoodB X W Wx e (asB (ev C c))
  | .var i, X, Wx, e, cx, h => by
    cases e <;> first | (simp only [chkB, reduceCtorEq, Bool.false_eq_true] at h; done) | skip
    simp only [chkB] at h
    intro env σ G H Q s a
    exact wt_val (fun _ => rfl) (good_B (m := ev C (.var i)) (by simp only [ev]; exact var_ok h) s a)
  | .op o as, X, Wx, e, cx, h => by
    simp only [chkB] at h
    split at h
    · rename_i es hp
      intro env σ G H Q s a
      have a := aft_asB a
      simp only [ev] at a
      have co := op_core (X := X) (Wx := Wx) (es := es) (evs_ok as cx h) (fun env σ G H R os e1 => evsP_ok as cx h env σ G H R os e1) s a
      cases hd : disp o with
      | true =>
        have we := disp_parts cx hp hd (co.1 hd)
        cases e <;> first | exact wt_val (fun _ => rfl) we | skip
        all_goals (cases o <;> simp only [disp, Bool.false_eq_true] at hd)
        all_goals (exfalso; clear we co a; unfold parts at hp; simp only [rngOf] at hp; unfold parts0 at hp; split at hp <;> first | (rename_i e; cases e; done) | skip)
        all_goals (try (rename_i e; cases e))
        all_goals (simp [cmpOf2, cmpOf, isOf] at hp)
      | false => exact op_partsB cx hp hd (co.2 hd)
    · cases h
  | .and c1 c2, X, Wx, e, cx, h => by
    cases e <;> first | (simp only [chkB, reduceCtorEq, Bool.false_eq_true] at h; done) | skip
    rename_i op vals pos
    cases op with
    | Or => simp [chkB] at h
    | And =>
      match vals, h with
      | [], h => simp [chkB] at h
      | [_], h => simp [chkB] at h
      | x :: y :: r, h =>
        simp only [chkB, Bool.and_eq_true] at h
        intro env σ G H Q s a
        have g2 : ∃ t, PW X (.BoolOp .And (y :: r) pos) t ∧ ∀ (env : Env) (σ : St) (G H : Hp) (Q : Bool → Hp → Prop), StOk W G H σ env → Aft W BOk σ (OwnA σ env) G H Q Wx (asB (ev C c2) env) → t σ H Q := by
          cases r with
          | nil => exact ⟨_, pw_and1 ptU, evB_ok c2 cx h.2⟩
          | cons z r => exact ⟨_, pwU, evB_ok c2 cx h.2⟩
        obtain ⟨t, pt, gt⟩ := g2
        refine of_pt (pw_and ptU pt).pt ?_
        rw [asB_and] at a
        refine evB_ok c1 cx h.1 env σ G H _ s (aft_bind BOk.bears a fun b e1 b' G1 H1 _ k1 s1 r1 a1 => ?_)
        have r1 : b' = b := r1
        subst r1
        cases b' with
        | true =>
          rw [if_pos rfl] at a1 ⊢
          exact gt e1 σ G1 H1 Q s1 a1
        | false =>
          rw [if_neg Bool.false_ne_true] at a1 ⊢
          exact a1 false G1 H1 (Keep.refl s1.gh) s1 rfl
  | .or c1 c2, X, Wx, e, cx, h => by
    cases e <;> first | (simp only [chkB, reduceCtorEq, Bool.false_eq_true] at h; done) | skip
    rename_i op vals pos
    cases op with
    | And => simp [chkB] at h
    | Or =>
      match vals, h with
      | [], h => simp [chkB] at h
      | [_], h => simp [chkB] at h
      | x :: y :: r, h =>
        simp only [chkB, Bool.and_eq_true] at h
        intro env σ G H Q s a
        have g2 : ∃ t, PW X (.BoolOp .Or (y :: r) pos) t ∧ ∀ (env : Env) (σ : St) (G H : Hp) (Q : Bool → Hp → Prop), StOk W G H σ env → Aft W BOk σ (OwnA σ env) G H Q Wx (asB (ev C c2) env) → t σ H Q := by
          cases r with
          | nil => exact ⟨_, pw_or1 ptU, evB_ok c2 cx h.2⟩
          | cons z r => exact ⟨_, pwU, evB_ok c2 cx h.2⟩
        obtain ⟨t, pt, gt⟩ := g2
        refine of_pt (pw_or ptU pt).pt ?_
        rw [asB_or] at a
        refine evB_ok c1 cx h.1 env σ G H _ s (aft_bind BOk.bears a fun b e1 b' G1 H1 _ k1 s1 r1 a1 => ?_)
        have r1 : b' = b := r1
        subst r1
        cases b' with
        | true =>
          rw [if_pos rfl] at a1 ⊢
          exact a1 true G1 H1 (Keep.refl s1.gh) s1 rfl
        | false =>
          rw [if_neg Bool.false_ne_true] at a1 ⊢
          exact gt e1 σ G1 H1 Q s1 a1
  | .not c1, X, Wx, e, cx, h => by
    cases e <;> first | (simp only [chkB, reduceCtorEq, Bool.false_eq_true] at h; done) | skip
    rename_i op x pos
    cases op <;> first | (simp only [chkB, reduceCtorEq, Bool.false_eq_true] at h; done) | skip
    simp only [chkB] at h
    intro env σ G H Q s a
    refine of_pt (pt_not ptU) ?_
    rw [asB_not] at a
    refine evB_ok c1 cx h env σ G H _ s (aft_bind BOk.bears a fun b e1 b' G1 H1 _ k1 s1 r1 a1 => ?_)
    have r1 : b' = b := r1
    subst r1
    exact a1 (!b') G1 H1 (Keep.refl s1.gh) s1 rfl
  | .chain o p c1 c2 c3, X, Wx, e, cx, h => by
    cases e <;> first | (simp only [chkB, reduceCtorEq, Bool.false_eq_true] at h; done) | skip
    rename_i x ops cs pos
    match ops, cs, h with
    | [q, r], [y, z], h =>
      simp only [chkB, Bool.and_eq_true, decide_eq_true_eq] at h
      obtain ⟨⟨⟨⟨hq, hr⟩, h1⟩, h2⟩, h3⟩ := h
      intro env σ G H Q s a
      have a := aft_asB a
      simp only [ev] at a
      exact of_pt (pt_chain (cmp_r cx (cmpOf_2 hq)) (cmp_r cx (cmpOf_2 hr)) peU peU peU (cmp_mark hr z)) (chain_q cx hq hr (ev_ok c1 cx h1) (ev_ok c2 cx h2) (ev_ok c3 cx h3) s a)
    | [], _, h => simp [chkB] at h
    | [_], _, h => simp [chkB] at h
    | _ :: _ :: _ :: _, _, h => simp [chkB] at h
    | [_, _], [], h => simp [chkB] at h
    | [_, _], [_], h => simp [chkB] at h
    | [_, _], _ :: _ :: _ :: _, h => simp [chkB] at h
  | .chain3 o p t c1 c2 c3 c4, X, Wx, e, cx, h => by
    obtain ⟨x, q, r, q3, y, z, u, pos, rfl⟩ : ∃ x q r q3 y z u pos, e = .Compare x [q, r, q3] [y, z, u] pos := by
      unfold chkB at h
      split at h <;> first | (rename_i w _; cases w; done) | (rename_i w; cases w; done) | skip
      · rename_i w _
        cases w
        exact ⟨_, _, _, _, _, _, _, _, rfl⟩
      · cases h
    simp only [chkB, Bool.and_eq_true, decide_eq_true_eq] at h
    obtain ⟨⟨⟨⟨⟨⟨hq, hr⟩, ht⟩, h1⟩, h2⟩, h3⟩, h4⟩ := h
    intro env σ G H Q s a
    have a := aft_asB a
    simp only [ev] at a
    exact of_pt (pt_chain3 (cmp_r cx (cmpOf_2 hq)) (cmp_r cx (cmpOf_2 hr)) (cmp_r cx (cmpOf_2 ht)) peU peU peU peU (mark3 (cmp_mark ht u))) (chain3_q cx hq hr ht (ev_ok c1 cx h1) (ev_ok c2 cx h2) (ev_ok c3 cx h3) (ev_ok c4 cx h4) s a)
  | .call f as, X, Wx, e, cx, h => by
    cases e <;> first | (simp only [chkB, reduceCtorEq, Bool.false_eq_true] at h; done) | skip
    rename_i fn es kws pos
    cases fn <;> first | (simp only [chkB, reduceCtorEq, Bool.false_eq_true] at h; done) | skip
    rename_i x p
    cases kws <;> first | (simp only [chkB, reduceCtorEq, Bool.false_eq_true] at h; done) | skip
    simp only [chkB, Bool.and_eq_true, decide_eq_true_eq, Bool.not_eq_true'] at h
    obtain ⟨⟨⟨⟨h1, h2⟩, h3⟩, h4⟩, h5⟩ := h
    intro env σ G H Q s a
    exact wt_val (fun _ => rfl) (good_B (m := ev C (.call f as)) (by simp only [ev]; exact call_ok cx h1 h2 h3 h4 (evs_ok as cx h5)) s a)
  | .pk _, X, Wx, e, cx, h => by simp [chkB] at h
  | .cst _, X, Wx, e, cx, h => by simp [chkB] at h
  | .glb _ _, X, Wx, e, cx, h => by simp [chkB] at h
  | .fnv _ _, X, Wx, e, cx, h => by simp [chkB] at h
  | .callV _ _, X, Wx, e, cx, h => by simp [chkB] at h
  | .ite _ _ _, X, Wx, e, cx, h => by simp [chkB] at h
  | .comp _ _ _ _ _ _, X, Wx, e, cx, h => by simp [chkB] at h
  | .dct1 _ _, X, Wx, e, cx, h => by simp [chkB] at h
  | .dcomp _ _ _ _ _ _ _ _, X, Wx, e, cx, h => by simp [chkB] at h
  | .comp2 _ _ _ _ _ _ _ _ _ _, X, Wx, e, cx, h => by simp [chkB] at h
theorem evs_ok : ∀ (cs : List E) {X : Cx} {Wx : WX} {es : List Expr}, CxOk X W C T Wx → chks T X.N X.env.scope cs es = true → GoodL X W Wx es (evs C cs)
  | [], X, Wx, es, cx, h => by
    cases es <;> simp only [chks, reduceCtorEq, Bool.false_eq_true] at h
    intro env σ G H Q s a
    simp only [evs] at a
    exact a [] G H (Keep.refl s.gh) s (by simp only [LOk, OpdsV])
  | c :: cs, X, Wx, es, cx, h => by
    cases es <;> simp only [chks, reduceCtorEq, Bool.false_eq_true] at h
    simp only [Bool.and_eq_true] at h
    intro env σ G H Q s a
    simp only [evs] at a
    refine opd_ok (pk_of h.1) (ev_ok c cx h.1) s (aft_bind LOk.bears a fun o e1 v G1 H1 _ k1 s1 r1 a1 => ?_)
    refine evs_ok cs cx h.2 e1 σ G1 H1 _ s1 (aft_bind LOk.bears a1 fun os e2 vs G2 H2 _ k2 s2 r2 a2 => ?_)
    refine a2 (v :: vs) G2 H2 (Keep.refl s2.gh) s2 ?_
    simp only [LOk, OpdsV]
    exact ⟨v, vs, rfl, OpdV.mono k2.gg r1, r2⟩
theorem evsP_ok : ∀ (cs : List E) {X : Cx} {Wx : WX} {es : List Expr}, CxOk X W C T Wx → chks T X.N X.env.scope cs es = true →
    ∀ (env : Env) (σ : St) (G H : Hp) (R : List V → Hp → Prop) (os : List Opd) (e1 : Env), evs C cs env = .ok os e1 → StOk W G H σ env →
      (∀ vs G' H', Keep (OwnA σ env) G H (OwnA σ e1) G' H' → StOk W G' H' σ e1 → OpdsV W G' σ os vs → R vs H') → os.length = es.length ∧ WQM X W es (os.map odat) σ H R
  | [], X, Wx, es, cx, h, env, σ, G, H, R, os, e1, q, s, k => by
    cases es <;> simp only [chks, reduceCtorEq, Bool.false_eq_true] at h
    simp only [evs, Rs.ok.injEq] at q
    obtain ⟨rfl, rfl⟩ := q
    exact ⟨rfl, k [] G H (Keep.refl s.gh) s (by simp only [OpdsV])⟩
  | c :: cs, X, Wx, es, cx, h, env, σ, G, H, R, os, e1, q, s, k => by
    cases es <;> simp only [chks, reduceCtorEq, Bool.false_eq_true] at h
    rename_i e es
    simp only [Bool.and_eq_true] at h
    simp only [evs] at q
    cases q1 : opdM c (ev C c) env with
    | no => rw [q1] at q; cases q
    | ex x e2 => rw [q1] at q; cases q
    | ok o e2 =>
      rw [q1] at q
      simp only [Rs.bind] at q
      cases q2 : evs C cs e2 with
      | no => rw [q2] at q; cases q
      | ex x e3 => rw [q2] at q; cases q
      | ok os' e3 =>
        rw [q2] at q
        simp only [Rs.ok.injEq] at q
        obtain ⟨rfl, rfl⟩ := q
        refine ⟨?_, ?_⟩
        · have := evs_len' cs q2 h.2
          simp only [List.length_cons] at this ⊢
          omega
        · have step : ∀ (v : V) (G1 H1 : Hp), Keep (OwnA σ env) G H (OwnA σ e2) G1 H1 → StOk W G1 H1 σ e2 → OpdV W G1 σ o v → WQM X W es (os'.map odat) σ H1 fun vs H2 => R (v :: vs) H2 := fun v G1 H1 k1 s1 r1 =>
            (evsP_ok cs cx h.2 e2 σ G1 H1 _ os' e3 q2 s1 fun vs G2 H2 k2 s2 r2 => by
              refine k (v :: vs) G2 H2 (k1.trans k2) s2 ?_
              simp only [OpdsV]
              exact ⟨v, vs, rfl, OpdV.mono k2.gg r1, r2⟩).2
          cases o with
          | d x =>
            show WE X e σ H fun v H1 => (∃ G, Ex G H1 ∧ Rep W G x v) ∧ WQM X W es (os'.map odat) σ H1 fun vs H2 => R (v :: vs) H2
            refine opd_ok (pk_of h.1) (ev_ok c cx h.1) s ?_
            rw [q1]
            exact fun v G1 H1 k1 s1 r1 => ⟨⟨G1, s1.gh, r1⟩, step v G1 H1 k1 s1 r1⟩
          | pk i =>
            show WE X e σ H fun v H1 => WQM X W es (os'.map odat) σ H1 fun vs H2 => R (v :: vs) H2
            refine opd_ok (pk_of h.1) (ev_ok c cx h.1) s ?_
            rw [q1]
            exact fun v G1 H1 k1 s1 r1 => step v G1 H1 k1 s1 r1
end
end
end Itp
set_option Elab.async false
set_option linter.all false
set_option maxRecDepth 100000
set_option maxHeartbeats 4000000
namespace Itp
open PySem L2
section
variable {W : Wd} {C : Cfg} {T : Tab}
/-! ### no lent slot comes about by itself -/
def ParB (e e' : Env) : Prop := ∀ i, (slot e' i).isPar = true → (slot e i).isPar = true
theorem ParB.refl (e : Env) : ParB e e := fun _ h => h
theorem ParB.trans {a b c : Env} (x : ParB a b) (y : ParB b c) : ParB a c := fun i h => x i (y i h)
theorem ParB.set {e : Env} {i : Nat} {s : Slot} (h : s.isPar = true → (slot e i).isPar = true) : ParB e (e.set i s) := fun j q => by
  rw [slot_set] at q
  by_cases z : i = j
  · subst z
    rw [if_pos rfl] at q
    split at q
    · exact h q
    · cases q
  · rw [if_neg z] at q; exact q
def NP {α : Type} (e : Env) : Rs α → Prop
  | .ok _ e' => ParB e e'
  | .ex _ e' => ParB e e'
  | .no => True
theorem NP.bind {α β : Type} {e : Env} {r : Rs α} {f : α → Env → Rs β} (h : NP e r) (k : ∀ a e', r = .ok a e' → NP e' (f a e')) : NP e (r.bind f) := by
  cases r with
  | no => trivial
  | ex x e' => exact h
  | ok a e' =>
    have q := k a e' rfl
    show NP e (f a e')
    cases z : f a e' with
    | no => trivial
    | ex x e2 => rw [z] at q; exact ParB.trans h q
    | ok b e2 => rw [z] at q; exact ParB.trans h q
theorem np_ofO {α : Type} {o : Option α} {e : Env} : NP e (ofO o e) := by
  cases o with
  | none => trivial
  | some a => exact ParB.refl e
theorem np_fz {m : M Res} {e : Env} (h : NP e (m e)) : NP e (fz m e) := NP.bind h fun _ e' _ => ParB.refl e'
theorem np_asB {m : M Res} {e : Env} (h : NP e (m e)) : NP e (asB m e) := NP.bind h fun r e' _ => by
  match r with
  | .val (.bl b) => exact ParB.refl e'
  | .val .non | .val (.int _) | .val (.str _) | .val (.tup _) | .val (.lst _) | .val (.dct _ _) | .val (.fn _) | .val (.scr _) | .val (.ftp _) | .new _ => trivial
theorem np_var {i : Nat} {e : Env} : NP e (rdVar i e) := by
  unfold rdVar
  cases slot e i with
  | un => trivial
  | val d => exact ParB.refl e
  | own d => exact ParB.set fun h => by cases h
  | par d => trivial
theorem np_op {o : Op} {m : M (List Opd)} {e : Env} (h : NP e (m e)) : NP e (opM o m e) := by
  unfold opM
  cases q : m e with
  | no => trivial
  | ex x e' =>
    rw [q] at h
    simp only
    split
    · trivial
    · exact h
  | ok os e' =>
    rw [q] at h
    simp only
    split
    · split
      · trivial
      · split
        · trivial
        · cases prim o _ with
          | none => trivial
          | some r => exact h
    · trivial
theorem np_put : ∀ (is : List Nat) (ds : List D) (e e' : Env), putBack e is ds = some e' → ParB e e'
  | [], [], e, e', h => by simp [putBack] at h; subst h; exact ParB.refl e
  | [], _ :: _, e, e', h => by simp [putBack] at h
  | _ :: _, [], e, e', h => by simp [putBack] at h
  | i :: is, d :: ds, e, e', h => by
    simp only [putBack] at h
    refine ParB.trans (ParB.set fun q => ?_) (np_put is ds _ e' h)
    cases z : slot e i <;> rw [z] at q <;> first | exact q | cases q
theorem np_call {F : Fn} {m : M (List Opd)} {e : Env} (h : NP e (m e)) : NP e (callM F m e) := by
  unfold callM
  refine NP.bind h fun os e1 _ => ?_
  cases toArgs e1 os with
  | none => trivial
  | some as =>
    simp only
    split
    · cases F as with
      | no => trivial
      | ok r fin =>
        simp only
        cases q : putBack e1 (muts e1 os) fin with
        | none => trivial
        | some e2 => exact np_put _ _ _ _ q
      | ex x fin =>
        simp only
        cases q : putBack e1 (muts e1 os) fin with
        | none => trivial
        | some e2 => exact np_put _ _ _ _ q
    · trivial
theorem np_it {k : ItK} {m : M (List Opd)} {e : Env} (h : NP e (m e)) : NP e (itM k m e) := by
  unfold itM
  cases q : m e with
  | no => trivial
  | ex x e' => trivial
  | ok os e' =>
    rw [q] at h
    simp only
    split
    · split
      · cases items k _ with
        | none => trivial
        | some r => exact h
      · trivial
    · trivial
mutual
theorem np_bindT : ∀ (t : Tg) (d : D) (e e' : Env), bindT t d e = some e' → ParB e e'
  | .nm i, d, e, e', h => by
    simp only [bindT] at h
    cases z : slot e i <;> rw [z] at h <;> simp at h <;> (subst h; exact ParB.set fun q => by cases q)
  | .tp ts, d, e, e', h => by
    cases d <;> simp only [bindT, reduceCtorEq] at h
    · exact np_bindTs ts _ e e' h
    · exact np_bindTs ts _ e e' h
theorem np_bindTs : ∀ (ts : List Tg) (ds : List D) (e e' : Env), bindTs ts ds e = some e' → ParB e e'
  | [], ds, e, e', h => by cases ds <;> simp [bindTs] at h; subst h; exact ParB.refl e
  | t :: ts, ds, e, e', h => by
    cases ds <;> simp only [bindTs, reduceCtorEq] at h
    rename_i d ds
    cases q : bindT t d e with
    | none => rw [q] at h; simp at h
    | some e1 =>
      rw [q] at h
      exact ParB.trans (np_bindT t d e e1 q) (np_bindTs ts ds e1 e' h)
end
theorem np_hide (e : Env) (own : List Nat) : ParB e (hideE e own) := fun i h => by
  rw [hide_slot] at h
  split at h
  · cases h
  · exact h
theorem np_compL {tg : Tg} {own : List Nat} {c : M Bool} {m : M D} (hc : ∀ e, NP e (c e)) (hm : ∀ e, NP e (m e)) : ∀ (xs acc : List D) (e : Env), NP e (compL tg own c m xs acc e)
  | [], acc, e => ParB.refl e
  | x :: xs, acc, e => by
    simp only [compL]
    cases q : bindT tg x e with
    | none => trivial
    | some e1 =>
      simp only
      have p1 := np_bindT tg x e e1 q
      have h1 := hc e1
      cases q1 : c e1 with
      | no => trivial
      | ex x e2 => trivial
      | ok b e2 =>
        rw [q1] at h1
        have p2 := ParB.trans p1 h1
        cases b with
        | false =>
          simp only
          have ih := np_compL (tg := tg) (own := own) hc hm xs acc (hideE e2 own)
          have p3 := ParB.trans p2 (np_hide e2 own)
          cases z : compL tg own c m xs acc (hideE e2 own) with
          | no => trivial
          | ex x e4 => rw [z] at ih; exact ParB.trans p3 ih
          | ok b e4 => rw [z] at ih; exact ParB.trans p3 ih
        | true =>
          simp only
          have h2 := hm e2
          cases q2 : m e2 with
          | no => trivial
          | ex x e3 => trivial
          | ok d e3 =>
            rw [q2] at h2
            simp only
            split
            · have ih := np_compL (tg := tg) (own := own) hc hm xs (acc ++ [d]) (hideE e3 own)
              have p3 := ParB.trans (ParB.trans p2 h2) (np_hide e3 own)
              cases z : compL tg own c m xs (acc ++ [d]) (hideE e3 own) with
              | no => trivial
              | ex x e4 => rw [z] at ih; exact ParB.trans p3 ih
              | ok b e4 => rw [z] at ih; exact ParB.trans p3 ih
            · trivial
theorem np_back {e e0 : Env} {own : List Nat} (h : ParB (hideE e0 own) e) : ParB e0 (backE e e0 own) := by
  intro i q
  have gen : ∀ own' : List Nat, (slot (backE e e0 own') i).isPar = true → (slot e i).isPar = true ∨ (slot e0 i).isPar = true := by
    intro own'
    induction own' with
    | nil => intro z; exact .inl z
    | cons j js ih =>
      intro z
      unfold backE at z
      rw [slot_set] at z
      by_cases y : j = i
      · subst y
        rw [if_pos rfl] at z
        split at z
        · exact .inr z
        · cases z
      · rw [if_neg y] at z
        exact ih z
  rcases gen own q with z | z
  · have := h i z
    rw [hide_slot] at this
    split at this
    · cases this
    · exact this
  · exact z
theorem np_comp {its : M (List D)} {tg : Tg} {own : List Nat} {c : M Bool} {m : M D} {e : Env} (hi : NP e (its e)) (hc : ∀ e, NP e (c e)) (hm : ∀ e, NP e (m e)) : NP e (compM its tg own c m e) := by
  unfold compM
  refine NP.bind hi fun xs e1 _ => ?_
  have h := np_compL (tg := tg) (own := own) hc hm xs [] (hideE e1 own)
  cases z : compL tg own c m xs [] (hideE e1 own) with
  | no => trivial
  | ex x e2 => trivial
  | ok ds e2 =>
    rw [z] at h
    exact np_back h
theorem np_compL2 {tg : Tg} {own : List Nat} {its : M (List D)} {tg1 : Tg} {own1 : List Nat} {c : M Bool} {m : M D} (hi : ∀ e, NP e (its e)) (hc : ∀ e, NP e (c e)) (hm : ∀ e, NP e (m e)) : ∀ (xs acc : List D) (e : Env), NP e (compL2 tg own its tg1 own1 c m xs acc e)
  | [], acc, e => ParB.refl e
  | x :: xs, acc, e => by
    simp only [compL2]
    cases hb : bindT tg x e with
    | none => trivial
    | some e1 =>
      have p1 := np_bindT tg x e e1 hb
      simp only
      have h1 := hi e1
      cases hq : its e1 with
      | no => trivial
      | ex y e2 => trivial
      | ok ys e2 =>
        rw [hq] at h1
        simp only
        have h2 := np_compL (tg := tg1) (own := own1) hc hm ys acc (hideE e2 own1)
        cases hr : compL tg1 own1 c m ys acc (hideE e2 own1) with
        | no => trivial
        | ex y e3 => trivial
        | ok acc2 e3 =>
          rw [hr] at h2
          simp only
          have ih := np_compL2 (tg := tg) (own := own) (its := its) (tg1 := tg1) (own1 := own1) hi hc hm xs acc2 (hideE e3 own)
          have p3 : ParB e (hideE e3 own) := ParB.trans (ParB.trans (ParB.trans p1 h1) (ParB.trans (np_hide e2 own1) h2)) (np_hide e3 own)
          cases z : compL2 tg own its tg1 own1 c m xs acc2 (hideE e3 own) with
          | no => trivial
          | ex x e4 => rw [z] at ih; exact ParB.trans p3 ih
          | ok b e4 => rw [z] at ih; exact ParB.trans p3 ih
theorem np_comp2 {its its1 : M (List D)} {tg tg1 : Tg} {own own1 : List Nat} {c : M Bool} {m : M D} {e : Env} (hi : NP e (its e)) (hi1 : ∀ e, NP e (its1 e)) (hc : ∀ e, NP e (c e)) (hm : ∀ e, NP e (m e)) : NP e (compM2 its tg own its1 tg1 own1 c m e) := by
  unfold compM2
  refine NP.bind hi fun xs e1 _ => ?_
  have h := np_compL2 (tg := tg) (own := own) (its := its1) (tg1 := tg1) (own1 := own1) hi1 hc hm xs [] (hideE e1 own)
  cases z : compL2 tg own its1 tg1 own1 c m xs [] (hideE e1 own) with
  | no => trivial
  | ex x e2 => trivial
  | ok ds e2 =>
    rw [z] at h
    exact np_back h
theorem np_dcompL {t : Bool} {tg : Tg} {own : List Nat} {c : M Bool} {mk mv : M D} (hc : ∀ e, NP e (c e)) (hk : ∀ e, NP e (mk e)) (hv : ∀ e, NP e (mv e)) : ∀ (xs : List D) (acc : List (D × D)) (e : Env), NP e (dcompL t tg own c mk mv xs acc e)
  | [], acc, e => ParB.refl e
  | x :: xs, acc, e => by
    simp only [dcompL]
    cases q : bindT tg x e with
    | none => trivial
    | some e1 =>
      simp only
      have p1 := np_bindT tg x e e1 q
      have h1 := hc e1
      cases q1 : c e1 with
      | no => trivial
      | ex x e2 => trivial
      | ok b e2 =>
        rw [q1] at h1
        have p2 := ParB.trans p1 h1
        cases b with
        | false =>
          simp only
          have ih := np_dcompL (t := t) (tg := tg) (own := own) hc hk hv xs acc (hideE e2 own)
          have p3 := ParB.trans p2 (np_hide e2 own)
          cases z : dcompL t tg own c mk mv xs acc (hideE e2 own) with
          | no => trivial
          | ex x e4 => rw [z] at ih; exact ParB.trans p3 ih
          | ok b e4 => rw [z] at ih; exact ParB.trans p3 ih
        | true =>
          simp only
          have h2 := hk e2
          cases q2 : mk e2 with
          | no => trivial
          | ex x e3 => trivial
          | ok k e3 =>
            rw [q2] at h2
            simp only
            have h3 := hv e3
            cases q3 : mv e3 with
            | no => trivial
            | ex x e4 => trivial
            | ok v e4 =>
              rw [q3] at h3
              simp only
              split
              · have ih := np_dcompL (t := t) (tg := tg) (own := own) hc hk hv xs (dput acc k v) (hideE e4 own)
                have p3 := ParB.trans (ParB.trans (ParB.trans p2 h2) h3) (np_hide e4 own)
                cases z : dcompL t tg own c mk mv xs (dput acc k v) (hideE e4 own) with
                | no => trivial
                | ex x e5 => rw [z] at ih; exact ParB.trans p3 ih
                | ok b e5 => rw [z] at ih; exact ParB.trans p3 ih
              · trivial
theorem np_dcomp {t : Bool} {its : M (List D)} {tg : Tg} {own : List Nat} {c : M Bool} {mk mv : M D} {e : Env} (hi : NP e (its e)) (hc : ∀ e, NP e (c e)) (hk : ∀ e, NP e (mk e)) (hv : ∀ e, NP e (mv e)) : NP e (dcompM t its tg own c mk mv e) := by
  unfold dcompM
  refine NP.bind hi fun xs e1 _ => ?_
  have h := np_dcompL (t := t) (tg := tg) (own := own) hc hk hv xs [] (hideE e1 own)
  cases z : dcompL t tg own c mk mv xs [] (hideE e1 own) with
  | no => trivial
  | ex x e2 => trivial
  | ok ds e2 =>
    rw [z] at h
    exact np_back h
mutual
theorem np_ev : ∀ (c : E) (e : Env), NP e (ev C c e)
  | .var i, e => by simp only [ev]; exact np_var
  | .pk _, e => by simp only [ev]; trivial
  | .cst _, e => by simp only [ev]; exact ParB.refl e
  | .glb _ _, e => by simp only [ev]; exact ParB.refl e
  | .op o as, e => by simp only [ev]; exact np_op (np_evs as e)
  | .and a b, e => by
    simp only [ev]
    refine NP.bind (np_asB (np_ev a e)) fun t e1 _ => ?_
    cases t with
    | true => exact NP.bind (np_asB (np_ev b e1)) fun _ e2 _ => ParB.refl e2
    | false => exact ParB.refl e1
  | .or a b, e => by
    simp only [ev]
    refine NP.bind (np_asB (np_ev a e)) fun t e1 _ => ?_
    cases t with
    | false => exact NP.bind (np_asB (np_ev b e1)) fun _ e2 _ => ParB.refl e2
    | true => exact ParB.refl e1
  | .not a, e => by
    simp only [ev]
    exact NP.bind (np_asB (np_ev a e)) fun _ e2 _ => ParB.refl e2
  | .ite c a b, e => by
    simp only [ev]
    refine NP.bind (np_asB (np_ev c e)) fun t e1 _ => ?_
    cases t with
    | true => exact np_ev a e1
    | false => exact np_ev b e1
  | .chain o p a b c, e => by
    simp only [ev]
    refine NP.bind (np_fz (np_ev a e)) fun x e1 _ => NP.bind (np_fz (np_ev b e1)) fun y e2 _ => ?_
    split
    · exact NP.bind (np_fz (np_ev c e2)) fun z e3 _ => np_ofO
    · exact ParB.refl e2
    · trivial
  | .chain3 o p q a b c d, e => by
    simp only [ev]
    refine NP.bind (np_fz (np_ev a e)) fun x e1 _ => NP.bind (np_fz (np_ev b e1)) fun y e2 _ => ?_
    split
    · refine NP.bind (np_fz (np_ev c e2)) fun z e3 _ => ?_
      split
      · exact NP.bind (np_fz (np_ev d e3)) fun z e4 _ => np_ofO
      · exact ParB.refl e3
      · trivial
    · exact ParB.refl e2
    · trivial
  | .fnv _ _, e => by simp only [ev]; exact ParB.refl e
  | .callV f as, e => by
    simp only [ev]
    refine NP.bind (np_ev f e) fun r e1 _ => ?_
    split
    · split
      · exact np_call (np_evs as e1)
      · trivial
    · trivial
  | .call f as, e => by simp only [ev]; exact np_call (np_evs as e)
  | .comp k as tg own conds elt, e => by simp only [ev]; exact np_comp (np_it (np_evs as e)) (fun e => np_evAll conds e) (fun e => np_fz (np_ev elt e))
  | .dct1 k v, e => by
    simp only [ev]
    refine NP.bind (np_fz (np_ev k e)) fun x e1 _ => NP.bind (np_fz (np_ev v e1)) fun y e2 _ => ?_
    split
    · exact ParB.refl e2
    · trivial
  | .dcomp t k as tg own conds kx vx, e => by simp only [ev]; exact np_dcomp (np_it (np_evs as e)) (fun e => np_evAll conds e) (fun e => np_fz (np_ev kx e)) (fun e => np_fz (np_ev vx e))
  | .comp2 k as tg own k1 as1 tg1 own1 conds elt, e => by simp only [ev]; exact np_comp2 (np_it (np_evs as e)) (fun e => np_it (np_evs as1 e)) (fun e => np_evAll conds e) (fun e => np_fz (np_ev elt e))
theorem np_evs : ∀ (cs : List E) (e : Env), NP e (evs C cs e)
  | [], e => by simp only [evs]; exact ParB.refl e
  | c :: cs, e => by
    simp only [evs]
    refine NP.bind ?_ fun o e1 _ => NP.bind (np_evs cs e1) fun os e2 _ => ParB.refl e2
    unfold opdM
    split
    · rename_i i
      cases slot e i <;> first | trivial | exact ParB.refl e
    · exact NP.bind (np_fz (np_ev c e)) fun _ e2 _ => ParB.refl e2
theorem np_evAll : ∀ (cs : List E) (e : Env), NP e (evAll C cs e)
  | [], e => by simp only [evAll]; exact ParB.refl e
  | c :: cs, e => by
    simp only [evAll]
    refine NP.bind (np_asB (np_ev c e)) fun b e1 _ => ?_
    cases b with
    | true => exact np_evAll cs e1
    | false => exact ParB.refl e1
end
theorem np_evRs : ∀ (cs : List E) (e : Env), NP e (evRs C cs e)
  | [], e => by simp only [evRs]; exact ParB.refl e
  | c :: cs, e => by
    simp only [evRs]
    exact NP.bind (np_ev c e) fun r e1 _ => NP.bind (np_evRs cs e1) fun rs e2 _ => ParB.refl e2
theorem ParB.k {σ : St} {e e' : Env} (h : ParB e e') : ParK σ e σ e' := fun i q => ⟨h i q, rfl⟩
end
end Itp
set_option Elab.async false
set_option linter.all false
set_option maxRecDepth 100000
set_option maxHeartbeats 4000000
namespace Itp
open PySem L2
section
variable {W : Wd} {C : Cfg} {T : Tab}
/-! ### statements -/
def FlOk (W : Wd) (S : Addr → Prop) (H : Hp) (S' : Addr → Prop) (G' : Hp) (σ' : St) (H' : Hp) (De : Ends) : Fl → Prop
  | .nx => De.nx σ' H'
  | .bk => De.bk σ' H'
  | .ct => De.ct σ' H'
  | .rt r => ∀ v, ResOk W S H S' G' H' r v → De.rt v H'
def AftS (W : Wd) (σ : St) (e : Env) (S : Addr → Prop) (G H : Hp) (De : Ends) (Wx : WX) : Rs Fl → Prop
  | .no => False
  | .ok f e' => ∀ σ' G' H', Keep S G H (OwnA σ' e') G' H' → StOk W G' H' σ' e' → ParK σ e σ' e' → FlOk W S H (OwnA σ' e') G' σ' H' De f
  | .ex x e' => ∀ σ' c d G' H', Keep S G H (OwnA σ' e') G' H' → StOk W G' H' σ' e' → ParK σ e σ' e' → XOk W G' H' x c d → Wx c d σ' H'
theorem AftS.step {σ σ1 : St} {e e1 : Env} {S S1 : Addr → Prop} {G H G1 H1 : Hp} {De : Ends} {Wx : WX} {o : Rs Fl} (k : Keep S G H S1 G1 H1) (p : ParK σ e σ1 e1) (h : AftS W σ e S G H De Wx o) : AftS W σ1 e1 S1 G1 H1 De Wx o := by
  cases o with
  | no => exact h
  | ok f e' =>
    intro σ' G' H' k' s' p'
    have q := h σ' G' H' (k.trans k') s' (p.trans p')
    cases f with
    | nx => exact q
    | bk => exact q
    | ct => exact q
    | rt r => exact fun v hv => q v (ResOk.bears _ _ _ _ _ _ _ _ _ (fun a => k.fresh) hv)
  | ex x e' => exact fun σ' c d G' H' k' s' p' x' => h σ' c d G' H' (k.trans k') s' (p.trans p') x'
def GoodS (X : Cx) (W : Wd) (Wx : WX) (st : Stmt) (m : M Fl) : Prop := ∀ (env : Env) (σ : St) (G H : Hp) (De : Ends), StOk W G H σ env → AftS W σ env (OwnA σ env) G H De Wx (m env) → WS X st De σ H
def GoodSs (X : Cx) (W : Wd) (Wx : WX) (st : List Stmt) (m : M Fl) : Prop := ∀ (env : Env) (σ : St) (G H : Hp) (De : Ends), StOk W G H σ env → AftS W σ env (OwnA σ env) G H De Wx (m env) → WSs X st De σ H
/-- from an expression to the rest of a statement -/
theorem aft_toS {α β : Type} {R : (Addr → Prop) → Hp → (Addr → Prop) → Hp → Hp → α → β → Prop} {σ : St} {env : Env} {G H : Hp} {Q : β → Hp → Prop} {De : Ends} {Wx : WX} {o : Rs α} {f : α → Env → Rs Fl} (np : NP env o)
    (h : AftS W σ env (OwnA σ env) G H De Wx (o.bind f)) (k : ∀ a e1 v G1 H1, o = .ok a e1 → Keep (OwnA σ env) G H (OwnA σ e1) G1 H1 → ParK σ env σ e1 → StOk W G1 H1 σ e1 → R (OwnA σ env) H (OwnA σ e1) G1 H1 a v → AftS W σ e1 (OwnA σ e1) G1 H1 De Wx (f a e1) → Q v H1) :
    Aft W R σ (OwnA σ env) G H Q Wx o := by
  cases o with
  | no => exact h
  | ex x e' => exact fun c d G' H' k' s' x' => h σ c d G' H' k' s' (ParB.k np) x'
  | ok a e1 => exact fun v G1 H1 k1 s1 r1 => k a e1 v G1 H1 rfl k1 (ParB.k np) s1 r1 (AftS.step k1 (ParB.k np) h)
/-- the slot i gets a new thing -/
theorem StOk.setO {G H : Hp} {σ : St} {e : Env} (s : StOk W G H σ e) {i : Nat} {d : D} {a : Addr} (g : G a = none) (c : Cont W G H a d) (n : ¬ OwnA σ e a) : StOk W G H (σ.set i (some (.ref a))) (e.set i (.own d)) where
  gh := s.gh
  len := by rw [List.length_set, List.length_set]; exact s.len
  sl := fun j => by
    rw [slot_set]
    by_cases h : i = j
    · subst h
      rw [if_pos rfl]
      by_cases h2 : i < e.length
      · rw [if_pos h2]
        refine ⟨a, ?_, g, c⟩
        rw [List.getElem?_set, if_pos rfl, if_pos (by rw [← s.len]; exact h2)]
      · rw [if_neg h2]; trivial
    · rw [if_neg h]
      exact slotOk_at (by rw [List.getElem?_set, if_neg h]) (s.sl j)
  inj := fun j k b hjk hj hk h1 h2 => by
    rw [slot_set] at hj hk
    rw [List.getElem?_set] at h1 h2
    have other : ∀ j, i ≠ j → (slot e j).isMut = true → σ[j]? = some (some (.ref b)) → b ≠ a := fun j _ m q z => n ⟨j, m, by rw [q, z]⟩
    by_cases h : i = j
    · subst h
      by_cases h' : i = k
      · exact hjk h'
      · rw [if_neg h'] at hk h2
        rw [if_pos rfl] at h1
        split at h1
        · have : b = a := by simpa using h1.symm
          exact other k h' hk h2 this
        · cases h1
    · rw [if_neg h] at hj h1
      by_cases h' : i = k
      · subst h'
        rw [if_pos rfl] at h2
        split at h2
        · have : b = a := by simpa using h2.symm
          exact other j h hj h1 this
        · cases h2
      · rw [if_neg h'] at hk h2
        exact s.inj j k b hjk hj hk h1 h2
theorem own_setO {σ : St} {e : Env} {i : Nat} {d : D} {a b : Addr} (h : OwnA (σ.set i (some (.ref a))) (e.set i (.own d)) b) : OwnA σ e b ∨ b = a := by
  obtain ⟨j, h1, h2⟩ := h
  rw [slot_set] at h1
  rw [List.getElem?_set] at h2
  by_cases hh : i = j
  · subst hh
    rw [if_pos rfl] at h2
    split at h2
    · exact .inr (by simpa using h2.symm)
    · cases h2
  · rw [if_neg hh] at h1 h2
    exact .inl ⟨j, h1, h2⟩
/-- the thing in the slot i is changed -/
theorem StOk.putO {G H : Hp} {σ : St} {e : Env} (s : StOk W G H σ e) {i : Nat} {d' : D} {o : HO} {a : Addr} (m : (slot e i).isMut = true) (ha : σ[i]? = some (some (.ref a))) (c : Cont W G (upd H a o) a d') :
    StOk W G (upd H a o) σ (e.set i ((slot e i).put d')) ∧ Keep (OwnA σ e) G H (OwnA σ (e.set i ((slot e i).put d'))) G (upd H a o) ∧ ParK σ e σ (e.set i ((slot e i).put d')) := by
  have hi := slot_lt m
  have pm := put_mut (d := d') m
  have oa : OwnA σ e a := ⟨i, m, ha⟩
  have ga := s.own_none oa
  have same : ∀ j, (slot (e.set i ((slot e i).put d')) j).isMut = (slot e j).isMut ∧ (slot (e.set i ((slot e i).put d')) j).isPar = (slot e j).isPar := fun j => by
    rw [slot_set]
    by_cases h : i = j
    · subst h; rw [if_pos rfl, if_pos hi]; exact ⟨pm.1.trans m.symm, pm.2.2⟩
    · rw [if_neg h]; exact ⟨rfl, rfl⟩
  have own : ∀ b, OwnA σ (e.set i ((slot e i).put d')) b ↔ OwnA σ e b := fun b => ⟨fun ⟨j, h1, h2⟩ => ⟨j, by rw [← (same j).1]; exact h1, h2⟩, fun ⟨j, h1, h2⟩ => ⟨j, by rw [(same j).1]; exact h1, h2⟩⟩
  have gx : Ex G (upd H a o) := fun b u h => by rw [upd_ne (ne_of_none h ga)]; exact s.gh b u h
  refine ⟨⟨gx, by rw [List.length_set]; exact s.len, fun j => ?_, fun j k b hjk hj hk => ?_⟩, ⟨Ex.refl G, gx, fun b u h n => by rw [upd_ne (show b ≠ a from fun z => n (by rw [z]; exact oa))]; exact h, fun _ _ _ _ _ h => h, fun b h => .inl ((own b).mp h)⟩, fun j hj => ⟨by rw [← (same j).2]; exact hj, rfl⟩⟩
  · rw [slot_set]
    by_cases h : i = j
    · subst h
      rw [if_pos rfl, if_pos hi]
      exact slotOk_mut pm.1 pm.2.1 ha ga c
    · rw [if_neg h]
      have q := s.sl j
      cases w : slot e j with
      | un => trivial
      | val d => rw [w] at q; exact q
      | _ =>
        have mj : (slot e j).isMut = true := by rw [w]; rfl
        obtain ⟨d, b, z1, z2, z3, z4⟩ := s.mut mj
        have nb : b ≠ a := fun z => s.inj i j a h m mj ha (by rw [← z]; exact z2)
        rw [← w]
        exact slotOk_mut mj z1 z2 z3 (z4.mono (Ex.refl G) fun u hu => by rw [upd_ne nb]; exact hu)
  · rw [(same j).1] at hj
    rw [(same k).1] at hk
    exact s.inj j k b hjk hj hk
/-- what a statement may lean on beside -/
structure CsOk (X : Cx) (W : Wd) (C : Cfg) (T : Tab) (Wx : WX) : Prop extends CxOk X W C T Wx where
  hp : PassesOwn (model X.prog X.w) X.A X.env X.xe
  stk : X.stack = X.env :: X.outer
  frm : X.env.frame = some X.env.locals
  fn : ∀ x, X.fn x = true
  kind : X.env.scope.kind = .function
def isComp : Expr → Bool
  | .ListComp _ _ _ _ => true
  | .SetComp _ _ _ _ => true
  | .DictComp _ _ _ _ _ => true
  | _ => false
def notTupE : Expr → Bool
  | .Tuple _ _ _ => false
  | _ => true
theorem swaps_no {e : Expr} {t : Option Expr} {l : Nat} {env : PySem.Env} (h : isComp e = false) : swapsWith e t l env = pure false := by
  cases e <;> first | rfl | simp [isComp] at h
/-- name = e: the store behind the value -/
theorem ws_set {X : Cx} {Wx : WX} (cx : CsOk X W C T Wx) {i : Nat} {x : Str} {e : Expr} {p pos : Pos} {De : Ends} {σ : St} {H : Hp} (hi : X.N[i]? = some x) (hx : locB X.env.scope x = true) (hc : isComp e = false)
    (h : WE X e σ H fun v H1 => De.nx (σ.set i (some v)) H1) : WS X (.Assign [.Name x p] e pos) De σ H :=
  of_ps (ps_set cx.nd hi (locB_loc hx) peU (swaps_no hc) (.inl (cx.fn x))) h
end
end Itp
set_option Elab.async false
set_option linter.all false
set_option maxRecDepth 100000
set_option maxHeartbeats 4000000
namespace Itp
open PySem L2
section
variable {W : Wd} {C : Cfg} {T : Tab}
def fnT : Str → Bool := fun _ => true
def nameTg : Expr → Bool
  | .Name _ _ => true
  | _ => false
/-- a list of one's own, by its name -/
def ownCall (N : List Str) (sc : Scope) (m : Str) (i : Nat) : Expr → Option Expr
  | .Call (.Attribute (.Name x _) n ap) [e] [] cp => if isVar N sc i x && mthB n m ap cp && notStar e then some e else none
  | _ => none
/-- the name of an except clause -/
def chkN (N : List Str) (sc : Scope) : Option Nat → Option Str → Bool
  | none, none => true
  | some i, some n => decide (N[i]? = some n) && decide (sc.names.lookup n = some .local)
  | _, _ => false
def chkSv (N : List Str) (sc : Scope) (nm : Option Nat) : Sv → Expr → Bool
  | .cst d, .Constant c _ _ => cstIs d c
  | .fld f, .Attribute (.Name y _) g _ => decide (g = f) && (match nm with
    | some j => isVar N sc j y
    | none => false)
  | _, _ => false
def chkSvs (N : List Str) (sc : Scope) (nm : Option Nat) : List Sv → List Expr → Bool
  | [], [] => true
  | v :: vs, e :: es => chkSv N sc nm v e && chkSvs N sc nm vs es
  | _, _ => false
/-- the suite of an except clause -/
def chkSu (N : List Str) (sc : Scope) (nm : Option Nat) : Su → List Stmt → Bool
  | .cst i d, [.Assign [.Name x _] (.Constant c _ _) _] => decide (N[i]? = some x) && locB sc x && cstIs d c && decide (nm ≠ some i)
  | .lst i vs, [.Assign [.Name x _] (.List es _) _] => decide (N[i]? = some x) && locB sc x && decide (nm ≠ some i) && chkSvs N sc nm vs es
  | _, _ => false
def chkCl (T : Tab) (N : List Str) (sc : Scope) : List (Nat × Option Nat × Su) → List ExceptHandler → Bool
  | [], [] => true
  | (c, nm, su) :: r, .ExceptHandler (some (.Name x _)) n suite _ :: hr => decide (lk T.cls x = some c) && glB sc x && !(x == ("__debug__" : Str)) && chkN N sc nm n && chkSu N sc nm su suite && chkCl T N sc r hr
  | _, _ => false
theorem blk_fn {env : PySem.Env} (hk : env.scope.kind = .function) : env.blockKind = .function := by
  unfold PySem.Env.blockKind
  rw [hk]
  rfl
theorem star_any2 {es : List Expr} (h : es.all notStar = true) : (es.any fun | .Starred .. => true | _ => false) = false := by
  induction es with
  | nil => rfl
  | cons e es ih =>
    rw [List.all_cons, Bool.and_eq_true] at h
    rw [List.any_cons, ih h.2, Bool.or_false]
    cases e <;> first | rfl | simp [notStar] at h
/-- the names that are stored from the right -/
def swN (env : PySem.Env) (ts : List Expr) : List Str := ts.filterMap fun
    | .Name id pos => if env.kindOf id == some .local && pos.line == (ts.head?.map (·.pos.line)).getD 0 then some id else none
    | _ => none
theorem swN_eq {env : PySem.Env} {ts : List Expr} {f : Expr → Option Str} (h : ∀ e, f e = match e with
    | .Name id pos => if env.kindOf id == some .local && pos.line == (ts.head?.map (·.pos.line)).getD 0 then some id else none
    | _ => none) : ts.filterMap f = swN env ts := by
  unfold swN
  congr 1
  funext e
  exact h e
theorem sw_none {env : PySem.Env} {ts vs : List Expr} {p1 p2 : Pos} {k1 k2 : Nat} (hn : ((swN env ts).length != ts.length) = true) : swappedStores [.Tuple ts k1 p1] (.Tuple vs k2 p2) env = pure none := by
  unfold swappedStores
  dsimp only
  split
  · rfl
  · split
    · rfl
    · rw [swN_eq (env := env) (fun e => by cases e <;> rfl), hn, Bool.true_or, if_pos rfl]
theorem sw_some {env : PySem.Env} {ts vs : List Expr} {p1 p2 : Pos} {k1 k2 : Nat} (hk : env.scope.kind = .function) (hl : (ts.length == 2 || ts.length == 3) = true) (hv : vs.length = ts.length) (hs : vs.all notStar = true) (hn : (swN env ts).length = ts.length) (hd : (swN env ts).eraseDups.length = (swN env ts).length)
    (hf : vs.all (foldedForSure 8) = false) (hc : vs.all (constantsAlone 8) = false) : swappedStores [.Tuple ts k1 p1] (.Tuple vs k2 p2) env = pure (some (swN env ts)) := by
  unfold swappedStores
  dsimp only
  rw [if_neg (by rw [hl, hv, blk_fn hk]; simp), if_neg, swN_eq (env := env) (fun e => by cases e <;> rfl), if_neg (by rw [hn, hd, hn]; simp), if_neg (by rw [hf]; simp), if_neg (by rw [hc]; simp)]
  · rw [Bool.not_eq_true, List.any_eq_false]
    intro e he
    have := List.all_eq_true.mp hs e he
    cases e <;> first | (cases this; done) | simp
/-- names that get things -/
def ownT (N : List Str) (sc : Scope) : List Nat → List Expr → Bool
  | [], [] => true
  | i :: is, .Name x _ :: ts => decide (N[i]? = some x) && locB sc x && ownT N sc is ts
  | _, _ => false
def locN (sc : Scope) (l : Nat) : Expr → Bool
  | .Name x p => decide (sc.names.lookup x = some .local) && (p.line == l)
  | _ => false
def isCell (sc : Scope) : Expr → Bool
  | .Name x _ => !(decide (sc.names.lookup x = some .local))
  | _ => false
def ownsB (N : List Str) (sc : Scope) (is : List Nat) (ts es : List Expr) : Bool :=
  ownT N sc is ts && nodup is && (is.length == 2 || is.length == 3) && (es.length == is.length) && es.all notStar &&
    (ts.any (isCell sc) || (ts.all (locN sc ((ts.head?.map (·.pos.line)).getD 0)) && !es.all (foldedForSure 8) && !es.all (constantsAlone 8)))
mutual
def chkS (T : Tab) (N : List Str) (sc : Scope) : S → Stmt → Bool
  | .asg t a, .Assign [tg] e _ => chkT N sc fnT t tg && !isComp e && (nameTg tg || notTupE e) && chk T N sc a e
  | .own i a, .Assign [.Name x _] e _ => decide (N[i]? = some x) && locB sc x && chk T N sc a e
  | .owns is as, .Assign [.Tuple ts _ _] (.Tuple es _ _) _ => ownsB N sc is ts es && chks T N sc as es
  | .seti i k a, .Assign [.Subscript (.Name x _) ke _] e _ => isVar N sc i x && notSlice ke && chk T N sc k ke && chk T N sc a e
  | .seti2 i k j l a, .Assign [.Tuple [.Subscript (.Name x _) ke _, .Subscript (.Name y _) le _] _ _] e _ => isVar N sc i x && isVar N sc j y && notSlice ke && notSlice le && !isComp e && notTupE e && chk T N sc k ke && chk T N sc l le && chk T N sc a e
  | .pop j i, .Assign [.Name x _] (.Call (.Attribute (.Name y _) m ap) [] [] cp) _ => decide (N[j]? = some x) && locB sc x && isVar N sc i y && mthB m "pop" ap cp
  | .app i a, .Expr e _ => match ownCall N sc "append" i e with
    | some e' => chk T N sc a e'
    | none => false
  | .ext i a, .Expr e _ => match ownCall N sc "extend" i e with
    | some e' => chk T N sc a e'
    | none => false
  | .ex a, .Expr e _ => !isComp e && chk T N sc a e
  | .ret a, .Return (some e) _ => chk T N sc a e
  | .retn, .Return none _ => true
  | .ifs c a b, .If e x y _ => chkB T N sc c e && chkSs T N sc a x && chkSs T N sc b y
  | .for tg k as body, .For t iter b [] _ => (match itParts sc k iter with
      | some es => chks T N sc as es
      | none => false) && (match k with
      | .enum => isTup t
      | .items => isTup t
      | _ => true) && notSet iter && chkT N sc fnT tg t && chkSs T N sc body b
  | .whl _ c body, .While e b [] _ => chkB T N sc c e && chkSs T N sc body b
  | .rse c as, .Raise (some (.Call (.Name x _) es [] _)) none _ => decide (lk T.cls x = some c) && glB sc x && !(x == ("__debug__" : Str)) && es.all notStar && chks T N sc as es
  | .try body cls, .Try b (h :: hs) [] [] _ => chkCl T N sc cls (h :: hs) && chkSs T N sc body b
  | .pass, .Pass _ => true
  | .never, _ => true
  | _, _ => false
def chkSs (T : Tab) (N : List Str) (sc : Scope) : List S → List Stmt → Bool
  | [], [] => true
  | s :: ss, t :: ts => chkS T N sc s t && chkSs T N sc ss ts
  | _, _ => false
end
theorem swappedStores_no {tg e : Expr} {env : PySem.Env} (h : (nameTg tg || notTupE e) = true) : swappedStores [tg] e env = pure none := by
  cases tg <;> first | rfl | skip
  all_goals (cases e <;> first | rfl | (simp [nameTg, notTupE] at h))
theorem swapsSole_no {tg e : Expr} {l : Nat} {env : PySem.Env} (h : isComp e = false) : swapsWithSole [tg] e l env = pure false := swaps_no h
theorem ws_asg {X : Cx} {Wx : WX} (cx : CsOk X W C T Wx) {tg e : Expr} {pos : Pos} {De : Ends} {σ : St} {H : Hp} (hc : isComp e = false) (ht : (nameTg tg || notTupE e) = true) (hn : notStar tg = true) (h : WE X e σ H fun v H1 => WG X tg v σ H1 De.nx) : WS X (.Assign [tg] e pos) De σ H :=
  of_ps (ps_asg peU pgU (swapsSole_no hc) (swappedStores_no ht) (by rw [asg_star hn]; rfl)) h
theorem ws_setLc {X : Cx} {Wx : WX} (cx : CsOk X W C T Wx) {i : Nat} {x : Str} {p pos epos : Pos} {elt tg iter : Expr} {ifs : List Expr} {scope : Scope} {own : List Nat} {De : Ends} {σ : St} {H : Hp} (hi : X.N[i]? = some x) (hx : locB X.env.scope x = true)
    (okB : BlkOk X.N X.env.scope scope (own.map fun i => (X.N.getD i "", i))) (nset : notSet iter = true)
    (h : tLc (WI X tg iter) (tgB X scope tg) (ttB X scope ifs) (teB X scope elt) own σ H fun v H1 => De.nx (σ.set i (some v)) H1) : WS X (.Assign [.Name x p] (.ListComp elt [⟨tg, iter, ifs, 0⟩] scope epos) pos) De σ H := by
  have hb : X.env.blockKind = .function := by
    unfold PySem.Env.blockKind
    rw [cx.kind]
    rfl
  have sw : swapsWith (.ListComp elt [⟨tg, iter, ifs, 0⟩] scope epos) (some (.Name x p)) pos.line X.env = pure (X.env.blockKind == .function && X.env.kindOf x == some .local && p.line == epos.line && !(scope.names.any fun (n, k) => n == x && (k == .local || k == .cell))) := rfl
  cases q : (X.env.blockKind == .function && X.env.kindOf x == some .local && p.line == epos.line && !(scope.names.any fun (n, k) => n == x && (k == .local || k == .cell))) with
  | true =>
    rw [q] at sw
    have hl : X.env.scope.names.lookup x = some .local := by
      simp only [Bool.and_eq_true] at q
      have := q.1.1.2
      unfold PySem.Env.kindOf at this
      exact eq_of_beq this
    have ps := ps_setLc (py := p) (pos := epos) (spos := pos) cx.calm cx.nd hi hl sw (piU (tg := tg) (iter := iter)) okB (g := tgB X scope tg) (tt := ttB X scope ifs) (te := teB X scope elt) (fun s H Cc cl fp => ⟨fun pins s0 σ H v u Q I r h => h s _ Cc cl fp pins s0 u I r⟩) (fun s H Cc cl fp => ⟨fun pins s0 σ H Q I h => h s _ Cc cl fp pins s0 I⟩) (fun s H Cc cl fp => ⟨fun pins s0 σ H Q I h => h s _ Cc cl fp pins s0 I⟩) (fun x => noset_fold nset X.env x)
    rw [own_map] at ps
    exact of_ps ps h
  | false =>
    rw [q] at sw
    have pe : PE X (.ListComp elt [⟨tg, iter, ifs, 0⟩] scope epos) (tLc (WI X tg iter) (tgB X scope tg) (ttB X scope ifs) (teB X scope elt) ((own.map fun i => ((X.N.getD i "", i) : Str × Nat)).map (·.2))) :=
      pe_lc cx.calm cx.nd piU okB (fun s H Cc cl fp => ⟨fun pins s0 σ H v u Q I r h => h s _ Cc cl fp pins s0 u I r⟩) (fun s H Cc cl fp => ⟨fun pins s0 σ H Q I h => h s _ Cc cl fp pins s0 I⟩) (fun s H Cc cl fp => ⟨fun pins s0 σ H Q I h => h s _ Cc cl fp pins s0 I⟩) (fun x => noset_fold nset X.env x)
    rw [own_map] at pe
    exact of_ps (ps_set cx.nd hi (locB_loc hx) pe sw (.inl (cx.fn x))) h
theorem ws_setLc2 {X : Cx} {Wx : WX} (cx : CsOk X W C T Wx) {i : Nat} {x : Str} {p pos epos : Pos} {elt tg iter tg1 iter1 : Expr} {ifs1 : List Expr} {scope : Scope} {own own1 : List Nat} {De : Ends} {σ : St} {H : Hp} (hi : X.N[i]? = some x) (hx : locB X.env.scope x = true)
    (okB : BlkOk X.N X.env.scope scope (own.map fun i => (X.N.getD i "", i))) (nset : notSet iter = true) (nset1 : notSet iter1 = true) (hv : ∀ i ∈ own1, i ∈ (own.map fun i => ((X.N.getD i "", i) : Str × Nat)).map (·.2))
    (h : tLc2 (WI X tg iter) (tgB X scope tg) (ttB X scope []) (wiB X scope tg1 iter1) (tgB X scope tg1) (ttB X scope ifs1) (teB X scope elt) own own1 σ H fun v H1 => De.nx (σ.set i (some v)) H1) : WS X (.Assign [.Name x p] (.ListComp elt [⟨tg, iter, [], 0⟩, ⟨tg1, iter1, ifs1, 0⟩] scope epos) pos) De σ H := by
  have hb : X.env.blockKind = .function := by
    unfold PySem.Env.blockKind
    rw [cx.kind]
    rfl
  have sw : swapsWith (.ListComp elt [⟨tg, iter, [], 0⟩, ⟨tg1, iter1, ifs1, 0⟩] scope epos) (some (.Name x p)) pos.line X.env = pure (X.env.blockKind == .function && X.env.kindOf x == some .local && p.line == epos.line && !(scope.names.any fun (n, k) => n == x && (k == .local || k == .cell))) := rfl
  cases q : (X.env.blockKind == .function && X.env.kindOf x == some .local && p.line == epos.line && !(scope.names.any fun (n, k) => n == x && (k == .local || k == .cell))) with
  | true =>
    rw [q] at sw
    have hl : X.env.scope.names.lookup x = some .local := by
      simp only [Bool.and_eq_true] at q
      have := q.1.1.2
      unfold PySem.Env.kindOf at this
      exact eq_of_beq this
    have ps := ps_setLc2 (py := p) (pos := epos) (spos := pos) cx.calm cx.nd hi hl sw (piU (tg := tg) (iter := iter)) okB hv (g := tgB X scope tg) (tt := ttB X scope []) (wi1 := wiB X scope tg1 iter1) (g1 := tgB X scope tg1) (tt1 := ttB X scope ifs1) (te := teB X scope elt) (fun s H Cc cl fp => ⟨fun pins s0 σ H v u Q I r h => h s _ Cc cl fp pins s0 u I r⟩) (fun s H Cc cl fp => ⟨fun pins s0 σ H Q I h => h s _ Cc cl fp pins s0 I⟩) (fun s H Cc cl fp => ⟨fun pins s0 σ H Q I h => h s _ Cc cl fp pins s0 I⟩) (fun s H Cc cl fp => ⟨fun pins s0 σ H v u Q I r h => h s _ Cc cl fp pins s0 u I r⟩) (fun s H Cc cl fp => ⟨fun pins s0 σ H Q I h => h s _ Cc cl fp pins s0 I⟩) (fun s H Cc cl fp => ⟨fun pins s0 σ H Q I h => h s _ Cc cl fp pins s0 I⟩) (fun x => noset_fold nset X.env x) (fun env x => noset_fold nset1 env x)
    rw [own_map] at ps
    exact of_ps ps h
  | false =>
    rw [q] at sw
    have pe : PE X (.ListComp elt [⟨tg, iter, [], 0⟩, ⟨tg1, iter1, ifs1, 0⟩] scope epos) (tLc2 (WI X tg iter) (tgB X scope tg) (ttB X scope []) (wiB X scope tg1 iter1) (tgB X scope tg1) (ttB X scope ifs1) (teB X scope elt) ((own.map fun i => ((X.N.getD i "", i) : Str × Nat)).map (·.2)) own1) :=
      pe_lc2 cx.calm cx.nd piU okB hv (fun s H Cc cl fp => ⟨fun pins s0 σ H v u Q I r h => h s _ Cc cl fp pins s0 u I r⟩) (fun s H Cc cl fp => ⟨fun pins s0 σ H Q I h => h s _ Cc cl fp pins s0 I⟩) (fun s H Cc cl fp => ⟨fun pins s0 σ H Q I h => h s _ Cc cl fp pins s0 I⟩) (fun s H Cc cl fp => ⟨fun pins s0 σ H v u Q I r h => h s _ Cc cl fp pins s0 u I r⟩) (fun s H Cc cl fp => ⟨fun pins s0 σ H Q I h => h s _ Cc cl fp pins s0 I⟩) (fun s H Cc cl fp => ⟨fun pins s0 σ H Q I h => h s _ Cc cl fp pins s0 I⟩) (fun x => noset_fold nset X.env x) (fun env x => noset_fold nset1 env x)
    rw [own_map] at pe
    exact of_ps (ps_set cx.nd hi (locB_loc hx) pe sw (.inl (cx.fn x))) h
theorem ws_setDc {X : Cx} {Wx : WX} (cx : CsOk X W C T Wx) {t : Bool} {i : Nat} {x : Str} {p pos epos : Pos} {kx vx tg iter : Expr} {ifs : List Expr} {scope : Scope} {own : List Nat} {De : Ends} {σ : St} {H : Hp} (hi : X.N[i]? = some x) (hx : locB X.env.scope x = true)
    (okB : BlkOk X.N X.env.scope scope (own.map fun i => (X.N.getD i "", i))) (nset : notSet iter = true)
    (h : tDcA (dEmp t) (WI X tg iter) (tgB X scope tg) (ttB X scope ifs) (teB X scope kx) (teB X scope vx) own σ H fun v H1 => De.nx (σ.set i (some v)) H1) : WS X (.Assign [.Name x p] (.DictComp kx vx [⟨tg, iter, ifs, 0⟩] scope epos) pos) De σ H := by
  have hb : X.env.blockKind = .function := blk_fn cx.kind
  have sw : swapsWith (.DictComp kx vx [⟨tg, iter, ifs, 0⟩] scope epos) (some (.Name x p)) pos.line X.env = pure (X.env.blockKind == .function && X.env.kindOf x == some .local && p.line == epos.line && !(scope.names.any fun (n, k) => n == x && (k == .local || k == .cell))) := rfl
  have rm : X.A.units + 1 < cLine := by have := cx.units; omega
  cases q : (X.env.blockKind == .function && X.env.kindOf x == some .local && p.line == epos.line && !(scope.names.any fun (n, k) => n == x && (k == .local || k == .cell))) with
  | true =>
    rw [q] at sw
    have hl : X.env.scope.names.lookup x = some .local := by
      simp only [Bool.and_eq_true] at q
      have := q.1.1.2
      unfold PySem.Env.kindOf at this
      exact eq_of_beq this
    have ps := ps_setDcA (o := dEmp t) (py := p) (pos := epos) (spos := pos) (by cases t <;> simp [dEmp]) rm cx.calm cx.nd (piU (tg := tg) (iter := iter)) okB (g := tgB X scope tg) (tt := ttB X scope ifs) (tk := teB X scope kx) (tv := teB X scope vx) (fun s H Cc cl fp => ⟨fun pins s0 σ H v u Q I r h => h s _ Cc cl fp pins s0 u I r⟩) (fun s H Cc cl fp => ⟨fun pins s0 σ H Q I h => h s _ Cc cl fp pins s0 I⟩) (fun s H Cc cl fp => ⟨fun pins s0 σ H Q I h => h s _ Cc cl fp pins s0 I⟩) (fun s H Cc cl fp => ⟨fun pins s0 σ H Q I h => h s _ Cc cl fp pins s0 I⟩) (fun x => noset_fold nset X.env x) hi hl sw
    rw [own_map] at ps
    exact of_ps ps h
  | false =>
    rw [q] at sw
    have pe : PE X (.DictComp kx vx [⟨tg, iter, ifs, 0⟩] scope epos) (tDcA (dEmp t) (WI X tg iter) (tgB X scope tg) (ttB X scope ifs) (teB X scope kx) (teB X scope vx) ((own.map fun i => ((X.N.getD i "", i) : Str × Nat)).map (·.2))) :=
      pe_dcA (by cases t <;> simp [dEmp]) rm cx.calm cx.nd piU okB (fun s H Cc cl fp => ⟨fun pins s0 σ H v u Q I r h => h s _ Cc cl fp pins s0 u I r⟩) (fun s H Cc cl fp => ⟨fun pins s0 σ H Q I h => h s _ Cc cl fp pins s0 I⟩) (fun s H Cc cl fp => ⟨fun pins s0 σ H Q I h => h s _ Cc cl fp pins s0 I⟩) (fun s H Cc cl fp => ⟨fun pins s0 σ H Q I h => h s _ Cc cl fp pins s0 I⟩) (fun x => noset_fold nset X.env x)
    rw [own_map] at pe
    exact of_ps (ps_set cx.nd hi (locB_loc hx) pe sw (.inl (cx.fn x))) h
/-- name = e, a new thing is one's own -/
theorem own_end {σ : St} {env e1 : Env} {G H G1 H1 : Hp} {De : Ends} {Wx : WX} {i : Nat} {r : Res} {v : V} (s0 : StOk W G H σ env) (k1 : Keep (OwnA σ env) G H (OwnA σ e1) G1 H1) (p1 : ParK σ env σ e1) (s1 : StOk W G1 H1 σ e1) (r1 : ResOk W (OwnA σ env) H (OwnA σ e1) G1 H1 r v)
    (a : AftS W σ env (OwnA σ env) G H De Wx (ownM i r e1)) : De.nx (σ.set i (some v)) H1 := by
  unfold ownM at a
  have np : (slot e1 i).isPar = false ∧ AftS W σ env (OwnA σ env) G H De Wx (.ok .nx (e1.set i r.slot)) := by
    cases w : slot e1 i <;> rw [w] at a <;> first | exact ⟨rfl, a⟩ | exact a.elim
  obtain ⟨_, a⟩ := np
  cases r with
  | val d =>
    have r1 : Rep W G1 d v := r1
    exact a _ G1 H1 (k1.trans (Keep.sub s1.gh fun b hb => own_setV hb)) (s1.setV r1) (p1.trans (par_setV rfl))
  | new d =>
    obtain ⟨b, rfl, h2, h3, h4, h5⟩ := r1
    refine a _ G1 H1 ⟨k1.gg, k1.gh, k1.hh, k1.hg, fun c hc => ?_⟩ (s1.setO h2 h3 h4) (p1.trans (par_setV rfl))
    rcases own_setO hc with z | z
    · exact k1.ss c z
    · subst z; exact h5
theorem own_ok {X : Cx} {Wx : WX} (cx : CsOk X W C T Wx) {i : Nat} {x : Str} {a : E} {e : Expr} {p pos : Pos} (hi : X.N[i]? = some x) (hx : locB X.env.scope x = true) (h : chk T X.N X.env.scope a e = true) : GoodS X W Wx (.Assign [.Name x p] e pos) (fun env => (ev C a env).bind fun r e1 => ownM i r e1) := by
  intro env σ G H De s aa
  replace aa : AftS W σ env (OwnA σ env) G H De Wx ((ev C a env).bind fun r e1 => ownM i r e1) := aa
  have main : ∀ r e1 v G1 H1, ev C a env = .ok r e1 → Keep (OwnA σ env) G H (OwnA σ e1) G1 H1 → StOk W G1 H1 σ e1 → ResOk W (OwnA σ env) H (OwnA σ e1) G1 H1 r v → De.nx (σ.set i (some v)) H1 := fun r e1 v G1 H1 q k1 s1 r1 => by
    have np := np_ev (C := C) a env
    rw [q] at np
    have aa := aa
    rw [q] at aa
    exact own_end s k1 (ParB.k np) s1 r1 aa
  by_cases hc : isComp e = true
  · cases a <;> cases e <;> first | (simp [isComp] at hc; done) | (simp only [chk, reduceCtorEq, Bool.false_eq_true] at h; done) | skip
    · rename_i o as elt gens scope epos
      exfalso
      cases hr : rngOf o <;> simp [chk, parts, parts0, rngP, hr] at h
    · rename_i o as elt gens scope epos
      exfalso
      cases hr : rngOf o <;> simp [chk, parts, parts0, rngP, hr] at h
    · rename_i o as _ elt gens scope epos
      exfalso
      cases hr : rngOf o <;> simp [chk, parts, parts0, rngP, hr] at h
    · rename_i k as tg own conds elt elt' gens scope epos
      obtain ⟨tg', iter, ifs, rfl⟩ : ∃ tg' iter ifs, gens = [⟨tg', iter, ifs, 0⟩] := by
        match gens, h with
        | [⟨tg', iter, ifs, n⟩], h =>
          by_cases hn : n = 0
          · subst hn; exact ⟨_, _, _, rfl⟩
          · simp [chk, hn] at h
        | [], h => simp [chk] at h
        | _ :: _ :: _, h => simp [chk] at h
      obtain ⟨okB, nset, tlc⟩ := compL_of k as tg own conds elt (fun cx h => evs_ok as cx h) (fun cx h => evAll_ok conds cx h) (fun cx h => ev_ok elt cx h) cx.toCxOk h
      refine ws_setLc cx hi hx okB nset (tlc env σ G H _ s ?_)
      have e0 : ev C (.comp k as tg own conds elt) env = compM (itM k (evs C as)) tg own (evAll C conds) (fz (ev C elt)) env := by simp only [ev]
      rw [← e0]
      cases q : ev C (.comp k as tg own conds elt) env with
      | no => rw [q] at aa; exact aa
      | ex xx e' =>
        rw [q] at aa
        have np := np_ev (C := C) (.comp k as tg own conds elt) env
        rw [q] at np
        exact fun c d G' H' k' s' x' => aa σ c d G' H' k' s' (ParB.k np) x'
      | ok r e1 => exact fun v G1 H1 k1 s1 r1 => main r e1 v G1 H1 q k1 s1 r1
    · rename_i tt k as tg own conds kx vx kx' vx' gens scope epos
      obtain ⟨tg', iter, ifs, rfl⟩ : ∃ tg' iter ifs, gens = [⟨tg', iter, ifs, 0⟩] := by
        match gens, h with
        | [⟨tg', iter, ifs, n⟩], h =>
          by_cases hn : n = 0
          · subst hn; exact ⟨_, _, _, rfl⟩
          · simp [chk, hn] at h
        | [], h => simp [chk] at h
        | _ :: _ :: _, h => simp [chk] at h
      obtain ⟨okB, nset, tdc⟩ := dcompL_of tt k as tg own conds kx vx (fun cx h => evs_ok as cx h) (fun cx h => evAll_ok conds cx h) (fun cx h => ev_ok kx cx h) (fun cx h => ev_ok vx cx h) cx.toCxOk h
      refine ws_setDc cx hi hx okB nset (tdc env σ G H _ s ?_)
      have e0 : ev C (.dcomp tt k as tg own conds kx vx) env = dcompM tt (itM k (evs C as)) tg own (evAll C conds) (fz (ev C kx)) (fz (ev C vx)) env := by simp only [ev]
      rw [← e0]
      cases q : ev C (.dcomp tt k as tg own conds kx vx) env with
      | no => rw [q] at aa; exact aa
      | ex xx e' =>
        rw [q] at aa
        have np := np_ev (C := C) (.dcomp tt k as tg own conds kx vx) env
        rw [q] at np
        exact fun c d G' H' k' s' x' => aa σ c d G' H' k' s' (ParB.k np) x'
      | ok r e1 => exact fun v G1 H1 k1 s1 r1 => main r e1 v G1 H1 q k1 s1 r1
    · rename_i k as tg own k1 as1 tg1 own1 conds elt elt' gens scope epos
      obtain ⟨tg', iter, tg1', iter1, ifs1, rfl⟩ := comp2_shape h
      obtain ⟨okB, nset, nset1, hv, tlc⟩ := comp2L_of k as tg own k1 as1 tg1 own1 conds elt (fun cx h => evs_ok as cx h) (fun cx h => evs_ok as1 cx h) (fun _ => goodTs_nil) (fun cx h => evAll_ok conds cx h) (fun cx h => ev_ok elt cx h) cx.toCxOk h
      refine ws_setLc2 cx hi hx okB nset nset1 hv (tlc env σ G H _ s ?_)
      have e0 : ev C (.comp2 k as tg own k1 as1 tg1 own1 conds elt) env = compM2 (itM k (evs C as)) tg own (itM k1 (evs C as1)) tg1 own1 (evAll C conds) (fz (ev C elt)) env := by simp only [ev]
      rw [← e0]
      cases q : ev C (.comp2 k as tg own k1 as1 tg1 own1 conds elt) env with
      | no => rw [q] at aa; exact aa
      | ex xx e' =>
        rw [q] at aa
        have np := np_ev (C := C) (.comp2 k as tg own k1 as1 tg1 own1 conds elt) env
        rw [q] at np
        exact fun c d G' H' k' s' x' => aa σ c d G' H' k' s' (ParB.k np) x'
      | ok r e1 => exact fun v G1 H1 k1 s1 r1 => main r e1 v G1 H1 q k1 s1 r1
  · have hc : isComp e = false := by simpa using hc
    refine ws_set cx hi hx hc (ev_ok a cx.toCxOk h env σ G H _ s ?_)
    cases q : ev C a env with
    | no => rw [q] at aa; exact aa
    | ex xx e' =>
      rw [q] at aa
      have np := np_ev (C := C) a env
      rw [q] at np
      exact fun c d G' H' k' s' x' => aa σ c d G' H' k' s' (ParB.k np) x'
    | ok r e1 => exact fun v G1 H1 k1 s1 r1 => main r e1 v G1 H1 q k1 s1 r1
end
end Itp
set_option Elab.async false
set_option linter.all false
set_option maxRecDepth 100000
set_option maxHeartbeats 4000000
namespace Itp
open PySem L2
section
variable {W : Wd} {C : Cfg} {T : Tab}
/-! ### several names at once -/
/-- results that stand beside one another -/
def RsF (W : Wd) (F : Addr → Prop) (G H : Hp) : (Addr → Prop) → List Res → List V → Prop
  | _, [], vs => vs = []
  | S, .val d :: rs, vs => ∃ v r, vs = v :: r ∧ Rep W G d v ∧ RsF W F G H S rs r
  | S, .new d :: rs, vs => ∃ a r, vs = .ref a :: r ∧ G a = none ∧ Cont W G H a d ∧ ¬ S a ∧ F a ∧ RsF W F G H (fun b => S b ∨ b = a) rs r
theorem RsF.mono {F F' : Addr → Prop} {G G' H H' : Hp} (gg : Ex G G') (hh : ∀ a o, F a → H a = some o → H' a = some o) (hf : ∀ a, F a → F' a) : ∀ {rs : List Res} {vs : List V} {S S' : Addr → Prop}, (∀ a d, F a → Cont W G H a d → G a = none → G' a = none) → (∀ a, F a → S' a → S a) → RsF W F G H S rs vs → RsF W F' G' H' S' rs vs
  | [], _, _, _, _, _, h => h
  | .val d :: rs, _, _, _, hg, hs, h => by
    simp only [RsF] at h ⊢
    obtain ⟨v, r, rfl, h1, h2⟩ := h
    exact ⟨v, r, rfl, Rep.mono gg _ _ h1, RsF.mono gg hh hf hg hs h2⟩
  | .new d :: rs, _, _, _, hg, hs, h => by
    simp only [RsF] at h ⊢
    obtain ⟨a, r, rfl, h1, h2, h3, h4, h5⟩ := h
    refine ⟨a, r, rfl, hg a d h4 h2 h1, h2.mono gg fun o ho => hh a o h4 ho, fun z => h3 (hs a h4 z), hf a h4, RsF.mono gg hh hf hg (fun b hb z => ?_) h5⟩
    rcases z with z | z
    · exact .inl (hs b hb z)
    · exact .inr z
def RLOk (W : Wd) (S : Addr → Prop) (H : Hp) (S' : Addr → Prop) (G' H' : Hp) : List Res → List V → Prop := fun rs vs => RsF W (fun a => S a ∨ H a = none) G' H' S' rs vs
theorem RLOk.bears : Bears (RLOk W) := fun S S1 S' H H1 G' H' rs vs f h => RsF.mono (Ex.refl _) (fun _ _ _ h => h) f (fun _ _ _ _ h => h) (fun _ _ h => h) h
theorem evRs_ok : ∀ (cs : List E) {X : Cx} {Wx : WX} {es : List Expr}, CxOk X W C T Wx → chks T X.N X.env.scope cs es = true → ∀ (env : Env) (σ : St) (G H : Hp) (Q : List V → Hp → Prop), StOk W G H σ env → Aft W (RLOk W) σ (OwnA σ env) G H Q Wx (evRs C cs env) → WQ X es σ H Q
  | [], X, Wx, es, cx, h, env, σ, G, H, Q, s, a => by
    cases es <;> simp only [chks, reduceCtorEq, Bool.false_eq_true] at h
    simp only [evRs] at a
    exact a [] G H (Keep.refl s.gh) s (by simp only [RLOk, RsF])
  | c :: cs, X, Wx, es, cx, h, env, σ, G, H, Q, s, a => by
    cases es <;> simp only [chks, reduceCtorEq, Bool.false_eq_true] at h
    rename_i e es
    simp only [Bool.and_eq_true] at h
    simp only [evRs] at a
    refine ev_ok c cx h.1 env σ G H _ s ?_
    refine aft_bind RLOk.bears a fun r e1 v G1 H1 q1 k1 s1 r1 a1 => ?_
    refine evRs_ok cs cx h.2 e1 σ G1 H1 _ s1 ?_
    -- the outcome of the rest, seen from the start
    have a0 : Aft W (RLOk W) σ (OwnA σ env) G H Q Wx ((evRs C cs e1).bind fun rs e2 => .ok (r :: rs) e2) := by
      rw [q1] at a
      exact a
    cases q2 : evRs C cs e1 with
    | no => rw [q2] at a1; exact a1
    | ex x e2 => rw [q2] at a1; exact a1
    | ok rs e2 =>
      rw [q2] at a0
      intro vs G2 H2 k2 s2 r2
      refine a0 (v :: vs) G2 H2 (k1.trans k2) s2 ?_
      have r2 : RsF W (fun a => OwnA σ e1 a ∨ H1 a = none) G2 H2 (OwnA σ e2) rs vs := r2
      show RsF W (fun a => OwnA σ env a ∨ H a = none) G2 H2 (OwnA σ e2) (r :: rs) (v :: vs)
      cases r with
      | val d =>
        simp only [RsF]
        exact ⟨v, vs, rfl, Rep.mono k2.gg _ _ r1, r2.mono (Ex.refl _) (fun _ _ _ h => h) (fun a => k1.fresh) (fun _ _ _ _ h => h) (fun _ _ h => h)⟩
      | new d =>
        obtain ⟨b, rfl, h1, h2, h3, h4⟩ := r1
        obtain ⟨o, ho, mu⟩ := h2.mu
        simp only [RsF]
        refine ⟨b, vs, rfl, k2.hg b o ho mu h3 h1, h2.mono k2.gg fun u hu => k2.hh b u hu h3, fun z => ?_, h4, r2.mono (Ex.refl _) (fun _ _ _ h => h) (fun a => k1.fresh) (fun _ _ _ _ h => h) (fun c hc z => ?_)⟩
        · rcases k2.ss b z with z | z
          · exact h3 z
          · rw [ho] at z; cases z
        · rcases z with z | rfl
          · exact z
          · rcases hc with hc | hc
            · exact absurd hc h3
            · rw [ho] at hc; cases hc
def setAll (σ : St) : List Nat → List V → St
  | i :: is, v :: vs => setAll (σ.set i (some v)) is vs
  | _, _ => σ
theorem owns_end {F : Addr → Prop} {G H : Hp} : ∀ (is : List Nat) (rs : List Res) (vs : List V) (σ : St) (e e' : Env), StOk W G H σ e → RsF W F G H (OwnA σ e) rs vs → ownsM is rs e = .ok .nx e' →
    StOk W G H (setAll σ is vs) e' ∧ (∀ b, OwnA (setAll σ is vs) e' b → OwnA σ e b ∨ F b) ∧ ParK σ e (setAll σ is vs) e'
  | [], [], vs, σ, e, e', s, r, h => by
    simp only [ownsM, Rs.ok.injEq, true_and] at h
    subst h
    exact ⟨s, fun b h => .inl h, ParK.refl _ _⟩
  | [], _ :: _, vs, σ, e, e', s, r, h => by simp [ownsM] at h
  | _ :: _, [], vs, σ, e, e', s, r, h => by simp [ownsM] at h
  | i :: is, r :: rs, vs, σ, e, e', s, hr, h => by
    have h : ownsM is rs (e.set i r.slot) = .ok .nx e' := by
      simp only [ownsM] at h
      cases q : slot e i <;> rw [q] at h <;> first | exact h | cases h
    cases r with
    | val d =>
      simp only [RsF] at hr
      obtain ⟨v, r, rfl, h1, h2⟩ := hr
      have sub : ∀ b, OwnA (σ.set i (some v)) (e.set i (.val d)) b → OwnA σ e b := fun b hb => own_setV hb
      obtain ⟨s2, o2, p2⟩ := owns_end is rs r (σ.set i (some v)) (e.set i (.val d)) e' (s.setV h1) (h2.mono (Ex.refl _) (fun _ _ _ h => h) (fun _ h => h) (fun _ _ _ _ h => h) fun b _ hb => sub b hb) h
      refine ⟨s2, fun b hb => ?_, (par_setV rfl).trans p2⟩
      rcases o2 b hb with z | z
      · exact .inl (sub b z)
      · exact .inr z
    | new d =>
      simp only [RsF] at hr
      obtain ⟨a, r, rfl, h1, h2, h3, h4, h5⟩ := hr
      obtain ⟨s2, o2, p2⟩ := owns_end is rs r (σ.set i (some (.ref a))) (e.set i (.own d)) e' (s.setO h1 h2 h3) (h5.mono (Ex.refl _) (fun _ _ _ h => h) (fun _ h => h) (fun _ _ _ _ h => h) fun b _ hb => own_setO hb) h
      refine ⟨s2, fun b hb => ?_, (par_setV rfl).trans p2⟩
      rcases o2 b hb with z | z
      · rcases own_setO z with z | rfl
        · exact .inl z
        · exact .inr h4
      · exact .inr z
theorem ownT_names : ∀ {N : List Str} {sc : Scope} {is : List Nat} {ts : List Expr}, ownT N sc is ts = true → ts.length = is.length ∧ ts.all notStar = true
  | N, sc, [], [], _ => ⟨rfl, rfl⟩
  | N, sc, [], _ :: _, h => by simp [ownT] at h
  | N, sc, _ :: _, [], h => by simp [ownT] at h
  | N, sc, i :: is, t :: ts, h => by
    cases t <;> simp only [ownT, Bool.false_eq_true] at h
    rw [Bool.and_eq_true] at h
    obtain ⟨h1, h2⟩ := ownT_names h.2
    exact ⟨by simp [h1], by rw [List.all_cons, h2]; rfl⟩
theorem asg_names {X : Cx} {Wx : WX} (cx : CsOk X W C T Wx) : ∀ (is : List Nat) (ts : List Expr) (vs : List V) (σ : St) (H : Hp) (Q : St → Hp → Prop), ownT X.N X.env.scope is ts = true → vs.length = is.length → Q (setAll σ is vs) H → WGs X ts vs σ H Q
  | [], [], vs, σ, H, Q, h, hl, q => by
    cases vs with
    | nil => exact of_pgs pgs_nil ⟨rfl, q⟩
    | cons v vs => simp at hl
  | [], _ :: _, vs, σ, H, Q, h, hl, q => by simp [ownT] at h
  | _ :: _, [], vs, σ, H, Q, h, hl, q => by simp [ownT] at h
  | i :: is, t :: ts, vs, σ, H, Q, h, hl, q => by
    cases vs with
    | nil => simp at hl
    | cons v vs =>
      cases t <;> simp only [ownT, Bool.false_eq_true] at h
      rename_i x p
      simp only [Bool.and_eq_true, decide_eq_true_eq] at h
      refine of_pgs (pgs_cons pgU pgsU (by rw [asg_star rfl]; rfl)) ⟨v, vs, rfl, ?_⟩
      refine of_pg (pg_name cx.nd h.1.1 (locB_loc h.1.2) (.inl (cx.fn x))) ?_
      exact asg_names cx is ts vs _ H Q h.2 (by simpa using hl) q
theorem asgE_len {ts : List Expr} {env : PySem.Env} : ts.all notStar = true → (assignEach ts env).length = ts.length ∧ (assignEach ts env).findIdx? (·.1) = none := by
  induction ts with
  | nil => exact fun _ => ⟨rfl, rfl⟩
  | cons t ts ih =>
    intro h
    rw [List.all_cons, Bool.and_eq_true] at h
    obtain ⟨h1, h2⟩ := ih h.2
    rw [asg_star h.1]
    exact ⟨by simp [h1], by rw [List.findIdx?_cons]; simp [h2]⟩
theorem swN_none {X : Cx} {ts : List Expr} (h : ts.any (isCell X.env.scope) = true) : ((swN X.env ts).length != ts.length) = true := by
  have lt : ∀ (l : Nat) (us : List Expr), us.any (isCell X.env.scope) = true → ∀ f : Expr → Option Str, (∀ e, isCell X.env.scope e = true → f e = none) → (us.filterMap f).length < us.length := by
    intro l us
    induction us with
    | nil => intro h; cases h
    | cons u us ih =>
      intro h f hf
      rw [List.any_cons, Bool.or_eq_true] at h
      have le := List.length_filterMap_le f us
      rw [List.filterMap_cons]
      rcases h with h | h
      · rw [hf u h]
        simp only [List.length_cons]
        omega
      · have := ih h f hf
        cases f u with
        | none => simp only [List.length_cons]; omega
        | some y => simp only [List.length_cons]; omega
  unfold swN
  rw [bne_iff_ne]
  refine Nat.ne_of_lt (lt 0 ts h _ fun e he => ?_)
  cases e <;> simp only [isCell, Bool.false_eq_true] at he
  rename_i x p
  simp only [Bool.not_eq_true', decide_eq_false_iff_not] at he
  have : (X.env.kindOf x == some .local) = false := by
    rw [beq_eq_false_iff_ne]
    exact he
  simp [this]
theorem swN_some {X : Cx} {ts : List Expr} {is : List Nat} (h : ownT X.N X.env.scope is ts = true) (hl : ts.all (locN X.env.scope ((ts.head?.map (·.pos.line)).getD 0)) = true) : (swN X.env ts).length = ts.length ∧ ∀ (i : Nat) (j : Nat), is[i]? = some j → ∃ x, X.N[j]? = some x ∧ (swN X.env ts)[i]? = some x ∧ X.env.scope.names.lookup x = some .local := by
  have gen : ∀ (l : Nat) (us : List Expr) (js : List Nat) (f : Expr → Option Str), (∀ x p, locN X.env.scope l (.Name x p) = true → f (.Name x p) = some x) → ownT X.N X.env.scope js us = true → us.all (locN X.env.scope l) = true → (us.filterMap f).length = us.length ∧ ∀ (i : Nat) (j : Nat), js[i]? = some j → ∃ x, X.N[j]? = some x ∧ (us.filterMap f)[i]? = some x ∧ X.env.scope.names.lookup x = some .local := by
    intro l us
    induction us with
    | nil =>
      intro js f hf h hl
      cases js with
      | nil => exact ⟨rfl, fun i j e => by simp at e⟩
      | cons j js => simp [ownT] at h
    | cons u us ih =>
      intro js f hf h hl
      cases js with
      | nil => simp [ownT] at h
      | cons j js =>
        cases u <;> simp only [ownT, Bool.false_eq_true] at h
        rename_i x p
        simp only [Bool.and_eq_true, decide_eq_true_eq] at h
        rw [List.all_cons, Bool.and_eq_true] at hl
        obtain ⟨h1, h2⟩ := ih js f hf h.2 hl.2
        rw [List.filterMap_cons, hf x p hl.1]
        refine ⟨by simp [h1], fun i k e => ?_⟩
        cases i with
        | zero =>
          simp only [List.getElem?_cons_zero, Option.some.injEq] at e
          subst e
          have hx := hl.1
          simp only [locN, Bool.and_eq_true, decide_eq_true_eq] at hx
          exact ⟨x, h.1.1, rfl, hx.1⟩
        | succ i => simpa using h2 i k (by simpa using e)
  refine gen _ ts is _ (fun x p hx => ?_) h hl
  simp only [locN, Bool.and_eq_true, decide_eq_true_eq] at hx
  have : (X.env.kindOf x == some .local) = true := by
    rw [beq_iff_eq]
    exact hx.1
  simp only [this, hx.2, Bool.and_self, if_true]
theorem ownT_c {N : List Str} {sc : Scope} {i : Nat} {is : List Nat} {ts : List Expr} (h : ownT N sc (i :: is) ts = true) : ∃ x p us, ts = .Name x p :: us ∧ N[i]? = some x ∧ ownT N sc is us = true := by
  cases ts with
  | nil => simp [ownT] at h
  | cons u us =>
    cases u <;> simp only [ownT, Bool.false_eq_true] at h
    simp only [Bool.and_eq_true, decide_eq_true_eq] at h
    exact ⟨_, _, us, rfl, h.1.1, h.2⟩
theorem ownT_n {N : List Str} {sc : Scope} {ts : List Expr} (h : ownT N sc [] ts = true) : ts = [] := by
  cases ts with
  | nil => rfl
  | cons u us => simp [ownT] at h
theorem list2 {α : Type} {l : List α} {a b : α} (hl : l.length = 2) (h0 : l[0]? = some a) (h1 : l[1]? = some b) : l = [a, b] := by
  match l, hl with
  | [x, y], _ => simp at h0 h1; rw [h0, h1]
theorem list3 {α : Type} {l : List α} {a b c : α} (hl : l.length = 3) (h0 : l[0]? = some a) (h1 : l[1]? = some b) (h2 : l[2]? = some c) : l = [a, b, c] := by
  match l, hl with
  | [x, y, z], _ => simp at h0 h1 h2; rw [h0, h1, h2]
theorem names_ne {X : Cx} (nd : X.N.Nodup) {i j : Nat} {x y : Str} (hi : X.N[i]? = some x) (hj : X.N[j]? = some y) (h : i ≠ j) : x ≠ y := fun e => by
  subst e
  exact h (nodup_ix nd hi hj)
theorem dups2 {x y : Str} (h : x ≠ y) : ([x, y] : List Str).eraseDups.length = 2 := by
  have e : (y == x) = false := beq_eq_false_iff_ne.mpr (Ne.symm h)
  simp [List.eraseDups_cons, e]
theorem dups3 {x y z : Str} (h1 : x ≠ y) (h2 : x ≠ z) (h3 : y ≠ z) : ([x, y, z] : List Str).eraseDups.length = 3 := by
  have e1 : (y == x) = false := beq_eq_false_iff_ne.mpr (Ne.symm h1)
  have e2 : (z == x) = false := beq_eq_false_iff_ne.mpr (Ne.symm h2)
  have e3 : (z == y) = false := beq_eq_false_iff_ne.mpr (Ne.symm h3)
  simp [List.eraseDups_cons, e1, e2, e3]
theorem owns_ok {X : Cx} {Wx : WX} (cx : CsOk X W C T Wx) {is : List Nat} {as : List E} {ts es : List Expr} {k1 k2 : Nat} {p1 p2 pos : Pos} (h1 : ownsB X.N X.env.scope is ts es = true) (h2 : chks T X.N X.env.scope as es = true) :
    GoodS X W Wx (.Assign [.Tuple ts k1 p1] (.Tuple es k2 p2) pos) (fun env => (evRs C as env).bind fun rs e1 => ownsM is rs e1) := by
  intro env σ G H De s aa
  replace aa : AftS W σ env (OwnA σ env) G H De Wx ((evRs C as env).bind fun rs e1 => ownsM is rs e1) := aa
  unfold ownsB at h1
  simp only [Bool.and_eq_true] at h1
  obtain ⟨⟨⟨⟨⟨hT, hN⟩, hl⟩, he⟩, hs⟩, hw⟩ := h1
  have he : es.length = is.length := by simpa using he
  obtain ⟨tl, tn⟩ := ownT_names hT
  -- what stands behind the values
  have main : WQ X es σ H fun vs H1 => vs.length = is.length ∧ ∀ H2, Ex H1 H2 → De.nx (setAll σ is vs) H2 := by
    refine evRs_ok as cx.toCxOk h2 env σ G H _ s ?_
    have np := np_evRs (C := C) as env
    cases q : evRs C as env with
    | no => rw [q] at aa; exact aa
    | ex xx e' =>
      rw [q] at aa np
      exact fun c d G' H' k' s' x' => aa σ c d G' H' k' s' (ParB.k np) x'
    | ok rs e1 =>
      rw [q] at aa np
      intro vs G1 H1 k1 s1 r1
      have aa : AftS W σ env (OwnA σ env) G H De Wx (ownsM is rs e1) := aa
      have r1 : RsF W (fun a => OwnA σ env a ∨ H a = none) G1 H1 (OwnA σ e1) rs vs := r1
      have fl : ∀ (is : List Nat) (rs : List Res) (e : Env), (∃ e', ownsM is rs e = .ok .nx e' ∧ rs.length = is.length) ∨ ownsM is rs e = .no := by
        intro is
        induction is with
        | nil => intro rs e; cases rs with
          | nil => exact .inl ⟨e, rfl, rfl⟩
          | cons r rs => exact .inr rfl
        | cons i is ih => intro rs e; cases rs with
          | nil => exact .inr rfl
          | cons r rs =>
            simp only [ownsM]
            cases slot e i <;> first | exact .inr rfl | skip
            all_goals
              rcases ih rs (e.set i r.slot) with ⟨e', h, hl⟩ | h
              · exact .inl ⟨e', h, by simp [hl]⟩
              · exact .inr h
      have vl : ∀ {rs : List Res} {vs : List V} {S : Addr → Prop}, RsF W (fun a => OwnA σ env a ∨ H a = none) G1 H1 S rs vs → vs.length = rs.length := by
        intro rs
        induction rs with
        | nil => intro vs S h; simp only [RsF] at h; subst h; rfl
        | cons r rs ih =>
          intro vs S h
          cases r with
          | val d => simp only [RsF] at h; obtain ⟨v, r, rfl, _, h2⟩ := h; simp [ih h2]
          | new d => simp only [RsF] at h; obtain ⟨v, r, rfl, _, _, _, _, h2⟩ := h; simp [ih h2]
      rcases fl is rs e1 with ⟨e', ho, hlen⟩ | ho
      · rw [ho] at aa
        refine ⟨by rw [vl r1, hlen], fun H2 x2 => ?_⟩
        have s2 : StOk W G1 H2 σ e1 := s1.grow (Ex.refl _) (s1.gh.trans x2) (fun a o _ h => x2 a o h) fun a ha => s1.own_none ha
        obtain ⟨s3, o3, p3⟩ := owns_end is rs vs σ e1 e' s2 (r1.mono (Ex.refl _) (fun a o _ h => x2 a o h) (fun _ h => h) (fun _ _ _ _ h => h) fun _ _ h => h) ho
        refine aa _ G1 H2 ⟨k1.gg, s3.gh, fun a o h n => x2 a o (k1.hh a o h n), k1.hg, fun b hb => ?_⟩ s3 ((ParB.k np).trans p3)
        rcases o3 b hb with z | z
        · exact k1.ss b z
        · exact z
      · rw [ho] at aa
        exact aa.elim
  rw [Bool.or_eq_true] at hw
  rcases hw with hw | hw
  · -- a tuple is made, and its items are stored in order
    refine of_ps (ps_asg peU pgU (swapsSole_no rfl) (sw_none (swN_none hw)) rfl) ?_
    refine of_pe (pe_tup (paU hs)) (wq_thn main fun vs H1 ⟨vl, q⟩ => ?_)
    refine ⟨?_, fun p hp => ?_⟩
    · have : is.length ≤ 3 := by
        rcases Bool.or_eq_true_iff.mp hl with z | z <;> (rw [beq_iff_eq] at z; omega)
      exact Nat.le_trans (by omega) (show 3 ≤ sizeLine by decide)
    · obtain ⟨l1, l2⟩ := asgE_len (env := X.env) tn
      refine of_pg (pg_tup (n := ts.length) cx.calm pgsU l1 l2) ⟨p, vs, rfl, .inl (.inl upd_same), by omega, ?_⟩
      exact asg_names cx is ts vs σ _ _ hT vl (q _ (Ex.new hp))
  · -- stored from the right
    simp only [Bool.and_eq_true, Bool.not_eq_true'] at hw
    obtain ⟨n1, n2⟩ := swN_some hT hw.1.1
    have nk : ∀ {x y : Str} {i : Nat}, X.N[i]? = some x → X.N[i]? = some y → x = y := fun {x y i} h1 h2 => Option.some.inj (h1.symm.trans h2)
    rcases Bool.or_eq_true_iff.mp hl with z | z
    · rw [beq_iff_eq] at z
      obtain ⟨i, j, rfl⟩ : ∃ i j, is = [i, j] := by
        match is, z with
        | [i, j], _ => exact ⟨i, j, rfl⟩
      obtain ⟨a, b, rfl⟩ : ∃ a b, es = [a, b] := by
        match es, he with
        | [a, b], _ => exact ⟨a, b, rfl⟩
      obtain ⟨x, px, us, rfl, hx1, hu⟩ := ownT_c hT
      obtain ⟨y, py, us, rfl, hy1, hu⟩ := ownT_c hu
      obtain rfl := ownT_n hu
      obtain ⟨x', hx1', hx2, hx3⟩ := n2 0 i rfl
      obtain ⟨y', hy1', hy2, hy3⟩ := n2 1 j rfl
      obtain rfl := nk hx1 hx1'
      obtain rfl := nk hy1 hy1'
      have hij : i ≠ j := by
        simpa [nodup] using hN
      have nm := list2 n1 hx2 hy2
      have sw := sw_some (p1 := p1) (p2 := p2) (k1 := k1) (k2 := k2) cx.kind (ts := [.Name x px, .Name y py]) (vs := [a, b]) rfl rfl hs n1 (by rw [nm]; exact dups2 (names_ne cx.nd hx1 hy1 hij)) hw.1.2 hw.2
      rw [nm] at sw
      refine of_ps (ps_par cx.calm cx.nd hx1 hy1 hij hx3 hy3 (paU hs) sw) ?_
      refine wq_thn main fun vs H1 ⟨vl, q⟩ => ?_
      match vs, vl, q with
      | [v, w], _, q => exact ⟨v, w, rfl, q H1 (Ex.refl _)⟩
    · rw [beq_iff_eq] at z
      obtain ⟨i, j, l, rfl⟩ : ∃ i j l, is = [i, j, l] := by
        match is, z with
        | [i, j, l], _ => exact ⟨i, j, l, rfl⟩
      obtain ⟨a, b, c, rfl⟩ : ∃ a b c, es = [a, b, c] := by
        match es, he with
        | [a, b, c], _ => exact ⟨a, b, c, rfl⟩
      obtain ⟨x, px, us, rfl, hx1, hu⟩ := ownT_c hT
      obtain ⟨y, py, us, rfl, hy1, hu⟩ := ownT_c hu
      obtain ⟨u, pu, us, rfl, hu1, hu⟩ := ownT_c hu
      obtain rfl := ownT_n hu
      obtain ⟨x', hx1', hx2, hx3⟩ := n2 0 i rfl
      obtain ⟨y', hy1', hy2, hy3⟩ := n2 1 j rfl
      obtain ⟨u', hu1', hu2, hu3⟩ := n2 2 l rfl
      obtain rfl := nk hx1 hx1'
      obtain rfl := nk hy1 hy1'
      obtain rfl := nk hu1 hu1'
      have hij : (i ≠ j ∧ i ≠ l) ∧ j ≠ l := by
        simpa [nodup] using hN
      have nm := list3 n1 hx2 hy2 hu2
      have sw := sw_some (p1 := p1) (p2 := p2) (k1 := k1) (k2 := k2) cx.kind (ts := [.Name x px, .Name y py, .Name u pu]) (vs := [a, b, c]) rfl rfl hs n1 (by rw [nm]; exact dups3 (names_ne cx.nd hx1 hy1 hij.1.1) (names_ne cx.nd hx1 hu1 hij.1.2) (names_ne cx.nd hy1 hu1 hij.2)) hw.1.2 hw.2
      rw [nm] at sw
      refine of_ps (ps_par3 cx.calm cx.nd hx1 hy1 hu1 hij.1.1 hij.1.2 hij.2 hx3 hy3 hu3 (paU hs) sw) ?_
      refine wq_thn main fun vs H1 ⟨vl, q⟩ => ?_
      match vs, vl, q with
      | [v, w, r], _, q => exact ⟨v, w, r, rfl, q H1 (Ex.refl _)⟩
end
end Itp
set_option Elab.async false
set_option linter.all false
set_option maxRecDepth 100000
set_option maxHeartbeats 4000000
namespace Itp
open PySem L2
section
variable {W : Wd} {C : Cfg} {T : Tab}
theorem notStar_of {N : List Str} {sc : Scope} {fn : Str → Bool} {t : Tg} {e : Expr} (h : chkT N sc fn t e = true) : notStar e = true := by
  cases e <;> first | rfl | (cases t <;> simp [chkT] at h)
theorem asg_ok {X : Cx} {Wx : WX} (cx : CsOk X W C T Wx) {t : Tg} {a : E} {tg e : Expr} {pos : Pos} (ht : chkT X.N X.env.scope fnT t tg = true) (hc : isComp e = false) (hn : (nameTg tg || notTupE e) = true) (h : chk T X.N X.env.scope a e = true) :
    GoodS X W Wx (.Assign [tg] e pos) (fun env => (fz (ev C a) env).bind fun d e1 => match bindT t d e1 with | some e2 => .ok .nx e2 | none => .no) := by
  intro env σ G H De s aa
  refine ws_asg cx hc hn (notStar_of ht) (good_fz (ev_ok a cx.toCxOk h) s (aft_toS (np_fz (np_ev a env)) aa fun d e1 v G1 H1 _ k1 p1 s1 r1 a1 => ?_))
  have r1 : Rep W G1 d v := r1
  cases q : bindT t d e1 with
  | none => rw [q] at a1; exact a1.elim
  | some e2 =>
    rw [q] at a1
    rw [← funext (f := X.fn) (g := fnT) fun x => cx.fn x] at ht
    exact bindT_ok cx.toCxOk t tg d v σ e1 e2 _ ht q s1 r1 fun σ' s' o' p' _ => a1 σ' G1 H1 (Keep.sub s1.gh o') s' p'
theorem var_name {X : Cx} {i : Nat} {x : Str} {p : Pos} {σ : St} {H : Hp} {Q : VK} {a : Addr} (h : isVar X.N X.env.scope i x = true) (ha : σ[i]? = some (some (.ref a))) (q : Q (.ref a) H) : WE X (.Name x p) σ H Q := isVar_ok h ha q
theorem reps_set : ∀ {G : Hp} {ds : List D} {vs : List V} {n : Nat} {d : D} {v : V}, Reps W G ds vs → Rep W G d v → Reps W G (ds.set n d) (vs.set n v)
  | G, [], _, _, _, _, h, _ => by simp only [Reps] at h; subst h; simp [Reps]
  | G, x :: xs, _, 0, d, v, h, r => by
    simp only [Reps] at h
    obtain ⟨w, t, rfl, h1, h2⟩ := h
    simp only [List.set_cons_zero, Reps]
    exact ⟨v, t, rfl, r, h2⟩
  | G, x :: xs, _, n + 1, d, v, h, r => by
    simp only [Reps] at h
    obtain ⟨w, t, rfl, h1, h2⟩ := h
    simp only [List.set_cons_succ, Reps]
    exact ⟨w, _, rfl, h1, reps_set h2 r⟩
theorem subs_asg {o i : Expr} {pos : Pos} {env : PySem.Env} (h : notSlice i = true) (v : Value) : assign (.Subscript o i pos) env v = (do
      let ov ← holding [v] (eval o env)
      let iv ← holding [v, ov] (eval i env)
      standAt pos
      holding [v, ov, iv] (setItem ov iv v)
      release [v, ov, iv] []) := by
  cases i <;> first | rfl | simp [notSlice] at h
/-- a[i] = v, d[k] = v -/
def rSetA : V → V → V → Hp → (Hp → Prop) → Prop := fun o i v H Q => rSetL o i v H Q ∨ ∃ a H', o = .ref a ∧ DPut H a i v H' ∧ Q H'
theorem set_any {X : Cx} (hu : X.A.units + 2 < cLine) : PSet X rSetA := by
  intro pins s σ H o i v ov iv u Q I ro ri rv h
  rcases h with h | ⟨a, H', rfl, hp, q⟩
  · exact set_list pins s σ H o i v ov iv u Q I ro ri rv h
  · obtain rfl : ov = Value.ref a := ro
    exact d_setItem (by omega) I hp ri rv fun s' I' => ⟨H', I', q⟩
theorem swaps_sub {o i e : Expr} {sp : Pos} {l : Nat} {env : PySem.Env} : swapsWithSole [.Subscript o i sp] e l env = pure false := by
  cases e <;> rfl
theorem bind_as {α β γ : Type} {m : Rs α} {g : α → Env → Rs β} {h : β → Env → Rs γ} : (m.bind g).bind h = m.bind fun a e => (g a e).bind h := by cases m <;> rfl
theorem setM_nx {i : Nat} {k v : D} {e : Env} : (setM i k v e).bind (fun _ e2 => Rs.ok Fl.nx e2) = setM i k v e := by
  unfold setM
  split
  · split
    · split <;> rfl
    · rfl
  · split <;> rfl
  · rfl
theorem setE_nx {i : Nat} {m : M Res} {v : D} {e : Env} : (setE i m v e).bind (fun _ e2 => Rs.ok Fl.nx e2) = setE i m v e := by
  unfold setE
  split
  · rw [bind_as]
    congr 1
    funext a e
    exact setM_nx
  · rfl
theorem setE_run {X : Cx} {Wx : WX} (cx : CsOk X W C T Wx) {i : Nat} {x : Str} {k : E} {ke : Expr} {p : Pos} (hv : isVar X.N X.env.scope i x = true) (hk : chk T X.N X.env.scope k ke = true) {σ : St} {e1 : Env} {G1 H1 : Hp} {De : Ends} (s1 : StOk W G1 H1 σ e1) {d : D} {v : V} (r1 : Rep W G1 d v)
    {f : Env → Rs Fl} (a1 : AftS W σ e1 (OwnA σ e1) G1 H1 De Wx ((setE i (ev C k) d e1).bind fun _ e2 => f e2)) {Q : St → Hp → Prop} (kk : ∀ e2 G2 H2, StOk W G2 H2 σ e2 → Ex G1 G2 → AftS W σ e2 (OwnA σ e2) G2 H2 De Wx (f e2) → Q σ H2) :
    WE X (.Name x p) σ H1 fun o H2 => WE X ke σ H2 fun iv H3 => rSetA o iv v H3 fun H4 => Q σ H4 := by
  unfold setE at a1
  by_cases hm : (slot e1 i).isMut = true
  · rw [if_pos hm, bind_as] at a1
    obtain ⟨d0, b, z1, z2, z3, z4⟩ := s1.mut hm
    refine isVar_ok hv z2 ?_
    refine good_fz (ev_ok k cx.toCxOk hk) s1 (aft_toS (np_fz (np_ev k e1)) a1 fun kd e2 kv G2 H2 _ k2 p2 s2 r2 a2 => ?_)
    replace r2 : Rep W G2 kd kv := r2
    unfold setM at a2
    cases hm2 : (slot e2 i).isMut with
    | false => rw [hm2] at a2; exact a2.elim
    | true =>
      rw [hm2] at a2
      obtain ⟨d1, b', y1, y2, y3, y4⟩ := s2.mut hm2
      rw [z2] at y2
      cases y2
      rw [y1] at a2
      cases d1 <;> first | exact a2.elim | skip
      · rename_i xs
        simp only at a2
        cases kd <;> first | exact a2.elim | skip
        rename_i j _
        simp only at a2
        simp only [Rep] at r2
        cases q : ixOf xs.length j with
        | none => rw [q] at a2; exact a2.elim
        | some n =>
          rw [q] at a2
          obtain ⟨vs, h1, h2⟩ := y4
          refine .inl ⟨b, vs, j, n, rfl, r2, h1, ?_, ?_⟩
          · rw [reps_len h2]; exact q
          · obtain ⟨s3, k3, p3⟩ := s2.putO (d' := .lst (xs.set n d)) (o := .lst (vs.set n v)) hm2 z2 ⟨vs.set n v, upd_same, reps_set h2 (Rep.mono k2.gg _ _ r1)⟩
            exact kk _ G2 _ s3 k2.gg (AftS.step k3 p3 a2)
      · rename_i t kvs
        simp only at a2
        by_cases hk : (keyOk t kd && decide (kvs.length < big)) = true
        · rw [if_pos hk] at a2
          rw [Bool.and_eq_true, decide_eq_true_eq] at hk
          obtain ⟨u0, l0, h1, h2, h3⟩ := y4
          obtain ⟨u', l', put, o', r'⟩ := dPut_ok h1 h2 h3 s2.gh (.inl r2) hk.1 (Rep.mono k2.gg _ _ r1) hk.2
          refine .inr ⟨b, _, rfl, put, ?_⟩
          obtain ⟨s3, k3, p3⟩ := s2.putO (d' := .dct t (dput kvs kd d)) (o := u') hm2 z2 ⟨u', l', upd_same, o', r'⟩
          exact kk _ G2 _ s3 k2.gg (AftS.step k3 p3 a2)
        · rw [if_neg hk] at a2
          exact a2.elim
  · rw [if_neg hm] at a1
    exact a1.elim
theorem aft_nx {σ : St} {e : Env} {G H : Hp} {De : Ends} {Wx : WX} (s : StOk W G H σ e) (a : AftS W σ e (OwnA σ e) G H De Wx (.ok .nx e)) : De.nx σ H := a σ G H (Keep.refl s.gh) s (ParB.k (ParB.refl e))
theorem seti_ok {X : Cx} {Wx : WX} (cx : CsOk X W C T Wx) {i : Nat} {x : Str} {k a : E} {ke e : Expr} {p sp pos : Pos} (hv : isVar X.N X.env.scope i x = true) (hs : notSlice ke = true) (hk : chk T X.N X.env.scope k ke = true) (h : chk T X.N X.env.scope a e = true) :
    GoodS X W Wx (.Assign [.Subscript (.Name x p) ke sp] e pos) (fun env => (fz (ev C a) env).bind fun d e1 => if (slot e1 i).isMut then (fz (ev C k) e1).bind fun x e2 => setM i x d e2 else .no) := by
  intro env σ G H De s aa
  refine of_ps (ps_asg peU (pg_sub peU peU (set_any (by have := cx.units; omega)) (fun v => subs_asg hs v)) swaps_sub (by cases e <;> rfl) rfl) ?_
  refine good_fz (ev_ok a cx.toCxOk h) s (aft_toS (np_fz (np_ev a env)) aa fun d e1 v G1 H1 _ k1 p1 s1 r1 a1 => ?_)
  replace a1 : AftS W σ e1 (OwnA σ e1) G1 H1 De Wx ((setE i (ev C k) d e1).bind fun _ e2 => .ok .nx e2) := by rw [setE_nx]; exact a1
  exact setE_run cx hv hk s1 r1 a1 fun e2 G2 H2 s2 _ a2 => aft_nx s2 a2
theorem seti2_ok {X : Cx} {Wx : WX} (cx : CsOk X W C T Wx) {i j : Nat} {x y : Str} {k l a : E} {ke le e : Expr} {p q sp sq tp pos : Pos} {tk : Nat} (hv : isVar X.N X.env.scope i x = true) (hw : isVar X.N X.env.scope j y = true) (hs : notSlice ke = true) (ht : notSlice le = true) (hc : isComp e = false) (hn : notTupE e = true)
    (hk : chk T X.N X.env.scope k ke = true) (hl : chk T X.N X.env.scope l le = true) (h : chk T X.N X.env.scope a e = true) :
    GoodS X W Wx (.Assign [.Tuple [.Subscript (.Name x p) ke sp, .Subscript (.Name y q) le sq] tk tp] e pos) (fun env => (fz (ev C a) env).bind fun d e1 => match d with
    | .tup [u, w] => (setE i (ev C k) u e1).bind fun _ e2 => setE j (ev C l) w e2
    | _ => .no) := by
  intro env σ G H De s aa
  have hu : X.A.units + 2 < cLine := by have := cx.units; omega
  refine of_ps (ps_asg peU (pg_tup cx.calm (pgs_cons (pg_sub peU peU (set_any hu) (fun v => subs_asg hs v)) (pgs_cons (pg_sub peU peU (set_any hu) (fun v => subs_asg ht v)) pgs_nil rfl) rfl) rfl rfl) (swapsSole_no hc) (swappedStores_no (by rw [hn, Bool.or_true])) rfl) ?_
  refine good_fz (ev_ok a cx.toCxOk h) s (aft_toS (np_fz (np_ev a env)) aa fun d e1 v G1 H1 _ k1 p1 s1 r1 a1 => ?_)
  replace r1 : Rep W G1 d v := r1
  match d, r1, a1 with
  | .tup [u, w], r1, a1 =>
    simp only [Rep, Reps] at r1
    obtain ⟨b, vs, rfl, h1, v1, r2, rfl, q1, v2, r3, rfl, q2, rfl⟩ := r1
    refine ⟨b, _, rfl, .inl (.inl (s1.gh _ _ h1)), rfl, v1, _, rfl, ?_⟩
    refine setE_run (Q := fun σ' H' => gCons _ gNil [v2] σ' H' De.nx) cx hv hk s1 q1 a1 fun e2 G2 H2 s2 x2 a2 => ⟨v2, _, rfl, ?_⟩
    replace a2 : AftS W σ e2 (OwnA σ e2) G2 H2 De Wx ((setE j (ev C l) w e2).bind fun _ e3 => .ok .nx e3) := by rw [setE_nx]; exact a2
    exact setE_run (Q := fun σ' H' => gNil [] σ' H' De.nx) cx hw hl s2 (Rep.mono x2 _ _ q2) a2 fun e3 G3 H3 s3 _ a3 => ⟨rfl, aft_nx s3 a3⟩
  | .non, _, a1 => exact a1.elim
  | .bl _, _, a1 => exact a1.elim
  | .int _, _, a1 => exact a1.elim
  | .str _, _, a1 => exact a1.elim
  | .tup [], _, a1 => exact a1.elim
  | .tup [_], _, a1 => exact a1.elim
  | .tup (_ :: _ :: _ :: _), _, a1 => exact a1.elim
  | .lst _, _, a1 => exact a1.elim
  | .dct _ _, _, a1 => exact a1.elim
  | .fn _, _, a1 => exact a1.elim
  | .scr _, _, a1 => exact a1.elim
  | .ftp _, _, a1 => exact a1.elim
theorem pop_ok {X : Cx} {Wx : WX} (cx : CsOk X W C T Wx) {j i : Nat} {x y n : Str} {p q ap cp pos : Pos} (hi : X.N[j]? = some x) (hx : locB X.env.scope x = true) (hv : isVar X.N X.env.scope i y = true) (hm : mthB n "pop" ap cp = true) :
    GoodS X W Wx (.Assign [.Name x p] (.Call (.Attribute (.Name y q) n ap) [] [] cp) pos) (popM j i) := by
  unfold mthB at hm
  rw [Bool.and_eq_true, decide_eq_true_eq] at hm
  obtain ⟨rfl, hl⟩ := hm
  intro env σ G H De s aa
  refine of_ps (ps_set cx.nd hi (locB_loc hx) (pe_bm0 PySem.F.plainAttrs_list PySem.F.slot_list_pop PySem.F.type_list_pop mt_pop peU rfl hl) (swaps_no rfl) (.inl (cx.fn x))) ?_
  unfold popM at aa
  cases hm2 : (slot env i).isMut with
  | false => rw [hm2] at aa; exact aa.elim
  | true =>
    rw [hm2] at aa
    obtain ⟨d1, b, y1, y2, y3, y4⟩ := s.mut hm2
    rw [y1] at aa
    cases d1 <;> first | exact aa.elim | skip
    rename_i xs
    simp only at aa
    obtain ⟨vs, h1, h2⟩ := y4
    cases w : xs[xs.length - 1]? with
    | none => rw [w] at aa; exact aa.elim
    | some d =>
      rw [w] at aa
      obtain ⟨v, g1, g2⟩ := reps_get h2 w
      refine isVar_ok hv y2 ⟨.inl ⟨rfl, vs, .inl (.inl h1)⟩, b, vs, v, rfl, rfl, h1, by rw [reps_len h2]; exact g1, ?_⟩
      obtain ⟨s3, k3, p3⟩ := s.putO (d' := .lst xs.dropLast) (o := .lst vs.dropLast) hm2 y2 ⟨vs.dropLast, upd_same, by rw [List.dropLast_eq_take, List.dropLast_eq_take, reps_len h2]; exact reps_take _ h2⟩
      exact own_end (r := .val d) s k3 p3 s3 (show Rep W G d v from g2) aa
theorem ownLst_at {G H : Hp} {σ : St} {e : Env} {i : Nat} (s : StOk W G H σ e) (h : ownLst e i = true) : (slot e i).isMut = true ∧ ∃ (b : Addr) (vs : List V), σ[i]? = some (some (.ref b)) ∧ H b = some (.lst vs) := by
  unfold ownLst at h
  have q := s.sl i
  cases w : slot e i with
  | un => rw [w] at h; cases h
  | val d => rw [w] at h; cases h
  | own d =>
    rw [w] at h q
    cases d <;> first | cases h | skip
    obtain ⟨b, q1, q2, vs, q3, q4⟩ := q
    exact ⟨rfl, b, vs, q1, q3⟩
  | par d =>
    rw [w] at h q
    cases d <;> first | cases h | skip
    obtain ⟨b, q1, q2, vs, q3, q4⟩ := q
    exact ⟨rfl, b, vs, q1, q3⟩
theorem ownCall_of {N : List Str} {sc : Scope} {m : Str} {i : Nat} {e e' : Expr} (h : ownCall N sc m i e = some e') : ∃ x p n ap cp, e = .Call (.Attribute (.Name x p) n ap) [e'] [] cp ∧ isVar N sc i x = true ∧ mthB n m ap cp = true ∧ notStar e' = true := by
  unfold ownCall at h
  split at h
  · split at h
    · cases h
      rename_i hb
      simp only [Bool.and_eq_true] at hb
      exact ⟨_, _, _, _, _, rfl, hb.1.1, hb.1.2, hb.2⟩
    · cases h
  · cases h
theorem app_ok {X : Cx} {Wx : WX} (cx : CsOk X W C T Wx) {i : Nat} {a : E} {e e' : Expr} {pos : Pos} (ho : ownCall X.N X.env.scope "append" i e = some e') (h : chk T X.N X.env.scope a e' = true) :
    GoodS X W Wx (.Expr e pos) (fun env => if ownLst env i then (fz (ev C a) env).bind fun d e1 => appM i d e1 else .no) := by
  obtain ⟨x, p, n, ap, cp, rfl, hv, hm, hs⟩ := ownCall_of ho
  unfold mthB at hm
  rw [Bool.and_eq_true, decide_eq_true_eq] at hm
  obtain ⟨rfl, hl⟩ := hm
  intro env σ G H De s aa
  have hs' : [e'].all notStar = true := by simp only [List.all_cons, hs]; rfl
  refine of_ps (ps_expr (pe_bm PySem.F.plainAttrs_list PySem.F.slot_list_append PySem.F.type_list_append mt_append peU (paU hs') rfl (few1 hs) hl (star_each hs) (star_any cp [] rfl).1) rfl) ?_
  by_cases hb : ownLst env i = true
  · replace aa : AftS W σ env (OwnA σ env) G H De Wx (if ownLst env i = true then (fz (ev C a) env).bind fun d e1 => appM i d e1 else .no) := aa
    rw [if_pos hb] at aa
    obtain ⟨m0, b, vs0, z1, z2⟩ := ownLst_at s hb
    refine isVar_ok hv z1 ⟨.inl ⟨rfl, vs0, .inl (.inl z2)⟩, ?_⟩
    refine good_fz (ev_ok a cx.toCxOk h) s (aft_toS (np_fz (np_ev a env)) aa fun d e1 v G1 H1 _ k1 p1 s1 r1 a1 => ?_)
    replace r1 : Rep W G1 d v := r1
    unfold appM at a1
    cases hm2 : (slot e1 i).isMut with
    | false => rw [hm2] at a1; exact a1.elim
    | true =>
      rw [hm2] at a1
      obtain ⟨d1, b', y1, y2, y3, y4⟩ := s1.mut hm2
      rw [z1] at y2
      cases y2
      rw [y1] at a1
      cases d1 <;> first | exact a1.elim | skip
      rename_i xs
      simp only at a1
      obtain ⟨vs, h1, h2⟩ := y4
      by_cases hz : xs.length < big
      · rw [if_pos hz] at a1
        refine ⟨b, vs, v, rfl, rfl, h1, Nat.lt_of_lt_of_le (by rw [reps_len h2]; exact hz) (by decide), ?_⟩
        obtain ⟨s3, k3, p3⟩ := s1.putO (d' := .lst (xs ++ [d])) (o := .lst (vs ++ [v])) hm2 z1 ⟨vs ++ [v], upd_same, reps_append h2 (by simp only [Reps]; exact ⟨v, [], rfl, r1, rfl⟩)⟩
        exact a1 σ G1 _ k3 s3 p3
      · rw [if_neg hz] at a1; exact a1.elim
  · replace aa : AftS W σ env (OwnA σ env) G H De Wx (if ownLst env i = true then (fz (ev C a) env).bind fun d e1 => appM i d e1 else .no) := aa
    rw [if_neg hb] at aa
    exact aa.elim
theorem ext_ok {X : Cx} {Wx : WX} (cx : CsOk X W C T Wx) {i : Nat} {a : E} {e e' : Expr} {pos : Pos} (ho : ownCall X.N X.env.scope "extend" i e = some e') (h : chk T X.N X.env.scope a e' = true) :
    GoodS X W Wx (.Expr e pos) (fun env => if ownLst env i then (fz (ev C a) env).bind fun d e1 => extM i d e1 else .no) := by
  obtain ⟨x, p, n, ap, cp, rfl, hv, hm, hs⟩ := ownCall_of ho
  unfold mthB at hm
  rw [Bool.and_eq_true, decide_eq_true_eq] at hm
  obtain ⟨rfl, hl⟩ := hm
  intro env σ G H De s aa
  have hs' : [e'].all notStar = true := by simp only [List.all_cons, hs]; rfl
  refine of_ps (ps_expr (pe_bm PySem.F.plainAttrs_list PySem.F.slot_list_extend PySem.F.type_list_extend mt_extend peU (paU hs') rfl (few1 hs) hl (star_each hs) (star_any cp [] rfl).1) rfl) ?_
  by_cases hb : ownLst env i = true
  · replace aa : AftS W σ env (OwnA σ env) G H De Wx (if ownLst env i = true then (fz (ev C a) env).bind fun d e1 => extM i d e1 else .no) := aa
    rw [if_pos hb] at aa
    obtain ⟨m0, b, vs0, z1, z2⟩ := ownLst_at s hb
    refine isVar_ok hv z1 ⟨.inl ⟨rfl, vs0, .inl (.inl z2)⟩, ?_⟩
    refine good_fz (ev_ok a cx.toCxOk h) s (aft_toS (np_fz (np_ev a env)) aa fun d e1 v G1 H1 _ k1 p1 s1 r1 a1 => ?_)
    replace r1 : Rep W G1 d v := r1
    unfold extM at a1
    cases hm2 : (slot e1 i).isMut with
    | false => rw [hm2] at a1; exact a1.elim
    | true =>
      rw [hm2] at a1
      obtain ⟨d1, b', y1, y2, y3, y4⟩ := s1.mut hm2
      rw [z1] at y2
      cases y2
      rw [y1] at a1
      cases d1 <;> first | exact a1.elim | skip
      rename_i xs
      cases d <;> first | exact a1.elim | skip
      rename_i ys _
      simp only at a1
      obtain ⟨vs, h1, h2⟩ := y4
      simp only [Rep] at r1
      obtain ⟨c, us, rfl, r2, r3⟩ := r1
      by_cases hz : xs.length + ys.length ≤ big
      · rw [if_pos hz] at a1
        refine ⟨b, c, vs, us, rfl, rfl, h1, s1.gh _ _ r2, big_line (by rw [reps_len h2, reps_len r3]; exact hz), ?_⟩
        obtain ⟨s3, k3, p3⟩ := s1.putO (d' := .lst (xs ++ ys)) (o := .lst (vs ++ us)) hm2 z1 ⟨vs ++ us, upd_same, reps_append h2 r3⟩
        exact a1 σ G1 _ k3 s3 p3
      · rw [if_neg hz] at a1; exact a1.elim
  · replace aa : AftS W σ env (OwnA σ env) G H De Wx (if ownLst env i = true then (fz (ev C a) env).bind fun d e1 => extM i d e1 else .no) := aa
    rw [if_neg hb] at aa
    exact aa.elim
/-- what is handed back -/
theorem ret_ok {X : Cx} {Wx : WX} (cx : CsOk X W C T Wx) {a : E} {e : Expr} {pos : Pos} (h : chk T X.N X.env.scope a e = true) : GoodS X W Wx (.Return (some e) pos) (fun env => (retM a (ev C a) env).bind fun r e1 => .ok (.rt r) e1) := by
  intro env σ G H De s aa
  replace aa : AftS W σ env (OwnA σ env) G H De Wx ((retM a (ev C a) env).bind fun r e1 => .ok (.rt r) e1) := aa
  refine of_ps (ps_ret peU) ?_
  show WE X e σ H De.rt
  by_cases hc : ∃ i, a = .var i
  · obtain ⟨i, rfl⟩ := hc
    cases e <;> simp only [chk, reduceCtorEq, Bool.false_eq_true] at h
    simp only [retM] at aa
    have q := s.sl i
    cases w : slot env i with
    | un => rw [w] at aa; exact aa.elim
    | par d => rw [w] at aa; exact aa.elim
    | val d =>
      rw [w] at aa q
      obtain ⟨v, q1, q2⟩ := q
      exact isVar_ok h q1 (aa σ G H (Keep.refl s.gh) s (ParK.refl _ _) v q2)
    | own d =>
      have hm : (slot env i).isMut = true := by rw [w]; rfl
      rw [w] at aa q
      obtain ⟨b, q1, q2, q3⟩ := q
      have hi := slot_lt hm
      have sub : ∀ c, OwnA σ (env.set i .un) c → OwnA σ env c ∧ c ≠ b := fun c ⟨j, h1, h2⟩ => by
        rw [slot_set] at h1
        by_cases z : i = j
        · subst z; rw [if_pos rfl, if_pos hi] at h1; cases h1
        · rw [if_neg z] at h1
          exact ⟨⟨j, h1, h2⟩, fun e => by subst e; exact s.inj i j c z hm h1 q1 h2⟩
      have s' : StOk W G H σ (env.set i .un) := ⟨s.gh, by rw [List.length_set]; exact s.len, fun j => by
          rw [slot_set]
          by_cases z : i = j
          · subst z; rw [if_pos rfl, if_pos hi]; trivial
          · rw [if_neg z]; exact s.sl j, fun j k c hjk hj hk h1 => by
          rw [slot_set] at hj hk
          by_cases z : i = j
          · subst z; rw [if_pos rfl, if_pos hi] at hj; cases hj
          · by_cases z' : i = k
            · subst z'; rw [if_pos rfl, if_pos hi] at hk; cases hk
            · rw [if_neg z] at hj; rw [if_neg z'] at hk; exact s.inj j k c hjk hj hk h1⟩
      refine isVar_ok h q1 (aa σ G H (Keep.sub s.gh fun c hc => (sub c hc).1) s' (ParB.k (ParB.set fun z => by cases z)) (.ref b) ⟨b, rfl, q2, q3, fun ho => (sub b ho).2 rfl, .inl ⟨i, hm, q1⟩⟩)
  · have e1 : retM a (ev C a) = ev C a := by cases a <;> first | rfl | exact absurd ⟨_, rfl⟩ hc
    rw [e1] at aa
    refine ev_ok a cx.toCxOk h env σ G H _ s ?_
    have np := np_ev (C := C) a env
    cases q : ev C a env with
    | no => rw [q] at aa; exact aa
    | ex xx e' => rw [q] at aa np; exact fun c d G' H' k' s' x' => aa σ c d G' H' k' s' (ParB.k np) x'
    | ok r e' => rw [q] at aa np; exact fun v G' H' k' s' r' => aa σ G' H' k' s' (ParB.k np) v r'
end
end Itp
set_option Elab.async false
set_option linter.all false
set_option maxRecDepth 100000
set_option maxHeartbeats 4000000
namespace Itp
open PySem L2
section
variable {W : Wd} {C : Cfg} {T : Tab}
/-! ### loops -/
theorem for_ok {X : Cx} {Wx : WX} (cx : CsOk X W C T Wx) {tg : Tg} {t iter : Expr} {k : ItK} {es : List Expr} {b : List Stmt} {mA : M (List Opd)} {mB : M Fl} {pos : Pos} (hit : itParts X.env.scope k iter = some es) (hen : k = .enum ∨ k = .items → isTup t = true) (hn : notSet iter = true) (ht : chkT X.N X.env.scope fnT tg t = true)
    (hA : GoodL X W Wx es mA) (hB : GoodSs X W Wx b mB) (npA : ∀ e, NP e (mA e)) : GoodS X W Wx (.For t iter b [] pos) (fun env => (itM k mA env).bind fun xs e1 => forL tg mB xs e1) := by
  intro env σ G H De s aa
  replace aa : AftS W σ env (OwnA σ env) G H De Wx ((itM k mA env).bind fun xs e1 => forL tg mB xs e1) := aa
  rw [← funext (f := X.fn) (g := fnT) fun x => cx.fn x] at ht
  refine of_ps (ps_for cx.hp cx.calm piU pgU pssU (fun x => noset_fold hn X.env x)) ?_
  unfold itM at aa
  have np := npA env
  cases qA : mA env with
  | no => rw [qA] at aa; exact aa.elim
  | ex x e' => rw [qA] at aa; exact aa.elim
  | ok os e1 =>
    rw [qA] at aa np
    simp only at aa
    cases qo : opds e1 os with
    | none => rw [qo] at aa; exact aa.elim
    | some ds =>
      rw [qo] at aa
      simp only at aa
      by_cases hm : (muts e1 os).isEmpty = true
      · rw [if_pos hm] at aa
        cases qi : items k ds with
        | none => rw [qi] at aa; exact aa.elim
        | some xs =>
          rw [qi] at aa
          simp only [ofO, Rs.bind] at aa
          refine it_ok cx.toCxOk hit hen qi (hA env σ G H _ s ?_)
          rw [qA]
          intro vs G1 H1 k1 s1 r1
          refine ⟨G1, s1.gh, opd_fz s1 r1 qo hm, fun J P wk pG => ?_⟩
          have a1 := AftS.step k1 (ParB.k np) aa
          refine ⟨fun i m σi Hi => m = xs.length - i ∧ i ≤ xs.length ∧ ∃ Gi ei, StOk W Gi Hi σi ei ∧ P Gi ∧ AftS W σi ei (OwnA σi ei) Gi Hi De Wx (forL tg mB (xs.drop i) ei), ⟨xs.length, by simp, Nat.zero_le _, G1, e1, s1, pG, by simpa using a1⟩, ?_⟩
          rintro i m σi Hi ⟨rfl, hi, Gi, ei, si, pi, ai⟩
          cases hx : xs.drop i with
          | nil =>
            have hlen : xs.length ≤ i := by
              have := congrArg List.length hx
              simp at this
              omega
            rw [hx] at ai
            simp only [forL] at ai
            exact .inl ⟨wk.stop i Gi Hi pi si.gh hlen, ai σi Gi Hi (Keep.refl si.gh) si (ParK.refl _ _)⟩
          | cons x rest =>
            obtain ⟨hx1, hx2, hx3⟩ := drop_cons hx
            rw [hx] at ai
            simp only [forL] at ai
            cases qb : bindT tg x ei with
            | none => rw [qb] at ai; exact ai.elim
            | some e2 =>
              rw [qb] at ai
              simp only at ai
              refine .inr ⟨wk.go i Gi Hi pi si.gh hx3, fun σ' H' => ∃ m', m' < xs.length - i ∧ (m' = xs.length - (i + 1) ∧ i + 1 ≤ xs.length ∧ ∃ Gi ei, StOk W Gi H' σ' ei ∧ P Gi ∧ AftS W σ' ei (OwnA σ' ei) Gi H' De Wx (forL tg mB (xs.drop (i + 1)) ei)), fun σ' H' h => h, fun xv H3 hy => ?_⟩
              obtain ⟨G3, g3, rx⟩ := wk.yld i Gi Hi xv H3 x pi si.gh hx1 hy
              have s3 := g3.st si
              refine bindT_ok cx.toCxOk tg t x xv σi ei e2 _ ht qb s3 rx fun σ2 s4 o4 p4 _ => ?_
              have a4 := AftS.step (g3.keep.trans (Keep.sub s3.gh o4)) p4 ai
              refine hB e2 σ2 G3 H3 _ s4 ?_
              cases qB : mB e2 with
              | no => rw [qB] at a4; exact a4
              | ex xc e3 => rw [qB] at a4; exact a4
              | ok f e3 =>
                rw [qB] at a4
                simp only [Rs.bind] at a4
                have again : AftS W σ2 e2 (OwnA σ2 e2) G3 H3 De Wx (forL tg mB rest e3) → ∀ σ' G' H', Keep (OwnA σ2 e2) G3 H3 (OwnA σ' e3) G' H' → StOk W G' H' σ' e3 → ParK σ2 e2 σ' e3 → ∃ m', m' < xs.length - i ∧ (m' = xs.length - (i + 1) ∧ i + 1 ≤ xs.length ∧ ∃ Gi ei, StOk W Gi H' σ' ei ∧ P Gi ∧ AftS W σ' ei (OwnA σ' ei) Gi H' De Wx (forL tg mB (xs.drop (i + 1)) ei)) := fun a σ' G' H' k' s' p' =>
                  ⟨xs.length - (i + 1), by omega, rfl, hx3, G', e3, s', wk.mono Gi G' (g3.gg.trans k'.gg) pi, by rw [hx2]; exact AftS.step k' p' a⟩
                cases f with
                | nx => exact fun σ' G' H' k' s' p' => again a4 σ' G' H' k' s' p'
                | ct => exact fun σ' G' H' k' s' p' => again a4 σ' G' H' k' s' p'
                | bk => exact fun σ' G' H' k' s' p' => a4 σ' G' H' k' s' p'
                | rt r => exact fun σ' G' H' k' s' p' => a4 σ' G' H' k' s' p'
      · rw [if_neg hm] at aa
        exact aa.elim
theorem whl_ok {X : Cx} {Wx : WX} (cx : CsOk X W C T Wx) {c : Expr} {b : List Stmt} {mC : M Bool} {mB : M Fl} {pos : Pos} {n : Nat} (hC : GoodB X W Wx c mC) (hB : GoodSs X W Wx b mB) (npC : ∀ e, NP e (mC e)) : GoodS X W Wx (.While c b [] pos) (whlL mC mB n) := by
  intro env σ G H De s aa
  refine of_ps (ps_while cx.hp ptU pssU) ?_
  refine ⟨fun m σi Hi => ∃ Gi ei, StOk W Gi Hi σi ei ∧ AftS W σi ei (OwnA σi ei) Gi Hi De Wx (whlL mC mB m ei), ⟨n, G, env, s, aa⟩, ?_⟩
  rintro m σi Hi ⟨Gi, ei, si, ai⟩
  cases m with
  | zero => exact ai.elim
  | succ m =>
    simp only [whlL] at ai
    refine hC ei σi Gi Hi _ si (aft_toS (npC ei) ai fun t e1 t' G1 H1 _ k1 p1 s1 r1 a1 => ?_)
    have r1 : t' = t := r1
    subst r1
    cases t' with
    | false =>
      rw [if_neg Bool.false_ne_true] at a1 ⊢
      exact a1 σi G1 H1 (Keep.refl s1.gh) s1 (ParK.refl _ _)
    | true =>
      rw [if_pos rfl] at a1 ⊢
      refine ⟨fun σ' H' => ∃ Gi ei, StOk W Gi H' σ' ei ∧ AftS W σ' ei (OwnA σ' ei) Gi H' De Wx (whlL mC mB m ei), fun σ' H' h => ⟨m, Nat.lt_succ_self m, h⟩, hB e1 σi G1 H1 _ s1 ?_⟩
      cases qB : mB e1 with
      | no => rw [qB] at a1; exact a1
      | ex xc e3 => rw [qB] at a1; exact a1
      | ok f e3 =>
        rw [qB] at a1
        simp only [Rs.bind] at a1
        cases f with
        | nx => exact fun σ' G' H' k' s' p' => ⟨G', e3, s', AftS.step k' p' a1⟩
        | ct => exact fun σ' G' H' k' s' p' => ⟨G', e3, s', AftS.step k' p' a1⟩
        | bk => exact fun σ' G' H' k' s' p' => a1 σ' G' H' k' s' p'
        | rt r => exact fun σ' G' H' k' s' p' => a1 σ' G' H' k' s' p'
end
end Itp
set_option Elab.async false
set_option linter.all false
set_option maxRecDepth 100000
set_option maxHeartbeats 4000000
namespace Itp
open PySem L2 PySem.Spec PyProof.Rows
section
variable {X : Cx}
/-! ### an exception without a dict -/
theorem mkN_end {pins : List (Addr × Obj)} {σ : L2.St} {H1 H2 : Hp} {Q : XK} {hp hp2 h2 : Heap} {g1 g2 : Array GenState} {d1 d2 : Drawn} {t1 t2 : Nat} {os1 os2 : OsState} {a C : Addr} (T : Raises X (.ref C)) (I1 : L2.Inv X pins σ H1 ⟨hp, g1, d1, t1, os1⟩)
    (ha : hp.objs.size ≤ a) (k : ∀ b o, hp.get? b = some o → hp2.get? b = some o) (un : Un (frs X.stack) [] (upd H1 a (exo a C none)) H2 hp2 h2) (hok : HOk X.prog X.w H2 h2) (ho : os2 = os1) (hb : AllBare g2)
    (ea : H2 a = some (exo a C none)) (q : Q (.ref C) none (del H2 a)) : MkP X pins σ Q (.ref a) ⟨h2, g2, d2, t2, os2⟩ := by
  obtain ⟨t0, hoe⟩ := exo_at hok ea
  have hn : H1 a = none := I1.hok.fresh ha
  obtain ⟨G, g1', g2'⟩ := restrict h2 fun b => decide (b ≠ a)
  have gk : ∀ b, b ≠ a → G.get? b = h2.get? b := fun b hb => g1' b (decide_eq_true hb)
  have ge : G.get? a = none := g2' a (by simp)
  have nha : ∀ {b : Addr} {o : Obj}, hp.get? b = some o → b ≠ a := fun {b o} z => Nat.ne_of_lt (Nat.lt_of_lt_of_le (Heap.lt_size z) ha)
  have up : ∀ {b : Addr}, b ≠ a → H1 b = none → upd H1 a (exo a C none) b = none := fun {b} hb n => by rw [upd_ne hb]; exact n
  have U : Un (frs X.stack) [] H1 (del H2 a) hp G := {
    keep := fun b o z n hf hx => by
      rw [gk b (nha z)]
      exact un.keep b o (k b o z) (up (nha z) n) hf hx
    slot := fun b o z n hf hx => by
      rw [gk b (nha z)]
      exact un.slot b o (k b o z) (up (nha z) n) hf hx
    free := fun b o z n hx => by
      rw [del_ne (nha z)]
      exact un.free b o (k b o z) (up (nha z) n) hx
    there := fun b o z hx => by
      rw [gk b (nha z)]
      exact un.there b o (k b o z) hx
    tups := fun b xs z => by
      rw [del_ne (ne_of_none z hn)]
      exact un.tups b xs (by rw [upd_ne (ne_of_none z hn)]; exact z)
    frzs := fun b o v z => by
      rw [del_ne (ne_of_none z hn)]
      exact un.frzs b o v (by rw [upd_ne (ne_of_none z hn)]; exact z)
    tbls := fun b ps z => by
      rw [del_ne (ne_of_none z hn)]
      exact un.tbls b ps (by rw [upd_ne (ne_of_none z hn)]; exact z) }
  have hok3 : HOk X.prog X.w (del H2 a) G := fun b o z => by
    have hba : b ≠ a := fun e => by
      rw [e, del_same] at z
      cases z
    rw [del_ne hba] at z
    have noa : ∀ {c : Addr}, H2 c = some (.own b) → c ≠ a := fun {c} hc => at_ne ea hc exo_own
    exact (hok b o z).stay (fun c v hc y => by
        have hca : c ≠ a := by
          rcases hc with hc | hc
          · rw [hc]
            exact hba
          · exact noa hc
        rw [gk c hca]
        exact y)
      (fun c hc => by rw [del_ne (noa hc)]; exact hc) (fun c xs hc => by rw [del_ne (at_ne ea hc exo_tup)]; exact hc)
  have J : L2.Inv X pins σ (del H2 a) ⟨G, g2, d2, t2, os2⟩ := I1.call' (ch := []) ho U hok3 hb (fun b z => absurd z (by simp))
  refine ⟨a, _, _, ⟨G, g2, d2, t2, os2⟩, _, .ref C, none, rfl, J, fun b o z => ?_, ge, hoe, ⟨rfl, rfl⟩, rfl, rfl, del_same, rfl, hb, T, q⟩
  by_cases hba : b = a
  · rw [hba, ge] at z
    cases z
  · exact (gk b hba).symm.trans z
theorem pmk_oex0 {CX : CXT} {x : Str} {C fI : Addr} {k : Nat} {fd : FuncData} {ps : List Str} {sp : Sp} {p pos : Pos} (T : OexC X.K C) (iC : PySem.W.findIn X.K (.ref C) "__init__" = some (some (.ref fI))) (tI : PySem.W.typeIn X.K (.ref fI) = some (.type "function"))
    (F1 : FnOk X.prog X.w X.K X.mg X.base CX k fI fd ps sp) (hr : Room (k + 1) X.A) (hb : Binds X.K fd ps []) (hx : Passes CX X (fun _ _ _ => False)) (hg : Gl X x) (hm : X.mg x = some (.ref C)) (hdb : (x == ("__debug__" : Str)) = false) :
    PMk X (.Call (.Name x p) [] [] pos) (fun σ H1 Q => ∀ a, H1 a = none → sp [.ref a] (upd H1 a (exo a C none)) (fun v H2 => v = .non ∧ H2 a = some (exo a C none) ∧ Q (.ref C) none (del H2 a)) (fun _ _ _ => False)) := by
  intro pins s σ H1 Q I1 q1
  obtain ⟨nm, q, N, bs, bm, sn, sub, ab, col, dd, k0, k1, k2, k3, k5, hC, hbm⟩ := T.cls
  refine wpAny_Call_Name_kw (ld_glob I1 hg hm ?_ hdb)
  refine PySem.W.callWith_K0 I1.kIn T.kC ?_
  show wpAny _ _ (call (.ref C) []) _ _ _
  obtain ⟨hp, g, dr, tk, os⟩ := s
  have hsz : hp.objs.size ≤ hp.objs.size + 1 := Nat.le_succ _
  have hn : H1 (hp.objs.size + 1) = none := I1.hok.fresh hsz
  have hq := q1 (hp.objs.size + 1) hn
  have kk : ∀ b o, hp.get? b = some o → ((hp.push (PySem.W.kdv_tup [])).push (PySem.HandSPX.excO C hp.objs.size)).get? b = some o := fun b o e => Heap.get?_push_of_some _ (Heap.get?_push_of_some _ e)
  have hget : ((hp.push (PySem.W.kdv_tup [])).push (PySem.HandSPX.excO C hp.objs.size)).get? (hp.objs.size + 1) = some (PySem.HandSPX.excO C hp.objs.size) := by heap_get
  have I2 : L2.Inv X pins σ (upd H1 (hp.objs.size + 1) (exo (hp.objs.size + 1) C none)) ⟨(hp.push (PySem.W.kdv_tup [])).push (PySem.HandSPX.excO C hp.objs.size), g, dr, tk, os⟩ :=
    I1.laid (t' := tk) (a := hp.objs.size + 1) (o := exo (hp.objs.size + 1) C none) (h' := (hp.push (PySem.W.kdv_tup [])).push (PySem.HandSPX.excO C hp.objs.size)) kk hsz (exo_ok hget)
  have r2 : Vals [V.ref (hp.objs.size + 1)] [Value.ref (hp.objs.size + 1)] := .cons rfl .nil
  have hl : ([Value.ref (hp.objs.size + 1)] ++ []).length = ps.length := by
    have e := r2.length
    rw [F1.len _ _ _ _ hq] at e
    exact e.symm
  refine wpAny_call (PySem.HandSPX.call_own (rest := []) F.excBase_ValueError (fun Y => PySem.HandSPX.refsVE_contains Y bm hbm) (I1.kIn _ _ hC) (PySem.W.looks_findIn I1.kIn iC) (fun self => PySem.W.bind_fn I1.kIn self tI) (by decide)
    (codeAny_mono (F1.run _ X.stack _ _ ⟨[Value.ref (hp.objs.size + 1)], []⟩ [Value.ref (hp.objs.size + 1)] _ _ (fun _ _ _ => False) (hr.make C [] []) (I2.env0.make C [] []) (hb _ [Value.ref (hp.objs.size + 1)] I2.kIn hl) r2 hq) fun r s' hq' => ?_))
  cases r with
  | error er => exact hx pins σ _ _ er s' I2 hq'
  | ok fl =>
    cases fl with
    | ret u =>
      obtain ⟨v, H2, os2, bare2, un2, hok2, rv, ev, ea, q2⟩ := hq'
      subst ev
      obtain ⟨h2, g2, d2, t2, os'⟩ := s'
      exact ⟨rv, mkN_end (raises_own T.exC T.tyC) I1 hsz kk un2 hok2 os2 bare2 ea q2⟩
    | next => exact False.elim hq'
    | brk => exact False.elim hq'
    | cont => exact False.elim hq'
/-- B.__init__(self, ..), B an own class over ValueError -/
theorem pe_binit {x : Str} {B : Addr} {e f : Expr} {ta : TA} {p1 p2 pos : Pos} (hg : Gl X x) (hm : X.mg x = some (.ref B)) (hdb : (x == ("__debug__" : Str)) = false) (sB : PySem.W.specialIn X.K (.ref B) "__getattribute__" = some (some (.builtin "type.__getattribute__")))
    (rB : PySem.W.readsIn X.K B (.type "type") = true) (vB : PySem.W.findCls X.K (.ref B) (.type "type") "__init__" = some (.val (.builtin "ValueError.__init__"))) (ha : PA X [e, f] ta) (hline : (p2.endLine == pos.line) = true)
    (n1 : notStar e = true) (n2 : notStar f = true) : PE X (.Call (.Attribute (.Name x p1) "__init__" p2) [e, f] [] pos) (tVeI X.K ta) := by
  have he2 : starEach [f] X.env = [(false, eval f X.env)] := star_each n2
  have he : starEach [e, f] X.env = (false, eval e X.env) :: starEach [f] X.env := star_each n1
  refine ⟨fun pins s σ H Q I h => ?_⟩
  have hbase : attributeBase (.Name x p1) "__init__" X.env (eval (.Name x p1) X.env) = eval (.Name x p1) X.env := rfl
  rw [arm_eval_Call, hbase]
  refine wpAny_bind (ld_glob I hg hm ?_ hdb)
  refine wpAny_bind (wpAny_standAt ?_)
  have hform : methodCallForm (([e, f] : List Expr).length + ([] : List Keyword).length) (backTo pos (starEach [e, f] X.env)) (backToKw pos (keywordEach [] X.env)) = true := by rw [he, he2]; rfl
  have hpos : methodCallPos true (.Name x p1) X.env p2 pos = pure pos := by unfold methodCallPos; simp [hline]
  unfold methodCall
  rw [hform]
  refine wpAny_bind (wpAny_holding (PySem.W.method_cls I.kIn sB (PySem.W.cls_value I.kIn rB vB (by decide +kernel) ?_)))
  refine wpAny_bind (wpAny_of_eq hpos ?_)
  show wpAny _ _ (callWith pos (Value.builtin "ValueError.__init__") [] (backTo pos (starEach [e, f] X.env)) []) _ _ _
  refine PyProof.Rows.callWith_method1 (thn (ha.run pos pins _ σ H _ (I.tok _) h) fun us s1 ⟨vs, H1, I1, r1, a, C, ws, ev, hl, T, ea, q⟩ => ?_) he (by rw [he2]; rfl)
  subst ev
  cases r1 with
  | @cons _ u0 _ ur ra rw' =>
    obtain rfl : u0 = Value.ref a := ra
    have hlen : ur.length ≤ sizeLine := by
      rw [← Paired.length rw', sizeLine_eq]
      omega
    exact oinit_ok T I1 ea hlen fun s' J => ⟨.non, H1, J, rfl, q⟩
end
end Itp
set_option Elab.async false
set_option linter.all false
set_option maxRecDepth 100000
set_option maxHeartbeats 4000000
namespace Itp
open PySem L2
/-! ### an error's __init__ -/
def XS (H0 : Hp) (a C : Addr) (l : List (Str × V)) (H : Hp) : Prop := (l = [] ∧ H = H0) ∨ ∃ dx, l ≠ [] ∧ H0 dx = none ∧ dx ≠ a ∧ H a = some (exo a C (some dx)) ∧ H dx = some (exd dx l) ∧ ∀ b, b ≠ a → b ≠ dx → H b = H0 b
def spI (K : PySem.W.Frag) (fl : List Str) : Sp := fun vs H Q _ => ∃ (a C : Addr) (ws : List V), vs = .ref a :: ws ∧ ws.length = fl.length ∧ OexC K C ∧ H a = some (exo a C none) ∧ (∀ f ∈ fl, PySem.W.findIn K (.ref C) f = some none) ∧ ∀ H', XS H a C (fl.zip ws).reverse H' → Q .non H'
def asg1 (N : List Str) (sc : Scope) (j : Nat) (f : Str) : Stmt → Bool
  | .Assign [.Attribute (.Name s _) g _] (.Name v _) _ => isVar N sc 0 s && decide (g = f) && isVar N sc j v
  | _ => false
def asgB (N : List Str) (sc : Scope) : Nat → List Str → List Stmt → Bool
  | _, [], [] => true
  | j, f :: fl, st :: r => asg1 N sc j f st && asgB N sc (j + 1) fl r
  | _, _, _ => false
def initB (N : List Str) (sc : Scope) (fl : List Str) (b : Str) : List Stmt → Bool
  | .Expr (.Call (.Attribute (.Name x _) m ap) [.Name s _, .Constant (.str _) _ _] [] cp) _ :: r => (ap.endLine == cp.line) && decide (x = b) && glB sc x && !(x == ("__debug__" : Str)) && decide (m = ("__init__" : Str)) && isVar N sc 0 s && asgB N sc 1 fl r
  | _ => false
section
variable {X : Cx}
theorem asgs_ok {a C : Addr} {H0 : Hp} (T : OexC X.K C) (h0 : H0 a = some (exo a C none)) {σ : St} {De : Ends} : ∀ (fl : List Str) (j : Nat) (ws : List V) (sts : List Stmt) (l : List (Str × V)) (H : Hp), asgB X.N X.env.scope j fl sts = true → (∀ f ∈ fl, PySem.W.findIn X.K (.ref C) f = some none) →
    σ[0]? = some (some (.ref a)) → (∀ i w, ws[i]? = some w → σ[j + i]? = some (some w)) → ws.length = fl.length → l.length + fl.length ≤ 900 → XS H0 a C l H → (∀ H', XS H0 a C ((fl.zip ws).reverse ++ l) H' → De.nx σ H') → WSs X sts De σ H
  | [], j, ws, sts, l, H, hb, hf, hs, hw, hl, hn, x, k => by
    cases sts <;> simp only [asgB, reduceCtorEq, Bool.false_eq_true] at hb
    exact of_pss pss_nil (k H (by simpa using x))
  | f :: fl, j, ws, sts, l, H, hb, hf, hs, hw, hl, hn, x, k => by
    match sts, hb with
    | [], hb => simp [asgB] at hb
    | st :: r, hb =>
      match ws, hl with
      | [], hl => simp at hl
      | w :: ws, hl =>
        obtain ⟨s, p1, p2, v, p3, p4, rfl, h1, h3, h4⟩ : ∃ s p1 p2 v p3 p4, st = .Assign [.Attribute (.Name s p1) f p2] (.Name v p3) p4 ∧ isVar X.N X.env.scope 0 s = true ∧ isVar X.N X.env.scope j v = true ∧ asgB X.N X.env.scope (j + 1) fl r = true := by
          simp only [asgB, Bool.and_eq_true] at hb
          obtain ⟨hb, b3⟩ := hb
          unfold asg1 at hb
          split at hb
          · simp only [Bool.and_eq_true, decide_eq_true_eq] at hb
            obtain ⟨⟨b1, rfl⟩, b2⟩ := hb
            exact ⟨_, _, _, _, _, _, rfl, b1, b2, b3⟩
          · cases hb
        have hwj : σ[j]? = some (some w) := by simpa using hw 0 w rfl
        refine of_pss (pss_cons (ps_ost peU peU rfl) pssU) ?_
        refine isVar_ok h3 hwj (isVar_ok h1 hs ⟨a, C, rfl, T, hf f List.mem_cons_self, ?_⟩)
        have rest : ∀ H', XS H0 a C ((f, w) :: l) H' → WSs X r De σ H' := fun H' x' => by
          refine asgs_ok T h0 fl (j + 1) ws r ((f, w) :: l) H' h4 (fun g hg => hf g (List.mem_cons_of_mem _ hg)) hs (fun i y hy => ?_) (by simpa using hl) (by simp only [List.length_cons] at hn ⊢; omega) x' fun H'' x'' => k H'' (by simpa using x'')
          have := hw (i + 1) y (by simpa using hy)
          rwa [show j + (i + 1) = j + 1 + i by omega] at this
        rcases x with ⟨rfl, rfl⟩ | ⟨dx, d0, d1, d2, d3, d4, d5⟩
        · refine .inl ⟨h0, fun dx hd ha => rest _ (.inr ⟨dx, by simp, hd, ha, upd_same, ?_, fun b hb1 hb2 => ?_⟩)⟩
          · rw [upd_ne ha, upd_same]
          · rw [upd_ne hb1, upd_ne hb2]
        · refine .inr ⟨dx, l, d3, d4, by simp only [List.length_cons] at hn; omega, rest _ (.inr ⟨dx, by simp, d1, d2, ?_, upd_same, fun b hb1 hb2 => ?_⟩)⟩
          · rw [upd_ne (Ne.symm d2)]; exact d3
          · rw [upd_ne hb2]; exact d5 b hb1 hb2
/-- what the written part says of the base class of the errors -/
structure BasC (K : PySem.W.Frag) (B : Addr) : Prop where
  sB : PySem.W.specialIn K (.ref B) "__getattribute__" = some (some (.builtin "type.__getattribute__"))
  rB : PySem.W.readsIn K B (.type "type") = true
  vB : PySem.W.findCls K (.ref B) (.type "type") "__init__" = some (.val (.builtin "ValueError.__init__"))
theorem init_body {a C B : Addr} {H : Hp} {b : Str} {fl : List Str} {ws : List V} {sts : List Stmt} {σ : St} {De : Ends} (hb : initB X.N X.env.scope fl b sts = true) (hm : X.mg b = some (.ref B)) (TB : BasC X.K B) (T : OexC X.K C) (h0 : H a = some (exo a C none)) (hf : ∀ f ∈ fl, PySem.W.findIn X.K (.ref C) f = some none)
    (hs : σ[0]? = some (some (.ref a))) (hw : ∀ i w, ws[i]? = some w → σ[1 + i]? = some (some w)) (hl : ws.length = fl.length) (hn : fl.length ≤ 900) (k : ∀ H', XS H a C (fl.zip ws).reverse H' → De.nx σ H') : WSs X sts De σ H := by
  unfold initB at hb
  split at hb
  · rename_i x p1 m p2 s p3 msg kk p4 p5 p6 r
    simp only [Bool.and_eq_true, decide_eq_true_eq, Bool.not_eq_true'] at hb
    obtain ⟨⟨⟨⟨⟨⟨b0, rfl⟩, b2⟩, b3⟩, rfl⟩, b5⟩, b6⟩ := hb
    refine of_pss (pss_cons (ps_expr (pe_binit (glB_gl b2) hm b3 TB.sB TB.rB TB.vB (pa_cons peU (pa_cons pe_str pa_nil)) b0 rfl rfl) rfl) pssU) ?_
    refine isVar_ok b5 hs ⟨a, C, [.str msg], rfl, by simp, T, h0, ?_⟩
    exact asgs_ok T h0 fl 1 ws r [] H b6 hf hs hw hl (by simpa using hn) (.inl ⟨rfl, rfl⟩) fun H' x => k H' (by simpa using x)
  · cases hb
end
theorem start_get {N : List Str} {vs : List V} {i : Nat} {v : V} (h : vs[i]? = some v) : (L2.start N vs)[i]? = some (some v) := by
  unfold L2.start
  rw [List.getElem?_append_left (by rw [List.length_map]; exact (List.getElem?_eq_some_iff.mp h).1), List.getElem?_map, h]
  rfl
theorem init_fn {P : Program} {w : World} {K : PySem.W.Frag} {mg : Str → Option Value} {base : Heap} {x qual b : Str} {st : Stmt} {f B : Addr} {fd : FuncData} {N ps fl : List Str} (F : Fun K x qual st f fd) (S : FnScope N ps (defScope st)) (hps : ps.length = fl.length + 1) (hn : fl.length ≤ 900)
    (hb : initB N (defScope st) fl b (defBody st) = true) (hm : mg b = some (.ref B)) (TB : BasC K B) : FnOk P w K mg base (L2.CX P w) 1 f fd ps (spI K fl) := by
  refine F.okX S (fun vs H Q E h => ?_) (fun cdv A outer s H vs Q E hr h => ?_)
  · obtain ⟨a, C, ws, rfl, hl, _⟩ := h
    rw [List.length_cons, hl, hps]
  · obtain ⟨a, C, ws, rfl, hl, T, h0, hf, q⟩ := h
    refine ⟨_, pssU, ?_⟩
    exact init_body (X := cxOf (L2.CX P w) P w K mg base N qual (defScope st) f cdv A outer s H E) hb hm TB T h0 hf (start_get rfl) (fun i y hy => start_get (by rw [Nat.add_comm]; simpa using hy)) hl hn fun H' x => q H' x
/-! ### raising -/
/-- an error class: where it stands, its fields -/
structure ClsOk (X : Cx) (W : Wd) (x : Str) (c : Nat) (fl : List Str) (C : Addr) : Prop where
  at_ : W.ca c = some C
  T : OexC X.K C
  mg : X.mg x = some (.ref C)
  fno : ∀ f ∈ fl, PySem.W.findIn X.K (.ref C) f = some none
  xf : XfC X.K C
  len : fl.length ≤ 5
  nd : fl.Nodup
  init : ∃ fI fd k ps, PySem.W.findIn X.K (.ref C) "__init__" = some (some (.ref fI)) ∧ PySem.W.typeIn X.K (.ref fI) = some (.type "function") ∧ FnOk X.prog X.w X.K X.mg X.base (L2.CX X.prog X.w) k fI fd ps (spI X.K fl) ∧ Room (k + 1) X.A ∧ Binds X.K fd ps []
theorem passF {X : Cx} : Passes (L2.CX X.prog X.w) X (fun _ _ _ => False) := fun _ _ _ _ _ _ _ h => by
  obtain ⟨_, _, _, _, _, _, _, _, _, _, _, _, z⟩ := h
  exact z.elim
theorem raise_rule {X : Cx} {W : Wd} {Wx : WX} {x : Str} {c : Nat} {fl : List Str} {C : Addr} (K : ClsOk X W x c fl C) (hc : X.calm = true) (tk : Takes X Wx) (hg : glB X.env.scope x = true) (hdb : (x == ("__debug__" : Str)) = false) {es : List Expr} (hs : es.all notStar = true) (hlen : es.length = fl.length) {p p2 pos : Pos} {De : Ends} {σ : St} {H : Hp}
    (h : WQ X es σ H fun vs H1 => vs.length = fl.length ∧ (fl = [] → Wx (.ref C) none σ H1) ∧ (fl ≠ [] → ∀ d, H1 d = none → Wx (.ref C) (some d) σ (upd H1 d (.xd (fl.zip vs).reverse)))) : WS X (.Raise (some (.Call (.Name x p) es [] p2)) none pos) De σ H := by
  obtain ⟨fI, fd, k, ps, h1, h2, h3, h4, h5⟩ := K.init
  cases es with
  | nil =>
    have hfl : fl = [] := List.length_eq_zero_iff.mp hlen.symm
    subst hfl
    refine of_ps (ps_raise hc tk (pmk_oex0 K.T h1 h2 h3 h4 h5 passF (glB_gl hg) K.mg hdb)) ?_
    intro a ha
    refine ⟨a, C, [], rfl, rfl, K.T, upd_same, fun f hf => by simp at hf, fun H' x => ?_⟩
    have x : H' = upd H a (exo a C none) := by
      rcases x with ⟨_, e⟩ | ⟨dx, d0, d1, d2, d3, d4, d5⟩
      · exact e
      · exact absurd rfl d0
    subst x
    refine ⟨rfl, upd_same, ?_⟩
    have e : del (upd H a (exo a C none)) a = H := by
      funext b
      by_cases hb : b = a
      · subst hb; rw [del_same, ha]
      · rw [del_ne hb, upd_ne hb]
    rw [e]
    exact h.2.1 rfl
  | cons e es =>
    have hs' := hs
    simp only [List.all_cons, Bool.and_eq_true] at hs
    refine of_ps (ps_raise hc tk (pmk_oex K.T h1 h2 h3 h4 h5 .nil passF (glB_gl hg) K.mg (paU hs') hdb (star_each hs.1) (star_any p2 es hs.2).1)) ?_
    refine wq_thn h fun vs H1 q => ?_
    obtain ⟨q1, _, q3⟩ := q
    have hne : fl ≠ [] := fun z => by rw [z] at hlen; simp at hlen
    refine ⟨by have := K.len; omega, fun a ha => ?_⟩
    refine ⟨a, C, vs, by rw [List.append_nil], q1, K.T, upd_same, K.fno, fun H' x => ⟨rfl, ?_⟩⟩
    rcases x with ⟨z, _⟩ | ⟨dx, d0, d1, d2, d3, d4, d5⟩
    · exfalso
      have : (fl.zip vs).length = 0 := by
        have := congrArg List.length z
        simpa using this
      rw [List.length_zip, q1, Nat.min_self] at this
      exact hne (List.length_eq_zero_iff.mp this)
    · have hd1 : H1 dx = none := by rw [upd_ne d2] at d1; exact d1
      refine ⟨dx, _, d3, d4, hd1, ?_⟩
      have e : upd (del H' a) dx (.xd (fl.zip vs).reverse) = upd H1 dx (.xd (fl.zip vs).reverse) := by
        funext b
        by_cases hb : b = dx
        · subst hb; rw [upd_same, upd_same]
        · rw [upd_ne hb, upd_ne hb]
          by_cases hb2 : b = a
          · subst hb2; rw [del_same, ha]
          · rw [del_ne hb2, d5 b hb2 hb, upd_ne hb2]
      rw [e]
      exact q3 hne dx hd1
end Itp
set_option Elab.async false
set_option linter.all false
set_option maxRecDepth 100000
set_option maxHeartbeats 4000000
namespace Itp
open PySem L2
section
variable {W : Wd} {C : Cfg} {T : Tab}
/-- what is known of the errors -/
structure XsOk (X : Cx) (W : Wd) (C : Cfg) (T : Tab) : Prop where
  cat : ∀ x c, lk T.cls x = some c → ∃ A, W.ca c = some A ∧ X.mg x = some (.ref A)
  rse : ∀ x c fl, lk T.cls x = some c → C.flds c = some fl → ∃ A, ClsOk X W x c fl A
  xcl : ∀ c fl A, C.flds c = some fl → W.ca c = some A → XfC X.K A ∧ ∀ f ∈ fl, PySem.W.findIn X.K (.ref A) f = some none
  exm : ∀ c c' b A B, C.sub c c' = some b → W.ca c = some A → W.ca c' = some B → PySem.W.exmOne X.K (.ref A) (.ref B) = some b
structure CfOk (X : Cx) (W : Wd) (C : Cfg) (T : Tab) (Wx : WX) : Prop extends CsOk X W C T Wx where
  xs : XsOk X W C T
theorem ClsOk.tr {X : Cx} {x : Str} {c : Nat} {fl : List Str} {A : Addr} (k : ClsOk X W x c fl A) (pn : List (Addr × Obj)) (xe : Value → Shared → Prop) : ClsOk (X.tr pn xe) W x c fl A := ⟨k.at_, k.T, k.mg, k.fno, k.xf, k.len, k.nd, k.init⟩
theorem CfOk.tr {X : Cx} {Wx Wx' : WX} (cx : CfOk X W C T Wx) (pn : List (Addr × Obj)) (xe : Value → Shared → Prop) (tk : Takes (X.tr pn xe) Wx') (hp : PassesOwn (model X.prog X.w) X.A X.env xe) : CfOk (X.tr pn xe) W C T Wx' where
  K := cx.K
  nd := cx.nd
  calm := cx.calm
  units := cx.units
  blt := cx.blt
  cst := cx.cst
  tk := tk
  fns := cx.fns
  fvn := cx.fvn
  fvc := cx.fvc
  hp := hp
  stk := cx.stk
  frm := cx.frm
  fn := cx.fn
  kind := cx.kind
  xs := ⟨cx.xs.cat, fun x c fl h1 h2 => let ⟨A, k⟩ := cx.xs.rse x c fl h1 h2; ⟨A, k.tr pn xe⟩, cx.xs.xcl, cx.xs.exm⟩
theorem zip_flds {G : Hp} : ∀ {fl : List Str} {ds : List D} {vs : List V} {l : List (Str × D)}, zipF fl ds = some l → Reps W G ds vs → fl.Nodup → ∀ (acc : List (Str × V)), (∀ f ∈ fl, ∀ p ∈ acc, p.1 ≠ f) → ∀ f d, (f, d) ∈ l → ∃ v, ((fl.zip vs).reverse ++ acc).lookup f = some v ∧ Rep W G d v
  | [], ds, vs, l, h, r, nd, acc, ha, f, d, hf => by
    cases ds <;> simp [zipF] at h
    subst h
    simp at hf
  | g :: fl, ds, vs, l, h, r, nd, acc, ha, f, d, hf => by
    cases ds with
    | nil => simp [zipF] at h
    | cons e ds =>
      simp only [zipF, Option.map_eq_some_iff] at h
      obtain ⟨l', h1, rfl⟩ := h
      simp only [Reps] at r
      obtain ⟨v, vr, rfl, r1, r2⟩ := r
      rw [List.nodup_cons] at nd
      have e0 : ((g :: fl).zip (v :: vr)).reverse ++ acc = (fl.zip vr).reverse ++ ((g, v) :: acc) := by simp
      rw [e0]
      rcases List.mem_cons.mp hf with z | z
      · cases z
        refine ⟨v, ?_, r1⟩
        have hn : ∀ (m : List (Str × V)), (∀ p ∈ m, p.1 ≠ g) → (m ++ (g, v) :: acc).lookup g = some v := by
          intro m
          induction m with
          | nil => intro _; simp
          | cons p m ih =>
            intro hm
            have : (g == p.1) = false := by
              have := hm p List.mem_cons_self
              exact beq_eq_false_iff_ne.mpr (Ne.symm this)
            obtain ⟨p1, p2⟩ := p
            simp only [List.cons_append, List.lookup_cons, this]
            exact ih fun q hq => hm q (List.mem_cons_of_mem _ hq)
        refine hn _ fun p hp => ?_
        have : p ∈ fl.zip vr := by simpa using hp
        intro z
        exact nd.1 (by rw [← z]; exact (List.of_mem_zip this).1)
      · refine zip_flds h1 r2 nd.2 _ (fun f' hf' p hp => ?_) f d z
        rcases List.mem_cons.mp hp with y | y
        · rw [y]; intro e; exact nd.1 (by rw [show g = f' from e]; exact hf')
        · exact ha f' (List.mem_cons_of_mem _ hf') p y
theorem flds_ok {G : Hp} {lv : List (Str × V)} : ∀ {l : List (Str × D)}, (∀ f d, (f, d) ∈ l → ∃ v, lv.lookup f = some v ∧ Rep W G d v) → fldsOk W G l lv
  | [], _ => True.intro
  | (f, d) :: r, h => ⟨h f d List.mem_cons_self, flds_ok fun g e hg => h g e (List.mem_cons_of_mem _ hg)⟩
theorem zip_len : ∀ {fl : List Str} {ds : List D} {l : List (Str × D)}, zipF fl ds = some l → ds.length = fl.length ∧ (fl = [] → l = [])
  | [], ds, l, h => by cases ds <;> simp [zipF] at h; subst h; exact ⟨rfl, fun _ => rfl⟩
  | f :: fl, ds, l, h => by
    cases ds <;> simp only [zipF, reduceCtorEq, Option.map_eq_some_iff] at h
    obtain ⟨l', h1, rfl⟩ := h
    exact ⟨by simp [(zip_len h1).1], fun e => by cases e⟩
theorem chks_len {N : List Str} {sc : Scope} : ∀ {as : List E} {es : List Expr}, chks T N sc as es = true → as.length = es.length
  | [], [], _ => rfl
  | [], _ :: _, h => by simp [chks] at h
  | _ :: _, [], h => by simp [chks] at h
  | a :: as, e :: es, h => by simp only [chks, Bool.and_eq_true] at h; simp [chks_len h.2]
theorem evs_len : ∀ {as : List E} {env e1 : Env} {os : List Opd}, evs C as env = .ok os e1 → os.length = as.length
  | [], env, e1, os, h => by simp [evs] at h; rw [h.1]; rfl
  | a :: as, env, e1, os, h => by
    simp only [evs] at h
    cases q1 : opdM a (ev C a) env with
    | no => rw [q1] at h; cases h
    | ex x e2 => rw [q1] at h; cases h
    | ok o e2 =>
      rw [q1] at h
      simp only [Rs.bind] at h
      cases q2 : evs C as e2 with
      | no => rw [q2] at h; cases h
      | ex x e3 => rw [q2] at h; cases h
      | ok os' e3 =>
        rw [q2] at h
        simp only [Rs.ok.injEq] at h
        rw [← h.1]
        simp [evs_len q2]
theorem opds_len {env : Env} : ∀ {os : List Opd} {ds : List D}, opds env os = some ds → ds.length = os.length
  | [], ds, h => by simp [opds] at h; rw [h]; rfl
  | o :: os, ds, h => by
    simp only [opds] at h
    cases q1 : opd env o with
    | none => rw [q1] at h; simp at h
    | some x =>
      cases q2 : opds env os with
      | none => rw [q1, q2] at h; simp at h
      | some xs =>
        rw [q1, q2] at h
        simp only [Option.some.injEq] at h
        rw [← h]
        simp [opds_len q2]
theorem rse_ok {X : Cx} {Wx : WX} (cx : CfOk X W C T Wx) {c : Nat} {as : List E} {x : Str} {es : List Expr} {p p2 pos : Pos} (hl : lk T.cls x = some c) (hg : glB X.env.scope x = true) (hdb : (x == ("__debug__" : Str)) = false) (hs : es.all notStar = true) (h : chks T X.N X.env.scope as es = true) :
    GoodS X W Wx (.Raise (some (.Call (.Name x p) es [] p2)) none pos) (rseM C c (evs C as)) := by
  intro env σ G H De s aa
  unfold rseM at aa
  have np := np_evs (C := C) as env
  cases q : evs C as env with
  | no => rw [q] at aa; exact aa.elim
  | ex xc e1 =>
    rw [q] at aa; exact aa.elim
  | ok os e1 =>
    rw [q] at aa np
    simp only at aa
    by_cases hm : (muts e1 os).isEmpty = true
    · rw [if_pos hm] at aa
      cases qo : opds e1 os with
      | none => rw [qo] at aa; exact aa.elim
      | some ds =>
        cases qf : C.flds c with
        | none => rw [qo, qf] at aa; exact aa.elim
        | some fl =>
          rw [qo, qf] at aa
          simp only at aa
          cases qz : zipF fl ds with
          | none => rw [qz] at aa; exact aa.elim
          | some l =>
            rw [qz] at aa
            obtain ⟨A, K⟩ := cx.xs.rse x c fl hl qf
            have zl := zip_len qz
            refine raise_rule K cx.calm cx.tk hg hdb hs (by rw [← chks_len h, ← evs_len q, ← opds_len qo, zl.1]) (evs_ok as cx.toCxOk h env σ G H _ s ?_)
            rw [q]
            intro vs G1 H1 k1 s1 r1
            have rs := opd_fz s1 r1 qo hm
            refine ⟨by rw [reps_len rs, zl.1], fun hn => ?_, fun hn d hd => ?_⟩
            · exact aa σ _ none G1 H1 k1 s1 (ParB.k np) ⟨A, K.at_, rfl, .inl ⟨zl.2 hn, rfl⟩⟩
            · have gd : G1 d = none := gnone s1.gh hd
              have s2 : StOk W G1 (upd H1 d (.xd (fl.zip vs).reverse)) σ e1 := s1.laidN hd
              refine aa σ _ (some d) G1 _ (k1.trans (Keep.laidN s1.gh hd)) s2 (ParB.k np) ⟨A, K.at_, rfl, .inr ⟨d, _, rfl, upd_same, flds_ok fun f e hf => ?_⟩⟩
              have := zip_flds qz rs K.nd [] (fun _ _ _ hp => by simp at hp) f e hf
              simpa using this
    · rw [if_neg hm] at aa
      exact aa.elim
end
end Itp
set_option Elab.async false
set_option linter.all false
set_option maxRecDepth 100000
set_option maxHeartbeats 4000000
namespace Itp
open PySem L2 PySem.Spec
/-! ### several clauses, named or not -/
abbrev SuT := Addr → Value → Option Addr → TS
def offE (i : Nat) (De : Ends) : Ends := { nx := fun τ K => De.nx (τ.set i none) K, rt := De.rt, bk := fun τ K => De.bk (τ.set i none) K, ct := fun τ K => De.ct (τ.set i none) K }
def mixT (o : Option Nat) (ts : SuT) (a : Addr) (cls : Value) (d : Option Addr) (De : Ends) (σ : L2.St) (H : Hp) : Prop := match o with
  | none => ts a cls d De σ H
  | some i => ts a cls d (offE i De) (σ.set i (some (.ref a))) H
def wMix (K : PySem.W.Frag) (Wo : WX) (De : Ends) : List (Value × Option Nat × SuT) → WX
  | [] => Wo
  | (c, o, ts) :: r => fun cls d σ H => ∃ t, PySem.W.exmOne K cls c = some t ∧ (t = true → ∀ a, H a = none → mixT o ts a cls d De σ H) ∧ (t = false → wMix K Wo De r cls d σ H)
def SuOk (X : Cx) (st : List Stmt) (ts : SuT) : Prop := ∀ (a : Addr) (oe : Obj) (cls : Value) (d : Option Addr) (pn : List (Addr × Obj)), Zc cls d oe → (∃ vs, oe.data = .fields vs) → PSs (X.suite a ((a, oe) :: pn)) st (ts a cls d)
inductive ClsL (X : Cx) : List ExceptHandler → List (Value × Option Nat × SuT) → Prop
  | nil : ClsL X [] []
  | one {x : Str} {c : Value} {ts : SuT} {b : Stmt} {su : List Stmt} {p q : Pos} {hds : List ExceptHandler} {l : List (Value × Option Nat × SuT)} (hc : Names X x c) (hs : SuOk X (b :: su) ts) (r : ClsL X hds l) : ClsL X (.ExceptHandler (some (.Name x p)) none (b :: su) q :: hds) ((c, none, ts) :: l)
  | as {x n : Str} {i : Nat} {c : Value} {ts : SuT} {b : Stmt} {su : List Stmt} {p q : Pos} {hds : List ExceptHandler} {l : List (Value × Option Nat × SuT)} (hc : Names X x c) (hi : X.N[i]? = some n) (hn : X.env.kindOf n = some .local) (hs : SuOk X (b :: su) ts) (r : ClsL X hds l) : ClsL X (.ExceptHandler (some (.Name x p)) (some n) (b :: su) q :: hds) ((c, some i, ts) :: l)
section
variable {X : Cx} {body : List Stmt} {h0 : ExceptHandler} {hds : List ExceptHandler} {l : List (Value × Option Nat × SuT)} {pos : Pos} {tb : WX → TS} {Wo : WX}
theorem ps_try_mix (hstk : X.stack = X.env :: X.outer) (hfrm : X.env.frame = some X.env.locals) (nd : X.N.Nodup) (tk : Takes X Wo)
    (hbody : ∀ (Wi : WX) (pn : List (Addr × Obj)) (xe : Value → Shared → Prop), Takes (X.tr pn xe) Wi → PassesOwn (model X.prog X.w) X.A X.env xe → PSs (X.tr pn xe) body (tb Wi))
    (hcl : ClsL X (h0 :: hds) l) : PS X (.Try body (h0 :: hds) [] [] pos) (fun De σ H => tb (wMix X.K Wo De l) De σ H) := by
  constructor
  intro pins s σ H De I hgo
  have okk := I.ok
  have frms : X.A.frames = some (X.env :: X.outer) := by rw [okk.frames, hstk]
  apply wpAny_Try_except
  have run := (hbody (wMix X.K Wo De l) (X.pn ++ pins) (fun ex u1 => wpAny (model X.prog X.w) X.A (noteFrame ex X.env) (fun _ u2 => wpAny (model X.prog X.w) X.A (setFlight ex none) (fun _ u3 => wpAny (model X.prog X.w) X.A (handleBy ex X.env (h0 :: hds)) (SP X pins De) X.xe u3) X.xe u2) X.xe u1) (fun u s2 caught => by
    obtain ⟨a, B, sI, pins2, τ, K2, cls, d, rfl, Jt, nb, up, sky0, na, os, ag, wish⟩ := caught
    have J : L2.Inv X pins τ K2 sI := Jt.ofTry okk
    have sky : Sky B (X.env :: X.outer) a (Zc cls d) X.env.locals s2.heap := hstk ▸ sky0
    show wpAny (model X.prog X.w) X.A (noteFrame (.ref a) X.env) _ _ _
    refine Sky.land Zc.steady frms hfrm sky fun g fl upg => ?_
    have Jg : L2.Inv X pins τ K2 { s2 with heap := g } := J.landed nb fl.1 (up.trans upg) os ag
    obtain ⟨og, vg, hog, hzg, hdg⟩ := fl.there
    have nfr : a ∉ frs (X.env :: X.outer) := fun hm => by
      obtain ⟨_, o2, e2, hnf⟩ := fl.2.2.1.mem hm
      rw [hog] at e2
      cases e2
      exact hnf _ hdg
    have nL : a ≠ X.env.locals := fun z => nfr (List.mem_filterMap.mpr ⟨X.env, List.mem_cons_self, by rw [hfrm, z]⟩)
    have nF : a ∉ X.fs := fun hm => by
      obtain ⟨e, he, q⟩ := List.mem_filterMap.mp hm
      exact nfr (List.mem_filterMap.mpr ⟨e, List.mem_cons_of_mem _ he, q⟩)
    have Sg := Jg.suite hog hdg na nL nF
    have look : ∀ {x : Str} {c : Value} {np : Pos} {t : Bool} {Q : Bool → Prop}, Names X x c → PySem.W.exmOne X.K cls c = some t → True := fun _ _ => trivial
    have go : ∀ {hs2 : List ExceptHandler} {l2 : List (Value × Option Nat × SuT)}, ClsL X hs2 l2 → wMix X.K Wo De l2 cls d τ K2 → wpAny (model X.prog X.w) X.A (handleBy (.ref a) X.env hs2) (SP X pins De) X.xe { s2 with heap := g } := by
      intro hs2 l2 hk
      have LT : PySem.W.Looks (model X.prog X.w) g (typeOf (.ref a)) cls := fun A Q E s k q => wpAny_typeOf_ref (k _ _ hog) (by rw [hzg.1]; exact q)
      have load : ∀ {x : Str} {c : Value} {p : Pos} {Q E : Value → Shared → Prop}, Names X x c → Q c { s2 with heap := g } → wpAny (model X.prog X.w) (X.A.mark (some (.ref a))) (eval (.Name x p) X.env) Q E { s2 with heap := g } := fun {x c p Q E} hc q => by
        obtain ⟨y1, y2, y3⟩ := hc
        rcases y3 with y3 | ⟨y3, y4, y5⟩
        · exact ld_glob (X := X.suite a ((a, og) :: (X.pn ++ pins))) Sg y1 y3 q y2
        · exact ld_blt (X := X.suite a ((a, og) :: (X.pn ++ pins))) Sg y1 y3 y4 q y5 y2
      induction hk with
      | nil =>
        intro wsh
        apply wpAny_handleBy_nil
        obtain ⟨z1, z2, z3, oe, vs, TT, oT, tl, he, hz, hd, hTT, hr⟩ := id fl
        unfold PySem.passOn
        apply wpAny_bind
        refine wpAny_field he hd hTT ?_
        have nTT : ¬ ((Value.ref TT == Value.none) = true) := by simp
        rw [if_neg nTT]
        have last : wpAny (model X.prog X.w) X.A (setFlight (.ref a) X.env.frame) (fun _ u4 => wpAny (model X.prog X.w) X.A (throw (.ref a) : Sem Flow) (SP X pins De) X.xe u4) X.xe { s2 with heap := g } := by
          rw [hfrm]
          refine HandSPX.setFlight_upZ fl fun g4 hg4 up4 => ?_
          refine wpAny_throw (tk _ _ ⟨a, B, sI, pins, τ, K2, cls, d, rfl, J, nb, (up.trans upg).trans up4, ?_, na, os, ag, wsh⟩)
          exact .inr (.inr (by rw [hstk]; exact hg4))
        first
          | exact wpAny_bind (wpAny_pure (wpAny_bind last))
          | exact wpAny_bind last
      | one hc hsu r ih =>
        intro wsh
        obtain ⟨t, ht, yes, no⟩ := wsh
        refine wpAny_handleBy_cons (codeAny_handlers_test ?_) (by intro q; cases q)
        have LM := PySem.W.exm_one (M := model X.prog X.w) Jg.kIn LT ht
        refine load hc (LM.here ?_)
        cases t with
        | false => exact ih (no rfl)
        | true =>
          apply codeAny_handlers_suite
          refine HandSPX.lands_againZ fl fun g4 fl4 up4 => ?_
          have J4 : L2.Inv X pins τ K2 { s2 with heap := g4 } := J.landed nb fl4.1 ((up.trans upg).trans up4) os ag
          obtain ⟨o4, v4, ho4, hz4, hd4⟩ := fl4.there
          have S4 := J4.suite ho4 hd4 na nL nF
          have rn := (hsu a o4 cls d (X.pn ++ pins) hz4 ⟨_, hd4⟩).run [] _ _ K2 _ S4 (yes rfl a na)
          refine wpAny_mono rn (fun f u6 hp => ?_) (fun _ _ z => z.elim)
          cases f with
          | ret u =>
            obtain ⟨w6, τ6, K6, S6, r6, q6⟩ := hp
            exact ⟨_, _, _, S6.unsuite okk, r6, q6⟩
          | _ =>
            obtain ⟨τ6, K6, S6, q6⟩ := hp
            exact ⟨_, _, S6.unsuite okk, q6⟩
      | as hc hi hn hsu r ih =>
        rename_i x n i c ts b su p q hds3 l3
        intro wsh
        obtain ⟨t, ht, yes, no⟩ := wsh
        refine wpAny_handleBy_cons (codeAny_handlers_test ?_) (by intro q; cases q)
        have LM := PySem.W.exm_one (M := model X.prog X.w) Jg.kIn LT ht
        refine load hc (LM.here ?_)
        cases t with
        | false => exact ih (no rfl)
        | true =>
          apply codeAny_handlers_suite_as
          refine HandSPX.lands_againZ fl fun g4 fl4 up4 => ?_
          have J4 : L2.Inv X pins τ K2 { s2 with heap := g4 } := J.landed nb fl4.1 ((up.trans upg).trans up4) os ag
          obtain ⟨o4, v4, ho4, hz4, hd4⟩ := fl4.there
          have S4 := J4.suite ho4 hd4 na nL nF
          have hloc : L2.Loc X.env.scope n := .inl hn
          refine store_ok (X := X.suite a ((a, o4) :: (X.pn ++ pins))) (v := .ref a) S4 nd hi hloc rfl (fun u5 S5 => ?_) (.inr hn)
          have rn := (hsu a o4 cls d (X.pn ++ pins) hz4 ⟨_, hd4⟩).run [] u5 _ K2 _ S5 (yes rfl a na)
          refine wpAny_mono rn (fun f u6 hp => ?_) (fun _ _ z => z.elim)
          have off : ∀ {τ6 : L2.St} {K6 : Hp} {Q : Shared → Prop}, L2.Inv (X.suite a ((a, o4) :: (X.pn ++ pins))) [] τ6 K6 u6 → (∀ u7, L2.Inv X pins (τ6.set i none) K6 u7 → Q u7) → wpAny (model X.prog X.w) X.A (do bindName X.env n .none; unbindBehindTheSuite X.env n q) (fun _ u7 => Q u7) X.xe u6 := fun S6 hq => gone_ok (S6.unsuite okk) nd hi hn hq
          cases f with
          | ret u =>
            obtain ⟨w6, τ6, K6, S6, r6, q6⟩ := hp
            exact off S6 fun u7 J7 => ⟨_, _, _, J7, r6, q6⟩
          | _ =>
            obtain ⟨τ6, K6, S6, q6⟩ := hp
            exact off S6 fun u7 J7 => ⟨_, _, J7, q6⟩
    exact go hcl wish) PassesOwn.looking).run [] s σ H De (I.toTry _) hgo
  refine wpAny_mono run (fun f s1 hp => ?_) (fun _ _ he => he)
  cases f with
  | next =>
    obtain ⟨τ, K2, J, q⟩ := hp
    exact wpAny_execs_nil ⟨τ, K2, J.ofTry okk, q⟩
  | ret u =>
    obtain ⟨v, τ, K2, J, r, q⟩ := hp
    exact ⟨v, τ, K2, J.ofTry okk, r, q⟩
  | _ =>
    obtain ⟨τ, K2, J, q⟩ := hp
    exact ⟨τ, K2, J.ofTry okk, q⟩
end
end Itp
set_option Elab.async false
set_option linter.all false
set_option maxRecDepth 100000
set_option maxHeartbeats 4000000
namespace Itp
open PySem L2
section
variable {W : Wd} {C : Cfg} {T : Tab}
/-- a slot that nothing is told of -/
theorem StOk.setU {G H : Hp} {σ : St} {e : Env} (s : StOk W G H σ e) {i : Nat} {w : Option V} : StOk W G H (σ.set i w) (e.set i .un) where
  gh := s.gh
  len := by rw [List.length_set, List.length_set]; exact s.len
  sl := fun j => by
    rw [slot_set]
    by_cases h : i = j
    · subst h
      rw [if_pos rfl]
      split <;> trivial
    · rw [if_neg h]
      exact slotOk_at (by rw [List.getElem?_set, if_neg h]) (s.sl j)
  inj := fun j k a hjk hj hk h1 => by
    rw [slot_set] at hj hk
    by_cases h : i = j
    · subst h
      rw [if_pos rfl] at hj
      split at hj <;> cases hj
    · by_cases h' : i = k
      · subst h'
        rw [if_pos rfl] at hk
        split at hk <;> cases hk
      · rw [if_neg h] at hj
        rw [if_neg h'] at hk
        rw [List.getElem?_set, if_neg h] at h1
        rw [List.getElem?_set, if_neg h']
        exact s.inj j k a hjk hj hk h1
theorem own_setU {σ : St} {e : Env} {i : Nat} {w : Option V} {a : Addr} (h : OwnA (σ.set i w) (e.set i .un) a) : OwnA σ e a := by
  obtain ⟨j, h1, h2⟩ := h
  rw [slot_set] at h1
  by_cases hh : i = j
  · subst hh
    rw [if_pos rfl] at h1
    split at h1 <;> cases h1
  · rw [if_neg hh] at h1
    rw [List.getElem?_set, if_neg hh] at h2
    exact ⟨j, h1, h2⟩
theorem fldOf_ok {G : Hp} {f : Str} {d : D} {lv : List (Str × V)} : ∀ {l : List (Str × D)}, fldsOk W G l lv → fldOf f l = some d → ∃ v, lv.lookup f = some v ∧ Rep W G d v
  | [], _, h => by simp [fldOf] at h
  | (g, e) :: r, k, h => by
    simp only [fldOf] at h
    split at h
    · rename_i z; cases h; subst z; exact k.1
    · exact fldOf_ok k.2 h
theorem sv_star {N : List Str} {sc : Scope} {nm : Option Nat} : ∀ {vs : List Sv} {es : List Expr}, chkSvs N sc nm vs es = true → es.all notStar = true
  | [], [], _ => rfl
  | [], _ :: _, h => by simp [chkSvs] at h
  | _ :: _, [], h => by simp [chkSvs] at h
  | v :: vs, e :: es, h => by
    simp only [chkSvs, Bool.and_eq_true] at h
    simp only [List.all_cons, Bool.and_eq_true]
    refine ⟨?_, sv_star h.2⟩
    cases e <;> first | rfl | (cases v <;> simp [chkSv] at h)
/-- the items of a suite's list -/
theorem sv_ok {X : Cx} {Wx : WX} (cx : CfOk X W C T Wx) {nm : Option Nat} {xc : Xc} {c : Value} {d : Option Addr} {a : Addr} {oe : Obj} {pn : List (Addr × Obj)} (hz : Zc c d oe) (hf : ∃ vs, oe.data = .fields vs)
    {σ : St} {G H : Hp} (x : XOk W G H xc c d) (hj : ∀ j, nm = some j → σ[j]? = some (some (.ref a))) : ∀ (vs : List Sv) (es : List Expr) (ds : List D) (R : List V → Hp → Prop), chkSvs X.N X.env.scope nm vs es = true → svs C xc vs = some ds → (∀ us, Reps W G ds us → R us H) → WQ (X.suite a ((a, oe) :: pn)) es σ H R
  | [], es, ds, R, h, e, k => by
    cases es <;> simp only [chkSvs, reduceCtorEq, Bool.false_eq_true] at h
    simp only [svs, Option.some.injEq] at e
    subst e
    exact k [] (by simp only [Reps])
  | v :: vs, es, ds, R, h, e, k => by
    match es, h with
    | [], h => simp [chkSvs] at h
    | ex :: es, h =>
      simp only [chkSvs, Bool.and_eq_true] at h
      obtain ⟨h1, h2⟩ := h
      show WE (X.suite a ((a, oe) :: pn)) ex σ H fun u H1 => WQ (X.suite a ((a, oe) :: pn)) es σ H1 fun us H2 => R (u :: us) H2
      cases v with
      | cst dd =>
        simp only [svs] at e
        split at e
        · cases q : svs C xc vs with
          | none => rw [q] at e; cases e
          | some dr =>
            rw [q] at e
            simp only [Option.map_some, Option.some.injEq] at e
            subst e
            have rest : ∀ u, Rep W G dd u → WQ (X.suite a ((a, oe) :: pn)) es σ H fun us H2 => R (u :: us) H2 := fun u hu => sv_ok cx hz hf x hj vs es dr _ h2 q fun us hus => k (u :: us) (by simp only [Reps]; exact ⟨u, us, rfl, hu, hus⟩)
            cases ex <;> simp only [chkSv, reduceCtorEq, Bool.false_eq_true] at h1
            rename_i cc kk pp
            cases dd <;> cases cc <;> simp only [cstIs, reduceCtorEq, Bool.false_eq_true] at h1
            · exact of_pe pe_non (rest _ (by simp only [Rep]))
            · simp only [beq_iff_eq] at h1; subst h1; exact of_pe pe_bl (rest _ (by simp only [Rep]))
            · simp only [beq_iff_eq] at h1; subst h1; exact of_pe pe_int (rest _ (by simp only [Rep]))
            · rw [decide_eq_true_eq] at h1; subst h1; exact of_pe pe_str (rest _ (by simp only [Rep]))
        · cases e
      | fld g =>
        simp only [svs] at e
        split at e
        · rename_i hh
          cases qd : fldOf g xc.fs with
          | none => rw [qd] at e; cases e
          | some dd =>
            rw [qd] at e
            simp only [Option.bind_some] at e
            cases q : svs C xc vs with
            | none => rw [q] at e; cases e
            | some dr =>
              rw [q] at e
              simp only [Option.map_some, Option.some.injEq] at e
              subst e
              unfold chkSv at h1
              split at h1
              · rename_i z; cases z
              · rename_i y p1 g' p2 z
                cases z
                simp only [Bool.and_eq_true, decide_eq_true_eq] at h1
                obtain ⟨rfl, h5⟩ := h1
                split at h5
                · rename_i j
                  obtain ⟨A, hA, rfl, hx⟩ := id x
                  unfold hasF at hh
                  cases qf : C.flds xc.cls with
                  | none => rw [qf] at hh; cases hh
                  | some fl =>
                    rw [qf] at hh
                    have hmem : g' ∈ fl := by simpa using hh
                    obtain ⟨xf, fno⟩ := cx.xs.xcl xc.cls fl A qf hA
                    rcases hx with ⟨e0, _⟩ | ⟨dx, lv, rfl, hd, hl⟩
                    · rw [e0] at qd; simp [fldOf] at qd
                    · obtain ⟨u, lv1, rv⟩ := fldOf_ok hl qd
                      unfold isVar at h5
                      simp only [Bool.and_eq_true, decide_eq_true_eq, Bool.not_eq_true'] at h5
                      refine of_pe (pe_xf (X := X) xf (fno g' hmem) hz hf (pe_var (X := X.suite a ((a, oe) :: pn)) h5.1.1.1 (visB_vis h5.1.1.2) h5.1.2 h5.2)) ?_
                      refine ⟨.ref a, hj j rfl, rfl, rfl, dx, lv, u, rfl, hd, lv1, ?_⟩
                      exact sv_ok cx hz hf x hj vs es dr _ h2 q fun us hus => k (u :: us) (by simp only [Reps]; exact ⟨u, us, rfl, rv, hus⟩)
                · cases h5
              · cases h1
        · cases e
/-- an except suite -/
theorem su_ok {X : Cx} {Wx : WX} (cx : CfOk X W C T Wx) {nm : Option Nat} {su : Su} {suite : List Stmt} {xc : Xc} {c : Value} {d : Option Addr} {a : Addr} {oe : Obj} {pn : List (Addr × Obj)} (hs : chkSu X.N X.env.scope nm su suite = true) (hz : Zc c d oe) (hf : ∃ vs, oe.data = .fields vs)
    {env : Env} {σ : St} {G H : Hp} {De : Ends} (s : StOk W G H σ env) (x : XOk W G H xc c d) (hj : ∀ j, nm = some j → σ[j]? = some (some (.ref a))) (aa : AftS W σ env (OwnA σ env) G H De Wx (suM C xc su env)) : WSs (X.suite a ((a, oe) :: pn)) suite De σ H := by
  cases su with
  | cst i dd =>
    unfold chkSu at hs
    split at hs
    · rename_i q
      cases q
      rename_i xn p1 cc kk p2 p3
      simp only [Bool.and_eq_true, decide_eq_true_eq] at hs
      obtain ⟨⟨⟨h1, h2⟩, h3⟩, h4⟩ := hs
      have key : ∀ (e : Expr) (v : V), e = .Constant cc kk p2 → PE (X.suite a ((a, oe) :: pn)) e (tC v) → Rep W G dd v → WSs (X.suite a ((a, oe) :: pn)) [.Assign [.Name xn p1] e p3] De σ H := fun e v he pe r => by
        subst he
        refine of_pss (pss_one (ps_set (X := X.suite a ((a, oe) :: pn)) cx.nd h1 (locB_loc h2) pe rfl (.inl (cx.fn xn)))) ?_
        simp only [suM] at aa
        have aa' : AftS W σ env (OwnA σ env) G H De Wx (.ok .nx (env.set i (.val dd))) := by
          cases w : slot env i <;> rw [w] at aa <;> first | exact aa | exact aa.elim
        exact aa' _ G H (Keep.sub s.gh fun b hb => own_setV hb) (s.setV r) (par_setV rfl)
      cases dd <;> cases cc <;> simp only [cstIs, reduceCtorEq, Bool.false_eq_true] at h3
      · exact key _ _ rfl pe_non (by simp only [Rep])
      · simp only [beq_iff_eq] at h3; subst h3; exact key _ _ rfl pe_bl (by simp only [Rep])
      · simp only [beq_iff_eq] at h3; subst h3; exact key _ _ rfl pe_int (by simp only [Rep])
      · rw [decide_eq_true_eq] at h3; subst h3; exact key _ _ rfl pe_str (by simp only [Rep])
    · rename_i q; cases q
    · cases hs
  | lst i vs =>
    unfold chkSu at hs
    split at hs
    · rename_i q; cases q
    · rename_i q
      cases q
      rename_i xn p1 es p2 p3
      simp only [Bool.and_eq_true, decide_eq_true_eq] at hs
      obtain ⟨⟨⟨h1, h2⟩, h4⟩, h5⟩ := hs
      simp only [suM] at aa
      cases qd : svs C xc vs with
      | none => rw [qd] at aa; cases w : slot env i <;> rw [w] at aa <;> exact aa.elim
      | some ds =>
        rw [qd] at aa
        have aa1 : AftS W σ env (OwnA σ env) G H De Wx (if ds.length ≤ big then .ok .nx (env.set i (.own (.lst ds))) else .no) := by
          cases w : slot env i <;> rw [w] at aa <;> first | exact aa | exact aa.elim
        by_cases hb : ds.length ≤ big
        · rw [if_pos hb] at aa1
          refine of_pss (pss_one (ps_set (X := X.suite a ((a, oe) :: pn)) cx.nd h1 (locB_loc h2) (pe_lst (paU (sv_star h5))) rfl (.inl (cx.fn xn)))) ?_
          refine sv_ok cx hz hf x hj vs es ds _ h5 qd fun us r => ⟨?_, fun p hp => ?_⟩
          · rw [reps_len r]
            exact Nat.le_trans hb (by decide)
          · have c1 : Cont W G (upd H p (.lst us)) p (.lst ds) := ⟨us, upd_same, r⟩
            have s1 : StOk W G (upd H p (.lst us)) σ env := s.laidN hp
            have np : ¬ OwnA σ env p := fun ho => by
              obtain ⟨o, ho⟩ := s.own_some ho
              rw [hp] at ho; cases ho
            refine aa1 _ G _ ⟨Ex.refl G, s1.gh, fun b o h _ => (Ex.new hp) b o h, fun _ _ _ _ _ h => h, fun b hb => ?_⟩ (s1.setO (gnone s.gh hp) c1 np) (par_setV rfl)
            rcases own_setO hb with z | z
            · exact .inl z
            · subst z; exact .inr hp
        · rw [if_neg hb] at aa1; exact aa1.elim
    · cases hs
theorem cls_ok {X : Cx} {Wx : WX} (cx : CfOk X W C T Wx) : ∀ (cls : List (Nat × Option Nat × Su)) (hds : List ExceptHandler), chkCl T X.N X.env.scope cls hds = true →
    ∃ l, ClsL X hds l ∧ ∀ (xc : Xc) (c : Value) (d : Option Addr) (env : Env) (σ : St) (G H : Hp) (De : Ends), StOk W G H σ env → XOk W G H xc c d → AftS W σ env (OwnA σ env) G H De Wx (catM C xc cls env) → wMix X.K Wx De l c d σ H
  | [], [], _ => ⟨[], .nil, fun xc c d env σ G H De s x aa => aa σ c d G H (Keep.refl s.gh) s (ParK.refl _ _) x⟩
  | [], _ :: _, h => by simp [chkCl] at h
  | _ :: _, [], h => by simp [chkCl] at h
  | (k, nm, su) :: r, hd :: hr, h => by
    obtain ⟨x, p, n, suite, q, rfl⟩ : ∃ x p n suite q, hd = .ExceptHandler (some (.Name x p)) n suite q := by
      unfold chkCl at h
      split at h <;> first | (rename_i e1 e2; cases e1; cases e2; exact ⟨_, _, _, _, _, rfl⟩) | (rename_i e1 e2; cases e1; done) | cases h
    simp only [chkCl, Bool.and_eq_true, decide_eq_true_eq, Bool.not_eq_true'] at h
    obtain ⟨⟨⟨⟨⟨h1, h2⟩, h3⟩, h4⟩, h5⟩, h6⟩ := h
    obtain ⟨l, cl, hl⟩ := cls_ok cx r hr h6
    obtain ⟨A, hA, hmA⟩ := cx.xs.cat x k h1
    have names : Names X x (.ref A) := ⟨glB_gl h2, h3, .inl hmA⟩
    obtain ⟨b0, rest, rfl⟩ : ∃ b0 rest, suite = b0 :: rest := by
      cases suite with
      | nil => cases su <;> simp [chkSu] at h5
      | cons b0 rest => exact ⟨b0, rest, rfl⟩
    have sok : SuOk X (b0 :: rest) (fun a cls d De σ H => ∀ oe pn, Zc cls d oe → (∃ vs, oe.data = .fields vs) → WSs (X.suite a ((a, oe) :: pn)) (b0 :: rest) De σ H) := fun a oe cls d pn hz hf => ⟨fun pins s σ H D I h => h oe pn hz hf pins s I⟩
    cases nm with
    | none =>
      cases n with
      | some _ => simp [chkN] at h4
      | none =>
        refine ⟨_, .one names sok cl, fun xc c d env σ G H De s x' aa => ?_⟩
        obtain ⟨B, hB', rfl, hx'⟩ := id x'
        simp only [catM] at aa
        cases qs : C.sub xc.cls k with
        | none => rw [qs] at aa; exact aa.elim
        | some t =>
          rw [qs] at aa
          refine ⟨t, cx.xs.exm _ _ _ _ _ qs hB' hA, fun ht a ha => ?_, fun ht => ?_⟩
          · subst ht
            simp only at aa
            intro oe pn hz hf
            exact su_ok cx h5 hz hf s x' (fun j hj => by cases hj) aa
          · subst ht
            simp only at aa
            exact hl xc _ d env σ G H De s x' aa
    | some j =>
      cases n with
      | none => simp [chkN] at h4
      | some n =>
        simp only [chkN, Bool.and_eq_true, decide_eq_true_eq] at h4
        refine ⟨_, .as names h4.1 h4.2 sok cl, fun xc c d env σ G H De s x' aa => ?_⟩
        obtain ⟨B, hB', rfl, hx'⟩ := id x'
        simp only [catM] at aa
        cases qs : C.sub xc.cls k with
        | none => rw [qs] at aa; exact aa.elim
        | some t =>
          rw [qs] at aa
          refine ⟨t, cx.xs.exm _ _ _ _ _ qs hB' hA, fun ht a ha => ?_, fun ht => ?_⟩
          · subst ht
            simp only at aa
            have aa' : AftS W σ env (OwnA σ env) G H De Wx (if j < env.length then (suM C xc su (env.set j .un)).bind fun f e2 => (match f with
                | .nx => .ok .nx (e2.set j .un)
                | _ => .no) else .no) := by
              cases w : slot env j <;> rw [w] at aa <;> first | exact aa | exact aa.elim
            have hjl : j < env.length := by
              by_cases z : j < env.length
              · exact z
              · rw [if_neg z] at aa'; exact aa'.elim
            rw [if_pos hjl] at aa'
            intro oe pn hz hf
            have s2 : StOk W G H (σ.set j (some (.ref a))) (env.set j .un) := s.setU
            have k2 : Keep (OwnA σ env) G H (OwnA (σ.set j (some (.ref a))) (env.set j .un)) G H := Keep.sub s.gh fun b hb => own_setU hb
            have p2 : ParK σ env (σ.set j (some (.ref a))) (env.set j .un) := par_setV rfl
            have hj : (σ.set j (some (.ref a)))[j]? = some (some (.ref a)) := by
              rw [List.getElem?_set, if_pos rfl, if_pos (by rw [← s.len]; exact hjl)]
            refine su_ok cx h5 hz hf s2 x' (fun j' hj' => by cases hj'; exact hj) ?_
            have a3 := AftS.step k2 p2 aa'
            cases qu : suM C xc su (env.set j .un) with
            | no => rw [qu] at a3; exact a3
            | ex xx e3 => rw [qu] at a3; exact a3
            | ok f e3 =>
              rw [qu] at a3
              simp only [Rs.bind] at a3
              cases f with
              | nx => exact fun σ3 G3 H3 k3 s3 p3 => a3 (σ3.set j none) G3 H3 (k3.trans (Keep.sub s3.gh fun b hb => own_setU hb)) s3.setU (p3.trans (par_setV rfl))
              | bk => exact a3.elim
              | ct => exact a3.elim
              | rt r => exact a3.elim
          · subst ht
            simp only at aa
            exact hl xc _ d env σ G H De s x' aa
theorem try_ok {X : Cx} {Wx : WX} (cx : CfOk X W C T Wx) {cls : List (Nat × Option Nat × Su)} {b : List Stmt} {hd : ExceptHandler} {hds : List ExceptHandler} {pos : Pos} {m : M Fl} (hc : chkCl T X.N X.env.scope cls (hd :: hds) = true)
    (hB : ∀ {X' : Cx} {Wx' : WX}, CfOk X' W C T Wx' → X'.N = X.N → X'.env = X.env → GoodSs X' W Wx' b m) :
    GoodS X W Wx (.Try b (hd :: hds) [] [] pos) (tryM C m cls) := by
  intro env σ G H De s aa
  obtain ⟨l, cl, hl⟩ := cls_ok cx cls (hd :: hds) hc
  refine of_ps (ps_try_mix (tb := fun Wi De σ H => ∀ pn xe, Takes (X.tr pn xe) Wi → PassesOwn (model X.prog X.w) X.A X.env xe → WSs (X.tr pn xe) b De σ H)
    cx.stk cx.frm cx.nd cx.tk (fun Wi pn xe tk hp => ⟨fun pins s σ H D I h => h pn xe tk hp pins s I⟩) cl) ?_
  intro pn xe tk hp
  refine hB (cx.tr pn xe tk hp) rfl rfl env σ G H De s ?_
  unfold tryM at aa
  cases qm : m env with
  | no => rw [qm] at aa; exact aa
  | ok f e1 => rw [qm] at aa; exact aa
  | ex xc e1 =>
    rw [qm] at aa
    simp only at aa
    intro σ' cv d G' H' k' s' p' x'
    exact hl xc cv d e1 σ' G' H' De s' x' (AftS.step k' p' aa)
/-! ### the whole of the statements -/
mutual
theorem exS_ok : ∀ (c : S) {X : Cx} {Wx : WX} {st : Stmt}, CfOk X W C T Wx → chkS T X.N X.env.scope c st = true → GoodS X W Wx st (exS C c)
  | .asg t a, X, Wx, st, cx, h => by
    obtain ⟨tg, e, pos, rfl⟩ : ∃ tg e pos, st = .Assign [tg] e pos := by
      unfold chkS at h
      split at h <;> first | (rename_i q; cases q; done) | skip
      · exact ⟨_, _, _, rfl⟩
      · cases h
    simp only [chkS, Bool.and_eq_true, Bool.not_eq_true'] at h
    simp only [exS]
    exact asg_ok cx.toCsOk h.1.1.1 h.1.1.2 h.1.2 h.2
  | .own i a, X, Wx, st, cx, h => by
    obtain ⟨x, p, e, pos, rfl⟩ : ∃ x p e pos, st = .Assign [.Name x p] e pos := by
      unfold chkS at h
      split at h <;> first | (rename_i q; cases q; done) | skip
      · exact ⟨_, _, _, _, rfl⟩
      · cases h
    simp only [chkS, Bool.and_eq_true, decide_eq_true_eq] at h
    simp only [exS]
    exact own_ok cx.toCsOk h.1.1 h.1.2 h.2
  | .owns is as, X, Wx, st, cx, h => by
    obtain ⟨ts, k1, p1, es, k2, p2, pos, rfl⟩ : ∃ ts k1 p1 es k2 p2 pos, st = .Assign [.Tuple ts k1 p1] (.Tuple es k2 p2) pos := by
      unfold chkS at h
      split at h <;> first | (rename_i q; cases q; done) | skip
      · exact ⟨_, _, _, _, _, _, _, rfl⟩
      · cases h
    simp only [chkS, Bool.and_eq_true] at h
    simp only [exS]
    exact owns_ok cx.toCsOk h.1 h.2
  | .seti i k a, X, Wx, st, cx, h => by
    obtain ⟨x, p, ke, sp, e, pos, rfl⟩ : ∃ x p ke sp e pos, st = .Assign [.Subscript (.Name x p) ke sp] e pos := by
      unfold chkS at h
      split at h <;> first | (rename_i q; cases q; done) | skip
      · exact ⟨_, _, _, _, _, _, rfl⟩
      · cases h
    simp only [chkS, Bool.and_eq_true, Bool.not_eq_true'] at h
    simp only [exS]
    exact seti_ok cx.toCsOk h.1.1.1 h.1.1.2 h.1.2 h.2
  | .seti2 i k j l a, X, Wx, st, cx, h => by
    obtain ⟨x, p, ke, sp, y, q, le, sq, tk, tp, e, pos, rfl⟩ : ∃ x p ke sp y q le sq tk tp e pos, st = .Assign [.Tuple [.Subscript (.Name x p) ke sp, .Subscript (.Name y q) le sq] tk tp] e pos := by
      unfold chkS at h
      split at h <;> first | (rename_i q; cases q; done) | skip
      · exact ⟨_, _, _, _, _, _, _, _, _, _, _, _, rfl⟩
      · cases h
    simp only [chkS, Bool.and_eq_true, Bool.not_eq_true'] at h
    simp only [exS]
    exact seti2_ok cx.toCsOk h.1.1.1.1.1.1.1.1 h.1.1.1.1.1.1.1.2 h.1.1.1.1.1.1.2 h.1.1.1.1.1.2 h.1.1.1.1.2 h.1.1.1.2 h.1.1.2 h.1.2 h.2
  | .pop j i, X, Wx, st, cx, h => by
    obtain ⟨x, p, y, q, n, ap, cp, pos, rfl⟩ : ∃ x p y q n ap cp pos, st = .Assign [.Name x p] (.Call (.Attribute (.Name y q) n ap) [] [] cp) pos := by
      unfold chkS at h
      split at h <;> first | (rename_i q; cases q; done) | skip
      · exact ⟨_, _, _, _, _, _, _, _, rfl⟩
      · cases h
    simp only [chkS, Bool.and_eq_true, decide_eq_true_eq] at h
    simp only [exS]
    exact pop_ok cx.toCsOk h.1.1.1 h.1.1.2 h.1.2 h.2
  | .app i a, X, Wx, st, cx, h => by
    obtain ⟨e, pos, rfl⟩ : ∃ e pos, st = .Expr e pos := by
      unfold chkS at h
      split at h <;> first | (rename_i q; cases q; done) | skip
      · exact ⟨_, _, rfl⟩
      · cases h
    simp only [chkS] at h
    split at h
    · rename_i e' ho
      simp only [exS]
      exact app_ok cx.toCsOk ho h
    · cases h
  | .ext i a, X, Wx, st, cx, h => by
    obtain ⟨e, pos, rfl⟩ : ∃ e pos, st = .Expr e pos := by
      unfold chkS at h
      split at h <;> first | (rename_i q; cases q; done) | skip
      · exact ⟨_, _, rfl⟩
      · cases h
    simp only [chkS] at h
    split at h
    · rename_i e' ho
      simp only [exS]
      exact ext_ok cx.toCsOk ho h
    · cases h
  | .ex a, X, Wx, st, cx, h => by
    obtain ⟨e, pos, rfl⟩ : ∃ e pos, st = .Expr e pos := by
      unfold chkS at h
      split at h <;> first | (rename_i q; cases q; done) | skip
      · exact ⟨_, _, rfl⟩
      · cases h
    simp only [chkS, Bool.and_eq_true, Bool.not_eq_true'] at h
    intro env σ G H De s aa
    simp only [exS] at aa
    refine of_ps (ps_expr peU (swaps_no h.1)) ?_
    exact ev_ok a cx.toCxOk h.2 env σ G H _ s (aft_toS (np_ev a env) aa fun r e1 v G1 H1 _ k1 p1 s1 r1 a1 => a1 σ G1 H1 (Keep.refl s1.gh) s1 (ParK.refl _ _))
  | .ret a, X, Wx, st, cx, h => by
    obtain ⟨e, pos, rfl⟩ : ∃ e pos, st = .Return (some e) pos := by
      unfold chkS at h
      split at h <;> first | (rename_i q; cases q; done) | skip
      · exact ⟨_, _, rfl⟩
      · cases h
    simp only [chkS] at h
    simp only [exS]
    exact ret_ok cx.toCsOk h
  | .retn, X, Wx, st, cx, h => by
    obtain ⟨pos, rfl⟩ : ∃ pos, st = .Return none pos := by
      unfold chkS at h
      split at h <;> first | (rename_i q; cases q; done) | skip
      · exact ⟨_, rfl⟩
      · cases h
    intro env σ G H De s aa
    simp only [exS] at aa
    exact of_ps ps_retN (aa σ G H (Keep.refl s.gh) s (ParK.refl _ _) .non (by simp only [ResOk, Rep]))
  | .ifs c a b, X, Wx, st, cx, h => by
    obtain ⟨e, x, y, pos, rfl⟩ : ∃ e x y pos, st = .If e x y pos := by
      unfold chkS at h
      split at h <;> first | (rename_i q; cases q; done) | skip
      · exact ⟨_, _, _, _, rfl⟩
      · cases h
    simp only [chkS, Bool.and_eq_true] at h
    intro env σ G H De s aa
    simp only [exS] at aa
    refine of_ps (ps_if ptU pssU pssU) ?_
    refine evB_ok c cx.toCxOk h.1.1 env σ G H _ s (aft_toS (np_asB (np_ev c env)) aa fun t e1 t' G1 H1 _ k1 p1 s1 r1 a1 => ?_)
    have r1 : t' = t := r1
    subst r1
    cases t' with
    | true =>
      rw [if_pos rfl] at a1 ⊢
      exact exs_ok a cx h.1.2 e1 σ G1 H1 De s1 a1
    | false =>
      rw [if_neg Bool.false_ne_true] at a1 ⊢
      exact exs_ok b cx h.2 e1 σ G1 H1 De s1 a1
  | .for tg k as body, X, Wx, st, cx, h => by
    obtain ⟨t, iter, b, pos, rfl⟩ : ∃ t iter b pos, st = .For t iter b [] pos := by
      unfold chkS at h
      split at h <;> first | (rename_i q; cases q; done) | skip
      · exact ⟨_, _, _, _, rfl⟩
      · cases h
    simp only [chkS, Bool.and_eq_true] at h
    obtain ⟨⟨⟨⟨h1, h2⟩, h3⟩, h4⟩, h5⟩ := h
    simp only [exS]
    split at h1
    · rename_i es hit
      exact for_ok cx.toCsOk hit (fun hk => by rcases hk with rfl | rfl <;> exact h2) h3 h4 (evs_ok as cx.toCxOk h1) (exs_ok body cx h5) (fun e => np_evs as e)
    · cases h1
  | .whl n c body, X, Wx, st, cx, h => by
    obtain ⟨e, b, pos, rfl⟩ : ∃ e b pos, st = .While e b [] pos := by
      unfold chkS at h
      split at h <;> first | (rename_i q; cases q; done) | skip
      · exact ⟨_, _, _, rfl⟩
      · cases h
    simp only [chkS, Bool.and_eq_true] at h
    simp only [exS]
    exact whl_ok cx.toCsOk (evB_ok c cx.toCxOk h.1) (exs_ok body cx h.2) (fun e => np_asB (np_ev c e))
  | .rse c as, X, Wx, st, cx, h => by
    obtain ⟨x, p, es, p2, pos, rfl⟩ : ∃ x p es p2 pos, st = .Raise (some (.Call (.Name x p) es [] p2)) none pos := by
      unfold chkS at h
      split at h <;> first | (rename_i q; cases q; done) | skip
      · exact ⟨_, _, _, _, _, rfl⟩
      · cases h
    simp only [chkS, Bool.and_eq_true, decide_eq_true_eq, Bool.not_eq_true'] at h
    obtain ⟨⟨⟨⟨h1, h2⟩, h3⟩, h4⟩, h5⟩ := h
    simp only [exS]
    exact rse_ok cx h1 h2 h3 h4 h5
  | .try body cls, X, Wx, st, cx, h => by
    obtain ⟨b, hd, hds, pos, rfl⟩ : ∃ b hd hds pos, st = .Try b (hd :: hds) [] [] pos := by
      unfold chkS at h
      split at h <;> first | (rename_i q; cases q; done) | skip
      · exact ⟨_, _, _, _, rfl⟩
      · cases h
    simp only [chkS, Bool.and_eq_true] at h
    simp only [exS]
    exact try_ok cx h.1 (fun cx' e1 e2 => exs_ok body cx' (by rw [e1, e2]; exact h.2))
  | .pass, X, Wx, st, cx, h => by
    obtain ⟨pos, rfl⟩ : ∃ pos, st = .Pass pos := by
      unfold chkS at h
      split at h <;> first | (rename_i q; cases q; done) | skip
      · exact ⟨_, rfl⟩
      · cases h
    intro env σ G H De s aa
    simp only [exS] at aa
    exact of_ps ps_pass (aa σ G H (Keep.refl s.gh) s (ParK.refl _ _))
  | .never, X, Wx, st, cx, h => by
    intro env σ G H De s aa
    simp only [exS] at aa
    exact aa.elim
theorem exs_ok : ∀ (cs : List S) {X : Cx} {Wx : WX} {sts : List Stmt}, CfOk X W C T Wx → chkSs T X.N X.env.scope cs sts = true → GoodSs X W Wx sts (exs C cs)
  | [], X, Wx, sts, cx, h => by
    cases sts <;> simp only [chkSs, reduceCtorEq, Bool.false_eq_true] at h
    intro env σ G H De s aa
    simp only [exs] at aa
    exact of_pss pss_nil (aa σ G H (Keep.refl s.gh) s (ParK.refl _ _))
  | c :: cs, X, Wx, sts, cx, h => by
    cases sts <;> simp only [chkSs, reduceCtorEq, Bool.false_eq_true] at h
    simp only [Bool.and_eq_true] at h
    intro env σ G H De s aa
    simp only [exs] at aa
    refine of_pss (pss_cons psU pssU) ?_
    refine exS_ok c cx h.1 env σ G H _ s ?_
    cases q : exS C c env with
    | no => rw [q] at aa; exact aa
    | ex xc e1 => rw [q] at aa; exact aa
    | ok f e1 =>
      rw [q] at aa
      simp only [Rs.bind] at aa
      cases f with
      | nx => exact fun σ' G' H' k' s' p' => exs_ok cs cx h.2 e1 σ' G' H' De s' (AftS.step k' p' aa)
      | bk => exact fun σ' G' H' k' s' p' => aa σ' G' H' k' s' p'
      | ct => exact fun σ' G' H' k' s' p' => aa σ' G' H' k' s' p'
      | rt r => exact fun σ' G' H' k' s' p' => aa σ' G' H' k' s' p'
end
end
end Itp
set_option Elab.async false
set_option linter.all false
set_option maxRecDepth 100000
set_option maxHeartbeats 4000000
namespace Itp
open PySem L2
/-! ### a def -/
structure ClsG (P : Program) (w : World) (K : PySem.W.Frag) (mg : Str → Option Value) (base : Heap) (W : Wd) (k : Nat) (x : Str) (c : Nat) (fl : List Str) (C : Addr) : Prop where
  at_ : W.ca c = some C
  T : OexC K C
  mgx : mg x = some (.ref C)
  fno : ∀ f ∈ fl, PySem.W.findIn K (.ref C) f = some none
  xf : XfC K C
  len : fl.length ≤ 5
  nd : fl.Nodup
  init : ∃ fI fd j ps, PySem.W.findIn K (.ref C) "__init__" = some (some (.ref fI)) ∧ PySem.W.typeIn K (.ref fI) = some (.type "function") ∧ FnOk P w K mg base (L2.CX P w) j fI fd ps (spI K fl) ∧ j + 1 ≤ k ∧ Binds K fd ps []
structure Pg (P : Program) (w : World) (K : PySem.W.Frag) (mg : Str → Option Value) (base : Heap) (W : Wd) (C : Cfg) (T : Tab) (k : Nat) : Prop where
  hK : K = W.K
  blt : ∀ x ∈ bltNames, mg x = none
  cst : ∀ x d, lk T.cst x = some d → ∃ u v, mg x = some u ∧ RelV v u ∧ ∀ G, d.flat = true → Rep W G d v
  fns : ∀ x f, lk T.fn x = some f → ∃ a fd j ps, FnOk P w K mg base (L2.CX P w) j a fd ps (spOf W (C.fns f)) ∧ j ≤ k ∧ mg x = some (.ref a) ∧ PySem.W.keepIn K (.ref a) = true ∧ Binds K fd ps []
  fvn : ∀ x g, lk T.fv x = some g → ∃ a, W.fa g = some a ∧ mg x = some (.ref a)
  fvc : ∀ g F a, C.fv g = some F → W.fa g = some a → ∃ fd j ps, FnOk P w K mg base (L2.CX P w) j a fd ps (spOf W F) ∧ j ≤ k ∧ PySem.W.keepIn K (.ref a) = true ∧ Binds K fd ps []
  cat : ∀ x c, lk T.cls x = some c → ∃ A, W.ca c = some A ∧ mg x = some (.ref A)
  rse : ∀ x c fl, lk T.cls x = some c → C.flds c = some fl → ∃ A, ClsG P w K mg base W k x c fl A
  xcl : ∀ c fl A, C.flds c = some fl → W.ca c = some A → XfC K A ∧ ∀ f ∈ fl, PySem.W.findIn K (.ref A) f = some none
  exm : ∀ c c' b A B, C.sub c c' = some b → W.ca c = some A → W.ca c' = some B → PySem.W.exmOne K (.ref A) (.ref B) = some b
theorem start_len {N : List Str} {vs : List V} (h : vs.length ≤ N.length) : (L2.start N vs).length = N.length := by
  unfold L2.start
  simp only [List.length_append, List.length_map, List.length_replicate]
  omega
theorem slot_app {as : List Arg} {m i : Nat} : slot (as.map argSlot ++ List.replicate m .un) i = slot (as.map argSlot) i := by
  unfold slot
  rw [List.getD_eq_getElem?_getD, List.getD_eq_getElem?_getD, List.getElem?_append]
  split
  · rfl
  · rename_i h
    rw [List.getElem?_eq_none (l := as.map argSlot) (by omega)]
    rw [List.getElem?_replicate]
    split <;> rfl
theorem slot_lt' {e : Env} {i : Nat} (h : (slot e i).isMut = true) : i < e.length := slot_lt h
section
variable {W : Wd}
theorem own_start {N : List Str} {vs : List V} {as : List Arg} {m : Nat} (hl : as.length = vs.length) (a : Addr) : OwnA (L2.start N vs) (as.map argSlot ++ List.replicate m .un) a ↔ OwnA (vs.map some) (as.map argSlot) a := by
  have key : ∀ i, (slot (as.map argSlot) i).isMut = true → (L2.start N vs)[i]? = (vs.map some)[i]? := fun i h => by
    have := slot_lt h
    rw [List.length_map] at this
    unfold L2.start
    rw [List.getElem?_append_left (by rw [List.length_map]; omega)]
  constructor
  · rintro ⟨i, h1, h2⟩
    rw [slot_app] at h1
    exact ⟨i, h1, by rw [← key i h1]; exact h2⟩
  · rintro ⟨i, h1, h2⟩
    exact ⟨i, by rw [slot_app]; exact h1, by rw [key i h1]; exact h2⟩
theorem ok_start {G H : Hp} {N : List Str} {vs : List V} {as : List Arg} (hl : as.length = vs.length) (hn : vs.length ≤ N.length) (s : StOk W G H (vs.map some) (as.map argSlot)) : StOk W G H (L2.start N vs) (as.map argSlot ++ List.replicate (N.length - as.length) .un) where
  gh := s.gh
  len := by
    rw [start_len hn]
    simp only [List.length_append, List.length_map, List.length_replicate]
    omega
  sl := fun i => by
    rw [slot_app]
    have z := s.sl i
    by_cases h : i < vs.length
    · have e : (L2.start N vs)[i]? = (vs.map some)[i]? := by
        unfold L2.start
        rw [List.getElem?_append_left (by rw [List.length_map]; omega)]
      exact slotOk_at e z
    · have : slot (as.map argSlot) i = .un := by
        unfold slot
        rw [List.getD_eq_getElem?_getD, List.getElem?_eq_none (l := as.map argSlot) (by rw [List.length_map]; omega)]
        rfl
      rw [this]
      trivial
  inj := fun i j a hij h1 h2 h3 => by
    rw [slot_app] at h1 h2
    have key : ∀ i, (slot (as.map argSlot) i).isMut = true → (L2.start N vs)[i]? = (vs.map some)[i]? := fun i h => by
      have := slot_lt h
      rw [List.length_map] at this
      unfold L2.start
      rw [List.getElem?_append_left (by rw [List.length_map]; omega)]
    rw [key i h1] at h3
    rw [key j h2]
    exact s.inj i j a hij h1 h2 h3
theorem fins_ok {G' H' : Hp} {σ' : St} {e' : Env} (s' : StOk W G' H' σ' e') : ∀ (as : List Arg) (vs : List V) (i : Nat) (l : List D), as.length = vs.length → fins e' as i = some l → (∀ j v, (slot e' (i + j)).isPar = true → vs[j]? = some v → σ'[i + j]? = some (some v)) → OkFins W G' H' vs as l
  | [], vs, i, l, hl, h, k => by
    cases vs with
    | nil => simp only [fins, Option.some.injEq] at h; subst h; simp only [OkFins]
    | cons _ _ => simp at hl
  | .val d :: as, vs, i, l, hl, h, k => by
    cases vs with
    | nil => simp at hl
    | cons v vs =>
      simp only [fins] at h
      simp only [OkFins]
      refine fins_ok s' as vs (i + 1) l (by simpa using hl) h fun j u hj hu => ?_
      have := k (j + 1) u (by rw [show i + (j + 1) = i + 1 + j by omega]; exact hj) (by simpa using hu)
      rw [show i + (j + 1) = i + 1 + j by omega] at this
      exact this
  | .lent d :: as, vs, i, l, hl, h, k => by
    cases vs with
    | nil => simp at hl
    | cons v vs =>
      simp only [fins] at h
      split at h
      · rename_i d' l' q1 q2
        simp only [Option.some.injEq] at h
        subst h
        simp only [OkFins]
        have e1 := k 0 v (by rw [Nat.add_zero, q1]; rfl) rfl
        rw [Nat.add_zero] at e1
        have z := s'.sl i
        rw [q1] at z
        obtain ⟨a, z1, z2, z3⟩ := z
        rw [e1] at z1
        cases z1
        refine ⟨d', l', a, rfl, rfl, z2, z3, fins_ok s' as vs (i + 1) l' (by simpa using hl) q2 fun j u hj hu => ?_⟩
        have := k (j + 1) u (by rw [show i + (j + 1) = i + 1 + j by omega]; exact hj) (by simpa using hu)
        rw [show i + (j + 1) = i + 1 + j by omega] at this
        exact this
      · cases h
theorem fins_par {e' : Env} : ∀ (as : List Arg) (i : Nat) (l : List D), fins e' as i = some l → ∀ j, (slot (as.map argSlot) j).isMut = true → (slot e' (i + j)).isPar = true
  | [], i, l, h, j, hj => by simp [slot, Slot.isMut] at hj
  | .val d :: as, i, l, h, j, hj => by
    simp only [fins] at h
    cases j with
    | zero => simp [slot, argSlot, Slot.isMut] at hj
    | succ j =>
      rw [show i + (j + 1) = i + 1 + j by omega]
      exact fins_par as (i + 1) l h j (by simpa [slot] using hj)
  | .lent d :: as, i, l, h, j, hj => by
    simp only [fins] at h
    split at h
    · rename_i d' l' q1 q2
      cases j with
      | zero => rw [Nat.add_zero, q1]; rfl
      | succ j =>
        rw [show i + (j + 1) = i + 1 + j by omega]
        exact fins_par as (i + 1) l' q2 j (by simpa [slot] using hj)
    · cases h
end
theorem cf_of {P : Program} {w : World} {K : PySem.W.Frag} {mg : Str → Option Value} {base : Heap} {W : Wd} {C : Cfg} {T : Tab} {k : Nat} (g : Pg P w K mg base W C T k) {N : List Str} {qual : Str} {sc : Scope} {f : Addr} {cd : Value} {A : Around} {outer : List PySem.Env} {s : Shared} {H : Hp} {E : XK} (nd : N.Nodup) (kind : sc.kind = .function) (r : Room k (A.deeper (PyProof.Rows.envOfC qual sc s.heap.objs.size f cd))) :
    CfOk (cxOf (L2.CX P w) P w K mg base N qual sc f cd A outer s H E) W C T (fun c d _ H => E c d H) where
  K := g.hK
  nd := nd
  calm := rfl
  units := by
    have := r.un
    show (A.deeper (PyProof.Rows.envOfC qual sc s.heap.objs.size f cd)).units + 100 < _
    omega
  blt := g.blt
  cst := g.cst
  tk := takes_of rfl rfl rfl rfl
  fns := fun x f' h => by
    obtain ⟨a, fd, j, ps, h1, h2, h3, h4, h5⟩ := g.fns x f' h
    exact ⟨a, fd, j, ps, h1, r.mono h2, h3, h4, h5⟩
  fvn := g.fvn
  fvc := fun n F a h1 h2 => by
    obtain ⟨fd, j, ps, i1, i2, i3, i4⟩ := g.fvc n F a h1 h2
    exact ⟨fd, j, ps, i1, r.mono i2, i3, i4⟩
  hp := passes_of rfl
  stk := rfl
  frm := rfl
  fn := fun _ => rfl
  kind := kind
  xs := ⟨g.cat, fun x c fl h1 h2 => by
    obtain ⟨A', q⟩ := g.rse x c fl h1 h2
    obtain ⟨fI, fd, j, ps, i1, i2, i3, i4, i5⟩ := q.init
    exact ⟨A', q.at_, q.T, q.mgx, q.fno, q.xf, q.len, q.nd, fI, fd, j, ps, i1, i2, i3, r.mono i4, i5⟩, g.xcl, g.exm⟩
theorem def_ok {P : Program} {w : World} {K : PySem.W.Frag} {mg : Str → Option Value} {base : Heap} {W : Wd} {C : Cfg} {T : Tab} {k : Nat} (g : Pg P w K mg base W C T k) {x qual : Str} {st : Stmt} {f : Addr} {fd : FuncData} {N ps : List Str} {np n : Nat} {body : List S} (F : Fun K x qual st f fd) (Sc : FnScope N ps (defScope st)) (hp : ps.length = np) (hN : N.length = n) (hle : np ≤ n)
    (hb : chkSs T N (defScope st) body (defBody st) = true) : FnOk P w K mg base (L2.CX P w) (k + 1) f fd ps (spOf W (runD C np n body)) := by
  have hlen : ∀ vs H Q E, spOf W (runD C np n body) vs H Q E → vs.length = ps.length := fun vs H Q E h => by
    obtain ⟨G, as, h1, h2, h3⟩ := h
    by_cases q : as.length = np
    · omega
    · unfold runD at h3
      rw [if_neg q] at h3
      exact h3.elim
  refine F.okX Sc hlen fun cdv A outer s H vs Q E hr h => ?_
  have hv := hlen vs H Q E h
  obtain ⟨G, as, h1, h2, h3⟩ := h
  refine ⟨_, pssU, ?_⟩
  have cx := cf_of (N := N) (qual := qual) (sc := defScope st) (f := f) (cd := cdv) (A := A) (outer := outer) (s := s) (H := H) (E := E) g Sc.nd Sc.kind hr
  have hal : as.length = np := by omega
  have hvn : vs.length ≤ N.length := by omega
  have s0 := ok_start (N := N) h1 hvn h2
  refine exs_ok body cx hb _ _ G H _ s0 ?_
  unfold runD at h3
  rw [if_pos hal] at h3
  rw [hN, hal]
  rw [hN, hal] at s0
  have keepF : ∀ {σ' : St} {e' : Env} {G' H' : Hp}, Keep (OwnA (L2.start N vs) (as.map argSlot ++ List.replicate (n - np) .un)) G H (OwnA σ' e') G' H' → Keep (OwnA (vs.map some) (as.map argSlot)) G H (OwnA (vs.map some) (as.map argSlot)) G' H' := fun k => by
    have o := fun a => own_start (N := N) (m := n - np) h1 a
    exact ⟨k.gg, k.gh, fun a o' h hn => k.hh a o' h (fun z => hn ((o a).mp z)), fun a o' h mu hn => k.hg a o' h mu (fun z => hn ((o a).mp z)), fun a h => .inl h⟩
  have parF : ∀ {σ' : St} {e' : Env} {l : List D}, ParK (L2.start N vs) (as.map argSlot ++ List.replicate (n - np) .un) σ' e' → ∀ j v, (slot e' (0 + j)).isPar = true → vs[j]? = some v → σ'[0 + j]? = some (some v) := fun {σ' e' l} p j v hj hv => by
    rw [Nat.zero_add] at hj ⊢
    rw [(p j hj).2]
    exact start_get hv
  have resF : ∀ {σ' : St} {e' : Env} {G' H' : Hp} {l : List D} {r : Res} {v : V}, ParK (L2.start N vs) (as.map argSlot ++ List.replicate (n - np) .un) σ' e' → fins e' as 0 = some l → ResOk W (OwnA (L2.start N vs) (as.map argSlot ++ List.replicate (n - np) .un)) H (OwnA σ' e') G' H' r v → ResOk W (OwnA (vs.map some) (as.map argSlot)) H (OwnA (vs.map some) (as.map argSlot)) G' H' r v := fun {σ' e' G' H' l r v} p hf hr => by
    cases r with
    | val d => exact hr
    | new d =>
      obtain ⟨a, r1, r2, r3, r4, r5⟩ := hr
      refine ⟨a, r1, r2, r3, fun ⟨j, q1, q2⟩ => r4 ⟨j, ?_, ?_⟩, ?_⟩
      · have := fins_par as 0 l hf j q1
        rw [Nat.zero_add] at this
        cases w : slot e' j <;> rw [w] at this <;> first | rfl | cases this
      · have z := fins_par as 0 l hf j q1
        have hj : ∃ v, vs[j]? = some v ∧ some v = some (.ref a) := by
          rw [List.getElem?_map] at q2
          cases w : vs[j]? with
          | none => rw [w] at q2; cases q2
          | some v => rw [w] at q2; exact ⟨v, rfl, by simpa using q2⟩
        obtain ⟨v, w1, w2⟩ := hj
        cases w2
        have := parF (l := l) p j _ z w1
        rw [Nat.zero_add] at this
        exact this
      · rcases r5 with r5 | r5
        · exact .inl ((own_start h1 a).mp r5)
        · exact .inr r5
  cases q : exs C body (as.map argSlot ++ List.replicate (n - np) .un) with
  | no => rw [q] at h3; exact h3
  | ex x e =>
    rw [q] at h3
    simp only at h3
    cases w1 : fins e as 0 with
    | none => rw [w1] at h3; exact h3.elim
    | some l' =>
      rw [w1] at h3
      exact fun σ' c d G' H' k' s' p' x' => h3 c d G' H' (keepF k') (fins_ok s' as vs 0 _ h1 w1 (parF (l := l') p')) x'
  | ok f e =>
    rw [q] at h3
    cases f with
    | bk => exact h3.elim
    | ct => exact h3.elim
    | nx =>
      simp only at h3
      cases w1 : fins e as 0 with
      | none => rw [w1] at h3; exact h3.elim
      | some l' =>
        rw [w1] at h3
        exact fun σ' G' H' k' s' p' => h3 .non G' H' (keepF k') (fins_ok s' as vs 0 _ h1 w1 (parF (l := l') p')) (by simp [ResOk, Rep])
    | rt r =>
      simp only at h3
      cases w1 : fins e as 0 with
      | none => rw [w1] at h3; exact h3.elim
      | some l' =>
        rw [w1] at h3
        exact fun σ' G' H' k' s' p' v hv => h3 v G' H' (keepF k') (fins_ok s' as vs 0 _ h1 w1 (parF (l := l') p')) (resF p' w1 hv)
end Itp
set_option Elab.async false
set_option linter.all false
set_option maxRecDepth 100000
set_option maxHeartbeats 4000000
namespace Itp
open PySem L2
/-! ### for the end -/
theorem lk_cons {α : Type} {y x : Str} {a d : α} {r : List (Str × α)} (h : lk ((y, a) :: r) x = some d) : (x = y ∧ d = a) ∨ lk r x = some d := by
  unfold lk at h
  split at h
  · rename_i e
    cases h
    exact .inl ⟨e.symm, rfl⟩
  · exact .inr h
theorem lk_nil {α : Type} {x : Str} {d : α} {p : Prop} (h : lk [] x = some d) : p := by
  cases h
theorem ClsG.mono {P : Program} {w : World} {K : PySem.W.Frag} {mg : Str → Option Value} {base : Heap} {W : Wd} {j k : Nat} {x : Str} {c : Nat} {fl : List Str} {C : Addr} (h : ClsG P w K mg base W j x c fl C) (hk : j ≤ k) : ClsG P w K mg base W k x c fl C := by
  obtain ⟨fI, fd, i, ps, i1, i2, i3, i4, i5⟩ := h.init
  exact ⟨h.at_, h.T, h.mgx, h.fno, h.xf, h.len, h.nd, fI, fd, i, ps, i1, i2, i3, by omega, i5⟩
def isT : FRes → Prop
  | .ok (.val (.bl true)) [] => True
  | _ => False
def spLaw (K : PySem.W.Frag) (n : Nat) : Sp := fun vs H Q _ => ∃ (a : Addr) (ns : List Int), vs = [.ref a] ∧ SqL K H a (ns.map V.int) ∧ ns.length ≤ n ∧ ∀ H', Q (.bl true) H'
theorem law_imp {W : Wd} {F : Fn} {n : Nat} (hF : ∀ ns : List Int, ns.length ≤ n → F [.val (.scr ns)] = .ok (.val (.bl true)) []) : ∀ vs H Q E, spLaw W.K n vs H Q E → spOf W F vs H Q E := fun vs H Q E h => by
  obtain ⟨a, ns, rfl, h1, h2, h3⟩ := h
  refine ⟨H, [.val (.scr ns)], rfl, ⟨Ex.refl H, rfl, fun i => ?_, fun i j b hij hi => ?_⟩, ?_⟩
  · cases i with
    | zero => exact ⟨.ref a, rfl, by simp only [Rep]; exact ⟨a, rfl, h1⟩⟩
    | succ i =>
      have : slot (List.map argSlot [Arg.val (.scr ns)]) (i + 1) = .un := rfl
      rw [this]
      trivial
  · cases i with
    | zero => cases hi
    | succ i => cases hi
  · rw [hF ns h2]
    intro v G' H' _ _ hr
    have : v = .bl true := by simpa [ResOk, Rep] using hr
    subst this
    exact h3 H'
theorem cst_str {W : Wd} {mg : Str → Option Value} {x : Str} {s : List Nat} {t : Tok} (h : mg x = some (.str ⟨s.toArray⟩ t)) : ∃ u v, mg x = some u ∧ RelV v u ∧ ∀ G, (D.str s).flat = true → Rep W G (.str s) v := ⟨_, .str ⟨s.toArray⟩, h, ⟨t, rfl⟩, fun G _ => by simp only [Rep]⟩
theorem cst_int {W : Wd} {mg : Str → Option Value} {x : Str} {n : Int} {t : Tok} (h : mg x = some (.int n t)) : ∃ u v, mg x = some u ∧ RelV v u ∧ ∀ G, (D.int n).flat = true → Rep W G (.int n) v := ⟨_, .int n, h, ⟨t, rfl⟩, fun G _ => by simp only [Rep]⟩
theorem exm_of {K : PySem.W.Frag} {A B : Addr} {b : Bool} (h1 : PySem.W.subIn K (.ref B) (.type "BaseException") = some true) (h2 : PySem.W.isClsIn K B = true) (h3 : PySem.W.typeIn K (.ref B) = some (.type "type")) (h4 : PySem.W.subIn K (.ref A) (.ref B) = some b) :
    PySem.W.exmOne K (.ref A) (.ref B) = some b := by
  have q1 : (PySem.W.subIn K (.ref B) (.type "BaseException") == some true) = true := by rw [h1]; rfl
  have q3 : (PySem.W.clsIn K B).isSome = true := h2
  have q2 : ((PySem.W.clsIn K B).isSome && PySem.W.typeIn K (.ref B) == some (.type "type")) = true := by rw [q3, h3]; rfl
  show (if (PySem.W.subIn K (.ref B) (.type "BaseException") == some true) = true then (if ((PySem.W.clsIn K B).isSome && PySem.W.typeIn K (.ref B) == some (.type "type")) = true then PySem.W.subIn K (.ref A) (.ref B) else none) else none) = _
  rw [if_pos q1, if_pos q2, h4]
theorem cx_no {P : Program} {w : World} {o : List PySem.Env} {H : Hp} {s s2 : Shared} {e : Value} (h : L2.CX P w o H s (fun _ _ _ => False) e s2) : False := by
  obtain ⟨_, _, _, _, _, _, _, _, _, _, _, _, z⟩ := h
  exact z
end Itp
set_option Elab.async false
set_option linter.all false
set_option maxRecDepth 100000
set_option maxHeartbeats 4000000
namespace Itp
open PySem L2
/-! ### what is wanted behind a run -/
def Wp {α : Type} (r : Rs α) (Q : α → Env → Prop) (X : Xc → Env → Prop) : Prop := match r with
  | .ok a e => Q a e
  | .ex x e => X x e
  | .no => False
def Wf (r : FRes) (Q : Res → List D → Prop) (X : Xc → List D → Prop) : Prop := match r with
  | .ok a l => Q a l
  | .ex x l => X x l
  | .no => False
def Wo {α : Type} (r : Option α) (Q : α → Prop) : Prop := match r with
  | some a => Q a
  | none => False
def kNo {α : Type} : Xc → α → Prop := fun _ _ => False
variable {C : Cfg} {e : Env}
abbrev QF := Fl → Env → Prop
abbrev QR := Res → Env → Prop
abbrev QX := Xc → Env → Prop
theorem wo_some {α : Type} {a : α} {Q : α → Prop} : Wo (some a) Q = Q a := rfl
theorem wp_ok {α : Type} {a : α} {Q : α → Env → Prop} {X : QX} : Wp (.ok a e) Q X = Q a e := rfl
theorem wp_ex {α : Type} {x : Xc} {Q : α → Env → Prop} {X : QX} : Wp (.ex x e) Q X = X x e := rfl
/-! statements -/
def kS (C : Cfg) (ss : List S) (Q : QF) (X : QX) : QF
  | .nx, e => Wp (exs C ss e) Q X
  | f, e => Q f e
theorem w_nil {Q : QF} {X : QX} : Wp (exs C [] e) Q X = Q .nx e := by simp only [exs]; rfl
theorem w_cons {s : S} {ss : List S} {Q : QF} {X : QX} : Wp (exs C (s :: ss) e) Q X = Wp (exS C s e) (kS C ss Q X) X := by
  simp only [exs]
  cases exS C s e with
  | ok f e1 => cases f <;> rfl
  | ex x e1 => rfl
  | no => rfl
theorem kS_nx {ss : List S} {Q : QF} {X : QX} : kS C ss Q X .nx e = Wp (exs C ss e) Q X := rfl
theorem kS_rt {ss : List S} {Q : QF} {X : QX} {r : Res} : kS C ss Q X (.rt r) e = Q (.rt r) e := rfl
theorem kS_bk {ss : List S} {Q : QF} {X : QX} : kS C ss Q X .bk e = Q .bk e := rfl
theorem kS_ct {ss : List S} {Q : QF} {X : QX} : kS C ss Q X .ct e = Q .ct e := rfl
def kOwn2 (i : Nat) (Q : QF) (r : Res) (e : Env) : Slot → Prop
  | .par _ => False
  | _ => Q .nx (e.set i r.slot)
def kOwn (i : Nat) (Q : QF) : QR := fun r e => kOwn2 i Q r e (slot e i)
theorem kOwn_u {i : Nat} {Q : QF} {r : Res} : kOwn i Q r e = kOwn2 i Q r e (slot e i) := rfl
theorem kOwn2_un {i : Nat} {Q : QF} {r : Res} : kOwn2 i Q r e .un = Q .nx (e.set i r.slot) := rfl
theorem kOwn2_val {i : Nat} {Q : QF} {r : Res} {d : D} : kOwn2 i Q r e (.val d) = Q .nx (e.set i r.slot) := rfl
theorem kOwn2_own {i : Nat} {Q : QF} {r : Res} {d : D} : kOwn2 i Q r e (.own d) = Q .nx (e.set i r.slot) := rfl
theorem w_own {i : Nat} {a : E} {Q : QF} {X : QX} : Wp (exS C (.own i a) e) Q X = Wp (ev C a e) (kOwn i Q) X := by
  simp only [exS]
  cases ev C a e with
  | ok r e1 =>
    show Wp (ownM i r e1) Q X = kOwn2 i Q r e1 (slot e1 i)
    unfold ownM
    cases slot e1 i <;> rfl
  | ex x e1 => rfl
  | no => rfl
def kAsg (t : Tg) (Q : QF) : QR := fun r e => Wo (bindT t r.d e) (Q .nx)
theorem kAsg_u {t : Tg} {Q : QF} {r : Res} : kAsg t Q r e = Wo (bindT t r.d e) (Q .nx) := rfl
theorem w_asg {t : Tg} {a : E} {Q : QF} {X : QX} : Wp (exS C (.asg t a) e) Q X = Wp (ev C a e) (kAsg t Q) X := by
  simp only [exS, fz]
  cases ev C a e with
  | ok r e1 =>
    show Wp (match bindT t r.d e1 with | some e2 => Rs.ok Fl.nx e2 | none => .no) Q X = Wo (bindT t r.d e1) (Q .nx)
    cases bindT t r.d e1 <;> rfl
  | ex x e1 => rfl
  | no => rfl
def kOwnC (i : Nat) (r : Res) (is : List Nat) (rs : List Res) (Q : QF) (X : QX) (e : Env) : Slot → Prop
  | .par _ => False
  | _ => Wp (ownsM is rs (e.set i r.slot)) Q X
theorem w_on {Q : QF} {X : QX} : Wp (ownsM [] [] e) Q X = Q .nx e := rfl
theorem w_oc {i : Nat} {r : Res} {is : List Nat} {rs : List Res} {Q : QF} {X : QX} : Wp (ownsM (i :: is) (r :: rs) e) Q X = kOwnC i r is rs Q X e (slot e i) := by
  simp only [ownsM]
  cases slot e i <;> rfl
theorem kOwnC_un {i : Nat} {r : Res} {is : List Nat} {rs : List Res} {Q : QF} {X : QX} : kOwnC i r is rs Q X e .un = Wp (ownsM is rs (e.set i r.slot)) Q X := rfl
theorem kOwnC_val {i : Nat} {r : Res} {is : List Nat} {rs : List Res} {Q : QF} {X : QX} {d : D} : kOwnC i r is rs Q X e (.val d) = Wp (ownsM is rs (e.set i r.slot)) Q X := rfl
theorem kOwnC_own {i : Nat} {r : Res} {is : List Nat} {rs : List Res} {Q : QF} {X : QX} {d : D} : kOwnC i r is rs Q X e (.own d) = Wp (ownsM is rs (e.set i r.slot)) Q X := rfl
def kOwns (is : List Nat) (Q : QF) (X : QX) : List Res → Env → Prop := fun rs e => Wp (ownsM is rs e) Q X
theorem kOwns_u {is : List Nat} {rs : List Res} {Q : QF} {X : QX} : kOwns is Q X rs e = Wp (ownsM is rs e) Q X := rfl
theorem w_owns {is : List Nat} {as : List E} {Q : QF} {X : QX} : Wp (exS C (.owns is as) e) Q X = Wp (evRs C as e) (kOwns is Q X) X := by
  simp only [exS]
  cases evRs C as e <;> rfl
def kR2 (r : Res) (Q : List Res → Env → Prop) : List Res → Env → Prop := fun rs e => Q (r :: rs) e
theorem kR2_u {r : Res} {rs : List Res} {Q : List Res → Env → Prop} : kR2 r Q rs e = Q (r :: rs) e := rfl
def kR1 (C : Cfg) (as : List E) (Q : List Res → Env → Prop) (X : QX) : QR := fun r e => Wp (evRs C as e) (kR2 r Q) X
theorem kR1_u {as : List E} {r : Res} {Q : List Res → Env → Prop} {X : QX} : kR1 C as Q X r e = Wp (evRs C as e) (kR2 r Q) X := rfl
theorem w_rn {Q : List Res → Env → Prop} {X : QX} : Wp (evRs C [] e) Q X = Q [] e := rfl
theorem w_rc {a : E} {as : List E} {Q : List Res → Env → Prop} {X : QX} : Wp (evRs C (a :: as) e) Q X = Wp (ev C a e) (kR1 C as Q X) X := by
  simp only [evRs]
  cases ev C a e with
  | ok r e1 =>
    show Wp ((evRs C as e1).bind fun rs e2 => .ok (r :: rs) e2) Q X = Wp (evRs C as e1) (kR2 r Q) X
    cases evRs C as e1 <;> rfl
  | ex x e1 => rfl
  | no => rfl
/-! targets -/
def kT (i : Nat) (d : D) (e : Env) (K : Env → Prop) : Slot → Prop
  | .par _ => False
  | _ => K (e.set i (.val d))
theorem w_nm {i : Nat} {d : D} {K : Env → Prop} : Wo (bindT (.nm i) d e) K = kT i d e K (slot e i) := by
  simp only [bindT]
  cases slot e i <;> rfl
theorem kT_un {i : Nat} {d : D} {K : Env → Prop} : kT i d e K .un = K (e.set i (.val d)) := rfl
theorem kT_val {i : Nat} {d x : D} {K : Env → Prop} : kT i d e K (.val x) = K (e.set i (.val d)) := rfl
theorem kT_own {i : Nat} {d x : D} {K : Env → Prop} : kT i d e K (.own x) = K (e.set i (.val d)) := rfl
def kTs (ts : List Tg) (xs : List D) (K : Env → Prop) : Env → Prop := fun e => Wo (bindTs ts xs e) K
theorem kTs_u {ts : List Tg} {xs : List D} {K : Env → Prop} : kTs ts xs K e = Wo (bindTs ts xs e) K := rfl
theorem w_tpt {ts : List Tg} {xs : List D} {K : Env → Prop} : Wo (bindT (.tp ts) (.tup xs) e) K = Wo (bindTs ts xs e) K := by simp only [bindT]
theorem w_tpl {ts : List Tg} {xs : List D} {K : Env → Prop} : Wo (bindT (.tp ts) (.lst xs) e) K = Wo (bindTs ts xs e) K := by simp only [bindT]
theorem w_tn {K : Env → Prop} : Wo (bindTs [] [] e) K = K e := by simp only [bindTs]; rfl
theorem w_tc {t : Tg} {ts : List Tg} {x : D} {xs : List D} {K : Env → Prop} : Wo (bindTs (t :: ts) (x :: xs) e) K = Wo (bindT t x e) (kTs ts xs K) := by
  simp only [bindTs]
  cases bindT t x e <;> rfl
/-! a[i] = v, append, extend -/
def kSt (i : Nat) (v : D) (xs : List D) (p : Bool) (Q : QF) (e : Env) : Nat → Prop := fun n => Q .nx (e.set i (if p then .par (.lst (xs.set n v)) else .own (.lst (xs.set n v))))
theorem kSt_o {i n : Nat} {v : D} {xs : List D} {Q : QF} : kSt i v xs false Q e n = Q .nx (e.set i (.own (.lst (xs.set n v)))) := rfl
theorem kSt_p {i n : Nat} {v : D} {xs : List D} {Q : QF} : kSt i v xs true Q e n = Q .nx (e.set i (.par (.lst (xs.set n v)))) := rfl
def kSet4 (i : Nat) (v : D) (Q : QF) (e : Env) : D → Slot → Prop
  | .int j, .own (.lst xs) => Wo (ixOf xs.length j) (kSt i v xs false Q e)
  | .int j, .par (.lst xs) => Wo (ixOf xs.length j) (kSt i v xs true Q e)
  | k, .own (.dct t kvs) => (keyOk t k = true ∧ kvs.length < big) ∧ Q .nx (e.set i (.own (.dct t (dput kvs k v))))
  | k, .par (.dct t kvs) => (keyOk t k = true ∧ kvs.length < big) ∧ Q .nx (e.set i (.par (.dct t (dput kvs k v))))
  | _, _ => False
def kSet3 (i : Nat) (v : D) (Q : QF) : QR := fun r e => kSet4 i v Q e r.d (slot e i)
theorem kSet3_u {i : Nat} {v : D} {Q : QF} {r : Res} : kSet3 i v Q r e = kSet4 i v Q e r.d (slot e i) := rfl
theorem kSet4_o {i : Nat} {v : D} {Q : QF} {j : Int} {xs : List D} : kSet4 i v Q e (.int j) (.own (.lst xs)) = Wo (ixOf xs.length j) (kSt i v xs false Q e) := rfl
theorem kSet4_p {i : Nat} {v : D} {Q : QF} {j : Int} {xs : List D} : kSet4 i v Q e (.int j) (.par (.lst xs)) = Wo (ixOf xs.length j) (kSt i v xs true Q e) := rfl
theorem kSet4_do {i : Nat} {v : D} {Q : QF} {k : D} {t : Bool} {kvs : List (D × D)} : kSet4 i v Q e k (.own (.dct t kvs)) = ((keyOk t k = true ∧ kvs.length < big) ∧ Q .nx (e.set i (.own (.dct t (dput kvs k v))))) := by cases k <;> rfl
theorem kSet4_dp {i : Nat} {v : D} {Q : QF} {k : D} {t : Bool} {kvs : List (D × D)} : kSet4 i v Q e k (.par (.dct t kvs)) = ((keyOk t k = true ∧ kvs.length < big) ∧ Q .nx (e.set i (.par (.dct t (dput kvs k v))))) := by cases k <;> rfl
def kSet1 (C : Cfg) (i : Nat) (k : E) (Q : QF) (X : QX) : QR := fun r e => (slot e i).isMut = true ∧ Wp (ev C k e) (kSet3 i r.d Q) X
theorem kSet1_u {i : Nat} {k : E} {Q : QF} {X : QX} {r : Res} : kSet1 C i k Q X r e = ((slot e i).isMut = true ∧ Wp (ev C k e) (kSet3 i r.d Q) X) := rfl
theorem set_eq {i : Nat} {v k : D} {Q : QF} {X : QX} (hm : (slot e i).isMut = true) : Wp (setM i k v e) Q X = kSet4 i v Q e k (slot e i) := by
  unfold setM
  cases h : slot e i with
  | un => rw [h] at hm; cases hm
  | val d => rw [h] at hm; cases hm
  | own d => by_cases hd : isDct d = true
             · obtain ⟨t, kvs, rfl⟩ := dct_of hd
               rw [kSet4_do]
               show Wp (if (keyOk t k && decide (kvs.length < big)) = true then Rs.ok Fl.nx (e.set i ((Slot.own (.dct t kvs)).put (.dct t (dput kvs k v)))) else .no) Q X = _
               by_cases hh : (keyOk t k && decide (kvs.length < big)) = true
               · rw [if_pos hh]
                 rw [Bool.and_eq_true, decide_eq_true_eq] at hh
                 simp only [hh, true_and]
                 rfl
               · rw [if_neg hh]
                 rw [Bool.and_eq_true, decide_eq_true_eq] at hh
                 simp only [hh, false_and]
                 rfl
             cases d <;> first | exact absurd rfl hd | skip
             all_goals (cases k <;> first | rfl | skip)
             rename_i xs j
             show Wp (match ixOf xs.length j with | some n => Rs.ok Fl.nx (e.set i ((Slot.own (.lst xs)).put (.lst (xs.set n v)))) | none => .no) Q X = Wo (ixOf xs.length j) _
             cases ixOf xs.length j <;> rfl
  | par d => by_cases hd : isDct d = true
             · obtain ⟨t, kvs, rfl⟩ := dct_of hd
               rw [kSet4_dp]
               show Wp (if (keyOk t k && decide (kvs.length < big)) = true then Rs.ok Fl.nx (e.set i ((Slot.par (.dct t kvs)).put (.dct t (dput kvs k v)))) else .no) Q X = _
               by_cases hh : (keyOk t k && decide (kvs.length < big)) = true
               · rw [if_pos hh]
                 rw [Bool.and_eq_true, decide_eq_true_eq] at hh
                 simp only [hh, true_and]
                 rfl
               · rw [if_neg hh]
                 rw [Bool.and_eq_true, decide_eq_true_eq] at hh
                 simp only [hh, false_and]
                 rfl
             cases d <;> first | exact absurd rfl hd | skip
             all_goals (cases k <;> first | rfl | skip)
             rename_i xs j
             show Wp (match ixOf xs.length j with | some n => Rs.ok Fl.nx (e.set i ((Slot.par (.lst xs)).put (.lst (xs.set n v)))) | none => .no) Q X = Wo (ixOf xs.length j) _
             cases ixOf xs.length j <;> rfl
theorem set_mut {i : Nat} {Q : QF} {v k : D} (h : ¬ (slot e i).isMut = true) : kSet4 i v Q e k (slot e i) = False := by
  cases w : slot e i with
  | un => cases k <;> rfl
  | val d => cases k <;> rfl
  | own d => rw [w] at h; exact absurd rfl h
  | par d => rw [w] at h; exact absurd rfl h
theorem w_seti {i : Nat} {k a : E} {Q : QF} {X : QX} : Wp (exS C (.seti i k a) e) Q X = Wp (ev C a e) (kSet1 C i k Q X) X := by
  simp only [exS, fz]
  cases ev C a e with
  | ok r e1 =>
    show Wp (if (slot e1 i).isMut = true then (((ev C k e1).bind fun r e1 => .ok r.d e1).bind fun x e2 => setM i x r.d e2) else .no) Q X = ((slot e1 i).isMut = true ∧ _)
    by_cases hm : (slot e1 i).isMut = true
    · rw [if_pos hm]
      simp only [hm, true_and]
      cases hk : ev C k e1 with
      | ok x e2 =>
        show Wp (setM i x.d r.d e2) Q X = kSet4 i r.d Q e2 x.d (slot e2 i)
        by_cases hm2 : (slot e2 i).isMut = true
        · exact set_eq hm2
        · rw [set_mut hm2]
          unfold setM
          have z : (slot e2 i).isMut = false := by simpa using hm2
          rw [z]
          rfl
      | ex x e2 => rfl
      | no => rfl
    · rw [if_neg hm]
      simp [hm, Wp]
  | ex x e1 => rfl
  | no => rfl
theorem setE_eq {i : Nat} {k : E} {v : D} {Q : QF} {X : QX} : Wp (setE i (ev C k) v e) Q X = kSet1 C i k Q X (.val v) e := by
  show Wp (if (slot e i).isMut = true then (((ev C k e).bind fun r e1 => .ok r.d e1).bind fun x e2 => setM i x v e2) else .no) Q X = ((slot e i).isMut = true ∧ _)
  by_cases hm : (slot e i).isMut = true
  · rw [if_pos hm]
    simp only [hm, true_and]
    cases hk : ev C k e with
    | ok x e2 =>
      show Wp (setM i x.d v e2) Q X = kSet4 i v Q e2 x.d (slot e2 i)
      by_cases hm2 : (slot e2 i).isMut = true
      · exact set_eq hm2
      · rw [set_mut hm2]
        unfold setM
        have z : (slot e2 i).isMut = false := by simpa using hm2
        rw [z]
        rfl
    | ex x e2 => rfl
    | no => rfl
  · rw [if_neg hm]
    simp [hm, Wp]
def kS2n (C : Cfg) (j : Nat) (l : E) (y : D) (Q : QF) (X : QX) : QF := fun _ e => kSet1 C j l Q X (.val y) e
theorem kS2n_u {j : Nat} {l : E} {y : D} {Q : QF} {X : QX} {f : Fl} : kS2n C j l y Q X f e = kSet1 C j l Q X (.val y) e := rfl
def kS2d (C : Cfg) (i : Nat) (k : E) (j : Nat) (l : E) (Q : QF) (X : QX) (e : Env) : D → Prop
  | .tup [x, y] => kSet1 C i k (kS2n C j l y Q X) X (.val x) e
  | _ => False
def kS2 (C : Cfg) (i : Nat) (k : E) (j : Nat) (l : E) (Q : QF) (X : QX) : QR := fun r e => kS2d C i k j l Q X e r.d
theorem kS2_u {i : Nat} {k : E} {j : Nat} {l : E} {Q : QF} {X : QX} {r : Res} : kS2 C i k j l Q X r e = kS2d C i k j l Q X e r.d := rfl
theorem kS2d_t {i : Nat} {k : E} {j : Nat} {l : E} {Q : QF} {X : QX} {x y : D} : kS2d C i k j l Q X e (.tup [x, y]) = kSet1 C i k (kS2n C j l y Q X) X (.val x) e := rfl
theorem w_seti2 {i j : Nat} {k l a : E} {Q : QF} {X : QX} : Wp (exS C (.seti2 i k j l a) e) Q X = Wp (ev C a e) (kS2 C i k j l Q X) X := by
  simp only [exS, fz]
  cases ev C a e with
  | ok r e1 =>
    show Wp (match r.d with | .tup [x, y] => (setE i (ev C k) x e1).bind fun _ e2 => setE j (ev C l) y e2 | _ => .no) Q X = kS2d C i k j l Q X e1 r.d
    unfold kS2d
    split
    · rename_i x y hd
      show Wp ((setE i (ev C k) x e1).bind fun _ e2 => setE j (ev C l) y e2) Q X = kSet1 C i k (kS2n C j l y Q X) X (.val x) e1
      rw [← setE_eq]
      cases setE i (ev C k) x e1 with
      | ok f e2 => exact setE_eq
      | ex x e2 => rfl
      | no => rfl
    · rfl
  | ex x e1 => rfl
  | no => rfl
def kPopV (j i : Nat) (Q : QF) (e : Env) (p : Bool) (xs : List D) (d : D) : Prop := match p with
  | true => kOwn2 j Q (.val d) (e.set i (.par (.lst xs.dropLast))) (slot (e.set i (.par (.lst xs.dropLast))) j)
  | false => kOwn2 j Q (.val d) (e.set i (.own (.lst xs.dropLast))) (slot (e.set i (.own (.lst xs.dropLast))) j)
theorem kPopV_o {j i : Nat} {Q : QF} {xs : List D} {d : D} : kPopV j i Q e false xs d = kOwn2 j Q (.val d) (e.set i (.own (.lst xs.dropLast))) (slot (e.set i (.own (.lst xs.dropLast))) j) := rfl
theorem kPopV_p {j i : Nat} {Q : QF} {xs : List D} {d : D} : kPopV j i Q e true xs d = kOwn2 j Q (.val d) (e.set i (.par (.lst xs.dropLast))) (slot (e.set i (.par (.lst xs.dropLast))) j) := rfl
def kPop (j i : Nat) (Q : QF) (e : Env) : Slot → Prop
  | .own (.lst xs) => Wo xs[xs.length - 1]? (kPopV j i Q e false xs)
  | .par (.lst xs) => Wo xs[xs.length - 1]? (kPopV j i Q e true xs)
  | _ => False
theorem kPop_o {j i : Nat} {Q : QF} {xs : List D} : kPop j i Q e (.own (.lst xs)) = Wo xs[xs.length - 1]? (kPopV j i Q e false xs) := rfl
theorem kPop_p {j i : Nat} {Q : QF} {xs : List D} : kPop j i Q e (.par (.lst xs)) = Wo xs[xs.length - 1]? (kPopV j i Q e true xs) := rfl
theorem own_k {j : Nat} {r : Res} {Q : QF} {X : QX} : Wp (ownM j r e) Q X = kOwn2 j Q r e (slot e j) := by
  unfold ownM
  cases slot e j <;> rfl
theorem w_pop {j i : Nat} {Q : QF} {X : QX} : Wp (exS C (.pop j i) e) Q X = kPop j i Q e (slot e i) := by
  simp only [exS]
  unfold popM
  cases hs : slot e i with
  | un => rfl
  | val d => rfl
  | own d =>
    cases d <;> first | rfl | skip
    rename_i xs
    rw [kPop_o]
    show Wp (match xs[xs.length - 1]? with | some d => ownM j (.val d) (e.set i (.own (.lst xs.dropLast))) | none => .no) Q X = _
    cases xs[xs.length - 1]? with
    | none => rfl
    | some d => exact own_k
  | par d =>
    cases d <;> first | rfl | skip
    rename_i xs
    rw [kPop_p]
    show Wp (match xs[xs.length - 1]? with | some d => ownM j (.val d) (e.set i (.par (.lst xs.dropLast))) | none => .no) Q X = _
    cases xs[xs.length - 1]? with
    | none => rfl
    | some d => exact own_k
def kApp2 (i : Nat) (Q : QF) (d : D) (e : Env) : Slot → Prop
  | .own (.lst xs) => xs.length < big ∧ Q .nx (e.set i (.own (.lst (xs ++ [d]))))
  | .par (.lst xs) => xs.length < big ∧ Q .nx (e.set i (.par (.lst (xs ++ [d]))))
  | _ => False
def kApp (i : Nat) (Q : QF) : QR := fun r e => kApp2 i Q r.d e (slot e i)
theorem kApp_u {i : Nat} {Q : QF} {r : Res} : kApp i Q r e = kApp2 i Q r.d e (slot e i) := rfl
theorem kApp2_o {i : Nat} {Q : QF} {d : D} {xs : List D} : kApp2 i Q d e (.own (.lst xs)) = (xs.length < big ∧ Q .nx (e.set i (.own (.lst (xs ++ [d]))))) := rfl
theorem kApp2_p {i : Nat} {Q : QF} {d : D} {xs : List D} : kApp2 i Q d e (.par (.lst xs)) = (xs.length < big ∧ Q .nx (e.set i (.par (.lst (xs ++ [d]))))) := rfl
def oL : Slot → Bool
  | .own (.lst _) => true
  | .par (.lst _) => true
  | _ => false
theorem oL_u {i : Nat} : ownLst e i = oL (slot e i) := by
  unfold ownLst
  cases slot e i with
  | own d => cases d <;> rfl
  | par d => cases d <;> rfl
  | _ => rfl
theorem oL_o {xs : List D} : oL (.own (.lst xs)) = true := rfl
theorem oL_p {xs : List D} : oL (.par (.lst xs)) = true := rfl
theorem ite_no {p : Bool} {m : Rs Fl} {Q : QF} {X : QX} : Wp (if p = true then m else .no) Q X = (p = true ∧ Wp m Q X) := by
  cases p
  · simp [Wp]
  · simp
theorem w_app {i : Nat} {a : E} {Q : QF} {X : QX} : Wp (exS C (.app i a) e) Q X = (ownLst e i = true ∧ Wp (ev C a e) (kApp i Q) X) := by
  simp only [exS, fz]
  rw [ite_no]
  congr 1
  cases ev C a e with
  | ok r e1 =>
    show Wp (appM i r.d e1) Q X = kApp2 i Q r.d e1 (slot e1 i)
    unfold appM
    cases slot e1 i with
    | own d => cases d <;> first | rfl | (rename_i xs; show Wp (if xs.length < big then _ else _) Q X = _; by_cases h : xs.length < big <;> simp [h, kApp2, Wp, Slot.put])
    | par d => cases d <;> first | rfl | (rename_i xs; show Wp (if xs.length < big then _ else _) Q X = _; by_cases h : xs.length < big <;> simp [h, kApp2, Wp, Slot.put])
    | _ => rfl
  | ex x e1 => rfl
  | no => rfl
def kExt2 (i : Nat) (Q : QF) (e : Env) : D → Slot → Prop
  | .lst ys, .own (.lst xs) => xs.length + ys.length ≤ big ∧ Q .nx (e.set i (.own (.lst (xs ++ ys))))
  | .lst ys, .par (.lst xs) => xs.length + ys.length ≤ big ∧ Q .nx (e.set i (.par (.lst (xs ++ ys))))
  | _, _ => False
def kExt (i : Nat) (Q : QF) : QR := fun r e => kExt2 i Q e r.d (slot e i)
theorem kExt_u {i : Nat} {Q : QF} {r : Res} : kExt i Q r e = kExt2 i Q e r.d (slot e i) := rfl
theorem kExt2_o {i : Nat} {Q : QF} {xs ys : List D} : kExt2 i Q e (.lst ys) (.own (.lst xs)) = (xs.length + ys.length ≤ big ∧ Q .nx (e.set i (.own (.lst (xs ++ ys))))) := rfl
theorem kExt2_p {i : Nat} {Q : QF} {xs ys : List D} : kExt2 i Q e (.lst ys) (.par (.lst xs)) = (xs.length + ys.length ≤ big ∧ Q .nx (e.set i (.par (.lst (xs ++ ys))))) := rfl
theorem w_ext {i : Nat} {a : E} {Q : QF} {X : QX} : Wp (exS C (.ext i a) e) Q X = (ownLst e i = true ∧ Wp (ev C a e) (kExt i Q) X) := by
  simp only [exS, fz]
  rw [ite_no]
  congr 1
  cases ev C a e with
  | ok r e1 =>
    show Wp (extM i r.d e1) Q X = kExt2 i Q e1 r.d (slot e1 i)
    unfold extM
    cases slot e1 i with
    | own d => cases d <;> cases r.d <;> first | rfl | (rename_i xs ys; show Wp (if xs.length + ys.length ≤ big then _ else _) Q X = _; by_cases h : xs.length + ys.length ≤ big <;> simp [h, kExt2, Wp, Slot.put])
    | par d => cases d <;> cases r.d <;> first | rfl | (rename_i xs ys; show Wp (if xs.length + ys.length ≤ big then _ else _) Q X = _; by_cases h : xs.length + ys.length ≤ big <;> simp [h, kExt2, Wp, Slot.put])
    | _ => cases r.d <;> rfl
  | ex x e1 => rfl
  | no => rfl
/-! the rest of the statements -/
def kEx (Q : QF) : QR := fun _ e => Q .nx e
theorem kEx_u {Q : QF} {r : Res} : kEx Q r e = Q .nx e := rfl
theorem w_ex {a : E} {Q : QF} {X : QX} : Wp (exS C (.ex a) e) Q X = Wp (ev C a e) (kEx Q) X := by
  simp only [exS]
  cases ev C a e <;> rfl
def kRet (Q : QF) : QR := fun r e => Q (.rt r) e
theorem kRet_u {Q : QF} {r : Res} : kRet Q r e = Q (.rt r) e := rfl
theorem w_ret {a : E} {Q : QF} {X : QX} : Wp (exS C (.ret a) e) Q X = Wp (retM a (ev C a) e) (kRet Q) X := by
  simp only [exS]
  cases retM a (ev C a) e <;> rfl
def kRv (i : Nat) (Q : QR) (e : Env) : Slot → Prop
  | .own d => Q (.new d) (e.set i .un)
  | .val d => Q (.val d) e
  | _ => False
theorem w_rv {i : Nat} {m : M Res} {Q : QR} {X : QX} : Wp (retM (.var i) m e) Q X = kRv i Q e (slot e i) := by
  simp only [retM]
  cases slot e i <;> rfl
theorem kRv_own {i : Nat} {Q : QR} {d : D} : kRv i Q e (.own d) = Q (.new d) (e.set i .un) := rfl
theorem kRv_val {i : Nat} {Q : QR} {d : D} : kRv i Q e (.val d) = Q (.val d) e := rfl
theorem rt_cst {d : D} {m : M Res} : retM (.cst d) m = m := rfl
theorem rt_glb {x : Str} {d : D} {m : M Res} : retM (.glb x d) m = m := rfl
theorem rt_op {o : Op} {as : List E} {m : M Res} : retM (.op o as) m = m := rfl
theorem rt_and {a b : E} {m : M Res} : retM (.and a b) m = m := rfl
theorem rt_or {a b : E} {m : M Res} : retM (.or a b) m = m := rfl
theorem rt_not {a : E} {m : M Res} : retM (.not a) m = m := rfl
theorem rt_ite {c a b : E} {m : M Res} : retM (.ite c a b) m = m := rfl
theorem rt_chain {o p : Op} {a b c : E} {m : M Res} : retM (.chain o p a b c) m = m := rfl
theorem rt_chain3 {o p q : Op} {a b c d : E} {m : M Res} : retM (.chain3 o p q a b c d) m = m := rfl
theorem rt_call {f : Nat} {as : List E} {m : M Res} : retM (.call f as) m = m := rfl
theorem rt_callV {f : E} {as : List E} {m : M Res} : retM (.callV f as) m = m := rfl
theorem rt_comp {k : ItK} {as : List E} {tg : Tg} {own : List Nat} {cs : List E} {a : E} {m : M Res} : retM (.comp k as tg own cs a) m = m := rfl
theorem rt_dct1 {a b : E} {m : M Res} : retM (.dct1 a b) m = m := rfl
theorem rt_comp2 {k k1 : ItK} {as as1 : List E} {tg tg1 : Tg} {own own1 : List Nat} {cs : List E} {a : E} {m : M Res} : retM (.comp2 k as tg own k1 as1 tg1 own1 cs a) m = m := rfl
theorem rt_dcomp {t : Bool} {k : ItK} {as : List E} {tg : Tg} {own : List Nat} {cs : List E} {a b : E} {m : M Res} : retM (.dcomp t k as tg own cs a b) m = m := rfl
theorem w_retn {Q : QF} {X : QX} : Wp (exS C .retn e) Q X = Q (.rt (.val .non)) e := by simp only [exS]; rfl
theorem w_pass {Q : QF} {X : QX} : Wp (exS C .pass e) Q X = Q .nx e := by simp only [exS]; rfl
def kIf2 (C : Cfg) (a b : List S) (Q : QF) (X : QX) (e : Env) : Bool → Prop
  | true => Wp (exs C a e) Q X
  | false => Wp (exs C b e) Q X
def kIf (C : Cfg) (a b : List S) (Q : QF) (X : QX) : QR
  | .val (.bl t), e => kIf2 C a b Q X e t
  | _, _ => False
theorem kIf_u {a b : List S} {Q : QF} {X : QX} {t : Bool} : kIf C a b Q X (.val (.bl t)) e = kIf2 C a b Q X e t := rfl
theorem kIf_t {a b : List S} {Q : QF} {X : QX} : kIf2 C a b Q X e true = Wp (exs C a e) Q X := rfl
theorem kIf_f {a b : List S} {Q : QF} {X : QX} : kIf2 C a b Q X e false = Wp (exs C b e) Q X := rfl
theorem asB_eq {a : E} {β : Type} {f : Bool → Env → Rs β} {Q : β → Env → Prop} {X : QX} {K : QR} (h1 : ∀ t e1, K (.val (.bl t)) e1 = Wp (f t e1) Q X) (h2 : ∀ r e1, (∀ t, r ≠ .val (.bl t)) → K r e1 = False) :
    Wp ((asB (ev C a) e).bind f) Q X = Wp (ev C a e) K X := by
  unfold asB
  cases ev C a e with
  | ok r e1 =>
    cases r with
    | new d => exact (h2 _ _ (by intro t z; cases z)).symm
    | val d => cases d <;> first | exact (h2 _ _ (by intro t z; cases z)).symm | exact (h1 _ _).symm
  | ex x e1 => rfl
  | no => rfl
theorem not_bl {r : Res} {P : Res → Prop} (h : ∀ t, r ≠ .val (.bl t)) (hn : ∀ d, P (.new d)) (hv : ∀ d, (∀ t, d ≠ .bl t) → P (.val d)) : P r := by
  cases r with
  | new d => exact hn d
  | val d => exact hv d fun t z => h t (by rw [z])
theorem w_ifs {c : E} {a b : List S} {Q : QF} {X : QX} : Wp (exS C (.ifs c a b) e) Q X = Wp (ev C c e) (kIf C a b Q X) X := by
  simp only [exS]
  refine asB_eq (fun t e1 => ?_) (fun r e1 h => ?_)
  · cases t <;> rfl
  · refine not_bl (P := fun r => kIf C a b Q X r e1 = False) h (fun d => rfl) fun d hd => ?_
    cases d <;> first | rfl | exact absurd rfl (hd _)
def kFor4 (C : Cfg) (tg : Tg) (body : List S) (Q : QF) (X : QX) (e : Env) : List D → Prop := fun xs => Wp (forL tg (exs C body) xs e) Q X
theorem kFor4_u {tg : Tg} {body : List S} {Q : QF} {X : QX} {xs : List D} : kFor4 C tg body Q X e xs = Wp (forL tg (exs C body) xs e) Q X := rfl
def kIt2 (k : ItK) (K : Env → List D → Prop) (e : Env) (b : Bool) : Option (List D) → Prop
  | some ds => b = true ∧ Wo (items k ds) (K e)
  | none => False
def kIt (k : ItK) (K : Env → List D → Prop) : List Opd → Env → Prop := fun os e => kIt2 k K e (muts e os).isEmpty (opds e os)
theorem kIt_u {k : ItK} {K : Env → List D → Prop} {os : List Opd} : kIt k K os e = kIt2 k K e (muts e os).isEmpty (opds e os) := rfl
theorem kIt2_s {k : ItK} {K : Env → List D → Prop} {b : Bool} {ds : List D} : kIt2 k K e b (some ds) = (b = true ∧ Wo (items k ds) (K e)) := rfl
theorem it_eq {k : ItK} {m : M (List Opd)} {β : Type} {f : List D → Env → Rs β} {Q : β → Env → Prop} {X : QX} {K : Env → List D → Prop} (h : ∀ e1 xs, K e1 xs = Wp (f xs e1) Q X) : Wp ((itM k m e).bind f) Q X = Wp (m e) (kIt k K) kNo := by
  unfold itM
  cases m e with
  | ok os e1 =>
    show Wp ((match opds e1 os with | some ds => if (muts e1 os).isEmpty then ofO (items k ds) e1 else .no | none => .no : Rs (List D)).bind f) Q X = kIt2 k K e1 (muts e1 os).isEmpty (opds e1 os)
    cases opds e1 os with
    | none => rfl
    | some ds =>
      show Wp ((if (muts e1 os).isEmpty then ofO (items k ds) e1 else .no : Rs (List D)).bind f) Q X = ((muts e1 os).isEmpty = true ∧ Wo (items k ds) (K e1))
      cases (muts e1 os).isEmpty with
      | false => simp [Wp, Rs.bind]
      | true =>
        simp only [if_true, true_and]
        cases items k ds with
        | none => rfl
        | some xs => exact (h e1 xs).symm
  | ex x e1 => rfl
  | no => rfl
theorem w_for {tg : Tg} {k : ItK} {as : List E} {body : List S} {Q : QF} {X : QX} : Wp (exS C (.for tg k as body) e) Q X = Wp (evs C as e) (kIt k (kFor4 C tg body Q X)) kNo := by
  simp only [exS]
  exact it_eq fun e1 xs => rfl
theorem w_whl {n : Nat} {c : E} {body : List S} {Q : QF} {X : QX} : Wp (exS C (.whl n c body) e) Q X = Wp (whlL (asB (ev C c)) (exs C body) n e) Q X := by simp only [exS]
def kRse3 (c : Nat) (X : QX) (e : Env) : List (Str × D) → Prop := fun l => X ⟨c, l⟩ e
theorem kRse3_u {c : Nat} {X : QX} {l : List (Str × D)} : kRse3 c X e l = X ⟨c, l⟩ e := rfl
def kRse2 (c : Nat) (X : QX) (e : Env) (b : Bool) : Option (List D) → Option (List Str) → Prop
  | some ds, some fs => b = true ∧ Wo (zipF fs ds) (kRse3 c X e)
  | _, _ => False
theorem kRse2_s {c : Nat} {X : QX} {b : Bool} {ds : List D} {fs : List Str} : kRse2 c X e b (some ds) (some fs) = (b = true ∧ Wo (zipF fs ds) (kRse3 c X e)) := rfl
def kRse (C : Cfg) (c : Nat) (X : QX) : List Opd → Env → Prop := fun os e => kRse2 c X e (muts e os).isEmpty (opds e os) (C.flds c)
theorem kRse_u {c : Nat} {X : QX} {os : List Opd} : kRse C c X os e = kRse2 c X e (muts e os).isEmpty (opds e os) (C.flds c) := rfl
theorem w_rse {c : Nat} {as : List E} {Q : QF} {X : QX} : Wp (exS C (.rse c as) e) Q X = Wp (evs C as e) (kRse C c X) kNo := by
  simp only [exS, rseM]
  cases evs C as e with
  | ok os e1 =>
    show Wp (if (muts e1 os).isEmpty then _ else _) Q X = kRse2 c X e1 (muts e1 os).isEmpty (opds e1 os) (C.flds c)
    cases hm : (muts e1 os).isEmpty with
    | false => cases opds e1 os <;> cases C.flds c <;> simp [kRse2, Wp]
    | true =>
      simp only [if_true]
      cases opds e1 os with
      | none => cases C.flds c <;> rfl
      | some ds =>
        cases C.flds c with
        | none => rfl
        | some fs =>
          show Wp (match zipF fs ds with | some l => Rs.ex ⟨c, l⟩ e1 | none => .no) Q X = (true = true ∧ Wo (zipF fs ds) (kRse3 c X e1))
          simp only [true_and]
          cases zipF fs ds <;> rfl
  | ex x e1 => rfl
  | no => rfl
def zM (f : Str) (d : D) : Option (List (Str × D)) → Option (List (Str × D))
  | some l => some ((f, d) :: l)
  | none => none
theorem zf_nil : zipF [] [] = some [] := rfl
theorem zf_cons {f : Str} {fs : List Str} {d : D} {ds : List D} : zipF (f :: fs) (d :: ds) = zM f d (zipF fs ds) := by
  show (zipF fs ds).map _ = _
  cases zipF fs ds <;> rfl
theorem zM_s {f : Str} {d : D} {l : List (Str × D)} : zM f d (some l) = some ((f, d) :: l) := rfl
/-! try -/
def kTry (C : Cfg) (cls : List (Nat × Option Nat × Su)) (Q : QF) (X : QX) : QX := fun x e => Wp (catM C x cls e) Q X
theorem kTry_u {cls : List (Nat × Option Nat × Su)} {Q : QF} {X : QX} {x : Xc} : kTry C cls Q X x e = Wp (catM C x cls e) Q X := rfl
theorem w_try {body : List S} {cls : List (Nat × Option Nat × Su)} {Q : QF} {X : QX} : Wp (exS C (.try body cls) e) Q X = Wp (exs C body e) Q (kTry C cls Q X) := by
  simp only [exS, tryM]
  cases exs C body e <;> rfl
theorem w_cat0 {x : Xc} {Q : QF} {X : QX} : Wp (catM C x [] e) Q X = X x e := rfl
def kUn (j : Nat) (Q : QF) : QF
  | .nx, e => Q .nx (e.set j .un)
  | _, _ => False
theorem kUn_nx {j : Nat} {Q : QF} : kUn j Q .nx e = Q .nx (e.set j .un) := rfl
def kSu (C : Cfg) (x : Xc) (su : Su) (Q : QF) (X : QX) (e : Env) (j : Nat) : Slot → Prop
  | .par _ => False
  | _ => j < e.length ∧ Wp (suM C x su (e.set j .un)) (kUn j Q) kNo
def kSuN (C : Cfg) (x : Xc) (su : Su) (Q : QF) (X : QX) (e : Env) : Option Nat → Prop
  | none => Wp (suM C x su e) Q X
  | some j => kSu C x su Q X e j (slot e j)
def kCat (C : Cfg) (x : Xc) (nm : Option Nat) (su : Su) (r : List (Nat × Option Nat × Su)) (Q : QF) (X : QX) (e : Env) : Option Bool → Prop
  | none => False
  | some false => Wp (catM C x r e) Q X
  | some true => kSuN C x su Q X e nm
theorem kCat_f {x : Xc} {nm : Option Nat} {su : Su} {r : List (Nat × Option Nat × Su)} {Q : QF} {X : QX} : kCat C x nm su r Q X e (some false) = Wp (catM C x r e) Q X := rfl
theorem kCat_t {x : Xc} {nm : Option Nat} {su : Su} {r : List (Nat × Option Nat × Su)} {Q : QF} {X : QX} : kCat C x nm su r Q X e (some true) = kSuN C x su Q X e nm := rfl
theorem kSuN_n {x : Xc} {su : Su} {Q : QF} {X : QX} : kSuN C x su Q X e none = Wp (suM C x su e) Q X := rfl
theorem kSuN_s {x : Xc} {su : Su} {Q : QF} {X : QX} {j : Nat} : kSuN C x su Q X e (some j) = kSu C x su Q X e j (slot e j) := rfl
theorem kSu_un {x : Xc} {su : Su} {Q : QF} {X : QX} {j : Nat} : kSu C x su Q X e j .un = (j < e.length ∧ Wp (suM C x su (e.set j .un)) (kUn j Q) kNo) := rfl
theorem kSu_val {x : Xc} {su : Su} {Q : QF} {X : QX} {j : Nat} {d : D} : kSu C x su Q X e j (.val d) = (j < e.length ∧ Wp (suM C x su (e.set j .un)) (kUn j Q) kNo) := rfl
theorem su_noex {x : Xc} {su : Su} {y : Xc} {e' : Env} : suM C x su e ≠ .ex y e' := by
  cases su with
  | cst i d =>
    simp only [suM]
    cases slot e i <;> intro z <;> cases z
  | lst i vs =>
    simp only [suM]
    cases slot e i <;> cases svs C x vs <;> intro z <;> first | (cases z; done) | (simp only at z; split at z <;> cases z)
theorem w_cat {x : Xc} {c : Nat} {nm : Option Nat} {su : Su} {r : List (Nat × Option Nat × Su)} {Q : QF} {X : QX} : Wp (catM C x ((c, nm, su) :: r) e) Q X = kCat C x nm su r Q X e (C.sub x.cls c) := by
  simp only [catM]
  cases C.sub x.cls c with
  | none => rfl
  | some t =>
    cases t with
    | false => rfl
    | true =>
      cases nm with
      | none => rfl
      | some j =>
        have key : Wp (if j < e.length then (suM C x su (e.set j .un)).bind fun f e2 => (match f with
              | .nx => .ok .nx (e2.set j .un)
              | _ => .no) else .no) Q X = (j < e.length ∧ Wp (suM C x su (e.set j .un)) (kUn j Q) kNo) := by
          by_cases h : j < e.length
          · rw [if_pos h]
            simp only [h, true_and]
            cases hs : suM C x su (e.set j .un) with
            | ok f e2 => cases f <;> rfl
            | ex y e2 => exact absurd hs su_noex
            | no => rfl
          · rw [if_neg h]
            simp only [h, false_and]
            rfl
        show Wp (match slot e j with | .par _ => .no | _ => _) Q X = kSu C x su Q X e j (slot e j)
        cases slot e j with
        | par d => rfl
        | _ => exact key
theorem w_suc {x : Xc} {i : Nat} {d : D} {Q : QF} {X : QX} : Wp (suM C x (.cst i d) e) Q X = kOwn2 i Q (.val d) e (slot e i) := by
  simp only [suM]
  cases slot e i <;> rfl
def kSl2 (i : Nat) (Q : QF) (e : Env) (ds : List D) : Slot → Prop
  | .par _ => False
  | _ => ds.length ≤ big ∧ Q .nx (e.set i (.own (.lst ds)))
def kSl (i : Nat) (Q : QF) (e : Env) : List D → Prop := fun ds => kSl2 i Q e ds (slot e i)
theorem kSl_u {i : Nat} {Q : QF} {ds : List D} : kSl i Q e ds = kSl2 i Q e ds (slot e i) := rfl
theorem kSl2_un {i : Nat} {Q : QF} {ds : List D} : kSl2 i Q e ds .un = (ds.length ≤ big ∧ Q .nx (e.set i (.own (.lst ds)))) := rfl
theorem kSl2_val {i : Nat} {Q : QF} {ds : List D} {d : D} : kSl2 i Q e ds (.val d) = (ds.length ≤ big ∧ Q .nx (e.set i (.own (.lst ds)))) := rfl
theorem kSl2_own {i : Nat} {Q : QF} {ds : List D} {d : D} : kSl2 i Q e ds (.own d) = (ds.length ≤ big ∧ Q .nx (e.set i (.own (.lst ds)))) := rfl
theorem ite_le {p : Prop} [Decidable p] {m : Rs Fl} {Q : QF} {X : QX} : Wp (if p then m else .no) Q X = (p ∧ Wp m Q X) := by
  by_cases h : p
  · simp [h]
  · simp [h, Wp]
theorem w_sul {x : Xc} {i : Nat} {vs : List Sv} {Q : QF} {X : QX} : Wp (suM C x (.lst i vs) e) Q X = Wo (svs C x vs) (kSl i Q e) := by
  simp only [suM]
  cases svs C x vs with
  | none => cases slot e i <;> rfl
  | some ds =>
    show _ = kSl2 i Q e ds (slot e i)
    cases slot e i <;> first | rfl | exact ite_le
end Itp
set_option Elab.async false
set_option linter.all false
set_option maxRecDepth 100000
set_option maxHeartbeats 4000000
namespace Itp
open PySem L2
variable {C : Cfg} {e : Env}
/-! ### expressions -/
def kVar (i : Nat) (Q : QR) (e : Env) : Slot → Prop
  | .val d => Q (.val d) e
  | .own d => Q (.val d) (e.set i (.val d))
  | _ => False
theorem w_var {i : Nat} {Q : QR} {X : QX} : Wp (ev C (.var i) e) Q X = kVar i Q e (slot e i) := by
  simp only [ev, rdVar]
  cases slot e i <;> rfl
theorem kVar_val {i : Nat} {Q : QR} {d : D} : kVar i Q e (.val d) = Q (.val d) e := rfl
theorem kVar_own {i : Nat} {Q : QR} {d : D} : kVar i Q e (.own d) = Q (.val d) (e.set i (.val d)) := rfl
theorem w_cst {d : D} {Q : QR} {X : QX} : Wp (ev C (.cst d) e) Q X = Q (.val d) e := by simp only [ev]; rfl
theorem w_glb {x : Str} {d : D} {Q : QR} {X : QX} : Wp (ev C (.glb x d) e) Q X = Q (.val d) e := by simp only [ev]; rfl
theorem w_fnv {x : Str} {g : Nat} {Q : QR} {X : QX} : Wp (ev C (.fnv x g) e) Q X = Q (.val (.fn g)) e := by simp only [ev]; rfl
def kE (Q : QR) (e : Env) : Res → Prop := fun r => Q r e
theorem kE_u {Q : QR} {r : Res} : kE Q e r = Q r e := rfl
def kOpX (b : Bool) (X : QX) : QX := fun x e => b = false ∧ X x e
theorem kOpX_u {b : Bool} {X : QX} {x : Xc} : kOpX b X x e = (b = false ∧ X x e) := rfl
def kOp3 (Q : QR) (e : Env) (r : Option Res) : Bool → Bool → Prop
  | false, false => Wo r (kE Q e)
  | _, _ => False
theorem kOp3_ff {Q : QR} {r : Option Res} : kOp3 Q e r false false = Wo r (kE Q e) := rfl
def kOp2 (o : Op) (Q : QR) (e : Env) (ms : List Nat) (os : List Opd) : Option (List D) → Prop
  | some ds => kOp3 Q e (prim o ds) (disp o && !ms.isEmpty) (midOp o && midBad o os)
  | none => False
theorem kOp2_s {o : Op} {Q : QR} {ms : List Nat} {os : List Opd} {ds : List D} : kOp2 o Q e ms os (some ds) = kOp3 Q e (prim o ds) (disp o && !ms.isEmpty) (midOp o && midBad o os) := rfl
def kOp (o : Op) (Q : QR) : List Opd → Env → Prop := fun os e => kOp2 o Q e (muts e os) os (opds e os)
theorem kOp_u {o : Op} {Q : QR} {os : List Opd} : kOp o Q os e = kOp2 o Q e (muts e os) os (opds e os) := rfl
theorem w_op {o : Op} {as : List E} {Q : QR} {X : QX} : Wp (ev C (.op o as) e) Q X = Wp (evs C as e) (kOp o Q) (kOpX (midOp o) X) := by
  simp only [ev, opM]
  cases evs C as e with
  | no => rfl
  | ex x e1 =>
    show Wp (if midOp o = true then .no else .ex x e1) Q X = (midOp o = false ∧ X x e1)
    cases midOp o
    · simp [Wp]
    · simp [Wp]
  | ok os e1 =>
    show Wp (match opds e1 os with | some ds => if (disp o && !(muts e1 os).isEmpty) = true then .no else if (midOp o && midBad o os) = true then .no else ofO (prim o ds) e1 | none => .no) Q X = kOp2 o Q e1 (muts e1 os) os (opds e1 os)
    cases opds e1 os with
    | none => rfl
    | some ds =>
      show Wp (if (disp o && !(muts e1 os).isEmpty) = true then .no else if (midOp o && midBad o os) = true then .no else ofO (prim o ds) e1) Q X = kOp3 Q e1 (prim o ds) (disp o && !(muts e1 os).isEmpty) (midOp o && midBad o os)
      cases (disp o && !(muts e1 os).isEmpty) <;> cases (midOp o && midBad o os) <;> first | rfl | skip
      show Wp (ofO (prim o ds) e1) Q X = Wo (prim o ds) (kE Q e1)
      cases prim o ds <;> rfl
def kBl (Q : QR) : QR
  | .val (.bl t), e => Q (.val (.bl t)) e
  | _, _ => False
theorem kBl_u {Q : QR} {t : Bool} : kBl Q (.val (.bl t)) e = Q (.val (.bl t)) e := rfl
theorem bl_eq {a : E} {Q : QR} {X : QX} : Wp ((asB (ev C a) e).bind fun b2 e2 => .ok (.val (.bl b2)) e2) Q X = Wp (ev C a e) (kBl Q) X :=
  asB_eq (fun t e1 => rfl) fun r e1 h => not_bl (P := fun r => kBl Q r e1 = False) h (fun d => rfl) fun d hd => by cases d <;> first | rfl | exact absurd rfl (hd _)
def kAnd2 (C : Cfg) (b : E) (Q : QR) (X : QX) (e : Env) : Bool → Prop
  | true => Wp (ev C b e) (kBl Q) X
  | false => Q (.val (.bl false)) e
def kAnd (C : Cfg) (b : E) (Q : QR) (X : QX) : QR
  | .val (.bl t), e => kAnd2 C b Q X e t
  | _, _ => False
theorem kAnd_u {b : E} {Q : QR} {X : QX} {t : Bool} : kAnd C b Q X (.val (.bl t)) e = kAnd2 C b Q X e t := rfl
theorem kAnd_t {b : E} {Q : QR} {X : QX} : kAnd2 C b Q X e true = Wp (ev C b e) (kBl Q) X := rfl
theorem kAnd_f {b : E} {Q : QR} {X : QX} : kAnd2 C b Q X e false = Q (.val (.bl false)) e := rfl
theorem w_and {a b : E} {Q : QR} {X : QX} : Wp (ev C (.and a b) e) Q X = Wp (ev C a e) (kAnd C b Q X) X := by
  simp only [ev]
  refine asB_eq (fun t e1 => ?_) fun r e1 h => not_bl (P := fun r => kAnd C b Q X r e1 = False) h (fun d => rfl) fun d hd => by cases d <;> first | rfl | exact absurd rfl (hd _)
  cases t with
  | false => rfl
  | true => exact bl_eq.symm
def kOr2 (C : Cfg) (b : E) (Q : QR) (X : QX) (e : Env) : Bool → Prop
  | false => Wp (ev C b e) (kBl Q) X
  | true => Q (.val (.bl true)) e
def kOr (C : Cfg) (b : E) (Q : QR) (X : QX) : QR
  | .val (.bl t), e => kOr2 C b Q X e t
  | _, _ => False
theorem kOr_u {b : E} {Q : QR} {X : QX} {t : Bool} : kOr C b Q X (.val (.bl t)) e = kOr2 C b Q X e t := rfl
theorem kOr_f {b : E} {Q : QR} {X : QX} : kOr2 C b Q X e false = Wp (ev C b e) (kBl Q) X := rfl
theorem kOr_t {b : E} {Q : QR} {X : QX} : kOr2 C b Q X e true = Q (.val (.bl true)) e := rfl
theorem w_or {a b : E} {Q : QR} {X : QX} : Wp (ev C (.or a b) e) Q X = Wp (ev C a e) (kOr C b Q X) X := by
  simp only [ev]
  refine asB_eq (fun t e1 => ?_) fun r e1 h => not_bl (P := fun r => kOr C b Q X r e1 = False) h (fun d => rfl) fun d hd => by cases d <;> first | rfl | exact absurd rfl (hd _)
  cases t with
  | true => rfl
  | false => exact bl_eq.symm
def kNot (Q : QR) : QR
  | .val (.bl t), e => Q (.val (.bl (!t))) e
  | _, _ => False
theorem kNot_u {Q : QR} {t : Bool} : kNot Q (.val (.bl t)) e = Q (.val (.bl (!t))) e := rfl
theorem w_not {a : E} {Q : QR} {X : QX} : Wp (ev C (.not a) e) Q X = Wp (ev C a e) (kNot Q) X := by
  simp only [ev]
  exact asB_eq (fun t e1 => rfl) fun r e1 h => not_bl (P := fun r => kNot Q r e1 = False) h (fun d => rfl) fun d hd => by cases d <;> first | rfl | exact absurd rfl (hd _)
def kIte2 (C : Cfg) (a b : E) (Q : QR) (X : QX) (e : Env) : Bool → Prop
  | true => Wp (ev C a e) Q X
  | false => Wp (ev C b e) Q X
def kIte (C : Cfg) (a b : E) (Q : QR) (X : QX) : QR
  | .val (.bl t), e => kIte2 C a b Q X e t
  | _, _ => False
theorem kIte_u {a b : E} {Q : QR} {X : QX} {t : Bool} : kIte C a b Q X (.val (.bl t)) e = kIte2 C a b Q X e t := rfl
theorem kIte_t {a b : E} {Q : QR} {X : QX} : kIte2 C a b Q X e true = Wp (ev C a e) Q X := rfl
theorem kIte_f {a b : E} {Q : QR} {X : QX} : kIte2 C a b Q X e false = Wp (ev C b e) Q X := rfl
theorem w_ite {c a b : E} {Q : QR} {X : QX} : Wp (ev C (.ite c a b) e) Q X = Wp (ev C c e) (kIte C a b Q X) X := by
  simp only [ev]
  refine asB_eq (fun t e1 => ?_) fun r e1 h => not_bl (P := fun r => kIte C a b Q X r e1 = False) h (fun d => rfl) fun d hd => by cases d <;> first | rfl | exact absurd rfl (hd _)
  cases t <;> rfl
/-! chains -/
def kCh5 (p : Op) (y : D) (Q : QR) : QR := fun r e => Wo (prim p [y, r.d]) (kE Q e)
theorem kCh5_u {p : Op} {y : D} {Q : QR} {r : Res} : kCh5 p y Q r e = Wo (prim p [y, r.d]) (kE Q e) := rfl
def kCh4 (P : Prop) (Q : QR) (e : Env) : Bool → Prop
  | true => P
  | false => Q (.val (.bl false)) e
theorem kCh4_t {P : Prop} {Q : QR} : kCh4 P Q e true = P := rfl
theorem kCh4_f {P : Prop} {Q : QR} : kCh4 P Q e false = Q (.val (.bl false)) e := rfl
/-- the next link, put off -/
def kLk (C : Cfg) (c : E) (K : QR) (X : QX) (e : Env) : Prop := Wp (ev C c e) K X
def kLk4 (C : Cfg) (c : E) (K : QR) (X : QX) (Q : QR) (e : Env) : Bool → Prop
  | true => Wp (ev C c e) K X
  | false => Q (.val (.bl false)) e
theorem kLk4_t {c : E} {K Q : QR} {X : QX} : kLk4 C c K X Q e true = Wp (ev C c e) K X := rfl
theorem kLk4_f {c : E} {K Q : QR} {X : QX} : kLk4 C c K X Q e false = Q (.val (.bl false)) e := rfl
def kLk3 (C : Cfg) (c : E) (K : QR) (X : QX) (Q : QR) (e : Env) : Res → Prop
  | .val (.bl t) => kLk4 C c K X Q e t
  | _ => False
theorem kLk3_u {c : E} {K Q : QR} {X : QX} {t : Bool} : kLk3 C c K X Q e (.val (.bl t)) = kLk4 C c K X Q e t := rfl
def kCh2 (C : Cfg) (o p : Op) (x : D) (c : E) (Q : QR) (X : QX) : QR := fun r e => Wo (prim o [x, r.d]) (kLk3 C c (kCh5 p r.d Q) X Q e)
theorem kCh2_u {o p : Op} {x : D} {c : E} {Q : QR} {X : QX} {r : Res} : kCh2 C o p x c Q X r e = Wo (prim o [x, r.d]) (kLk3 C c (kCh5 p r.d Q) X Q e) := rfl
def kCh1 (C : Cfg) (o p : Op) (b c : E) (Q : QR) (X : QX) : QR := fun r e => Wp (ev C b e) (kCh2 C o p r.d c Q X) X
theorem kCh1_u {o p : Op} {b c : E} {Q : QR} {X : QX} {r : Res} : kCh1 C o p b c Q X r e = Wp (ev C b e) (kCh2 C o p r.d c Q X) X := rfl
theorem fz_eq {m : M Res} {β : Type} {f : D → Env → Rs β} {Q : β → Env → Prop} {X : QX} {K : QR} (h : ∀ r e1, K r e1 = Wp (f r.d e1) Q X) : Wp ((fz m e).bind f) Q X = Wp (m e) K X := by
  unfold fz
  cases m e with
  | ok r e1 => exact (h r e1).symm
  | ex x e1 => rfl
  | no => rfl
theorem lk_eq {o : Option Res} {c : E} {K Q : QR} {X : QX} {f : D → Env → Rs Res} (h : ∀ r e1, K r e1 = Wp (f r.d e1) Q X) : Wp (match o with
    | some (.val (.bl true)) => (fz (ev C c) e).bind f
    | some (.val (.bl false)) => .ok (.val (.bl false)) e
    | _ => .no) Q X = Wo o (kLk3 C c K X Q e) := by
  cases o with
  | none => rfl
  | some r =>
    cases r with
    | new d => rfl
    | val d =>
      cases d <;> first | rfl | skip
      rename_i t
      cases t
      · rfl
      · exact fz_eq h
theorem of_eq {o : Option Res} {Q : QR} {X : QX} : Wp (ofO o e) Q X = Wo o (kE Q e) := by cases o <;> rfl
theorem w_chain {o p : Op} {a b c : E} {Q : QR} {X : QX} : Wp (ev C (.chain o p a b c) e) Q X = Wp (ev C a e) (kCh1 C o p b c Q X) X := by
  simp only [ev]
  refine fz_eq fun r e1 => ?_
  show Wp (ev C b e1) (kCh2 C o p r.d c Q X) X = _
  refine (fz_eq fun r2 e2 => ?_).symm
  exact (lk_eq fun r3 e3 => of_eq.symm).symm
def kC5 (C : Cfg) (p q : Op) (y : D) (d : E) (Q : QR) (X : QX) : QR := fun r e => Wo (prim p [y, r.d]) (kLk3 C d (kCh5 q r.d Q) X Q e)
theorem kC5_u {p q : Op} {y : D} {d : E} {Q : QR} {X : QX} {r : Res} : kC5 C p q y d Q X r e = Wo (prim p [y, r.d]) (kLk3 C d (kCh5 q r.d Q) X Q e) := rfl
def kC2 (C : Cfg) (o p q : Op) (x : D) (c d : E) (Q : QR) (X : QX) : QR := fun r e => Wo (prim o [x, r.d]) (kLk3 C c (kC5 C p q r.d d Q X) X Q e)
theorem kC2_u {o p q : Op} {x : D} {c d : E} {Q : QR} {X : QX} {r : Res} : kC2 C o p q x c d Q X r e = Wo (prim o [x, r.d]) (kLk3 C c (kC5 C p q r.d d Q X) X Q e) := rfl
def kC1 (C : Cfg) (o p q : Op) (b c d : E) (Q : QR) (X : QX) : QR := fun r e => Wp (ev C b e) (kC2 C o p q r.d c d Q X) X
theorem kC1_u {o p q : Op} {b c d : E} {Q : QR} {X : QX} {r : Res} : kC1 C o p q b c d Q X r e = Wp (ev C b e) (kC2 C o p q r.d c d Q X) X := rfl
theorem w_chain3 {o p q : Op} {a b c d : E} {Q : QR} {X : QX} : Wp (ev C (.chain3 o p q a b c d) e) Q X = Wp (ev C a e) (kC1 C o p q b c d Q X) X := by
  simp only [ev]
  refine fz_eq fun r e1 => ?_
  show Wp (ev C b e1) (kC2 C o p q r.d c d Q X) X = _
  refine (fz_eq fun r2 e2 => ?_).symm
  refine (lk_eq fun r3 e3 => ?_).symm
  exact (lk_eq fun r4 e4 => of_eq.symm).symm
/-! calls -/
def kB2 (Q : QR) (r : Res) : Env → Prop := fun e => Q r e
theorem kB2_u {Q : QR} {r : Res} : kB2 Q r e = Q r e := rfl
def kBack (Q : QR) (e : Env) (is : List Nat) : Res → List D → Prop := fun r fin => Wo (putBack e is fin) (kB2 Q r)
theorem kBack_u {Q : QR} {is : List Nat} {r : Res} {fin : List D} : kBack Q e is r fin = Wo (putBack e is fin) (kB2 Q r) := rfl
def kBackX (X : QX) (e : Env) (is : List Nat) : Xc → List D → Prop := fun x fin => Wo (putBack e is fin) (X x)
theorem kBackX_u {X : QX} {is : List Nat} {x : Xc} {fin : List D} : kBackX X e is x fin = Wo (putBack e is fin) (X x) := rfl
def kCall2 (F : Fn) (Q : QR) (X : QX) (e : Env) (is : List Nat) : Option (List Arg) → Prop
  | some as => nodup is = true ∧ Wf (F as) (kBack Q e is) (kBackX X e is)
  | none => False
theorem kCall2_s {F : Fn} {Q : QR} {X : QX} {is : List Nat} {as : List Arg} : kCall2 F Q X e is (some as) = (nodup is = true ∧ Wf (F as) (kBack Q e is) (kBackX X e is)) := rfl
def kCall (F : Fn) (Q : QR) (X : QX) : List Opd → Env → Prop := fun os e => kCall2 F Q X e (muts e os) (toArgs e os)
theorem kCall_u {F : Fn} {Q : QR} {X : QX} {os : List Opd} : kCall F Q X os e = kCall2 F Q X e (muts e os) (toArgs e os) := rfl
theorem call_eq {F : Fn} {m : M (List Opd)} {Q : QR} {X : QX} : Wp (callM F m e) Q X = Wp (m e) (kCall F Q X) X := by
  unfold callM
  cases m e with
  | ok os e1 =>
    show Wp (match toArgs e1 os with | none => .no | some as => _) Q X = kCall2 F Q X e1 (muts e1 os) (toArgs e1 os)
    cases toArgs e1 os with
    | none => rfl
    | some as =>
      show Wp (if nodup (muts e1 os) = true then _ else _) Q X = (nodup (muts e1 os) = true ∧ _)
      cases nodup (muts e1 os) with
      | false => simp [Wp]
      | true =>
        simp only [if_true, true_and]
        cases F as with
        | no => rfl
        | ok r fin =>
          show Wp (match putBack e1 (muts e1 os) fin with | some e2 => Rs.ok r e2 | none => .no) Q X = Wo (putBack e1 (muts e1 os) fin) (kB2 Q r)
          cases putBack e1 (muts e1 os) fin <;> rfl
        | ex x fin =>
          show Wp (match putBack e1 (muts e1 os) fin with | some e2 => Rs.ex x e2 | none => .no) Q X = Wo (putBack e1 (muts e1 os) fin) (X x)
          cases putBack e1 (muts e1 os) fin <;> rfl
  | ex x e1 => rfl
  | no => rfl
theorem w_call {f : Nat} {as : List E} {Q : QR} {X : QX} : Wp (ev C (.call f as) e) Q X = Wp (evs C as e) (kCall (C.fns f) Q X) X := by
  simp only [ev]
  exact call_eq
def kCv2 (C : Cfg) (as : List E) (Q : QR) (X : QX) (e : Env) : Option Fn → Prop
  | some F => Wp (evs C as e) (kCall F Q X) X
  | none => False
theorem kCv2_s {as : List E} {Q : QR} {X : QX} {F : Fn} : kCv2 C as Q X e (some F) = Wp (evs C as e) (kCall F Q X) X := rfl
def kCv (C : Cfg) (as : List E) (Q : QR) (X : QX) : QR
  | .val (.fn g), e => kCv2 C as Q X e (C.fv g)
  | _, _ => False
theorem kCv_u {as : List E} {Q : QR} {X : QX} {g : Nat} : kCv C as Q X (.val (.fn g)) e = kCv2 C as Q X e (C.fv g) := rfl
theorem w_callV {f : E} {as : List E} {Q : QR} {X : QX} : Wp (ev C (.callV f as) e) Q X = Wp (ev C f e) (kCv C as Q X) X := by
  simp only [ev]
  cases ev C f e with
  | ok r e1 =>
    cases r with
    | new d => rfl
    | val d =>
      cases d <;> first | rfl | skip
      rename_i g
      show Wp (match C.fv g with | some F => callM F (evs C as) e1 | none => .no) Q X = kCv2 C as Q X e1 (C.fv g)
      cases C.fv g with
      | none => rfl
      | some F => exact call_eq
  | ex x e1 => rfl
  | no => rfl
/-! {k: v} -/
def kD1c (x : D) (Q : QR) : QR := fun r e => x.isKey = true ∧ Q (.new (.dct false [(x, r.d)])) e
theorem kD1c_u {x : D} {Q : QR} {r : Res} : kD1c x Q r e = (x.isKey = true ∧ Q (.new (.dct false [(x, r.d)])) e) := rfl
def kD1 (C : Cfg) (v : E) (Q : QR) (X : QX) : QR := fun r e => Wp (ev C v e) (kD1c r.d Q) X
theorem kD1_u {v : E} {Q : QR} {X : QX} {r : Res} : kD1 C v Q X r e = Wp (ev C v e) (kD1c r.d Q) X := rfl
theorem w_dct1 {k v : E} {Q : QR} {X : QX} : Wp (ev C (.dct1 k v) e) Q X = Wp (ev C k e) (kD1 C v Q X) X := by
  simp only [ev]
  refine fz_eq fun r e1 => ?_
  show Wp (ev C v e1) (kD1c r.d Q) X = _
  refine (fz_eq fun r2 e2 => ?_).symm
  show (r.d.isKey = true ∧ _) = _
  cases h : r.d.isKey with
  | true => simp [Wp]
  | false => simp [Wp]
/-! comprehensions -/
def kCm4 (Q : QR) (e0 : Env) (own : List Nat) : List D → Env → Prop := fun ds e2 => Q (.new (.lst ds)) (backE e2 e0 own)
theorem kCm4_u {Q : QR} {e0 : Env} {own : List Nat} {ds : List D} : kCm4 Q e0 own ds e = Q (.new (.lst ds)) (backE e e0 own) := rfl
def kCm (C : Cfg) (tg : Tg) (own : List Nat) (cs : List E) (elt : E) (Q : QR) : Env → List D → Prop := fun e xs => Wp (compL tg own (evAll C cs) (fz (ev C elt)) xs [] (hideE e own)) (kCm4 Q e own) kNo
theorem kCm_u {tg : Tg} {own : List Nat} {cs : List E} {elt : E} {Q : QR} {xs : List D} : kCm C tg own cs elt Q e xs = Wp (compL tg own (evAll C cs) (fz (ev C elt)) xs [] (hideE e own)) (kCm4 Q e own) kNo := rfl
def kDm4 (t : Bool) (Q : QR) (e0 : Env) (own : List Nat) : List (D × D) → Env → Prop := fun ds e2 => Q (.new (.dct t ds)) (backE e2 e0 own)
theorem kDm4_u {t : Bool} {Q : QR} {e0 : Env} {own : List Nat} {ds : List (D × D)} : kDm4 t Q e0 own ds e = Q (.new (.dct t ds)) (backE e e0 own) := rfl
def kDm (C : Cfg) (t : Bool) (tg : Tg) (own : List Nat) (cs : List E) (kx vx : E) (Q : QR) : Env → List D → Prop := fun e xs => Wp (dcompL t tg own (evAll C cs) (fz (ev C kx)) (fz (ev C vx)) xs [] (hideE e own)) (kDm4 t Q e own) kNo
theorem kDm_u {t : Bool} {tg : Tg} {own : List Nat} {cs : List E} {kx vx : E} {Q : QR} {xs : List D} : kDm C t tg own cs kx vx Q e xs = Wp (dcompL t tg own (evAll C cs) (fz (ev C kx)) (fz (ev C vx)) xs [] (hideE e own)) (kDm4 t Q e own) kNo := rfl
theorem w_dcomp {t : Bool} {k : ItK} {as : List E} {tg : Tg} {own : List Nat} {cs : List E} {kx vx : E} {Q : QR} {X : QX} : Wp (ev C (.dcomp t k as tg own cs kx vx) e) Q X = Wp (evs C as e) (kIt k (kDm C t tg own cs kx vx Q)) kNo := by
  simp only [ev, dcompM]
  refine it_eq fun e1 xs => ?_
  show Wp (dcompL t tg own (evAll C cs) (fz (ev C kx)) (fz (ev C vx)) xs [] (hideE e1 own)) (kDm4 t Q e1 own) kNo = _
  cases dcompL t tg own (evAll C cs) (fz (ev C kx)) (fz (ev C vx)) xs [] (hideE e1 own) <;> rfl
def kCmm (C : Cfg) (tg : Tg) (own : List Nat) (k1 : ItK) (as1 : List E) (tg1 : Tg) (own1 : List Nat) (cs : List E) (elt : E) (Q : QR) : Env → List D → Prop := fun e xs => Wp (compL2 tg own (itM k1 (evs C as1)) tg1 own1 (evAll C cs) (fz (ev C elt)) xs [] (hideE e own)) (kCm4 Q e own) kNo
theorem kCmm_u {tg : Tg} {own : List Nat} {k1 : ItK} {as1 : List E} {tg1 : Tg} {own1 : List Nat} {cs : List E} {elt : E} {Q : QR} {xs : List D} : kCmm C tg own k1 as1 tg1 own1 cs elt Q e xs = Wp (compL2 tg own (itM k1 (evs C as1)) tg1 own1 (evAll C cs) (fz (ev C elt)) xs [] (hideE e own)) (kCm4 Q e own) kNo := rfl
theorem w_comp2 {k k1 : ItK} {as as1 : List E} {tg tg1 : Tg} {own own1 : List Nat} {cs : List E} {elt : E} {Q : QR} {X : QX} : Wp (ev C (.comp2 k as tg own k1 as1 tg1 own1 cs elt) e) Q X = Wp (evs C as e) (kIt k (kCmm C tg own k1 as1 tg1 own1 cs elt Q)) kNo := by
  simp only [ev, compM2]
  refine it_eq fun e1 xs => ?_
  show Wp (compL2 tg own (itM k1 (evs C as1)) tg1 own1 (evAll C cs) (fz (ev C elt)) xs [] (hideE e1 own)) (kCm4 Q e1 own) kNo = _
  cases compL2 tg own (itM k1 (evs C as1)) tg1 own1 (evAll C cs) (fz (ev C elt)) xs [] (hideE e1 own) <;> rfl
theorem w_comp {k : ItK} {as : List E} {tg : Tg} {own : List Nat} {cs : List E} {elt : E} {Q : QR} {X : QX} : Wp (ev C (.comp k as tg own cs elt) e) Q X = Wp (evs C as e) (kIt k (kCm C tg own cs elt Q)) kNo := by
  simp only [ev, compM]
  refine it_eq fun e1 xs => ?_
  show Wp (compL tg own (evAll C cs) (fz (ev C elt)) xs [] (hideE e1 own)) (kCm4 Q e1 own) kNo = _
  cases compL tg own (evAll C cs) (fz (ev C elt)) xs [] (hideE e1 own) <;> rfl
/-! operands -/
theorem w_en {Q : List Opd → Env → Prop} {X : QX} : Wp (evs C [] e) Q X = Q [] e := by simp only [evs]; rfl
def kCo (o : Opd) (Q : List Opd → Env → Prop) : List Opd → Env → Prop := fun os e => Q (o :: os) e
theorem kCo_u {o : Opd} {os : List Opd} {Q : List Opd → Env → Prop} : kCo o Q os e = Q (o :: os) e := rfl
def kEv (C : Cfg) (as : List E) (Q : List Opd → Env → Prop) (X : QX) : Opd → Env → Prop := fun o e => Wp (evs C as e) (kCo o Q) X
theorem kEv_u {as : List E} {Q : List Opd → Env → Prop} {X : QX} {o : Opd} : kEv C as Q X o e = Wp (evs C as e) (kCo o Q) X := rfl
theorem w_ec {a : E} {as : List E} {Q : List Opd → Env → Prop} {X : QX} : Wp (evs C (a :: as) e) Q X = Wp (opdM a (ev C a) e) (kEv C as Q X) X := by
  simp only [evs]
  cases opdM a (ev C a) e with
  | ok o e1 =>
    show Wp ((evs C as e1).bind fun os e2 => .ok (o :: os) e2) Q X = Wp (evs C as e1) (kCo o Q) X
    cases evs C as e1 <;> rfl
  | ex x e1 => rfl
  | no => rfl
def kPk (i : Nat) (Q : Opd → Env → Prop) (e : Env) : Slot → Prop
  | .un => False
  | _ => Q (.pk i) e
theorem w_pk {i : Nat} {m : M Res} {Q : Opd → Env → Prop} {X : QX} : Wp (opdM (.pk i) m e) Q X = kPk i Q e (slot e i) := by
  simp only [opdM]
  cases slot e i <;> rfl
theorem kPk_val {i : Nat} {Q : Opd → Env → Prop} {d : D} : kPk i Q e (.val d) = Q (.pk i) e := rfl
theorem kPk_own {i : Nat} {Q : Opd → Env → Prop} {d : D} : kPk i Q e (.own d) = Q (.pk i) e := rfl
theorem kPk_par {i : Nat} {Q : Opd → Env → Prop} {d : D} : kPk i Q e (.par d) = Q (.pk i) e := rfl
def kD (Q : Opd → Env → Prop) : QR := fun r e => Q (.d r.d) e
theorem kD_u {Q : Opd → Env → Prop} {r : Res} : kD Q r e = Q (.d r.d) e := rfl
theorem opd_eq {m : M Res} {Q : Opd → Env → Prop} {X : QX} : Wp ((fz m e).bind fun d e1 => .ok (.d d) e1) Q X = Wp (m e) (kD Q) X := fz_eq fun r e1 => rfl
section
variable {m : M Res} {Q : Opd → Env → Prop} {X : QX}
theorem od_var {i : Nat} : Wp (opdM (.var i) m e) Q X = Wp (m e) (kD Q) X := opd_eq
theorem od_cst {d : D} : Wp (opdM (.cst d) m e) Q X = Wp (m e) (kD Q) X := opd_eq
theorem od_glb {x : Str} {d : D} : Wp (opdM (.glb x d) m e) Q X = Wp (m e) (kD Q) X := opd_eq
theorem od_op {o : Op} {as : List E} : Wp (opdM (.op o as) m e) Q X = Wp (m e) (kD Q) X := opd_eq
theorem od_and {a b : E} : Wp (opdM (.and a b) m e) Q X = Wp (m e) (kD Q) X := opd_eq
theorem od_or {a b : E} : Wp (opdM (.or a b) m e) Q X = Wp (m e) (kD Q) X := opd_eq
theorem od_not {a : E} : Wp (opdM (.not a) m e) Q X = Wp (m e) (kD Q) X := opd_eq
theorem od_ite {c a b : E} : Wp (opdM (.ite c a b) m e) Q X = Wp (m e) (kD Q) X := opd_eq
theorem od_chain {o p : Op} {a b c : E} : Wp (opdM (.chain o p a b c) m e) Q X = Wp (m e) (kD Q) X := opd_eq
theorem od_chain3 {o p q : Op} {a b c d : E} : Wp (opdM (.chain3 o p q a b c d) m e) Q X = Wp (m e) (kD Q) X := opd_eq
theorem od_fnv {x : Str} {g : Nat} : Wp (opdM (.fnv x g) m e) Q X = Wp (m e) (kD Q) X := opd_eq
theorem od_callV {f : E} {as : List E} : Wp (opdM (.callV f as) m e) Q X = Wp (m e) (kD Q) X := opd_eq
theorem od_call {f : Nat} {as : List E} : Wp (opdM (.call f as) m e) Q X = Wp (m e) (kD Q) X := opd_eq
theorem od_dct1 {a b : E} : Wp (opdM (.dct1 a b) m e) Q X = Wp (m e) (kD Q) X := opd_eq
theorem od_comp2 {k k1 : ItK} {as as1 : List E} {tg tg1 : Tg} {own own1 : List Nat} {cs : List E} {a : E} : Wp (opdM (.comp2 k as tg own k1 as1 tg1 own1 cs a) m e) Q X = Wp (m e) (kD Q) X := opd_eq
theorem od_dcomp {t : Bool} {k : ItK} {as : List E} {tg : Tg} {own : List Nat} {cs : List E} {a b : E} : Wp (opdM (.dcomp t k as tg own cs a b) m e) Q X = Wp (m e) (kD Q) X := opd_eq
theorem od_comp {k : ItK} {as : List E} {tg : Tg} {own : List Nat} {cs : List E} {a : E} : Wp (opdM (.comp k as tg own cs a) m e) Q X = Wp (m e) (kD Q) X := opd_eq
end
def kFz (Q : D → Env → Prop) : QR := fun r e => Q r.d e
theorem kFz_u {Q : D → Env → Prop} {r : Res} : kFz Q r e = Q r.d e := rfl
theorem w_fz {m : M Res} {Q : D → Env → Prop} {X : QX} : Wp (fz m e) Q X = Wp (m e) (kFz Q) X := by
  unfold fz
  cases m e <;> rfl
theorem w_an {Q : Bool → Env → Prop} {X : QX} : Wp (evAll C [] e) Q X = Q true e := by simp only [evAll]; rfl
def kAl2 (C : Cfg) (cs : List E) (Q : Bool → Env → Prop) (X : QX) (e : Env) : Bool → Prop
  | true => Wp (evAll C cs e) Q X
  | false => Q false e
def kAl (C : Cfg) (cs : List E) (Q : Bool → Env → Prop) (X : QX) : QR
  | .val (.bl t), e => kAl2 C cs Q X e t
  | _, _ => False
theorem kAl_u {cs : List E} {Q : Bool → Env → Prop} {X : QX} {t : Bool} : kAl C cs Q X (.val (.bl t)) e = kAl2 C cs Q X e t := rfl
theorem kAl_t {cs : List E} {Q : Bool → Env → Prop} {X : QX} : kAl2 C cs Q X e true = Wp (evAll C cs e) Q X := rfl
theorem kAl_f {cs : List E} {Q : Bool → Env → Prop} {X : QX} : kAl2 C cs Q X e false = Q false e := rfl
theorem w_ac {c : E} {cs : List E} {Q : Bool → Env → Prop} {X : QX} : Wp (evAll C (c :: cs) e) Q X = Wp (ev C c e) (kAl C cs Q X) X := by
  simp only [evAll]
  refine asB_eq (fun t e1 => ?_) fun r e1 h => not_bl (P := fun r => kAl C cs Q X r e1 = False) h (fun d => rfl) fun d hd => by cases d <;> first | rfl | exact absurd rfl (hd _)
  cases t <;> rfl
/-! defs -/
def kRun (as : List Arg) (Q : Res → List D → Prop) : QF
  | .nx, e => Wo (fins e as 0) (Q (.val .non))
  | .rt r, e => Wo (fins e as 0) (Q r)
  | _, _ => False
def kRunX (as : List Arg) (X : Xc → List D → Prop) : QX := fun x e => Wo (fins e as 0) (X x)
theorem kRun_nx {as : List Arg} {Q : Res → List D → Prop} : kRun as Q .nx e = Wo (fins e as 0) (Q (.val .non)) := rfl
theorem kRun_rt {as : List Arg} {Q : Res → List D → Prop} {r : Res} : kRun as Q (.rt r) e = Wo (fins e as 0) (Q r) := rfl
theorem kRunX_u {as : List Arg} {X : Xc → List D → Prop} {x : Xc} : kRunX as X x e = Wo (fins e as 0) (X x) := rfl
theorem w_run {np n : Nat} {body : List S} {as : List Arg} {Q : Res → List D → Prop} {X : Xc → List D → Prop} (h : as.length = np) : Wf (runD C np n body as) Q X = Wp (exs C body (as.map argSlot ++ List.replicate (n - np) .un)) (kRun as Q) (kRunX as X) := by
  unfold runD
  rw [if_pos h]
  cases exs C body (as.map argSlot ++ List.replicate (n - np) .un) with
  | ok f e1 =>
    cases f with
    | nx => show Wf (match fins e1 as 0 with | some l => _ | none => _) Q X = Wo (fins e1 as 0) _; cases fins e1 as 0 <;> rfl
    | rt r => show Wf (match fins e1 as 0 with | some l => _ | none => _) Q X = Wo (fins e1 as 0) _; cases fins e1 as 0 <;> rfl
    | bk => rfl
    | ct => rfl
  | ex x e1 => show Wf (match fins e1 as 0 with | some l => _ | none => _) Q X = Wo (fins e1 as 0) _; cases fins e1 as 0 <;> rfl
  | no => rfl
def kF2 (i : Nat) (l : List D → Prop) : Slot → Option (List D) → Prop
  | .par d, some r => l (d :: r)
  | _, _ => False
theorem w_fn {K : List D → Prop} {i : Nat} : Wo (fins e [] i) K = K [] := rfl
theorem w_fv {K : List D → Prop} {i : Nat} {d : D} {as : List Arg} : Wo (fins e (.val d :: as) i) K = Wo (fins e as (i + 1)) K := rfl
def kFl (d : D) (K : List D → Prop) : List D → Prop := fun l => K (d :: l)
theorem kFl_u {d : D} {l : List D} {K : List D → Prop} : kFl d K l = K (d :: l) := rfl
def kFs (as : List Arg) (i : Nat) (K : List D → Prop) (e : Env) : Slot → Prop
  | .par d => Wo (fins e as (i + 1)) (kFl d K)
  | _ => False
theorem kFs_p {as : List Arg} {i : Nat} {K : List D → Prop} {d : D} : kFs as i K e (.par d) = Wo (fins e as (i + 1)) (kFl d K) := rfl
theorem w_fl {K : List D → Prop} {i : Nat} {d : D} {as : List Arg} : Wo (fins e (.lent d :: as) i) K = kFs as i K e (slot e i) := by
  simp only [fins]
  cases hs : slot e i <;> cases hf : fins e as (i + 1) <;> simp [kFs, Wo, kFl, hf]
theorem wf_ok {r : FRes} {v : Res} {l : List D} (h : Wf r (fun a b => a = v ∧ b = l) kNo) : r = .ok v l := by
  cases r with
  | ok a b => obtain ⟨rfl, rfl⟩ := h; rfl
  | ex x b => exact h.elim
  | no => exact h.elim
theorem wf_mono {r : FRes} {Q Q' : Res → List D → Prop} {X X' : Xc → List D → Prop} (h : Wf r Q X) (h1 : ∀ a l, Q a l → Q' a l) (h2 : ∀ x l, X x l → X' x l) : Wf r Q' X' := by
  cases r with
  | ok a b => exact h1 _ _ h
  | ex x b => exact h2 _ _ h
  | no => exact h
theorem wp_mono {α : Type} {r : Rs α} {Q Q' : α → Env → Prop} {X X' : QX} (h : Wp r Q X) (h1 : ∀ a l, Q a l → Q' a l) (h2 : ∀ x l, X x l → X' x l) : Wp r Q' X' := by
  cases r with
  | ok a b => exact h1 _ _ h
  | ex x b => exact h2 _ _ h
  | no => exact h
end Itp
set_option Elab.async false
set_option linter.all false
set_option maxRecDepth 100000
set_option maxHeartbeats 4000000
namespace Itp
open PySem L2
variable {C : Cfg} {e : Env}
/-! ### slots and operands -/
theorem sl_0 {s : Slot} {r : List Slot} : slot (s :: r) 0 = s := rfl
theorem sl_S {s : Slot} {r : List Slot} {n : Nat} : slot (s :: r) (n + 1) = slot r n := rfl
def opC (a : Option D) (b : Option (List D)) : Option (List D) := match a, b with
  | some x, some xs => some (x :: xs)
  | _, _ => none
theorem opds_nil : opds e [] = some [] := rfl
theorem opds_cons {o : Opd} {os : List Opd} : opds e (o :: os) = opC (opd e o) (opds e os) := by
  simp only [opds, opC]
  all_goals (cases opd e o <;> cases opds e os <;> rfl)
theorem opC_s {x : D} {xs : List D} : opC (some x) (some xs) = some (x :: xs) := rfl
theorem opd_d {x : D} : opd e (.d x) = some x := rfl
theorem opd_pk {i : Nat} : opd e (.pk i) = (slot e i).d? := rfl
def arC (a : Option Arg) (b : Option (List Arg)) : Option (List Arg) := match a, b with
  | some x, some xs => some (x :: xs)
  | _, _ => none
def arS : Slot → Option Arg
  | .un => none
  | .val d => some (.val d)
  | .own d => some (.lent d)
  | .par d => some (.lent d)
theorem toArgs_nil : toArgs e [] = some [] := rfl
theorem toArgs_cons {o : Opd} {os : List Opd} : toArgs e (o :: os) = arC (toArg e o) (toArgs e os) := by
  simp only [toArgs, arC]
  all_goals (cases toArg e o <;> cases toArgs e os <;> rfl)
theorem arC_s {x : Arg} {xs : List Arg} : arC (some x) (some xs) = some (x :: xs) := rfl
theorem toArg_d {x : D} : toArg e (.d x) = some (.val x) := rfl
theorem toArg_k {i : Nat} : toArg e (.pk i) = arS (slot e i) := by
  simp only [toArg, arS]
  all_goals (cases slot e i <;> rfl)
theorem arS_val {d : D} : arS (.val d) = some (.val d) := rfl
theorem arS_own {d : D} : arS (.own d) = some (.lent d) := rfl
theorem arS_par {d : D} : arS (.par d) = some (.lent d) := rfl
theorem d_val {d : D} : (Slot.val d).d? = some d := rfl
theorem d_own {d : D} : (Slot.own d).d? = some d := rfl
theorem d_par {d : D} : (Slot.par d).d? = some d := rfl
theorem muts_nil : muts e [] = [] := rfl
theorem muts_d {x : D} {os : List Opd} : muts e (.d x :: os) = muts e os := rfl
def mutC (i : Nat) (b : Bool) (l : List Nat) : List Nat := if b then i :: l else l
theorem muts_pk {i : Nat} {os : List Opd} : muts e (.pk i :: os) = mutC i (slot e i).isMut (muts e os) := rfl
theorem mutC_t {i : Nat} {l : List Nat} : mutC i true l = i :: l := rfl
theorem mutC_f {i : Nat} {l : List Nat} : mutC i false l = l := rfl
theorem m_val {d : D} : (Slot.val d).isMut = false := rfl
theorem m_own {d : D} : (Slot.own d).isMut = true := rfl
theorem m_par {d : D} : (Slot.par d).isMut = true := rfl
theorem pb_nil : putBack e [] [] = some e := rfl
theorem pb_cons {i : Nat} {is : List Nat} {d : D} {ds : List D} : putBack e (i :: is) (d :: ds) = putBack (e.set i ((slot e i).put d)) is ds := rfl
theorem put_own {d d' : D} : (Slot.own d).put d' = .own d' := rfl
theorem put_par {d d' : D} : (Slot.par d).put d' = .par d' := rfl
theorem nd_nil : nodup [] = true := rfl
theorem nd_one {i : Nat} : nodup [i] = true := rfl
theorem ie_nil : ([] : List Nat).isEmpty = true := rfl
theorem ie_cons {i : Nat} {l : List Nat} : (i :: l).isEmpty = false := rfl
theorem as_v {d : D} : argSlot (.val d) = .val d := rfl
theorem as_l {d : D} : argSlot (.lent d) = .par d := rfl
theorem rd_v {d : D} : (Res.val d).d = d := rfl
theorem rd_n {d : D} : (Res.new d).d = d := rfl
theorem rs_v {d : D} : (Res.val d).slot = .val d := rfl
theorem rs_n {d : D} : (Res.new d).slot = .own d := rfl
theorem ip_pk {i : Nat} : isPk (.pk i) = true := rfl
theorem ip_d {d : D} : isPk (.d d) = false := rfl
/-! ### operations -/
section
variable {K : Res → Prop}
theorem wo_small {α : Type} {c : Bool} {a : α} {Q : α → Prop} : Wo (small c a) Q = (c = true ∧ Q a) := by
  unfold small
  cases c <;> simp [Wo]
def kV (K : Res → Prop) : D → Prop := fun d => K (.val d)
theorem kV_u {d : D} : kV K d = K (.val d) := rfl
def kVI (K : Res → Prop) : Int → Prop := fun d => K (.val (.int d))
theorem kVI_u {d : Int} : kVI K d = K (.val (.int d)) := rfl
def kVC (K : Res → Prop) : Nat → Prop := fun d => K (.val (.str [d]))
theorem kVC_u {d : Nat} : kVC K d = K (.val (.str [d])) := rfl
theorem beq_dec {α : Type} [BEq α] [LawfulBEq α] [DecidableEq α] (a b : α) : (a == b) = decide (a = b) := by
  by_cases h : a = b
  · simp [h]
  · simp [h]
theorem p_addI {a b : Int} : Wo (prim .add [.int a, .int b]) K = K (.val (.int (a + b))) := rfl
theorem p_addS {a b : List Nat} : Wo (prim .add [.str a, .str b]) K = (a.length + b.length ≤ big ∧ K (.val (.str (a ++ b)))) := by
  simp only [prim, pAdd, wo_small, decide_eq_true_eq]
theorem p_addL {a b : List D} : Wo (prim .add [.lst a, .lst b]) K = (a.length + b.length ≤ big ∧ K (.new (.lst (a ++ b)))) := by
  simp only [prim, pAdd, wo_small, decide_eq_true_eq]
theorem p_addT {a b : List D} : Wo (prim .add [.tup a, .tup b]) K = (a.length + b.length ≤ big ∧ K (.val (.tup (a ++ b)))) := by
  simp only [prim, pAdd, wo_small, decide_eq_true_eq]
theorem p_addF {a b : List D} : Wo (prim .add [.ftp a, .tup b]) K = ((a.length + b.length ≤ big ∧ b ≠ []) ∧ K (.val (.tup (a ++ b)))) := by
  simp only [prim, pAdd, wo_small, Bool.and_eq_true, decide_eq_true_eq, Bool.not_eq_true', List.isEmpty_eq_false_iff]
theorem p_eqF {a : List D} {b : D} : Wo (prim .eq [.ftp a, b]) K = (((D.ftp a).plain 64 = true ∧ b.plain 64 = true) ∧ K (.val (.bl (D.eqv (.ftp a) b)))) := by
  simp only [prim, pEq, wo_small, Bool.and_eq_true]
theorem p_neF {a : List D} {b : D} : Wo (prim .ne [.ftp a, b]) K = (((D.ftp a).plain 64 = true ∧ b.plain 64 = true) ∧ K (.val (.bl (!D.eqv (.ftp a) b)))) := by
  simp only [prim, pNe, wo_small, Bool.and_eq_true]
theorem p_lenF {xs : List D} : Wo (prim .len [.ftp xs]) K = K (.val (.int xs.length)) := rfl
theorem p_listF {xs : List D} : Wo (prim .list [.ftp xs]) K = K (.new (.lst xs)) := rfl
theorem p_ftup {xs : List D} : Wo (prim .ftup [.lst xs]) K = K (.val (.ftp xs)) := rfl
theorem p_sF1 {xs : List D} {a : Int} : Wo (prim (.slc true false) [.ftp xs, .int a]) K = ((cut xs (some a) none).length < xs.length ∧ K (.val (.tup (cut xs (some a) none)))) := by
  simp only [prim, pSlc, wo_small, decide_eq_true_eq]
theorem p_sF3 {xs : List D} {a b : Int} : Wo (prim (.slc true true) [.ftp xs, .int a, .int b]) K = ((cut xs (some a) (some b)).length < xs.length ∧ K (.val (.tup (cut xs (some a) (some b))))) := by
  simp only [prim, pSlc, wo_small, decide_eq_true_eq]
def kLs (K : Res → Prop) : List Int → Prop := fun ns => ns.length ≤ 4000 ∧ K (.val (.int (sdL ns).length))
theorem kLs_u {ns : List Int} : kLs K ns = (ns.length ≤ 4000 ∧ K (.val (.int (sdL ns).length))) := rfl
theorem p_lset {xs : List D} : Wo (prim .lset [.lst xs]) K = Wo (ints? xs) (kLs K) := by
  simp only [prim, pLset]
  cases ints? xs with
  | none => rfl
  | some l => simp only [Option.bind_some, wo_small, decide_eq_true_eq]; rfl
theorem i_ftp {KL : List D → Prop} {xs : List D} : Wo (items .seq [.ftp xs]) KL = KL xs := rfl
theorem i_eF {KL : List D → Prop} {xs : List D} : Wo (items .enum [.ftp xs]) KL = KL (enumF 0 xs) := rfl
theorem p_subI {a b : Int} : Wo (prim .sub [.int a, .int b]) K = K (.val (.int (a - b))) := rfl
theorem p_mulI {a b : Int} : Wo (prim .mul [.int a, .int b]) K = (((-(2 ^ 64) < b ∧ b < 2 ^ 64) ∨ (-(2 ^ 64) < a ∧ a < 2 ^ 64)) ∧ K (.val (.int (a * b)))) := by
  simp only [prim, pMul, wo_small, Bool.and_eq_true, Bool.or_eq_true, decide_eq_true_eq]
theorem p_mulS {a : List Nat} {k : Int} : Wo (prim .mul [.str a, .int k]) K = (((-100000 ≤ k ∧ k ≤ 100000) ∧ a.length * k.toNat ≤ big) ∧ K (.val (.str (List.replicate k.toNat a).flatten))) := by
  have hb : ((big : Nat) : Int) = 100000 := rfl
  simp only [prim, pMul, wo_small, Bool.and_eq_true, decide_eq_true_eq, hb]
theorem p_mulL {a : List D} {k : Int} : Wo (prim .mul [.lst a, .int k]) K = (((-100000 ≤ k ∧ k ≤ 100000) ∧ a.length * k.toNat ≤ big) ∧ K (.new (.lst (List.replicate k.toNat a).flatten))) := by
  have hb : ((big : Nat) : Int) = 100000 := rfl
  simp only [prim, pMul, wo_small, Bool.and_eq_true, decide_eq_true_eq, hb]
theorem p_mulT {a : List D} {k : Int} : Wo (prim .mul [.tup a, .int k]) K = ((((1 ≤ k ∧ k ≤ 1000) ∧ a.length ≤ 1000) ∧ a ≠ []) ∧ K (.val (.tup (List.replicate k.toNat a).flatten))) := by
  simp only [prim, pMul, wo_small, Bool.and_eq_true, decide_eq_true_eq, Bool.not_eq_true', List.isEmpty_eq_false_iff]
theorem p_fdiv {a b : Int} : Wo (prim .fdiv [.int a, .int b]) K = ((0 < b ∧ b < 2 ^ 200) ∧ K (.val (.int (a / b)))) := by
  simp only [prim, pFdiv, wo_small, Bool.and_eq_true, decide_eq_true_eq]
theorem p_mod {a b : Int} : Wo (prim .mod [.int a, .int b]) K = (0 < b ∧ K (.val (.int (a % b)))) := by
  simp only [prim, pMod, wo_small, decide_eq_true_eq]
theorem p_pow {a b : Int} : Wo (prim .pow [.int a, .int b]) K = (((0 ≤ b ∧ b ≤ 1000) ∧ (-(2 ^ 64) < a ∧ a < 2 ^ 64)) ∧ K (.val (.int (a ^ b.toNat)))) := by
  simp only [prim, pPow, wo_small, Bool.and_eq_true, decide_eq_true_eq]
  have : a.natAbs < 2 ^ 64 ↔ (-(2 ^ 64) < a ∧ a < 2 ^ 64) := by omega
  rw [this]
theorem p_neg {a : Int} : Wo (prim .neg [.int a]) K = K (.val (.int (-a))) := rfl
theorem p_eqI {a b : Int} : Wo (prim .eq [.int a, .int b]) K = K (.val (.bl (decide (a = b)))) := by
  rw [← beq_dec]; rfl
theorem p_eqS {a b : List Nat} : Wo (prim .eq [.str a, .str b]) K = K (.val (.bl (decide (a = b)))) := by
  rw [← beq_dec]; rfl
theorem p_neI {a b : Int} : Wo (prim .ne [.int a, .int b]) K = K (.val (.bl (!decide (a = b)))) := by
  rw [← beq_dec]; rfl
theorem p_neS {a b : List Nat} : Wo (prim .ne [.str a, .str b]) K = K (.val (.bl (!decide (a = b)))) := by
  rw [← beq_dec]; rfl
theorem p_eqL {a : List D} {b : D} : Wo (prim .eq [.lst a, b]) K = (((D.lst a).plain 64 = true ∧ b.plain 64 = true) ∧ K (.val (.bl (D.eqv (.lst a) b)))) := by
  simp only [prim, pEq, wo_small, Bool.and_eq_true]
theorem p_eqT {a : List D} {b : D} : Wo (prim .eq [.tup a, b]) K = (((D.tup a).plain 64 = true ∧ b.plain 64 = true) ∧ K (.val (.bl (D.eqv (.tup a) b)))) := by
  simp only [prim, pEq, wo_small, Bool.and_eq_true]
theorem p_eqN {b : D} : Wo (prim .eq [.non, b]) K = ((D.non.plain 64 = true ∧ b.plain 64 = true) ∧ K (.val (.bl (D.eqv .non b)))) := by
  simp only [prim, pEq, wo_small, Bool.and_eq_true]
theorem p_eqB {a : Bool} {b : D} : Wo (prim .eq [.bl a, b]) K = (((D.bl a).plain 64 = true ∧ b.plain 64 = true) ∧ K (.val (.bl (D.eqv (.bl a) b)))) := by
  simp only [prim, pEq, wo_small, Bool.and_eq_true]
theorem p_neL {a : List D} {b : D} : Wo (prim .ne [.lst a, b]) K = (((D.lst a).plain 64 = true ∧ b.plain 64 = true) ∧ K (.val (.bl (!D.eqv (.lst a) b)))) := by
  simp only [prim, pNe, wo_small, Bool.and_eq_true]
theorem p_neT {a : List D} {b : D} : Wo (prim .ne [.tup a, b]) K = (((D.tup a).plain 64 = true ∧ b.plain 64 = true) ∧ K (.val (.bl (!D.eqv (.tup a) b)))) := by
  simp only [prim, pNe, wo_small, Bool.and_eq_true]
theorem p_neN {b : D} : Wo (prim .ne [.non, b]) K = ((D.non.plain 64 = true ∧ b.plain 64 = true) ∧ K (.val (.bl (!D.eqv .non b)))) := by
  simp only [prim, pNe, wo_small, Bool.and_eq_true]
theorem p_neB {a : Bool} {b : D} : Wo (prim .ne [.bl a, b]) K = (((D.bl a).plain 64 = true ∧ b.plain 64 = true) ∧ K (.val (.bl (!D.eqv (.bl a) b)))) := by
  simp only [prim, pNe, wo_small, Bool.and_eq_true]
theorem p_lt {a b : Int} : Wo (prim .lt [.int a, .int b]) K = K (.val (.bl (decide (a < b)))) := rfl
theorem p_ltS {a b : List Nat} : Wo (prim .lt [.str a, .str b]) K = K (.val (.bl (decide (a < b)))) := rfl
theorem p_le {a b : Int} : Wo (prim .le [.int a, .int b]) K = K (.val (.bl (decide (a ≤ b)))) := rfl
theorem p_gt {a b : Int} : Wo (prim .gt [.int a, .int b]) K = K (.val (.bl (decide (b < a)))) := rfl
theorem p_ge {a b : Int} : Wo (prim .ge [.int a, .int b]) K = K (.val (.bl (decide (b ≤ a)))) := rfl
def isNonB : D → Bool
  | .non => true
  | _ => false
theorem p_isN {a : D} : Wo (prim .isN [a]) K = K (.val (.bl (isNonB a))) := by cases a <;> rfl
theorem p_notN {a : D} : Wo (prim .notN [a]) K = K (.val (.bl (!isNonB a))) := by cases a <;> rfl
theorem n_non : isNonB .non = true := rfl
theorem n_int {i : Int} : isNonB (.int i) = false := rfl
theorem n_str {i : List Nat} : isNonB (.str i) = false := rfl
theorem n_tup {i : List D} : isNonB (.tup i) = false := rfl
theorem n_ftp {i : List D} : isNonB (.ftp i) = false := rfl
theorem n_lst {i : List D} : isNonB (.lst i) = false := rfl
theorem n_bl {i : Bool} : isNonB (.bl i) = false := rfl
theorem p_inC {c : Nat} {s : List Nat} : Wo (prim .inn [.str [c], .str s]) K = K (.val (.bl (decide (c ∈ s)))) := rfl
theorem p_inL {x : D} {ys : List D} : Wo (prim .inn [x, .lst ys]) K = ((x.plain 64 = true ∧ (D.lst ys).plain 64 = true) ∧ K (.val (.bl (ys.any fun y => D.eqv y x)))) := by
  have h : prim .inn [x, .lst ys] = small (x.plain 64 && (D.lst ys).plain 64) (.val (.bl (ys.any fun y => D.eqv y x))) := by
    cases x <;> first | rfl | (rename_i s; match s with | [] => rfl | [_] => rfl | _ :: _ :: _ => rfl)
  rw [h, wo_small, Bool.and_eq_true]
theorem p_inT {x : D} {ys : List D} : Wo (prim .inn [x, .tup ys]) K = ((x.flat = true ∧ ys.all D.flat = true) ∧ K (.val (.bl (ys.any fun y => D.eqv y x)))) := by
  have h : prim .inn [x, .tup ys] = small (x.flat && ys.all D.flat) (.val (.bl (ys.any fun y => D.eqv y x))) := by
    cases x <;> first | rfl | (rename_i s; match s with | [] => rfl | [_] => rfl | _ :: _ :: _ => rfl)
  rw [h, wo_small, Bool.and_eq_true]
theorem p_niC {c : Nat} {s : List Nat} : Wo (prim .nin [.str [c], .str s]) K = K (.val (.bl (!decide (c ∈ s)))) := rfl
theorem p_niL {x : D} {ys : List D} : Wo (prim .nin [x, .lst ys]) K = ((x.plain 64 = true ∧ (D.lst ys).plain 64 = true) ∧ K (.val (.bl (!ys.any fun y => D.eqv y x)))) := by
  have h : prim .nin [x, .lst ys] = small (x.plain 64 && (D.lst ys).plain 64) (.val (.bl (!ys.any fun y => D.eqv y x))) := by
    cases x <;> first | rfl | (rename_i s; match s with | [] => rfl | [_] => rfl | _ :: _ :: _ => rfl)
  rw [h, wo_small, Bool.and_eq_true]
theorem p_niT {x : D} {ys : List D} : Wo (prim .nin [x, .tup ys]) K = ((x.flat = true ∧ ys.all D.flat = true) ∧ K (.val (.bl (!ys.any fun y => D.eqv y x)))) := by
  have h : prim .nin [x, .tup ys] = small (x.flat && ys.all D.flat) (.val (.bl (!ys.any fun y => D.eqv y x))) := by
    cases x <;> first | rfl | (rename_i s; match s with | [] => rfl | [_] => rfl | _ :: _ :: _ => rfl)
  rw [h, wo_small, Bool.and_eq_true]
theorem p_inD {x : D} {t : Bool} {kvs : List (D × D)} : Wo (prim .inn [x, .dct t kvs]) K = (keyOk t x = true ∧ K (.val (.bl (dget kvs x).isSome))) := by
  have h : prim .inn [x, .dct t kvs] = small (keyOk t x) (.val (.bl (dget kvs x).isSome)) := by
    cases x <;> first | rfl | (rename_i s; match s with | [] => rfl | [_] => rfl | _ :: _ :: _ => rfl)
  rw [h, wo_small]
theorem p_niD {x : D} {t : Bool} {kvs : List (D × D)} : Wo (prim .nin [x, .dct t kvs]) K = (keyOk t x = true ∧ K (.val (.bl (!(dget kvs x).isSome)))) := by
  have h : prim .nin [x, .dct t kvs] = small (keyOk t x) (.val (.bl (!(dget kvs x).isSome))) := by
    cases x <;> first | rfl | (rename_i s; match s with | [] => rfl | [_] => rfl | _ :: _ :: _ => rfl)
  rw [h, wo_small]
theorem p_ixD {t : Bool} {kvs : List (D × D)} {k : D} : Wo (prim .ix [.dct t kvs, k]) K = (keyOk t k = true ∧ Wo (dget kvs k) (kV K)) := by
  simp only [prim, pIx, small]
  cases keyOk t k with
  | false => simp [Wo]
  | true =>
    simp only [if_true, Option.bind_some, true_and]
    cases dget kvs k <;> rfl
theorem p_get {t : Bool} {kvs : List (D × D)} {k d : D} : Wo (prim .get [.dct t kvs, k, d]) K = (keyOk t k = true ∧ K (.val ((dget kvs k).getD d))) := by
  simp only [prim, pGet, wo_small]
theorem p_lenD {kvs : List (D × D)} : Wo (prim .len [.dct false kvs]) K = K (.val (.int kvs.length)) := rfl
theorem p_dct {t : Bool} : Wo (prim (.dct t) []) K = K (.new (.dct t [])) := rfl
theorem p_trng1 {n : Int} : Wo (prim .trng [.int n]) K = (okR 0 n = true ∧ K (.val (.tup (rngD 0 n.toNat)))) := by simp only [prim, pTrng, wo_small]
theorem p_trng2 {a b : Int} : Wo (prim .trng [.int a, .int b]) K = (okR a b = true ∧ K (.val (.tup (rngD a (b - a).toNat)))) := by simp only [prim, pTrng, wo_small]
theorem p_lrng1 {n : Int} : Wo (prim .lrng [.int n]) K = (okR 0 n = true ∧ K (.new (.lst (rngD 0 n.toNat)))) := by simp only [prim, pLrng, wo_small]
theorem p_lrng2 {a b : Int} : Wo (prim .lrng [.int a, .int b]) K = (okR a b = true ∧ K (.new (.lst (rngD a (b - a).toNat)))) := by simp only [prim, pLrng, wo_small]
theorem p_find1 {s : List Nat} {c : Nat} : Wo (prim .find [.str s, .str [c]]) K = K (.val (.int (findL c s 0))) := rfl
theorem p_find2 {s : List Nat} {c : Nat} {i : Int} : Wo (prim .find [.str s, .str [c], .int i]) K = ((0 ≤ i ∧ i ≤ s.length) ∧ K (.val (.int (findL c (s.drop i.toNat) i.toNat)))) := by
  simp only [prim, pFind, wo_small, Bool.and_eq_true, decide_eq_true_eq]
def kPos (K : Res → Prop) : Nat → Prop := fun n => K (.val (.int n))
theorem kPos_u {n : Nat} : kPos K n = K (.val (.int n)) := rfl
theorem p_indexL {xs : List D} {x : D} : Wo (prim .index [.lst xs, x]) K = ((x.flat = true ∧ xs.all D.flat = true) ∧ Wo (posOf x xs) (kPos K)) := by
  have h : prim .index [.lst xs, x] = (small (x.flat && xs.all D.flat) (posOf x xs)).bind fun (o : Option Nat) => o.map fun (n : Nat) => Res.val (.int n) := rfl
  rw [h]
  simp only [small, Bool.and_eq_true]
  by_cases q : x.flat = true ∧ xs.all D.flat = true
  · simp only [q, and_self, if_true, Option.bind_some, true_and]
    cases posOf x xs <;> rfl
  · rw [if_neg q]
    simp only [q, false_and]
    rfl
theorem p_indexF {xs : List D} {x : D} : Wo (prim .index [.ftp xs, x]) K = ((x.flat = true ∧ xs.all D.flat = true) ∧ Wo (posOf x xs) (kPos K)) := by
  have h : prim .index [.ftp xs, x] = (small (x.flat && xs.all D.flat) (posOf x xs)).bind fun (o : Option Nat) => o.map fun (n : Nat) => Res.val (.int n) := by cases x <;> rfl
  rw [h]
  simp only [small, Bool.and_eq_true]
  by_cases q : x.flat = true ∧ xs.all D.flat = true
  · simp only [q, and_self, if_true, Option.bind_some, true_and]
    cases posOf x xs <;> rfl
  · rw [if_neg q]
    simp only [q, false_and]
    rfl
theorem p_indexS {s : List Nat} {c : Nat} : Wo (prim .index [.str s, .str [c]]) K = (c ∈ s ∧ K (.val (.int (findL c s 0)))) := by
  simp only [prim, pIndex, wo_small, decide_eq_true_eq]
def kCnt (K : Res → Prop) (k : Int) : List Int → Prop := fun l => K (.val (.int (l.count k)))
theorem kCnt_u {k : Int} {l : List Int} : kCnt K k l = K (.val (.int (l.count k))) := rfl
theorem p_count {xs : List D} {k : Int} : Wo (prim .count [.lst xs, .int k]) K = Wo (ints? xs) (kCnt K k) := by
  show Wo ((ints? xs).map _) K = _
  cases ints? xs <;> rfl
def kSrt0 (K : Res → Prop) : List Int → Prop := fun l => K (.new (.lst ((isrt (fun a b => decide (a ≤ b)) l).map .int)))
theorem kSrt0_u {l : List Int} : kSrt0 K l = K (.new (.lst ((isrt (fun a b => decide (a ≤ b)) l).map .int))) := rfl
/-- sorted of a list: of numbers, or of texts -/
def srtL (xs : List D) : Option (List D) := match ints? xs with
  | some l => some ((isrt (fun a b => decide (a ≤ b)) l).map .int)
  | none => (strs? xs).map fun l => (srtS l).map .str
def kNl (K : Res → Prop) : List D → Prop := fun l => K (.new (.lst l))
theorem kNl_u {l : List D} : kNl K l = K (.new (.lst l)) := rfl
theorem p_srt {xs : List D} : Wo (prim .srt [.lst xs]) K = Wo (srtL xs) (kNl K) := by
  have h : prim .srt [.lst xs] = (srtL xs).map fun l => .new (.lst l) := by
    show (match ints? xs with
      | some l => some (Res.new (.lst ((isrt (fun a b => decide (a ≤ b)) l).map .int)))
      | none => (strs? xs).map fun l => .new (.lst ((srtS l).map .str))) = _
    unfold srtL
    cases ints? xs with
    | some l => rfl
    | none => simp only [Option.map_map]; rfl
  rw [h]
  cases srtL xs <;> rfl
theorem srtL_ints {xs : List D} {l : List Int} (h : ints? xs = some l) : srtL xs = some ((isrt (fun a b => decide (a ≤ b)) l).map .int) := by unfold srtL; rw [h]
def kSs (K : Res → Prop) : List (List Nat) → Prop := fun l => K (.new (.lst ((srtS l).map .str)))
theorem kSs_u {l : List (List Nat)} : kSs K l = K (.new (.lst ((srtS l).map .str))) := rfl
theorem p_srtD {kvs : List (D × D)} : Wo (prim .srt [.dct false kvs]) K = Wo (strs? (kvs.map (·.1))) (kSs K) := by
  show Wo ((strs? (kvs.map (·.1))).map _) K = _
  cases strs? (kvs.map (·.1)) <;> rfl
theorem p_listS {s : List Nat} : Wo (prim .list [.str s]) K = (s.length ≤ big ∧ K (.new (.lst (s.map fun c => .str [c])))) := by
  simp only [prim, pList, wo_small, decide_eq_true_eq]
def kSum (K : Res → Prop) : List Int → Prop := fun l => K (.val (.int l.sum))
theorem kSum_u {l : List Int} : kSum K l = K (.val (.int l.sum)) := rfl
theorem p_sumT {xs : List D} : Wo (prim .sum [.tup xs]) K = Wo (ints? xs) (kSum K) := by
  show Wo ((ints? xs).map fun l => Res.val (.int l.sum)) K = _
  cases ints? xs <;> rfl
theorem p_sum {xs : List D} : Wo (prim .sum [.lst xs]) K = Wo (ints? xs) (kSum K) := by
  show Wo ((ints? xs).map _) K = _
  cases ints? xs <;> rfl
theorem p_abs {a : Int} : Wo (prim .abs [.int a]) K = K (.val (.int (if a < 0 then -a else a))) := rfl
def kI (K : Res → Prop) : Int → Prop := fun l => K (.val (.int l))
theorem kI_u {l : Int} : kI K l = K (.val (.int l)) := rfl
/-- min of a list: of numbers, or of pairs -/
def minL (xs : List D) : Option D := match ints? xs with
  | some l => (minI l).map D.int
  | none => if pairK xs then minP xs else none
theorem p_minL {xs : List D} : Wo (prim .min [.lst xs]) K = Wo (minL xs) (kV K) := by
  have h : prim .min [.lst xs] = (minL xs).map .val := by
    show (match ints? xs with
      | some l => (minI l).map fun m => Res.val (.int m)
      | none => if pairK xs then (minP xs).map .val else none) = _
    unfold minL
    cases ints? xs with
    | some l => simp only [Option.map_map]; rfl
    | none => simp only; split <;> rfl
  rw [h]
  cases minL xs <;> rfl
theorem minL_ints {xs : List D} {l : List Int} (h : ints? xs = some l) : minL xs = (minI l).map D.int := by unfold minL; rw [h]
theorem p_maxL {xs : List D} : Wo (prim .max [.lst xs]) K = Wo ((ints? xs).bind maxI) (kI K) := by
  show Wo ((ints? xs).bind fun l => (maxI l).map fun m => Res.val (.int m)) K = _
  cases ints? xs with
  | none => rfl
  | some l => simp only [Option.bind_some]; cases maxI l <;> rfl
theorem p_ixL {xs : List D} {i : Int} : Wo (prim .ix [.lst xs, .int i]) K = Wo (at? xs i) (kV K) := by
  show Wo ((at? xs i).map Res.val) K = _
  cases at? xs i <;> rfl
theorem p_ixT {xs : List D} {i : Int} : Wo (prim .ix [.tup xs, .int i]) K = Wo (at? xs i) (kV K) := by
  show Wo ((at? xs i).map Res.val) K = _
  cases at? xs i <;> rfl
theorem p_ixF {xs : List D} {i : Int} : Wo (prim .ix [.ftp xs, .int i]) K = Wo (at? xs i) (kV K) := by
  show Wo ((at? xs i).map Res.val) K = _
  cases at? xs i <;> rfl
theorem p_ixR {xs : List Int} {i : Int} : Wo (prim .ix [.scr xs, .int i]) K = Wo (at? xs i) (kVI K) := by
  show Wo ((at? xs i).map fun n => Res.val (.int n)) K = _
  cases at? xs i <;> rfl
theorem p_ixS {xs : List Nat} {i : Int} : Wo (prim .ix [.str xs, .int i]) K = (xs.length ≤ big ∧ Wo (at? xs i) (kVC K)) := by
  simp only [prim, pIx, small]
  by_cases h : xs.length ≤ big
  · simp only [decide_eq_true h, if_true, h, true_and]
    show Wo ((at? xs i).map fun c => Res.val (.str [c])) K = _
    cases at? xs i <;> rfl
  · simp only [decide_eq_false h, h, false_and]
    rfl
theorem p_slS {a b : Option Int} {xs : List Nat} {lo hi : Bool} {l : List D} (h : prim (.slc lo hi) (.str xs :: l) = small (decide (xs.length ≤ big)) (.val (.str (cut xs a b)))) : Wo (prim (.slc lo hi) (.str xs :: l)) K = (xs.length ≤ big ∧ K (.val (.str (cut xs a b)))) := by
  rw [h, wo_small, decide_eq_true_eq]
theorem p_sS0 {xs : List Nat} : Wo (prim (.slc false false) [.str xs]) K = (xs.length ≤ big ∧ K (.val (.str (cut xs none none)))) := p_slS rfl
theorem p_sS1 {xs : List Nat} {a : Int} : Wo (prim (.slc true false) [.str xs, .int a]) K = (xs.length ≤ big ∧ K (.val (.str (cut xs (some a) none)))) := p_slS rfl
theorem p_sS2 {xs : List Nat} {a : Int} : Wo (prim (.slc false true) [.str xs, .int a]) K = (xs.length ≤ big ∧ K (.val (.str (cut xs none (some a))))) := p_slS rfl
theorem p_sS3 {xs : List Nat} {a b : Int} : Wo (prim (.slc true true) [.str xs, .int a, .int b]) K = (xs.length ≤ big ∧ K (.val (.str (cut xs (some a) (some b))))) := p_slS rfl
theorem p_sL1 {xs : List D} {a : Int} : Wo (prim (.slc true false) [.lst xs, .int a]) K = K (.new (.lst (cut xs (some a) none))) := rfl
theorem p_sL2 {xs : List D} {a : Int} : Wo (prim (.slc false true) [.lst xs, .int a]) K = K (.new (.lst (cut xs none (some a)))) := rfl
theorem p_sL3 {xs : List D} {a b : Int} : Wo (prim (.slc true true) [.lst xs, .int a, .int b]) K = K (.new (.lst (cut xs (some a) (some b)))) := rfl
theorem p_sT1 {xs : List D} {a : Int} : Wo (prim (.slc true false) [.tup xs, .int a]) K = K (.val (.tup (cut xs (some a) none))) := rfl
theorem p_sT2 {xs : List D} {a : Int} : Wo (prim (.slc false true) [.tup xs, .int a]) K = K (.val (.tup (cut xs none (some a)))) := rfl
theorem p_sT3 {xs : List D} {a b : Int} : Wo (prim (.slc true true) [.tup xs, .int a, .int b]) K = K (.val (.tup (cut xs (some a) (some b)))) := rfl
theorem p_revL {xs : List D} : Wo (prim .rev [.lst xs]) K = K (.new (.lst xs.reverse)) := rfl
theorem p_tup {xs : List D} : Wo (prim .tup xs) K = (xs.length ≤ big ∧ K (.val (.tup xs))) := by
  simp only [prim, pTup, wo_small, decide_eq_true_eq]
theorem p_lst {xs : List D} : Wo (prim .lst xs) K = (xs.length ≤ big ∧ K (.new (.lst xs))) := by
  simp only [prim, pLst, wo_small, decide_eq_true_eq]
theorem p_lenS {xs : List Nat} : Wo (prim .len [.str xs]) K = (xs.length ≤ big ∧ K (.val (.int xs.length))) := by
  simp only [prim, pLen, wo_small, decide_eq_true_eq]
theorem p_lenL {xs : List D} : Wo (prim .len [.lst xs]) K = K (.val (.int xs.length)) := rfl
theorem p_lenT {xs : List D} : Wo (prim .len [.tup xs]) K = K (.val (.int xs.length)) := rfl
theorem p_lenR {xs : List Int} : Wo (prim .len [.scr xs]) K = K (.val (.int xs.length)) := rfl
theorem p_int {a : Int} : Wo (prim .int [.int a]) K = K (.val (.int a)) := rfl
theorem p_intB {a : Bool} : Wo (prim .int [.bl a]) K = K (.val (.int (if a then 1 else 0))) := rfl
theorem p_intS1 {a : Nat} : Wo (prim .int [.str [a]]) K = (fig a = true ∧ K (.val (.int ((a : Int) - 48)))) := by
  simp only [prim, pInt, wo_small]
theorem p_intS2 {a b : Nat} : Wo (prim .int [.str [a, b]]) K = ((fig a = true ∧ fig b = true) ∧ K (.val (.int (10 * ((a : Int) - 48) + ((b : Int) - 48))))) := by
  simp only [prim, pInt, wo_small, Bool.and_eq_true]
theorem p_str {n : Int} : Wo (prim .str [.int n]) K = ((0 ≤ n ∧ n < 100) ∧ K (.val (.str (dec n.toNat)))) := by
  simp only [prim, pStr, wo_small, Bool.and_eq_true, decide_eq_true_eq]
def kSd (K : Res → Prop) : List Int → Prop := fun ns => ns.length < 60 ∧ K (.new (.lst ((sdL ns).map .int)))
theorem kSd_u {ns : List Int} : kSd K ns = (ns.length < 60 ∧ K (.new (.lst ((sdL ns).map .int)))) := rfl
theorem p_sset {xs : List D} : Wo (prim .sset [.tup xs]) K = Wo (ints? xs) (kSd K) := by
  simp only [prim, pSset]
  cases ints? xs with
  | none => rfl
  | some ns =>
    show Wo (small (decide (ns.length < 60)) (.new (.lst ((sdL ns).map .int)))) K = _
    rw [wo_small, decide_eq_true_eq]
    rfl
def kFst (K : Res → Prop) : List Nat → Prop := fun s => s.length ≤ big ∧ K (.val (.str s))
theorem kFst_u {s : List Nat} : kFst K s = (s.length ≤ big ∧ K (.val (.str s))) := rfl
theorem p_fst {ds : List D} : Wo (prim .fst ds) K = Wo (fstL ds) (kFst K) := by
  simp only [prim, pFst]
  cases fstL ds with
  | none => rfl
  | some s =>
    show Wo (small (decide (s.length ≤ big)) (.val (.str s))) K = _
    rw [wo_small, decide_eq_true_eq]
    rfl
theorem p_fst5 {a b : Int} {x y z : List Nat} : Wo (prim .fst [.int a, .str x, .int b, .str y, .str z]) K = ((0 ≤ a ∧ a < 100) ∧ (0 ≤ b ∧ b < 100) ∧ (dec a.toNat ++ (x ++ (dec b.toNat ++ (y ++ z)))).length ≤ big ∧ K (.val (.str (dec a.toNat ++ (x ++ (dec b.toNat ++ (y ++ z))))))) := by
  rw [p_fst]
  by_cases h1 : 0 ≤ a ∧ a < 100
  · by_cases h2 : 0 ≤ b ∧ b < 100
    · simp only [fstL, fstT, h1, h2, and_self, if_true, Option.bind_some, Option.map_some, Wo, kFst, List.append_nil, true_and]
    · simp only [fstL, fstT, h1, h2, and_self, if_true, if_false, Option.bind_some, Option.bind_none, Option.map_none, Wo, false_and, and_false]
  · simp only [fstL, fstT, h1, if_false, Option.bind_none, Wo, false_and]
theorem p_split {a : List Nat} {c : Nat} : Wo (prim .split [.str a, .str [c]]) K = (a.length ≤ big ∧ K (.new (.lst ((splitL c a).map .str)))) := by
  simp only [prim, pSplit, wo_small, decide_eq_true_eq]
theorem p_listL {xs : List D} : Wo (prim .list [.lst xs]) K = K (.new (.lst xs)) := rfl
theorem p_listT {xs : List D} : Wo (prim .list [.tup xs]) K = K (.new (.lst xs)) := rfl
theorem p_tupleL {xs : List D} : Wo (prim .tuple [.lst xs]) K = K (.val (.tup xs)) := rfl
theorem p_tupleT {xs : List D} : Wo (prim .tuple [.tup xs]) K = K (.val (.tup xs)) := rfl
theorem p_min {a b : Int} : Wo (prim .min [.int a, .int b]) K = K (.val (.int (if b < a then b else a))) := rfl
theorem p_max {a b : Int} : Wo (prim .max [.int a, .int b]) K = K (.val (.int (if b > a then b else a))) := rfl
def kAB (K : Res → Prop) : List Bool → Prop := fun l => K (.val (.bl (l.all id)))
theorem kAB_u {l : List Bool} : kAB K l = K (.val (.bl (l.all id))) := rfl
def kNB (K : Res → Prop) : List Bool → Prop := fun l => K (.val (.bl (l.any id)))
theorem kNB_u {l : List Bool} : kNB K l = K (.val (.bl (l.any id))) := rfl
theorem p_all {xs : List D} : Wo (prim .all [.lst xs]) K = Wo (bls? xs) (kAB K) := by
  show Wo ((bls? xs).map _) K = _
  cases bls? xs <;> rfl
theorem p_any {xs : List D} : Wo (prim .any [.lst xs]) K = Wo (bls? xs) (kNB K) := by
  show Wo ((bls? xs).map _) K = _
  cases bls? xs <;> rfl
theorem p_isi {ts : List Ty} {x : D} : Wo (prim (.isi ts) [x]) K = (typed x = true ∧ K (.val (.bl (ts.any (typOf x))))) := by
  simp only [prim, pIsi, wo_small]
def kJn (K : Res → Prop) (a : List Nat) : List (List Nat) → Prop := fun l => (l.map (·.length)).sum + l.length * a.length ≤ big ∧ K (.val (.str (joinL a l)))
theorem kJn_u {a : List Nat} {l : List (List Nat)} : kJn K a l = ((l.map (·.length)).sum + l.length * a.length ≤ big ∧ K (.val (.str (joinL a l)))) := rfl
theorem p_join {a : List Nat} {xs : List D} : Wo (prim .join [.str a, .lst xs]) K = Wo (strs? xs) (kJn K a) := by
  show Wo ((strs? xs).bind _) K = _
  cases strs? xs with
  | none => rfl
  | some l => simp only [Option.bind_some, wo_small, decide_eq_true_eq]; rfl
end
section
variable {K : List D → Prop}
theorem i_lst {xs : List D} : Wo (items .seq [.lst xs]) K = K xs := rfl
theorem i_tup {xs : List D} : Wo (items .seq [.tup xs]) K = K xs := rfl
theorem i_dk {t : Bool} {kvs : List (D × D)} : Wo (items .seq [.dct t kvs]) K = K (kvs.map (·.1)) := rfl
theorem i_di {t : Bool} {kvs : List (D × D)} : Wo (items .items [.dct t kvs]) K = K (kvs.map fun p => .tup [p.1, p.2]) := rfl
theorem i_str {s : List Nat} : Wo (items .seq [.str s]) K = K (s.map fun c => .str [c]) := rfl
theorem i_eL {xs : List D} : Wo (items .enum [.lst xs]) K = K (enumF 0 xs) := rfl
theorem i_eT {xs : List D} : Wo (items .enum [.tup xs]) K = K (enumF 0 xs) := rfl
theorem i_eS {s : List Nat} : Wo (items .enum [.str s]) K = K (enumF 0 (s.map fun c => .str [c])) := rfl
theorem i_r1 {n : Int} : Wo (items .rng [.int n]) K = (okI n = true ∧ K (rngs 0 n.toNat)) := by simp only [items, wo_small]
theorem i_r2 {a b : Int} : Wo (items .rng [.int a, .int b]) K = ((okI a = true ∧ okI b = true) ∧ K (rngs a (b - a).toNat)) := by simp only [items, wo_small, Bool.and_eq_true]
theorem i_r3 {a b : Int} : Wo (items .rng [.int a, .int b, .int (-1)]) K = ((okI a = true ∧ okI b = true) ∧ K (rngc a (-1) (a - b).toNat)) := by simp only [items, wo_small, Bool.and_eq_true, decide_true, and_true]
end
theorem okI_c {n : Int} (h1 : -1000000 ≤ n) (h2 : n ≤ 1000000) : okI n = true := by
  unfold okI
  simp only [Bool.and_eq_true, decide_eq_true_eq]
  omega
theorem cut_n {α : Type} {xs : List α} : cut xs none none = xs := by
  unfold cut HT.sIx
  simp
theorem cut_p {α : Type} {xs : List α} {b : Int} (h0 : 0 ≤ b) : cut xs none (some b) = xs.take b.toNat := by
  unfold cut HT.sIx
  simp only [List.drop_zero, Nat.sub_zero]
  rw [if_neg (by omega), List.take_eq_take_iff]
  omega
theorem cut_s {α : Type} {xs : List α} {a : Int} (h0 : 0 ≤ a) : cut xs (some a) none = xs.drop a.toNat := by
  unfold cut HT.sIx
  simp only
  rw [if_neg (by omega)]
  by_cases h : a.toNat ≤ xs.length
  · rw [Nat.min_eq_left h, List.take_of_length_le (by rw [List.length_drop]; omega)]
  · rw [Nat.min_eq_right (by omega), List.drop_of_length_le (Nat.le_refl _), List.drop_of_length_le (by omega), List.take_nil]
theorem at_nat {α : Type} {xs : List α} {i : Int} (h0 : 0 ≤ i) : at? xs i = xs[i.toNat]? := by
  unfold at? ixOf
  rw [if_pos h0]
  split
  · rfl
  · rename_i h
    show none = _
    rw [List.getElem?_eq_none (by omega)]
theorem at_mem {α : Type} {xs : List α} {i : Int} (h0 : 0 ≤ i) (h1 : i < xs.length) : ∃ a, at? xs i = some a ∧ a ∈ xs := by
  rw [at_nat h0]
  exact ⟨xs[i.toNat]'(by omega), List.getElem?_eq_getElem (by omega), List.getElem_mem _⟩
/-! ### loops -/
def kL (I : List D → Env → Prop) (Q : QF) (r : List D) : QF
  | .nx, e => I r e
  | .ct, e => I r e
  | .bk, e => Q .nx e
  | .rt v, e => Q (.rt v) e
theorem kL_nx {I : List D → Env → Prop} {Q : QF} {r : List D} : kL I Q r .nx e = I r e := rfl
theorem kL_ct {I : List D → Env → Prop} {Q : QF} {r : List D} : kL I Q r .ct e = I r e := rfl
theorem kL_bk {I : List D → Env → Prop} {Q : QF} {r : List D} : kL I Q r .bk e = Q .nx e := rfl
theorem kL_rt {I : List D → Env → Prop} {Q : QF} {r : List D} {v : Res} : kL I Q r (.rt v) e = Q (.rt v) e := rfl
def kBd (C : Cfg) (body : List S) (Q : QF) (X : QX) : Env → Prop := fun e => Wp (exs C body e) Q X
theorem kBd_u {body : List S} {Q : QF} {X : QX} : kBd C body Q X e = Wp (exs C body e) Q X := rfl
theorem w_forI {tg : Tg} {body : List S} {Q : QF} {X : QX} (I : List D → Env → Prop) : ∀ (xs : List D) (e : Env), I xs e → (∀ x r e, I (x :: r) e → Wo (bindT tg x e) (kBd C body (kL I Q r) X)) → (∀ e, I [] e → Q .nx e) → Wp (forL tg (exs C body) xs e) Q X
  | [], e, h0, st, en => en e h0
  | x :: xs, e, h0, st, en => by
    have s := st x xs e h0
    simp only [forL]
    cases hb : bindT tg x e with
    | none => rw [hb] at s; exact s.elim
    | some e1 =>
      rw [hb] at s
      have s : Wp (exs C body e1) (kL I Q xs) X := s
      show Wp ((exs C body e1).bind _) Q X
      cases hx : exs C body e1 with
      | no => rw [hx] at s; exact s
      | ex y e2 => rw [hx] at s; exact s
      | ok f e2 =>
        rw [hx] at s
        cases f with
        | nx => exact w_forI I xs e2 s st en
        | ct => exact w_forI I xs e2 s st en
        | bk => exact s
        | rt v => exact s
/-- one turn of a comprehension -/
def kCi2 (I : List D → List D → Env → Prop) (own : List Nat) (r acc : List D) : D → Env → Prop := fun d e => acc.length < big ∧ I r (acc ++ [d]) (hideE e own)
theorem kCi2_u {I : List D → List D → Env → Prop} {own : List Nat} {r acc : List D} {d : D} : kCi2 I own r acc d e = (acc.length < big ∧ I r (acc ++ [d]) (hideE e own)) := rfl
def kCi1 (C : Cfg) (I : List D → List D → Env → Prop) (own : List Nat) (elt : E) (r acc : List D) : Bool → Env → Prop
  | true, e => Wp (ev C elt e) (kFz (kCi2 I own r acc)) kNo
  | false, e => I r acc (hideE e own)
theorem kCi1_t {I : List D → List D → Env → Prop} {own : List Nat} {elt : E} {r acc : List D} : kCi1 C I own elt r acc true e = Wp (ev C elt e) (kFz (kCi2 I own r acc)) kNo := rfl
theorem kCi1_f {I : List D → List D → Env → Prop} {own : List Nat} {elt : E} {r acc : List D} : kCi1 C I own elt r acc false e = I r acc (hideE e own) := rfl
def kCi (C : Cfg) (I : List D → List D → Env → Prop) (own : List Nat) (cs : List E) (elt : E) (r acc : List D) : Env → Prop := fun e => Wp (evAll C cs e) (kCi1 C I own elt r acc) kNo
theorem kCi_u {I : List D → List D → Env → Prop} {own : List Nat} {cs : List E} {elt : E} {r acc : List D} : kCi C I own cs elt r acc e = Wp (evAll C cs e) (kCi1 C I own elt r acc) kNo := rfl
theorem w_compI {tg : Tg} {own : List Nat} {cs : List E} {elt : E} {Q : List D → Env → Prop} {X : QX} (I : List D → List D → Env → Prop) : ∀ (xs acc : List D) (e : Env), I xs acc e → (∀ x r acc e, I (x :: r) acc e → Wo (bindT tg x e) (kCi C I own cs elt r acc)) → (∀ acc e, I [] acc e → Q acc e) →
    Wp (compL tg own (evAll C cs) (fz (ev C elt)) xs acc e) Q X
  | [], acc, e, h0, st, en => en acc e h0
  | x :: xs, acc, e, h0, st, en => by
    have s := st x xs acc e h0
    simp only [compL]
    cases hb : bindT tg x e with
    | none => rw [hb] at s; exact s.elim
    | some e1 =>
      rw [hb] at s
      have s : Wp (evAll C cs e1) (kCi1 C I own elt xs acc) kNo := s
      simp only
      cases hc : evAll C cs e1 with
      | no => rw [hc] at s; exact s
      | ex y e2 => rw [hc] at s; exact s.elim
      | ok b e2 =>
        rw [hc] at s
        cases b with
        | false => exact w_compI I xs acc _ s st en
        | true =>
          have s : Wp (ev C elt e2) (kFz (kCi2 I own xs acc)) kNo := s
          rw [← w_fz] at s
          simp only
          cases hm : fz (ev C elt) e2 with
          | no => rw [hm] at s; exact s
          | ex y e3 => rw [hm] at s; exact s.elim
          | ok d e3 =>
            rw [hm] at s
            obtain ⟨s1, s2⟩ : acc.length < big ∧ I xs (acc ++ [d]) (hideE e3 own) := s
            simp only [if_pos s1]
            exact w_compI I xs _ _ s2 st en
/-- one turn of a comprehension of two fors -/
def kCt2d (I : List D → List D → Env → Prop) (own : List Nat) (r : List D) : List D → Env → Prop := fun acc e => I r acc (hideE e own)
theorem kCt2d_u {I : List D → List D → Env → Prop} {own : List Nat} {r acc : List D} : kCt2d I own r acc e = I r acc (hideE e own) := rfl
def kCt2c (C : Cfg) (I : List D → List D → Env → Prop) (own : List Nat) (tg1 : Tg) (own1 : List Nat) (cs : List E) (elt : E) (r acc : List D) : Env → List D → Prop := fun e ys => Wp (compL tg1 own1 (evAll C cs) (fz (ev C elt)) ys acc (hideE e own1)) (kCt2d I own r) kNo
theorem kCt2c_u {I : List D → List D → Env → Prop} {own : List Nat} {tg1 : Tg} {own1 : List Nat} {cs : List E} {elt : E} {r acc ys : List D} : kCt2c C I own tg1 own1 cs elt r acc e ys = Wp (compL tg1 own1 (evAll C cs) (fz (ev C elt)) ys acc (hideE e own1)) (kCt2d I own r) kNo := rfl
def kCt2 (C : Cfg) (I : List D → List D → Env → Prop) (own : List Nat) (k1 : ItK) (as1 : List E) (tg1 : Tg) (own1 : List Nat) (cs : List E) (elt : E) (r acc : List D) : Env → Prop := fun e => Wp (evs C as1 e) (kIt k1 (kCt2c C I own tg1 own1 cs elt r acc)) kNo
theorem kCt2_u {I : List D → List D → Env → Prop} {own : List Nat} {k1 : ItK} {as1 : List E} {tg1 : Tg} {own1 : List Nat} {cs : List E} {elt : E} {r acc : List D} : kCt2 C I own k1 as1 tg1 own1 cs elt r acc e = Wp (evs C as1 e) (kIt k1 (kCt2c C I own tg1 own1 cs elt r acc)) kNo := rfl
theorem w_comp2I {tg : Tg} {own : List Nat} {k1 : ItK} {as1 : List E} {tg1 : Tg} {own1 : List Nat} {cs : List E} {elt : E} {Q : List D → Env → Prop} {X : QX} (I : List D → List D → Env → Prop) : ∀ (xs acc : List D) (e : Env), I xs acc e → (∀ x r acc e, I (x :: r) acc e → Wo (bindT tg x e) (kCt2 C I own k1 as1 tg1 own1 cs elt r acc)) → (∀ acc e, I [] acc e → Q acc e) →
    Wp (compL2 tg own (itM k1 (evs C as1)) tg1 own1 (evAll C cs) (fz (ev C elt)) xs acc e) Q X
  | [], acc, e, h0, st, en => en acc e h0
  | x :: xs, acc, e, h0, st, en => by
    have s := st x xs acc e h0
    simp only [compL2]
    cases hb : bindT tg x e with
    | none => rw [hb] at s; exact s.elim
    | some e1 =>
      rw [hb] at s
      have s : Wp (evs C as1 e1) (kIt k1 (kCt2c C I own tg1 own1 cs elt xs acc)) kNo := s
      have q : Wp ((itM k1 (evs C as1) e1).bind fun ys e2 => compL tg1 own1 (evAll C cs) (fz (ev C elt)) ys acc (hideE e2 own1)) (kCt2d I own xs) kNo = Wp (evs C as1 e1) (kIt k1 (kCt2c C I own tg1 own1 cs elt xs acc)) kNo := it_eq fun _ _ => rfl
      rw [← q] at s
      simp only
      cases hi : itM k1 (evs C as1) e1 with
      | no => rw [hi] at s; exact s
      | ex y e2 => rw [hi] at s; exact s.elim
      | ok ys e2 =>
        rw [hi] at s
        have s : Wp (compL tg1 own1 (evAll C cs) (fz (ev C elt)) ys acc (hideE e2 own1)) (kCt2d I own xs) kNo := s
        simp only
        cases hr : compL tg1 own1 (evAll C cs) (fz (ev C elt)) ys acc (hideE e2 own1) with
        | no => rw [hr] at s; exact s
        | ex y e3 => rw [hr] at s; exact s.elim
        | ok acc2 e3 =>
          rw [hr] at s
          exact w_comp2I I xs acc2 _ s st en
/-- one turn of a dict's comprehension -/
def kDi3 (I : List D → List (D × D) → Env → Prop) (t : Bool) (own : List Nat) (r : List D) (acc : List (D × D)) (k : D) : D → Env → Prop := fun v e => (acc.length < big ∧ keyOk t k = true) ∧ I r (dput acc k v) (hideE e own)
theorem kDi3_u {I : List D → List (D × D) → Env → Prop} {t : Bool} {own : List Nat} {r : List D} {acc : List (D × D)} {k v : D} : kDi3 I t own r acc k v e = ((acc.length < big ∧ keyOk t k = true) ∧ I r (dput acc k v) (hideE e own)) := rfl
def kDi2 (C : Cfg) (I : List D → List (D × D) → Env → Prop) (t : Bool) (own : List Nat) (vx : E) (r : List D) (acc : List (D × D)) : D → Env → Prop := fun k e => Wp (ev C vx e) (kFz (kDi3 I t own r acc k)) kNo
theorem kDi2_u {I : List D → List (D × D) → Env → Prop} {t : Bool} {own : List Nat} {vx : E} {r : List D} {acc : List (D × D)} {k : D} : kDi2 C I t own vx r acc k e = Wp (ev C vx e) (kFz (kDi3 I t own r acc k)) kNo := rfl
def kDi1 (C : Cfg) (I : List D → List (D × D) → Env → Prop) (t : Bool) (own : List Nat) (kx vx : E) (r : List D) (acc : List (D × D)) : Bool → Env → Prop
  | true, e => Wp (ev C kx e) (kFz (kDi2 C I t own vx r acc)) kNo
  | false, e => I r acc (hideE e own)
theorem kDi1_t {I : List D → List (D × D) → Env → Prop} {t : Bool} {own : List Nat} {kx vx : E} {r : List D} {acc : List (D × D)} : kDi1 C I t own kx vx r acc true e = Wp (ev C kx e) (kFz (kDi2 C I t own vx r acc)) kNo := rfl
theorem kDi1_f {I : List D → List (D × D) → Env → Prop} {t : Bool} {own : List Nat} {kx vx : E} {r : List D} {acc : List (D × D)} : kDi1 C I t own kx vx r acc false e = I r acc (hideE e own) := rfl
def kDi (C : Cfg) (I : List D → List (D × D) → Env → Prop) (t : Bool) (own : List Nat) (cs : List E) (kx vx : E) (r : List D) (acc : List (D × D)) : Env → Prop := fun e => Wp (evAll C cs e) (kDi1 C I t own kx vx r acc) kNo
theorem kDi_u {I : List D → List (D × D) → Env → Prop} {t : Bool} {own : List Nat} {cs : List E} {kx vx : E} {r : List D} {acc : List (D × D)} : kDi C I t own cs kx vx r acc e = Wp (evAll C cs e) (kDi1 C I t own kx vx r acc) kNo := rfl
theorem w_dcompI {t : Bool} {tg : Tg} {own : List Nat} {cs : List E} {kx vx : E} {Q : List (D × D) → Env → Prop} {X : QX} (I : List D → List (D × D) → Env → Prop) : ∀ (xs : List D) (acc : List (D × D)) (e : Env), I xs acc e → (∀ x r acc e, I (x :: r) acc e → Wo (bindT tg x e) (kDi C I t own cs kx vx r acc)) → (∀ acc e, I [] acc e → Q acc e) →
    Wp (dcompL t tg own (evAll C cs) (fz (ev C kx)) (fz (ev C vx)) xs acc e) Q X
  | [], acc, e, h0, st, en => en acc e h0
  | x :: xs, acc, e, h0, st, en => by
    have s := st x xs acc e h0
    simp only [dcompL]
    cases hb : bindT tg x e with
    | none => rw [hb] at s; exact s.elim
    | some e1 =>
      rw [hb] at s
      have s : Wp (evAll C cs e1) (kDi1 C I t own kx vx xs acc) kNo := s
      simp only
      cases hc : evAll C cs e1 with
      | no => rw [hc] at s; exact s
      | ex y e2 => rw [hc] at s; exact s.elim
      | ok b e2 =>
        rw [hc] at s
        cases b with
        | false => exact w_dcompI I xs acc _ s st en
        | true =>
          have s : Wp (ev C kx e2) (kFz (kDi2 C I t own vx xs acc)) kNo := s
          rw [← w_fz] at s
          simp only
          cases hm : fz (ev C kx) e2 with
          | no => rw [hm] at s; exact s
          | ex y e3 => rw [hm] at s; exact s.elim
          | ok k e3 =>
            rw [hm] at s
            have s : Wp (ev C vx e3) (kFz (kDi3 I t own xs acc k)) kNo := s
            rw [← w_fz] at s
            simp only
            cases hv : fz (ev C vx) e3 with
            | no => rw [hv] at s; exact s
            | ex y e4 => rw [hv] at s; exact s.elim
            | ok v e4 =>
              rw [hv] at s
              obtain ⟨s1, s2⟩ : (acc.length < big ∧ keyOk t k = true) ∧ I xs (dput acc k v) (hideE e4 own) := s
              simp only
              rw [if_pos (by rw [Bool.and_eq_true, decide_eq_true_eq]; exact s1)]
              exact w_dcompI I xs _ _ s2 st en
/-! operands that may be looked at in turn -/
theorem mb_join {a : D} {os : List Opd} : midBad .join (.d a :: os) = false := rfl
theorem mb_find {a : D} {os : List Opd} : midBad .find (.d a :: os) = false := rfl
theorem mb_count {a : D} {os : List Opd} : midBad .count (.d a :: os) = false := rfl
theorem mb_index {a : D} {os : List Opd} : midBad .index (.d a :: os) = false := rfl
theorem mb_fst5 {a b c x y : D} : midBad .fst [.d a, .d b, .d c, .d x, .d y] = false := rfl
theorem mb_split {a : D} {os : List Opd} : midBad .split (.d a :: os) = false := rfl
theorem mb_replace {a : D} {os : List Opd} : midBad .replace (.d a :: os) = false := rfl
theorem mb_get {a b c : D} : midBad .get [.d a, .d b, .d c] = false := rfl
theorem mb_slc {a c : Opd} {b : D} : midBad (.slc true true) [a, .d b, c] = false := rfl
end Itp
set_option Elab.async false
set_option linter.all false
set_option maxRecDepth 100000
set_option maxHeartbeats 4000000
namespace Itp
open PySem L2
abbrev prg := PySem.Challenge.pw_dipsoverdips_k08_faces_checked
def topS (i : Nat) : Stmt := prg.main.body.getD i (.Pass ⟨0, 0, 0, 0⟩)
def clsBody : Stmt → List Stmt
  | .ClassDef _ _ _ b _ _ _ _ _ _ _ => b
  | _ => []
def fldsC : Nat → Option (List Str)
  | 1 => some []
  | _ => none
abbrev q_DipError : Nat := 0
abbrev q_BadRow : Nat := 1
theorem fl_1 : fldsC 1 = some ([] : List Str) := rfl
def subC : Nat → Nat → Option Bool
  | _, _ => none
/-! is_from -/
abbrev s_is_from : Stmt := topS 7
def n_is_from : List Str := ["value", "low", "high"]
def b_is_from : List S := [.ret (.and (.op (.isi [.int]) [(.var 0)]) (.and (.not (.op (.isi [.bool]) [(.var 0)])) (.chain .le .le (.var 1) (.var 0) (.var 2))))]
def t_is_from : Tab := ⟨[], [], [], []⟩
def c_is_from : Cfg := ⟨fun _ _ => .no, fun _ => none, fldsC, subC⟩
theorem cg_is_from : c_is_from.flds = fldsC := rfl
theorem ch_is_from : c_is_from.sub = subC := rfl
def f_is_from : Fn := runD c_is_from 3 3 b_is_from
theorem w_is_from {Q : Res → List D → Prop} {X : Xc → List D → Prop} {a0 a1 a2 : Arg} : Wf (f_is_from [a0, a1, a2]) Q X = Wp (exs c_is_from b_is_from [argSlot a0, argSlot a1, argSlot a2]) (kRun [a0, a1, a2] Q) (kRunX [a0, a1, a2] X) := w_run rfl
theorem k_is_from : chkSs t_is_from n_is_from (defScope s_is_from) b_is_from (defBody s_is_from) = true := by decide +kernel
theorem sc_is_from : FnScope n_is_from ["value", "low", "high"] (defScope s_is_from) := ⟨rfl, rfl, rfl, by decide +kernel, rfl, by decide +kernel, by decide +kernel⟩
/-! is_row -/
abbrev s_is_row : Stmt := topS 8
def n_is_row : List Str := ["value", "sign"]
def b_is_row : List S := [.ifs (.or (.not (.op (.isi [.str]) [(.var 0)])) (.not (.chain .le .le (.cst (.int 1)) (.op .len [(.var 0)]) (.glb "MOST_CELLS" (.int 12))))) [.ret (.cst (.bl false))] [], .ret (.op .all [(.comp .seq [(.var 0)] (.nm 1) [1] [] (.op .inn [(.var 1), (.op .add [(.glb "LETTERS" (.str [97, 98, 99, 100, 101, 102, 103, 104])), (.glb "BLANK" (.str [46]))])]))])]
def t_is_row : Tab := ⟨[], [("MOST_CELLS", (.int 12)), ("LETTERS", (.str [97, 98, 99, 100, 101, 102, 103, 104])), ("BLANK", (.str [46]))], [], []⟩
def c_is_row : Cfg := ⟨fun _ _ => .no, fun _ => none, fldsC, subC⟩
theorem cg_is_row : c_is_row.flds = fldsC := rfl
theorem ch_is_row : c_is_row.sub = subC := rfl
def f_is_row : Fn := runD c_is_row 1 2 b_is_row
theorem w_is_row {Q : Res → List D → Prop} {X : Xc → List D → Prop} {a0 : Arg} : Wf (f_is_row [a0]) Q X = Wp (exs c_is_row b_is_row [argSlot a0, .un]) (kRun [a0] Q) (kRunX [a0] X) := w_run rfl
theorem k_is_row : chkSs t_is_row n_is_row (defScope s_is_row) b_is_row (defBody s_is_row) = true := by decide +kernel
theorem sc_is_row : FnScope n_is_row ["value"] (defScope s_is_row) := ⟨rfl, rfl, rfl, by decide +kernel, rfl, by decide +kernel, by decide +kernel⟩
/-! need_row -/
abbrev s_need_row : Stmt := topS 9
def n_need_row : List Str := ["row"]
def b_need_row : List S := [.ifs (.not (.call 0 [(.var 0)])) [.rse 1 []] []]
def t_need_row : Tab := ⟨[("is_row", 0)], [], [("BadRow", 1)], []⟩
def c_need_row : Cfg := ⟨fun n => [f_is_row].getD n fun _ => .no, fun _ => none, fldsC, subC⟩
theorem cf_need_row_0 : c_need_row.fns 0 = f_is_row := rfl
theorem cg_need_row : c_need_row.flds = fldsC := rfl
theorem ch_need_row : c_need_row.sub = subC := rfl
def f_need_row : Fn := runD c_need_row 1 1 b_need_row
theorem w_need_row {Q : Res → List D → Prop} {X : Xc → List D → Prop} {a0 : Arg} : Wf (f_need_row [a0]) Q X = Wp (exs c_need_row b_need_row [argSlot a0]) (kRun [a0] Q) (kRunX [a0] X) := w_run rfl
theorem k_need_row : chkSs t_need_row n_need_row (defScope s_need_row) b_need_row (defBody s_need_row) = true := by decide +kernel
theorem sc_need_row : FnScope n_need_row ["row"] (defScope s_need_row) := ⟨rfl, rfl, rfl, by decide +kernel, rfl, by decide +kernel, by decide +kernel⟩
/-! is_face_by -/
abbrev s_is_face_by : Stmt := topS 11
def n_is_face_by : List Str := ["row", "value", "top", "open_ones", "cell", "number"]
def b_is_face_by : List S := [.ifs (.or (.not (.op (.isi [.tuple]) [(.var 1)])) (.op .ne [(.op .len [(.var 1)]), (.op .len [(.var 0)])])) [.ret (.cst (.bl false))] [], .owns [2, 3] [(.cst (.int 0)), (.op .lst [])], .for (.tp [(.nm 4), (.nm 5)]) .enum [(.var 1)] [.ifs (.op .eq [(.op .ix [(.var 0), (.var 4)]), (.glb "BLANK" (.str [46]))]) [.ifs (.op .notN [(.var 5)]) [.ret (.cst (.bl false))] [], .own 3 (.op .lst [])] [.ifs (.not (.call 0 [(.var 5), (.cst (.int 0)), (.var 2)])) [.ret (.cst (.bl false))] [.ifs (.op .eq [(.var 5), (.var 2)]) [.own 2 (.op .add [(.var 2), (.cst (.int 1))]), .own 3 (.op .add [(.var 3), (.op .lst [(.var 5)])])] [.ifs (.or (.op .nin [(.var 5), (.var 3)]) (.op .ne [(.op .ix [(.var 0), (.op .index [(.var 1), (.var 5)])]), (.op .ix [(.var 0), (.var 4)])])) [.ret (.cst (.bl false))] [.own 3 (.op (.slc false true) [(.var 3), (.op .add [(.op .index [(.var 3), (.var 5)]), (.cst (.int 1))])])]]]]], .ret (.cst (.bl true))]
def t_is_face_by : Tab := ⟨[("is_from", 0)], [("BLANK", (.str [46]))], [], []⟩
def c_is_face_by : Cfg := ⟨fun n => [f_is_from].getD n fun _ => .no, fun _ => none, fldsC, subC⟩
theorem cf_is_face_by_0 : c_is_face_by.fns 0 = f_is_from := rfl
theorem cg_is_face_by : c_is_face_by.flds = fldsC := rfl
theorem ch_is_face_by : c_is_face_by.sub = subC := rfl
def f_is_face_by : Fn := runD c_is_face_by 2 6 b_is_face_by
theorem w_is_face_by {Q : Res → List D → Prop} {X : Xc → List D → Prop} {a0 a1 : Arg} : Wf (f_is_face_by [a0, a1]) Q X = Wp (exs c_is_face_by b_is_face_by [argSlot a0, argSlot a1, .un, .un, .un, .un]) (kRun [a0, a1] Q) (kRunX [a0, a1] X) := w_run rfl
theorem k_is_face_by : chkSs t_is_face_by n_is_face_by (defScope s_is_face_by) b_is_face_by (defBody s_is_face_by) = true := by decide +kernel
theorem sc_is_face_by : FnScope n_is_face_by ["row", "value"] (defScope s_is_face_by) := ⟨rfl, rfl, rfl, by decide +kernel, rfl, by decide +kernel, by decide +kernel⟩
/-! is_face -/
abbrev s_is_face : Stmt := topS 12
def n_is_face : List Str := ["row", "value"]
def b_is_face : List S := [.ex (.call 0 [(.var 0)]), .ret (.call 1 [(.var 0), (.var 1)])]
def t_is_face : Tab := ⟨[("need_row", 0), ("is_face_by", 1)], [], [], []⟩
def c_is_face : Cfg := ⟨fun n => [f_need_row, f_is_face_by].getD n fun _ => .no, fun _ => none, fldsC, subC⟩
theorem cf_is_face_0 : c_is_face.fns 0 = f_need_row := rfl
theorem cf_is_face_1 : c_is_face.fns 1 = f_is_face_by := rfl
theorem cg_is_face : c_is_face.flds = fldsC := rfl
theorem ch_is_face : c_is_face.sub = subC := rfl
def f_is_face : Fn := runD c_is_face 2 2 b_is_face
theorem w_is_face {Q : Res → List D → Prop} {X : Xc → List D → Prop} {a0 a1 : Arg} : Wf (f_is_face [a0, a1]) Q X = Wp (exs c_is_face b_is_face [argSlot a0, argSlot a1]) (kRun [a0, a1] Q) (kRunX [a0, a1] X) := w_run rfl
theorem k_is_face : chkSs t_is_face n_is_face (defScope s_is_face) b_is_face (defBody s_is_face) = true := by decide +kernel
theorem sc_is_face : FnScope n_is_face ["row", "value"] (defScope s_is_face) := ⟨rfl, rfl, rfl, by decide +kernel, rfl, by decide +kernel, by decide +kernel⟩
/-! _law_taken -/
abbrev s__law_taken : Stmt := topS 14
def n__law_taken : List Str := ["_law_row_here", "_law_many", "_law_found", "_law_cell"]
def b__law_taken : List S := [.ifs (.op .gt [(.op .ix [(.pk 0), (.cst (.int 3))]), (.cst (.int 0))]) [.own 2 (.op .mod [(.op .int [(.op .ix [(.pk 0), (.cst (.int 3))])]), (.var 1)]), .seti 0 (.cst (.int 3)) (.op .fdiv [(.op .ix [(.pk 0), (.cst (.int 3))]), (.var 1)]), .ret (.var 2)] [], .seti 0 (.cst (.int 1)) (.op .add [(.op .ix [(.pk 0), (.cst (.int 1))]), (.cst (.int 1))]), .ifs (.op .gt [(.op .ix [(.pk 0), (.cst (.int 1))]), (.op .len [(.op .ix [(.pk 0), (.cst (.int 0))])])]) [.seti 0 (.cst (.int 2)) (.op .mod [(.op .int [(.op .add [(.op .mul [(.op .ix [(.pk 0), (.cst (.int 2))]), (.cst (.int 48271))]), (.cst (.int 11))])]), (.cst (.int 2147483647))]), .ret (.op .mod [(.op .int [(.op .fdiv [(.op .ix [(.pk 0), (.cst (.int 2))]), (.cst (.int 7))])]), (.var 1)])] [], .own 3 (.op .ix [(.op .ix [(.pk 0), (.cst (.int 0))]), (.op .sub [(.op .ix [(.pk 0), (.cst (.int 1))]), (.cst (.int 1))])]), .seti 0 (.cst (.int 2)) (.op .mod [(.op .int [(.op .add [(.op .add [(.op .mul [(.op .ix [(.pk 0), (.cst (.int 2))]), (.cst (.int 48271))]), (.var 3)]), (.cst (.int 11))])]), (.cst (.int 2147483647))]), .ifs (.op .ge [(.var 3), (.op .pow [(.cst (.int 10)), (.cst (.int 18))])]) [.seti 0 (.cst (.int 3)) (.op .fdiv [(.var 3), (.var 1)])] [], .ret (.op .mod [(.op .int [(.var 3)]), (.var 1)])]
def t__law_taken : Tab := ⟨[], [], [], []⟩
def c__law_taken : Cfg := ⟨fun _ _ => .no, fun _ => none, fldsC, subC⟩
theorem cg__law_taken : c__law_taken.flds = fldsC := rfl
theorem ch__law_taken : c__law_taken.sub = subC := rfl
def f__law_taken : Fn := runD c__law_taken 2 4 b__law_taken
theorem w__law_taken {Q : Res → List D → Prop} {X : Xc → List D → Prop} {a0 a1 : Arg} : Wf (f__law_taken [a0, a1]) Q X = Wp (exs c__law_taken b__law_taken [argSlot a0, argSlot a1, .un, .un]) (kRun [a0, a1] Q) (kRunX [a0, a1] X) := w_run rfl
theorem k__law_taken : chkSs t__law_taken n__law_taken (defScope s__law_taken) b__law_taken (defBody s__law_taken) = true := by decide +kernel
theorem sc__law_taken : FnScope n__law_taken ["_law_row_here", "_law_many"] (defScope s__law_taken) := ⟨rfl, rfl, rfl, by decide +kernel, rfl, by decide +kernel, by decide +kernel⟩
/-! _law_row -/
abbrev s__law_row : Stmt := topS 15
def n__law_row : List Str := ["_law_row_here", "_law_most", "_law_many", "_law_signs", "_law_cell", "_law_found", "_law_turn", "_law_first", "_law_last"]
def b__law_row : List S := [.own 2 (.op .add [(.cst (.int 1)), (.call 0 [(.pk 0), (.var 1)])]), .own 3 (.op (.slc false true) [(.cst (.str [97, 98, 99, 100, 101, 102, 103, 104])), (.op .add [(.cst (.int 1)), (.call 0 [(.pk 0), (.op .ix [(.op .lst [(.cst (.int 2)), (.cst (.int 4)), (.cst (.int 8))]), (.call 0 [(.pk 0), (.cst (.int 3))])])])])]), .ifs (.op .eq [(.call 0 [(.pk 0), (.cst (.int 3))]), (.cst (.int 0))]) [.own 3 (.op .add [(.var 3), (.cst (.str [46]))])] [], .ifs (.op .eq [(.call 0 [(.pk 0), (.cst (.int 2))]), (.cst (.int 0))]) [.ret (.op .join [(.cst (.str [])), (.comp .rng [(.var 2)] (.nm 4) [4] [] (.op .ix [(.var 3), (.call 0 [(.pk 0), (.op .len [(.var 3)])])]))])] [], .own 5 (.ite (.op .eq [(.call 0 [(.pk 0), (.cst (.int 3))]), (.cst (.int 0))]) (.op .mul [(.cst (.str [46])), (.var 2)]) (.op .mul [(.op .ix [(.var 3), (.cst (.int 0))]), (.var 2)])), .for (.nm 6) .rng [(.op .add [(.cst (.int 1)), (.call 0 [(.pk 0), (.cst (.int 6))])])] [.own 7 (.call 0 [(.pk 0), (.var 2)]), .own 8 (.op .add [(.var 7), (.call 0 [(.pk 0), (.op .sub [(.var 2), (.var 7)])])]), .own 5 (.op .add [(.op .add [(.op (.slc false true) [(.var 5), (.var 7)]), (.op .mul [(.op .ix [(.var 3), (.call 0 [(.pk 0), (.op .len [(.var 3)])])]), (.op .add [(.op .sub [(.var 8), (.var 7)]), (.cst (.int 1))])])]), (.op (.slc true false) [(.var 5), (.op .add [(.var 8), (.cst (.int 1))])])])], .ret (.var 5)]
def t__law_row : Tab := ⟨[("_law_taken", 0)], [], [], []⟩
def c__law_row : Cfg := ⟨fun n => [f__law_taken].getD n fun _ => .no, fun _ => none, fldsC, subC⟩
theorem cf__law_row_0 : c__law_row.fns 0 = f__law_taken := rfl
theorem cg__law_row : c__law_row.flds = fldsC := rfl
theorem ch__law_row : c__law_row.sub = subC := rfl
def f__law_row : Fn := runD c__law_row 2 9 b__law_row
theorem w__law_row {Q : Res → List D → Prop} {X : Xc → List D → Prop} {a0 a1 : Arg} : Wf (f__law_row [a0, a1]) Q X = Wp (exs c__law_row b__law_row [argSlot a0, argSlot a1, .un, .un, .un, .un, .un, .un, .un]) (kRun [a0, a1] Q) (kRunX [a0, a1] X) := w_run rfl
theorem k__law_row : chkSs t__law_row n__law_row (defScope s__law_row) b__law_row (defBody s__law_row) = true := by decide +kernel
theorem sc__law_row : FnScope n__law_row ["_law_row_here", "_law_most"] (defScope s__law_row) := ⟨rfl, rfl, rfl, by decide +kernel, rfl, by decide +kernel, by decide +kernel⟩
/-! _law_joins -/
abbrev s__law_joins : Stmt := topS 16
def n__law_joins : List Str := ["_law_told", "_law_one", "_law_other"]
def b__law_joins : List S := [.ret (.and (.op .eq [(.op .ix [(.var 0), (.var 1)]), (.op .ix [(.var 0), (.var 2)])]) (.op .nin [(.cst (.str [46])), (.op (.slc true true) [(.var 0), (.var 1), (.op .add [(.var 2), (.cst (.int 1))])])]))]
def t__law_joins : Tab := ⟨[], [], [], []⟩
def c__law_joins : Cfg := ⟨fun _ _ => .no, fun _ => none, fldsC, subC⟩
theorem cg__law_joins : c__law_joins.flds = fldsC := rfl
theorem ch__law_joins : c__law_joins.sub = subC := rfl
def f__law_joins : Fn := runD c__law_joins 3 3 b__law_joins
theorem w__law_joins {Q : Res → List D → Prop} {X : Xc → List D → Prop} {a0 a1 a2 : Arg} : Wf (f__law_joins [a0, a1, a2]) Q X = Wp (exs c__law_joins b__law_joins [argSlot a0, argSlot a1, argSlot a2]) (kRun [a0, a1, a2] Q) (kRunX [a0, a1, a2] X) := w_run rfl
theorem k__law_joins : chkSs t__law_joins n__law_joins (defScope s__law_joins) b__law_joins (defBody s__law_joins) = true := by decide +kernel
theorem sc__law_joins : FnScope n__law_joins ["_law_told", "_law_one", "_law_other"] (defScope s__law_joins) := ⟨rfl, rfl, rfl, by decide +kernel, rfl, by decide +kernel, by decide +kernel⟩
/-! _law_is_face -/
abbrev s__law_is_face : Stmt := topS 17
def n__law_is_face : List Str := ["_law_told", "_law_value", "_law_top", "_law_cell", "_law_number", "_law_one", "_law_other", "_law_inside", "_law_outside"]
def b__law_is_face : List S := [.own 2 (.cst (.int 0)), .for (.nm 3) .rng [(.op .len [(.var 0)])] [.own 4 (.op .ix [(.var 1), (.var 3)]), .ifs (.op .eq [(.op .ix [(.var 0), (.var 3)]), (.cst (.str [46]))]) [.ifs (.op .notN [(.var 4)]) [.ret (.cst (.bl false))] []] [.ifs (.or (.not (.op (.isi [.int]) [(.var 4)])) (.or (.op (.isi [.bool]) [(.var 4)]) (.not (.chain .le .le (.cst (.int 0)) (.var 4) (.var 2))))) [.ret (.cst (.bl false))] [], .own 2 (.op .max [(.var 2), (.op .add [(.var 4), (.cst (.int 1))])])]], .for (.nm 5) .rng [(.op .len [(.var 0)])] [.for (.nm 6) .rng [(.op .add [(.var 5), (.cst (.int 1))]), (.op .len [(.var 0)])] [.ifs (.and (.op .notN [(.op .ix [(.var 1), (.var 5)])]) (.op .eq [(.op .ix [(.var 1), (.var 5)]), (.op .ix [(.var 1), (.var 6)])])) [.ifs (.not (.call 0 [(.var 0), (.var 5), (.var 6)])) [.ret (.cst (.bl false))] [], .owns [7, 8] [(.op .list [(.op (.slc true true) [(.var 1), (.var 5), (.var 6)])]), (.op .list [(.op (.slc true false) [(.var 1), (.op .add [(.var 6), (.cst (.int 1))])])])], .ifs (.op .any [(.comp .seq [(.var 7)] (.nm 4) [4] [] (.and (.op .ne [(.var 4), (.op .ix [(.var 1), (.var 5)])]) (.op .inn [(.var 4), (.var 8)])))]) [.ret (.cst (.bl false))] []] []]], .ret (.cst (.bl true))]
def t__law_is_face : Tab := ⟨[("_law_joins", 0)], [], [], []⟩
def c__law_is_face : Cfg := ⟨fun n => [f__law_joins].getD n fun _ => .no, fun _ => none, fldsC, subC⟩
theorem cf__law_is_face_0 : c__law_is_face.fns 0 = f__law_joins := rfl
theorem cg__law_is_face : c__law_is_face.flds = fldsC := rfl
theorem ch__law_is_face : c__law_is_face.sub = subC := rfl
def f__law_is_face : Fn := runD c__law_is_face 2 9 b__law_is_face
theorem w__law_is_face {Q : Res → List D → Prop} {X : Xc → List D → Prop} {a0 a1 : Arg} : Wf (f__law_is_face [a0, a1]) Q X = Wp (exs c__law_is_face b__law_is_face [argSlot a0, argSlot a1, .un, .un, .un, .un, .un, .un, .un]) (kRun [a0, a1] Q) (kRunX [a0, a1] X) := w_run rfl
theorem k__law_is_face : chkSs t__law_is_face n__law_is_face (defScope s__law_is_face) b__law_is_face (defBody s__law_is_face) = true := by decide +kernel
theorem sc__law_is_face : FnScope n__law_is_face ["_law_told", "_law_value"] (defScope s__law_is_face) := ⟨rfl, rfl, rfl, by decide +kernel, rfl, by decide +kernel, by decide +kernel⟩
/-! law -/
abbrev s_law : Stmt := topS 18
def n_law : List Str := ["_law_script", "_law_row_here", "_law_turn", "_law_told", "_law_value", "_law_top", "_law_cell", "_law_lots", "_law_other", "_law_answer", "_law_odd"]
def b_law : List S := [.own 1 (.op .lst [(.var 0), (.cst (.int 0)), (.cst (.int 508)), (.cst (.int 0))]), .for (.nm 2) .rng [(.cst (.int 3))] [.own 3 (.call 0 [(.pk 1), (.cst (.int 9))]), .owns [4, 5] [(.op .lst []), (.cst (.int 0))], .for (.nm 6) .rng [(.op .len [(.var 3)])] [.own 7 (.comp .rng [(.var 6)] (.nm 8) [8] [(.call 1 [(.var 3), (.var 8), (.var 6)])] (.op .ix [(.pk 4), (.var 8)])), .ifs (.op .eq [(.op .ix [(.var 3), (.var 6)]), (.cst (.str [46]))]) [.app 4 (.cst .non)] [.ifs (.and (.op .ne [(.var 7), (.op .lst [])]) (.op .gt [(.call 2 [(.pk 1), (.cst (.int 3))]), (.cst (.int 0))])) [.app 4 (.op .ix [(.var 7), (.call 2 [(.pk 1), (.op .len [(.var 7)])])])] [.app 4 (.var 5), .own 5 (.op .add [(.var 5), (.cst (.int 1))])]]], .ifs (.op .eq [(.call 2 [(.pk 1), (.cst (.int 3))]), (.cst (.int 0))]) [.seti 4 (.call 2 [(.pk 1), (.op .len [(.pk 4)])]) (.op .ix [(.op .lst [(.cst .non), (.cst (.int 0)), (.cst (.int 1)), (.cst (.int 2))]), (.call 2 [(.pk 1), (.cst (.int 4))])])] [], .own 9 (.call 3 [(.var 3), (.op .ftup [(.pk 4)])]), .ifs (.or (.not (.op (.isi [.bool]) [(.var 9)])) (.op .ne [(.var 9), (.call 4 [(.var 3), (.var 4)])])) [.ret (.cst (.bl false))] [], .own 10 (.op .lst [(.cst .non), (.cst (.int 0)), (.cst (.str [102, 97, 99, 101])), (.op .add [(.op .list [(.pk 4)]), (.op .lst [(.cst (.int 0))])]), (.var 4), (.op .add [(.op .ftup [(.pk 4)]), (.op .tup [(.cst (.int 0))])]), (.op (.slc true false) [(.op .ftup [(.pk 4)]), (.cst (.int 1))]), (.op (.dct false) [])]), .ifs (.call 3 [(.var 3), (.op .ix [(.var 10), (.call 2 [(.pk 1), (.op .len [(.var 10)])])])]) [.ret (.cst (.bl false))] []], .ret (.and (.not (.call 3 [(.cst (.str [97, 98])), (.op .tup [(.cst (.int 0)), (.cst (.bl true))])])) (.and (.not (.call 3 [(.cst (.str [97])), (.op .tup [(.cst (.bl false))])])) (.not (.call 3 [(.cst (.str [97, 97])), (.op .tup [(.cst (.int 0)), (.cst (.str [48]))])]))))]
def t_law : Tab := ⟨[("_law_row", 0), ("_law_joins", 1), ("_law_taken", 2), ("is_face", 3), ("_law_is_face", 4)], [], [], []⟩
def c_law : Cfg := ⟨fun n => [f__law_row, f__law_joins, f__law_taken, f_is_face, f__law_is_face].getD n fun _ => .no, fun _ => none, fldsC, subC⟩
theorem cf_law_0 : c_law.fns 0 = f__law_row := rfl
theorem cf_law_1 : c_law.fns 1 = f__law_joins := rfl
theorem cf_law_2 : c_law.fns 2 = f__law_taken := rfl
theorem cf_law_3 : c_law.fns 3 = f_is_face := rfl
theorem cf_law_4 : c_law.fns 4 = f__law_is_face := rfl
theorem cg_law : c_law.flds = fldsC := rfl
theorem ch_law : c_law.sub = subC := rfl
def f_law : Fn := runD c_law 1 11 b_law
theorem w_law {Q : Res → List D → Prop} {X : Xc → List D → Prop} {a0 : Arg} : Wf (f_law [a0]) Q X = Wp (exs c_law b_law [argSlot a0, .un, .un, .un, .un, .un, .un, .un, .un, .un, .un]) (kRun [a0] Q) (kRunX [a0] X) := w_run rfl
theorem k_law : chkSs t_law n_law (defScope s_law) b_law (defBody s_law) = true := by decide +kernel
theorem sc_law : FnScope n_law ["_law_script"] (defScope s_law) := ⟨rfl, rfl, rfl, by decide +kernel, rfl, by decide +kernel, by decide +kernel⟩
end Itp
set_option Elab.async false
set_option linter.all false
set_option maxRecDepth 100000
set_option maxHeartbeats 4000000
local macro_rules | `(tactic| simp! only [$a,*] $[$l:location]?) => `(tactic| simp -implicitDefEqProofs only [Itp.w_nil, Itp.w_cons, Itp.kS_nx, Itp.kS_rt, Itp.kS_bk, Itp.kS_ct, Itp.kOwn_u, Itp.kOwn2_un, Itp.kOwn2_val, Itp.kOwn2_own, Itp.w_own, Itp.kAsg_u, Itp.w_asg, Itp.w_nm, Itp.kT_un, Itp.kT_val, Itp.kT_own, Itp.kTs_u, Itp.w_tpt, Itp.w_tpl, Itp.w_tn, Itp.w_tc, Itp.kSt_o, Itp.kSt_p, Itp.kSet3_u, Itp.kSet4_o, Itp.kSet4_p, Itp.kSet1_u, Itp.w_seti, Itp.kApp_u, Itp.kApp2_o, Itp.kApp2_p, Itp.oL_u, Itp.oL_o, Itp.oL_p, Itp.w_app, Itp.kExt_u, Itp.kExt2_o, Itp.kExt2_p, Itp.w_ext, Itp.kEx_u, Itp.w_ex, Itp.kRet_u, Itp.w_ret, Itp.w_rv, Itp.kRv_own, Itp.kRv_val, Itp.rt_cst, Itp.rt_glb, Itp.rt_op, Itp.rt_and, Itp.rt_or, Itp.rt_not, Itp.rt_ite, Itp.rt_chain, Itp.rt_chain3, Itp.rt_call, Itp.rt_callV, Itp.rt_comp, Itp.w_retn, Itp.w_pass, Itp.kIf_u, Itp.kIf_t, Itp.kIf_f, Itp.w_ifs, Itp.kFor4_u, Itp.kIt_u, Itp.kIt2_s, Itp.w_for, Itp.w_whl, Itp.kRse3_u, Itp.kRse2_s, Itp.kRse_u, Itp.w_rse, Itp.zf_nil, Itp.zf_cons, Itp.zM_s, Itp.kTry_u, Itp.w_try, Itp.w_cat0, Itp.kUn_nx, Itp.kCat_f, Itp.kCat_t, Itp.kSuN_n, Itp.kSuN_s, Itp.kSu_un, Itp.kSu_val, Itp.w_cat, Itp.w_suc, Itp.kSl_u, Itp.kSl2_un, Itp.kSl2_val, Itp.kSl2_own, Itp.w_sul, Itp.w_var, Itp.kVar_val, Itp.kVar_own, Itp.w_cst, Itp.w_glb, Itp.w_fnv, Itp.kE_u, Itp.kOpX_u, Itp.kOp3_ff, Itp.kOp2_s, Itp.kOp_u, Itp.w_op, Itp.kBl_u, Itp.kAnd_u, Itp.kAnd_t, Itp.kAnd_f, Itp.w_and, Itp.kOr_u, Itp.kOr_f, Itp.kOr_t, Itp.w_or, Itp.kNot_u, Itp.w_not, Itp.kIte_u, Itp.kIte_t, Itp.kIte_f, Itp.w_ite, Itp.kCh5_u, Itp.kLk4_t, Itp.kLk4_f, Itp.kLk3_u, Itp.kCh2_u, Itp.kCh1_u, Itp.w_chain, Itp.kC5_u, Itp.kC2_u, Itp.kC1_u, Itp.w_chain3, Itp.kB2_u, Itp.kBack_u, Itp.kBackX_u, Itp.kCall2_s, Itp.kCall_u, Itp.w_call, Itp.kCv2_s, Itp.kCv_u, Itp.w_callV, Itp.kCm4_u, Itp.kCm_u, Itp.w_comp, Itp.w_en, Itp.kCo_u, Itp.kEv_u, Itp.w_ec, Itp.w_pk, Itp.kPk_val, Itp.kPk_own, Itp.kPk_par, Itp.kD_u, Itp.od_var, Itp.od_cst, Itp.od_glb, Itp.od_op, Itp.od_and, Itp.od_or, Itp.od_not, Itp.od_ite, Itp.od_chain, Itp.od_chain3, Itp.od_fnv, Itp.od_callV, Itp.od_call, Itp.od_comp, Itp.kFz_u, Itp.w_fz, Itp.w_an, Itp.kAl_u, Itp.kAl_t, Itp.kAl_f, Itp.w_ac, Itp.kRun_nx, Itp.kRun_rt, Itp.kRunX_u, Itp.w_fn, Itp.w_fv, Itp.kFl_u, Itp.kFs_p, Itp.w_fl, Itp.wo_some, Itp.wp_ok, Itp.wp_ex, Itp.sl_0, Itp.sl_S, Itp.rd_v, Itp.rd_n, Itp.rs_v, Itp.rs_n, Itp.opds_nil, Itp.opds_cons, Itp.opC_s, Itp.opd_d, Itp.opd_pk, Itp.toArgs_nil, Itp.toArgs_cons, Itp.arC_s, Itp.toArg_d, Itp.toArg_k, Itp.arS_val, Itp.arS_own, Itp.arS_par, Itp.d_val, Itp.d_own, Itp.d_par, Itp.muts_nil, Itp.muts_d, Itp.muts_pk, Itp.mutC_t, Itp.mutC_f, Itp.m_val, Itp.m_own, Itp.m_par, Itp.pb_nil, Itp.pb_cons, Itp.put_own, Itp.put_par, Itp.nd_nil, Itp.nd_one, Itp.ie_nil, Itp.ie_cons, Itp.as_v, Itp.as_l, Itp.ip_pk, Itp.ip_d, List.set_cons_zero, List.set_cons_succ, Itp.hideE, Itp.backE, Itp.disp, Itp.midOp, Itp.mthd, Itp.kV_u, Itp.kVI_u, Itp.kVC_u, Itp.p_addI, Itp.p_addS, Itp.p_addL, Itp.p_addT, Itp.p_subI, Itp.p_mulI, Itp.p_mulS, Itp.p_mulL, Itp.p_mulT, Itp.p_fdiv, Itp.p_mod, Itp.p_pow, Itp.p_neg, Itp.p_eqI, Itp.p_eqS, Itp.p_neI, Itp.p_neS, Itp.p_eqL, Itp.p_eqT, Itp.p_eqN, Itp.p_eqB, Itp.p_neL, Itp.p_neT, Itp.p_neN, Itp.p_neB, Itp.p_lt, Itp.p_ltS, Itp.p_le, Itp.p_gt, Itp.p_ge, Itp.p_isN, Itp.p_notN, Itp.n_non, Itp.n_int, Itp.n_str, Itp.n_tup, Itp.n_lst, Itp.n_bl, Itp.p_inC, Itp.p_inL, Itp.p_inT, Itp.p_niC, Itp.p_niL, Itp.p_niT, Itp.p_ixL, Itp.p_ixT, Itp.p_ixR, Itp.p_ixS, Itp.p_sS0, Itp.p_sS1, Itp.p_sS2, Itp.p_sS3, Itp.p_sL1, Itp.p_sL2, Itp.p_sL3, Itp.p_sT1, Itp.p_sT2, Itp.p_sT3, Itp.p_revL, Itp.p_tup, Itp.p_lst, Itp.p_lenS, Itp.p_lenL, Itp.p_lenT, Itp.p_lenR, Itp.p_int, Itp.p_intB, Itp.p_listL, Itp.p_listT, Itp.p_tupleL, Itp.p_tupleT, Itp.p_min, Itp.p_max, Itp.kAB_u, Itp.kNB_u, Itp.p_all, Itp.p_any, Itp.p_isi, Itp.kJn_u, Itp.p_join, Itp.i_lst, Itp.i_tup, Itp.i_str, Itp.i_eL, Itp.i_eT, Itp.i_eS, Itp.i_r1, Itp.i_r2, Itp.i_r3, Itp.cut_n, Itp.kL_nx, Itp.kL_ct, Itp.kL_bk, Itp.kL_rt, Itp.kBd_u, Itp.kCi2_u, Itp.kCi1_t, Itp.kCi1_f, Itp.kCi_u, List.any_cons, List.any_nil, Bool.or_false, Bool.or_true, Bool.true_or, Bool.false_or, Bool.and_false, Bool.false_and, Bool.and_true, Bool.true_and, Bool.not_true, Bool.not_false, decide_true, decide_false, true_and, and_true, Nat.reduceAdd, Nat.zero_add, List.length_cons, List.length_nil, Int.reduceLT, Int.reduceLE, Int.reduceNeg, Int.reducePow, Int.reduceAdd, Int.reduceSub, Int.reduceMul, Nat.reduceLeDiff, Nat.reduceLT, Nat.reducePow, Nat.reduceMul, Int.reduceEq, Int.reduceToNat, Itp.typed, Itp.typOf, Itp.big, ne_eq, not_false_eq_true, reduceCtorEq, List.cons_append, List.nil_append, true_or, or_true, Itp.kOwnC_un, Itp.kOwnC_val, Itp.kOwnC_own, Itp.kOwns_u, Itp.w_owns, Itp.kR2_u, Itp.kR1_u, Itp.w_rn, Itp.w_rc, Itp.w_on, Itp.w_oc, Itp.rt_dct1, Itp.rt_dcomp, Itp.rt_comp2, Itp.od_comp2, Itp.w_comp2, Itp.kCmm_u, Itp.kCt2_u, Itp.kCt2c_u, Itp.kCt2d_u, Itp.kSet4_do, Itp.kSet4_dp, Itp.kD1c_u, Itp.kD1_u, Itp.w_dct1, Itp.kDm4_u, Itp.kDm_u, Itp.w_dcomp, Itp.od_dct1, Itp.od_dcomp, Itp.p_inD, Itp.p_niD, Itp.p_ixD, Itp.p_get, Itp.p_lenD, Itp.p_dct, Itp.p_trng1, Itp.p_trng2, Itp.p_lrng1, Itp.p_lrng2, Itp.p_find1, Itp.p_find2, Itp.kPos_u, Itp.p_indexL, Itp.p_indexS, Itp.kCnt_u, Itp.p_count, Itp.kNl_u, Itp.kSs_u, Itp.p_srtD, Itp.p_srt, Itp.p_listS, Itp.kSum_u, Itp.p_sum, Itp.p_sumT, Itp.p_abs, Itp.kI_u, Itp.p_minL, Itp.p_maxL, Itp.i_dk, Itp.i_di, Itp.kDi3_u, Itp.kDi2_u, Itp.kDi1_t, Itp.kDi1_f, Itp.kDi_u, Itp.mb_join, Itp.mb_find, Itp.mb_count, Itp.mb_index, Itp.mb_split, Itp.mb_replace, Itp.mb_get, Itp.mb_slc, Option.bind_some, Itp.p_intS1, Itp.p_intS2, Itp.p_str, Itp.p_split, Itp.p_fst5, Itp.p_sset, Itp.kSd_u, Itp.mb_fst5, Itp.kS2n_u, Itp.kS2_u, Itp.kS2d_t, Itp.w_seti2, Itp.kPopV_o, Itp.kPopV_p, Itp.kPop_o, Itp.kPop_p, Itp.w_pop, Itp.n_ftp, Itp.p_addF, Itp.p_eqF, Itp.p_neF, Itp.p_lenF, Itp.p_listF, Itp.p_ftup, Itp.p_sF1, Itp.p_sF3, Itp.kLs_u, Itp.p_lset, Itp.i_ftp, Itp.i_eF, Itp.p_ixF, Itp.p_indexF, Itp.cg_is_from, Itp.ch_is_from, Itp.cg_is_row, Itp.ch_is_row, Itp.cf_need_row_0, Itp.cg_need_row, Itp.ch_need_row, Itp.cf_is_face_by_0, Itp.cg_is_face_by, Itp.ch_is_face_by, Itp.cf_is_face_0, Itp.cf_is_face_1, Itp.cg_is_face, Itp.ch_is_face, Itp.cg__law_taken, Itp.ch__law_taken, Itp.cf__law_row_0, Itp.cg__law_row, Itp.ch__law_row, Itp.cg__law_joins, Itp.ch__law_joins, Itp.cf__law_is_face_0, Itp.cg__law_is_face, Itp.ch__law_is_face, Itp.cf_law_0, Itp.cf_law_1, Itp.cf_law_2, Itp.cf_law_3, Itp.cf_law_4, Itp.cg_law, Itp.ch_law, Itp.fl_1, $a,*] $[$l]?)
namespace Itp
open PySem L2
def U (s : Slot) : Prop := s = .un ∨ (∃ a, s = .val a) ∨ ∃ a, s = .own a
theorem U_un : U .un := .inl rfl
theorem U_val {a : D} : U (.val a) := .inr (.inl ⟨a, rfl⟩)
theorem U_own {a : D} : U (.own a) := .inr (.inr ⟨a, rfl⟩)
theorem kOwn2_U {s : Slot} (h : U s) {i : Nat} {Q : QF} {r : Res} {e : Env} : kOwn2 i Q r e s = Q .nx (e.set i r.slot) := by
  rcases h with rfl | ⟨a, rfl⟩ | ⟨a, rfl⟩ <;> rfl
theorem kT_U {s : Slot} (h : U s) {i : Nat} {d : D} {K : Env → Prop} {e : Env} : kT i d e K s = K (e.set i (.val d)) := by
  rcases h with rfl | ⟨a, rfl⟩ | ⟨a, rfl⟩ <;> rfl
theorem kOwnC_U {s : Slot} (h : U s) {i : Nat} {r : Res} {is : List Nat} {rs : List Res} {Q : QF} {X : QX} {e : Env} : kOwnC i r is rs Q X e s = Wp (ownsM is rs (e.set i r.slot)) Q X := by
  rcases h with rfl | ⟨a, rfl⟩ | ⟨a, rfl⟩ <;> rfl
theorem at4_0 {α : Type} {a b c d : α} : at? [a, b, c, d] 0 = some a := rfl
theorem at4_1 {α : Type} {a b c d : α} : at? [a, b, c, d] 1 = some b := rfl
theorem at4_2 {α : Type} {a b c d : α} : at? [a, b, c, d] 2 = some c := rfl
theorem at4_3 {α : Type} {a b c d : α} : at? [a, b, c, d] 3 = some d := rfl
theorem ix4_1 : ixOf 4 1 = some 1 := rfl
theorem ix4_2 : ixOf 4 2 = some 2 := rfl
theorem ix4_3 : ixOf 4 3 = some 3 := rfl
theorem tf_or {p : Prop} [Decidable p] : decide p = true ∨ decide p = false := by cases decide p <;> simp
def rowD (ns : List Int) (i s t : Int) : D := .lst [.scr ns, .int i, .int s, .int t]
def IsRow (ns : List Int) (d : D) : Prop := ∃ i s t, d = rowD ns i s t ∧ 0 ≤ i
theorem taken_w {ns : List Int} {d : D} {m : Int} {Q : Res → List D → Prop} {X : Xc → List D → Prop} (hd : IsRow ns d) (h0 : 0 < m) (h1 : m < 1606938044258990275541962092341162602522202993782792835301376) (k : ∀ v d', IsRow ns d' → 0 ≤ v → v < m → Q (.val (.int v)) [d']) :
    Wf (f__law_taken [.lent d, .val (.int m)]) Q X := by
  obtain ⟨i, s, t, rfl, hi⟩ := hd
  have hv : ∀ a : Int, 0 ≤ a % m ∧ a % m < m := fun a => ⟨Int.emod_nonneg _ (by omega), Int.emod_lt_of_pos _ h0⟩
  rw [w__law_taken]
  unfold b__law_taken rowD
  by_cases c1 : 0 < t
  · simp! only [at4_0, at4_1, at4_2, at4_3, ix4_1, ix4_2, ix4_3, c1, h0, h1]
    exact k _ _ ⟨i, s, _, rfl, hi⟩ (hv _).1 (hv _).2
  · by_cases c2 : (ns.length : Int) < i + 1
    · simp! only [at4_0, at4_1, at4_2, at4_3, ix4_1, ix4_2, ix4_3, c1, c2, h0, h1]
      exact k _ _ ⟨i + 1, _, t, rfl, by omega⟩ (hv _).1 (hv _).2
    · obtain ⟨x, hx, _⟩ := at_mem (xs := ns) hi (by omega)
      have e : i + 1 - 1 = i := by omega
      by_cases c3 : 1000000000000000000 ≤ x
      · simp! only [at4_0, at4_1, at4_2, at4_3, ix4_1, ix4_2, ix4_3, c1, c2, c3, e, hx, h0, h1]
        exact k _ _ ⟨i + 1, _, _, rfl, by omega⟩ (hv _).1 (hv _).2
      · simp! only [at4_0, at4_1, at4_2, at4_3, ix4_1, ix4_2, ix4_3, c1, c2, c3, e, hx, h0, h1]
        exact k _ _ ⟨i + 1, _, _, rfl, by omega⟩ (hv _).1 (hv _).2
/-- an integer from lo to hi, no truth value -/
def fromB (d : D) (lo hi : Int) : Bool := match d with
  | .int v => decide (lo ≤ v) && decide (v ≤ hi)
  | _ => false
theorem is_from_w {d : D} {lo hi : Int} {Q : Res → List D → Prop} {X : Xc → List D → Prop} (td : typed d = true) (k : Q (.val (.bl (fromB d lo hi))) []) : Wf (f_is_from [.val d, .val (.int lo), .val (.int hi)]) Q X := by
  rw [w_is_from]
  unfold b_is_from
  cases d with
  | int v =>
    by_cases h : lo ≤ v
    · simp! only [h]
      simpa only [fromB, h, decide_true, Bool.true_and] using k
    · simp! only [h]
      simpa only [fromB, h, decide_false, Bool.false_and] using k
  | dct t kvs =>
    cases t with
    | true => cases td
    | false => simp! only [true_and]; exact k
  | fn g => cases td
  | scr g => cases td
  | _ => simp! only [true_and]; exact k
def abc : List Nat := [97, 98, 99, 100, 101, 102, 103, 104, 46]
/-- a row of cells -/
def rowB (s : List Nat) : Bool := decide (1 ≤ s.length) && decide (s.length ≤ 12) && s.all (abc.contains ·)
def rowV (d : D) : Bool := match d with
  | .str s => rowB s
  | _ => false
def RowOk (s : List Nat) : Prop := 1 ≤ s.length ∧ s.length ≤ 12 ∧ ∀ c ∈ s, c ∈ abc
theorem rowB_t {s : List Nat} : rowB s = true ↔ RowOk s := by
  simp only [rowB, RowOk, Bool.and_eq_true, decide_eq_true_eq, List.all_eq_true, List.contains_iff_mem, and_assoc]
theorem is_row_w {d : D} {Q : Res → List D → Prop} {X : Xc → List D → Prop} (td : typed d = true) (hs : ∀ s, d = .str s → s.length ≤ 1000) (k : Q (.val (.bl (rowV d))) []) : Wf (f_is_row [.val d]) Q X := by
  rw [w_is_row]
  unfold b_is_row
  cases d with
  | str s =>
    have h2 := hs s rfl
    have hb : s.length ≤ 100000 := by omega
    have k : Q (.val (.bl (rowB s))) [] := k
    by_cases h1 : 1 ≤ s.length
    · by_cases h3 : s.length ≤ 12
      · have c1 : (1 : Int) ≤ s.length := by omega
        have c3 : (s.length : Int) ≤ 12 := by omega
        simp! only [hb, c1, c3]
        refine w_compI (fun r acc e => ∃ a b, s = a ++ b ∧ r = (b.map fun c => D.str [c]) ∧ acc = (a.map fun c => D.bl (abc.contains c)) ∧ e = [.val (.str s), .un]) _ _ _ ⟨[], s, rfl, rfl, rfl, rfl⟩ ?_ ?_
        · intro x r acc e ⟨a, b, e1, e2, e3, e4⟩
          subst e4
          cases b with
          | nil => cases e2
          | cons c b =>
            rw [List.map_cons] at e2
            obtain ⟨rfl, rfl⟩ := List.cons.inj e2
            simp! only [true_and]
            refine ⟨?_, a ++ [c], b, by rw [e1, List.append_assoc]; rfl, rfl, ?_⟩
            · rw [e3, List.length_map]
              have := congrArg List.length e1
              rw [List.length_append] at this
              omega
            · rw [e3, List.map_append]
              congr 1
              simp only [List.map_cons, List.map_nil, List.cons.injEq, D.bl.injEq, and_true]
              by_cases hc : c ∈ abc
              · rw [decide_eq_true (show c ∈ [97, 98, 99, 100, 101, 102, 103, 104, 46] from hc), List.contains_iff_mem.mpr hc]
              · rw [decide_eq_false (show c ∉ [97, 98, 99, 100, 101, 102, 103, 104, 46] from hc)]
                cases hh : abc.contains c with
                | false => rfl
                | true => exact absurd (List.contains_iff_mem.mp hh) hc
        · intro acc e ⟨a, b, e1, e2, e3, e4⟩
          cases b with
          | cons c b => cases e2
          | nil =>
            subst e4
            have bls : ∀ l : List Nat, bls? (l.map fun c => D.bl (abc.contains c)) = some (l.map fun c => abc.contains c) := fun l => by
              induction l with
              | nil => rfl
              | cons c l ih => simp only [List.map_cons, bls?, ih]; rfl
            simp! only [e3, bls]
            rw [List.append_nil] at e1
            rw [← e1]
            have : (List.map (fun c => abc.contains c) s).all id = rowB s := by
              simp only [rowB, decide_eq_true h1, decide_eq_true h3, Bool.true_and, List.all_map]
              rfl
            rw [this]
            exact k
      · have c1 : (1 : Int) ≤ s.length := by omega
        have c3 : ¬ (s.length : Int) ≤ 12 := by omega
        simp! only [hb, c1, c3]
        simpa only [rowB, decide_eq_false h3, Bool.and_false, Bool.false_and] using k
    · have c1 : ¬ (1 : Int) ≤ s.length := by omega
      simp! only [hb, c1]
      simpa only [rowB, decide_eq_false h1, Bool.false_and] using k
  | dct t kvs =>
    cases t with
    | true => cases td
    | false => simp! only [true_and]; exact k
  | fn g => cases td
  | scr g => cases td
  | _ => simp! only [true_and]; exact k
theorem need_row_w {d : D} {Q : Res → List D → Prop} {X : Xc → List D → Prop} (td : typed d = true) (hs : ∀ s, d = .str s → s.length ≤ 1000) (k1 : rowV d = true → Q (.val .non) []) (k2 : rowV d = false → X ⟨q_BadRow, []⟩ []) : Wf (f_need_row [.val d]) Q X := by
  rw [w_need_row]
  unfold b_need_row
  simp! only [true_and]
  refine is_row_w td hs ?_
  cases h : rowV d with
  | true => simp! only [true_and]; exact k1 h
  | false => simp! only [true_and]; exact k2 h
def SgOk (s : List Nat) : Prop := 1 ≤ s.length ∧ s.length ≤ 9 ∧ ∀ c ∈ s, c ∈ abc
theorem flat_rep {c : Nat} : ∀ n : Nat, (List.replicate n [c]).flatten = List.replicate n c
  | 0 => rfl
  | n + 1 => by rw [List.replicate_succ, List.replicate_succ, List.flatten_cons, flat_rep n]; rfl
theorem strs_c : ∀ cs : List Nat, strs? (cs.map fun c => D.str [c]) = some (cs.map fun c => [c])
  | [] => rfl
  | c :: cs => by simp only [List.map_cons, strs?, strs_c cs]; rfl
theorem join_e (cs : List Nat) : joinL [] (cs.map fun c => [c]) = cs := by
  have key : ∀ (l : List Nat) (acc : List Nat), (l.map fun c => [c]).foldl (fun acc p => acc ++ [] ++ p) acc = acc ++ l := by
    intro l
    induction l with
    | nil => intro acc; simp
    | cons x l ih => intro acc; simp only [List.map_cons, List.foldl_cons, ih]; simp
  unfold joinL
  cases cs with
  | nil => rfl
  | cons c cs =>
    simp only [List.map_cons, List.drop_succ_cons, List.drop_zero, List.headD_cons]
    rw [key]
    rfl
theorem sum_ones : ∀ cs : List Nat, ((cs.map fun c => [c]).map (·.length)).sum = cs.length
  | [] => rfl
  | c :: cs => by simp only [List.map_cons, List.sum_cons, sum_ones cs, List.length_cons, List.length_nil]; omega
theorem rngs_len' (a : Int) : ∀ n, (rngs a n).length = n
  | 0 => rfl
  | n + 1 => by simp [rngs, rngs_len' (a + 1) n]
theorem sg_take {v : Int} (h0 : 0 ≤ v) (h1 : v < 8) : SgOk (([97, 98, 99, 100, 101, 102, 103, 104] : List Nat).take (1 + v).toNat) ∧ (([97, 98, 99, 100, 101, 102, 103, 104] : List Nat).take (1 + v).toNat).length ≤ 8 := by
  refine ⟨⟨?_, ?_, fun c hc => ?_⟩, ?_⟩
  · rw [List.length_take]; simp only [List.length_cons, List.length_nil]; omega
  · rw [List.length_take]; simp only [List.length_cons, List.length_nil]; omega
  · have := List.mem_of_mem_take hc
    unfold abc
    simp only [List.mem_cons, List.not_mem_nil, or_false] at this ⊢
    omega
  · rw [List.length_take]; simp only [List.length_cons, List.length_nil]; omega
theorem sg_dot {s : List Nat} (h : SgOk s) (h8 : s.length ≤ 8) : SgOk (s ++ [46]) := by
  obtain ⟨g1, g2, g3⟩ := h
  refine ⟨by rw [List.length_append]; omega, by rw [List.length_append]; simp only [List.length_cons, List.length_nil]; omega, fun c hc => ?_⟩
  rcases List.mem_append.mp hc with z | z
  · exact g3 c z
  · simp only [List.mem_cons, List.not_mem_nil, or_false] at z
    subst z
    decide
theorem dip_len {r : List Nat} {c : Nat} {a b n : Int} (h0 : 0 ≤ a) (h1 : a ≤ b) (h2 : b < n) (hn : (r.length : Int) = n) : ((r.take a.toNat ++ List.replicate (b - a + 1).toNat c) ++ r.drop (b + 1).toNat).length = r.length := by
  rw [List.length_append, List.length_append, List.length_take, List.length_replicate, List.length_drop]
  omega
theorem dip_mem {r : List Nat} {c : Nat} {a b : Int} {P : Nat → Prop} (hr : ∀ x ∈ r, P x) (hc : P c) : ∀ x ∈ ((r.take a.toNat ++ List.replicate (b - a + 1).toNat c) ++ r.drop (b + 1).toNat), P x := fun x hx => by
  rcases List.mem_append.mp hx with z | z
  · rcases List.mem_append.mp z with z | z
    · exact hr x (List.mem_of_mem_take z)
    · rw [List.eq_of_mem_replicate z]; exact hc
  · exact hr x (List.mem_of_mem_drop z)
/-- a drawn row -/
theorem row_w {ns : List Int} {d : D} {m : Int} {Q : Res → List D → Prop} {X : Xc → List D → Prop} (hd : IsRow ns d) (h0 : 0 < m) (h1 : m ≤ 12) (k : ∀ r d', IsRow ns d' → RowOk r → (r.length : Int) ≤ m → Q (.val (.str r)) [d']) :
    Wf (f__law_row [.lent d, .val (.int m)]) Q X := by
  rw [w__law_row]
  unfold b__law_row
  simp! only [true_and]
  refine taken_w hd h0 (by omega) fun v1 d1 i1 a1 b1 => ?_
  simp! only [true_and]
  refine taken_w i1 (by omega) (by omega) fun v2 d2 i2 a2 b2 => ?_
  obtain ⟨z, hz, z1, z2⟩ : ∃ z, at? [D.int 2, .int 4, .int 8] v2 = some (.int z) ∧ 2 ≤ z ∧ z ≤ 8 := by
    have : v2 = 0 ∨ v2 = 1 ∨ v2 = 2 := by omega
    rcases this with rfl | rfl | rfl
    · exact ⟨2, rfl, by omega, by omega⟩
    · exact ⟨4, rfl, by omega, by omega⟩
    · exact ⟨8, rfl, by omega, by omega⟩
  simp! only [hz]
  refine taken_w i2 (by omega) (by omega) fun v3 d3 i3 a3 b3 => ?_
  have s0 : 0 ≤ 1 + v3 := by omega
  obtain ⟨g1, g8⟩ := sg_take a3 (by omega)
  simp! only [cut_p s0]
  generalize List.take (1 + v3).toNat [97, 98, 99, 100, 101, 102, 103, 104] = sg0 at g1 g8 ⊢
  refine taken_w i3 (by omega) (by omega) fun v4 d4 i4 a4 b4 => ?_
  -- what follows, for any signs
  have rest : ∀ sg d5, SgOk sg → IsRow ns d5 → Wp (exs c__law_row (b__law_row.drop 3) [.par d5, .val (.int m), .val (.int (1 + v1)), .val (.str sg), .un, .un, .un, .un, .un]) (kRun [.lent d, .val (.int m)] Q) (kRunX [.lent d, .val (.int m)] X) := by
    intro sg d5 gs i5
    obtain ⟨gs1, gs2, gs3⟩ := gs
    have gb : sg.length ≤ 100000 := by omega
    simp only [b__law_row, List.drop]
    simp! only [true_and]
    refine taken_w i5 (by omega) (by omega) fun v5 d6 i6 a5 b5 => ?_
    have ok1 : okI (1 + v1) = true := okI_c (by omega) (by omega)
    by_cases c5 : v5 = 0
    · simp! only [c5, ok1]
      refine w_compI (fun r acc e => ∃ d' cs, IsRow ns d' ∧ acc = (cs.map fun c => D.str [c]) ∧ (∀ c ∈ cs, c ∈ sg) ∧ cs.length + r.length = (1 + v1).toNat ∧ e = [.par d', .val (.int m), .val (.int (1 + v1)), .val (.str sg), .un, .un, .un, .un, .un]) _ _ _ ⟨d6, [], i6, rfl, fun c hc => (by cases hc), by rw [rngs_len']; simp, rfl⟩ ?_ ?_
      · intro x r acc e ⟨d', cs, j1, j2, j3, j4, j5⟩
        subst j5
        simp! only [gb]
        refine taken_w j1 (by omega) (by omega) fun v6 d7 i7 a6 b6 => ?_
        obtain ⟨c, hc, hm⟩ := at_mem (xs := sg) a6 b6
        simp! only [hc, gb]
        refine ⟨?_, d7, cs ++ [c], i7, by rw [j2, List.map_append]; rfl, fun y hy => ?_, by simp only [List.length_append, List.length_cons, List.length_nil] at j4 ⊢; omega, rfl⟩
        · rw [j2, List.length_map]
          simp only [List.length_cons] at j4
          omega
        · rcases List.mem_append.mp hy with z | z
          · exact j3 y z
          · simp only [List.mem_cons, List.not_mem_nil, or_false] at z
            rw [z]; exact hm
      · intro acc e ⟨d', cs, j1, j2, j3, j4, j5⟩
        subst j5
        rw [List.length_nil, Nat.add_zero] at j4
        simp! only [j2, strs_c, sum_ones, join_e]
        refine ⟨by simp only [List.length_nil, Nat.mul_zero]; omega, k cs d' j1 ⟨by omega, by omega, fun c hc => gs3 c (j3 c hc)⟩ (by omega)⟩
    · simp! only [c5]
      refine taken_w i6 (by omega) (by omega) fun v6 d7 i7 a6 b6 => ?_
      have loop : ∀ r d8, IsRow ns d8 → (r.length : Int) = 1 + v1 → (∀ c ∈ r, c ∈ abc) → Wp (exs c__law_row (b__law_row.drop 5) [.par d8, .val (.int m), .val (.int (1 + v1)), .val (.str sg), .un, .val (.str r), .un, .un, .un]) (kRun [.lent d, .val (.int m)] Q) (kRunX [.lent d, .val (.int m)] X) := by
        intro r d8 i8 rl rc
        simp only [b__law_row, List.drop]
        simp! only [true_and]
        refine taken_w i8 (by omega) (by omega) fun v7 d9 i9 a7 b7 => ?_
        have ok2 : okI (1 + v7) = true := okI_c (by omega) (by omega)
        simp! only [ok2]
        refine w_forI (fun _ e => ∃ d' r' s6 s7 s8, IsRow ns d' ∧ (r'.length : Int) = 1 + v1 ∧ (∀ c ∈ r', c ∈ abc) ∧ (s6 = .un ∨ ∃ a, s6 = .val a) ∧ (s7 = .un ∨ ∃ a, s7 = .val a) ∧ (s8 = .un ∨ ∃ a, s8 = .val a) ∧ e = [.par d', .val (.int m), .val (.int (1 + v1)), .val (.str sg), .un, .val (.str r'), s6, s7, s8]) _ _ ⟨d9, r, .un, .un, .un, i9, rl, rc, .inl rfl, .inl rfl, .inl rfl, rfl⟩ ?_ ?_
        · intro x xs e ⟨d', r', s6, s7, s8, j1, j2, j3, j6, j7, j8, j9⟩
          subst j9
          have rb : r'.length ≤ 100000 := by omega
          rcases j6 with rfl | ⟨y6, rfl⟩ <;> rcases j7 with rfl | ⟨y7, rfl⟩ <;> rcases j8 with rfl | ⟨y8, rfl⟩
          all_goals
            simp! only [true_and]
            refine taken_w j1 (by omega) (by omega) fun v8 d10 i10 a8 b8 => ?_
            simp! only [true_and]
            refine taken_w i10 (by omega) (by omega) fun v9 d11 i11 a9 b9 => ?_
            simp! only [gb, rb, cut_p a8]
            refine taken_w i11 (by omega) (by omega) fun v10 d12 i12 a10 b10 => ?_
            obtain ⟨c, hc, hm⟩ := at_mem (xs := sg) a10 b10
            have s1 : 0 ≤ v8 + v9 + 1 := by omega
            have m1 : -100000 ≤ v8 + v9 - v8 + 1 := by omega
            have m2 : v8 + v9 - v8 + 1 ≤ 100000 := by omega
            have m3 : 1 * (v8 + v9 - v8 + 1).toNat ≤ 100000 := by omega
            have dl := dip_len (r := r') (c := c) (a := v8) (b := v8 + v9) a8 (by omega) (by omega) j2
            have dm := dip_mem (r := r') (c := c) (a := v8) (b := v8 + v9) (P := fun x => x ∈ abc) j3 (gs3 c hm)
            simp! only [hc, gb, rb, cut_p a8, cut_s s1, flat_rep, m1, m2, m3]
            refine ⟨?_, ?_, d12, _, _, _, _, i12, by rw [dl]; exact j2, dm, .inr ⟨_, rfl⟩, .inr ⟨_, rfl⟩, .inr ⟨_, rfl⟩, rfl⟩
            · rw [List.length_take, List.length_replicate]; omega
            · have := dl
              rw [List.length_append] at this
              omega
        · intro e ⟨d', r', s6, s7, s8, j1, j2, j3, j6, j7, j8, j9⟩
          subst j9
          simp! only [true_and]
          exact k r' d' j1 ⟨by omega, by omega, j3⟩ (by omega)
      have m1 : -100000 ≤ 1 + v1 := by omega
      have m2 : 1 + v1 ≤ 100000 := by omega
      have m3 : 1 * (1 + v1).toNat ≤ 100000 := by omega
      by_cases c6 : v6 = 0
      · have l2 := loop (List.replicate (1 + v1).toNat 46) d7 i7 (by rw [List.length_replicate]; omega) (fun c hc => by rw [List.eq_of_mem_replicate hc]; decide)
        simp only [b__law_row, List.drop] at l2
        simp! only [c6, m1, m2, m3, flat_rep] at l2 ⊢
        exact l2
      · obtain ⟨c, hc, hm⟩ := at_mem (xs := sg) (i := 0) (by omega) (by omega)
        have l2 := loop (List.replicate (1 + v1).toNat c) d7 i7 (by rw [List.length_replicate]; omega) (fun y hy => by rw [List.eq_of_mem_replicate hy]; exact gs3 c hm)
        simp only [b__law_row, List.drop] at l2
        simp! only [c6, m1, m2, m3, flat_rep, gb, hc] at l2 ⊢
        exact l2
  by_cases c4 : v4 = 0
  · have l2 := rest (sg0 ++ [46]) d4 (sg_dot g1 g8) i4
    simp only [b__law_row, List.drop] at l2
    have lb : sg0.length + 1 ≤ 100000 := by omega
    simp! only [c4, lb] at l2 ⊢
    exact l2
  · have l2 := rest sg0 d4 g1 i4
    simp only [b__law_row, List.drop] at l2
    simp! only [c4] at l2 ⊢
    exact l2
def T1 (d : D) : Prop := typed d = true ∧ ∀ s, d = .str s → s.length ≤ 1000
def T2 (d : D) : Prop := T1 d ∧ ∀ xs, d = .tup xs → ∀ x ∈ xs, T1 x
def letters : List Nat := [97, 98, 99, 100, 101, 102, 103, 104]
def letB (d : D) : Bool := match d with
  | .str [c] => decide (c ∈ letters)
  | _ => false
def dip3 (many : Int) (a b c : D) : Bool := match a with
  | .int v => fromB a 0 (many - 1) && (fromB b v (many - 1) && letB c)
  | _ => false
def dipB (many : Int) (d : D) : Bool := match d with
  | .tup [a, b, c] => dip3 many a b c
  | _ => false
theorem at3_0 {α : Type} {a b c : α} : at? [a, b, c] 0 = some a := rfl
theorem at3_1 {α : Type} {a b c : α} : at? [a, b, c] 1 = some b := rfl
theorem at3_2 {α : Type} {a b c : α} : at? [a, b, c] 2 = some c := rfl
def firstBad (many : Int) : Int → List D → Option D
  | _, [] => none
  | i, x :: xs => if dipB many x then firstBad many (i + 1) xs else some (.int i)
def seqOf : D → Option (List D)
  | .lst xs => some xs
  | .tup xs => some xs
  | _ => none
def dipsBad (many : Int) (d : D) : Option D := match seqOf d with
  | some xs => if 30 < xs.length then some .non else firstBad many 0 xs
  | none => some .non
theorem Wp.mono {α : Type} {r : Rs α} {Q Q' : α → Env → Prop} {X X' : QX} (h : Wp r Q X) (hq : ∀ a e, Q a e → Q' a e) (hx : ∀ x e, X x e → X' x e) : Wp r Q' X' := by
  cases r with
  | ok a e => exact hq a e h
  | ex x e => exact hx x e h
  | no => exact h
theorem Wo.mono {α : Type} {r : Option α} {Q Q' : α → Prop} (h : Wo r Q) (hq : ∀ a, Q a → Q' a) : Wo r Q' := by
  cases r with
  | some a => exact hq a h
  | none => exact h
theorem kCi_mono {C : Cfg} {I I' : List D → List D → Env → Prop} {own : List Nat} {cs : List E} {elt : E} {r acc : List D} {e : Env} (hi : ∀ r acc e, I r acc e → I' r acc e) (h : kCi C I own cs elt r acc e) : kCi C I' own cs elt r acc e := by
  refine Wp.mono (X := kNo) h (fun b e2 hb => ?_) fun _ _ z => z
  cases b with
  | false => exact hi _ _ _ hb
  | true => exact Wp.mono (X := kNo) hb (fun a e3 ⟨h1, h2⟩ => ⟨h1, hi _ _ _ h2⟩) fun _ _ z => z
/-- a comprehension that leaves what stands: what it gives, item by item -/
theorem w_compM {C : Cfg} {tg : Tg} {own : List Nat} {cs : List E} {elt : E} {Q : List D → Env → Prop} {X : QX} {xs : List D} {e : Env} (f : D → Option D) (hb : xs.length ≤ big)
    (st : ∀ x ∈ xs, ∀ r acc, acc.length < big → Wo (bindT tg x e) (kCi C (fun r' acc' e' => r' = r ∧ acc' = acc ++ (f x).toList ∧ e' = e) own cs elt r acc)) (k : Q (xs.filterMap f) e) : Wp (compL tg own (evAll C cs) (fz (ev C elt)) xs [] e) Q X := by
  refine w_compI (fun r acc e' => ∃ a, xs = a ++ r ∧ acc = a.filterMap f ∧ e' = e) _ _ _ ⟨[], rfl, rfl, rfl⟩ ?_ ?_
  · intro x r acc e' ⟨a, h1, h2, h3⟩
    subst h3
    have hl : acc.length < big := by
      have h4 := List.length_filterMap_le f a
      have h5 := congrArg List.length h1
      rw [List.length_append, List.length_cons] at h5
      rw [h2]
      omega
    refine Wo.mono (st x (by rw [h1]; simp) r acc hl) fun e1 h => kCi_mono (fun r' acc' e'' ⟨g1, g2, g3⟩ => ?_) h
    refine ⟨a ++ [x], by rw [h1, g1, List.append_assoc]; rfl, ?_, g3⟩
    rw [g2, h2, List.filterMap_append]
    cases hf : f x with
    | none => simp [hf]
    | some y => simp [hf]
  · intro acc e' ⟨a, h1, h2, h3⟩
    rw [List.append_nil] at h1
    rw [h2, ← h1, h3]
    exact k
theorem bls_map {α : Type} (g : α → Bool) : ∀ l : List α, bls? (l.map fun x => D.bl (g x)) = some (l.map g)
  | [] => rfl
  | x :: l => by simp only [List.map_cons, bls?, bls_map g l]; rfl
theorem filterMap_some {α β : Type} (g : α → β) (l : List α) : l.filterMap (fun x => some (g x)) = l.map g := by
  induction l with
  | nil => rfl
  | cons x l ih => simp [ih]
theorem all_id {α : Type} (g : α → Bool) (l : List α) : (l.map g).all id = l.all g := by rw [List.all_map]; rfl
theorem any_id {α : Type} (g : α → Bool) (l : List α) : (l.map g).any id = l.any g := by rw [List.any_map]; rfl
/-- dips as data -/
abbrev Dip := Int × Int × Nat
def dD (p : Dip) : D := .tup [.int p.1, .int p.2.1, .str [p.2.2]]
def DipOk (n : Int) (p : Dip) : Prop := 0 ≤ p.1 ∧ p.1 ≤ p.2.1 ∧ p.2.1 < n ∧ p.2.2 ∈ letters
def dip1 (r : List Nat) (p : Dip) : List Nat := (r.take p.1.toNat ++ List.replicate (p.2.1 - p.1 + 1).toNat p.2.2) ++ r.drop (p.2.1 + 1).toNat
def dipAll (r : List Nat) (ps : List Dip) : List Nat := ps.foldl dip1 r
theorem dipB_iff {m : Int} {d : D} : dipB m d = true ↔ ∃ p, d = dD p ∧ DipOk m p := by
  constructor
  · intro h
    cases d with
    | tup xs =>
      match xs, h with
      | [a, b, c], h =>
        have h : dip3 m a b c = true := h
        cases a with
        | int v =>
          simp only [dip3, Bool.and_eq_true] at h
          obtain ⟨h1, h2, h3⟩ := h
          cases b with
          | int w =>
            cases c with
            | str s =>
              match s, h3 with
              | [c], h3 =>
                simp only [fromB, Bool.and_eq_true, decide_eq_true_eq] at h1 h2
                simp only [letB, decide_eq_true_eq] at h3
                exact ⟨(v, w, c), rfl, h1.1, h2.1, by show w < m; omega, h3⟩
              | [], h3 => cases h3
              | _ :: _ :: _, h3 => cases h3
            | _ => cases h3
          | _ => cases h2
        | _ => cases h
      | [], h => cases h
      | [_], h => cases h
      | [_, _], h => cases h
      | _ :: _ :: _ :: _ :: _, h => cases h
    | _ => cases h
  · rintro ⟨p, rfl, h0, h1, h2, h3⟩
    simp only [dD, dipB, dip3, fromB, letB, Bool.and_eq_true, decide_eq_true_eq]
    exact ⟨⟨h0, by omega⟩, ⟨h1, by omega⟩, h3⟩
theorem dD_T2 {p : Dip} : T2 (dD p) := by
  refine ⟨⟨rfl, fun s e => by cases e⟩, fun xs e x hx => ?_⟩
  cases e
  simp only [List.mem_cons, List.not_mem_nil, or_false] at hx
  rcases hx with rfl | rfl | rfl
  · exact ⟨rfl, fun s e => by cases e⟩
  · exact ⟨rfl, fun s e => by cases e⟩
  · exact ⟨rfl, fun s e => by cases e; simp⟩
theorem let_abc {c : Nat} (h : c ∈ letters) : c ∈ abc := by
  unfold letters at h
  unfold abc
  simp only [List.mem_cons, List.not_mem_nil, or_false] at h ⊢
  omega
theorem dip1_len {r : List Nat} {p : Dip} (h : DipOk r.length p) : (dip1 r p).length = r.length := dip_len h.1 h.2.1 h.2.2.1 rfl
theorem dip1_ok {r : List Nat} {p : Dip} (h : DipOk r.length p) (hr : RowOk r) : RowOk (dip1 r p) := by
  have := dip1_len h
  exact ⟨by have := hr.1; omega, by have := hr.2.1; omega, dip_mem hr.2.2 (let_abc h.2.2.2)⟩
theorem dipAll_len : ∀ {ps : List Dip} {r : List Nat}, (∀ p ∈ ps, DipOk r.length p) → (dipAll r ps).length = r.length
  | [], r, _ => rfl
  | p :: ps, r, h => by
    have h1 := dip1_len (h p (by simp))
    show (dipAll (dip1 r p) ps).length = _
    rw [dipAll_len fun q hq => by rw [h1]; exact h q (by simp [hq]), h1]
theorem dipAll_ok : ∀ {ps : List Dip} {r : List Nat}, (∀ p ∈ ps, DipOk r.length p) → RowOk r → RowOk (dipAll r ps)
  | [], r, _, hr => hr
  | p :: ps, r, h, hr => by
    have h1 := dip1_len (h p (by simp))
    exact dipAll_ok (r := dip1 r p) (fun q hq => by rw [h1]; exact h q (by simp [hq])) (dip1_ok (h p (by simp)) hr)
def areB (m : Int) (d : D) : Bool := match seqOf d with
  | some xs => decide (xs.length ≤ 30) && xs.all (dipB m)
  | none => false
theorem first_none {m : Int} : ∀ (xs : List D) (i : Int), firstBad m i xs = none ↔ xs.all (dipB m) = true
  | [], _ => by simp [firstBad]
  | x :: xs, i => by
    simp only [firstBad, List.all_cons]
    cases h : dipB m x with
    | true => simpa using first_none xs (i + 1)
    | false => simp
theorem dipsBad_iff {m : Int} {d : D} : dipsBad m d = none ↔ areB m d = true := by
  unfold dipsBad areB
  cases seqOf d with
  | none => simp
  | some xs =>
    simp only [Bool.and_eq_true, decide_eq_true_eq]
    by_cases h : 30 < xs.length
    · rw [if_pos h]
      constructor
      · intro z; cases z
      · rintro ⟨z, _⟩; omega
    · rw [if_neg h, first_none]
      constructor
      · intro z; exact ⟨by omega, z⟩
      · exact fun z => z.2
theorem areB_dips {m : Int} {d : D} (h : areB m d = true) : ∃ ps : List Dip, seqOf d = some (ps.map dD) ∧ (∀ p ∈ ps, DipOk m p) ∧ ps.length ≤ 30 := by
  unfold areB at h
  cases hs : seqOf d with
  | none => rw [hs] at h; cases h
  | some xs =>
    rw [hs] at h
    simp only [Bool.and_eq_true, decide_eq_true_eq] at h
    have key : ∀ xs : List D, xs.all (dipB m) = true → ∃ ps : List Dip, xs = ps.map dD ∧ ∀ p ∈ ps, DipOk m p := by
      intro xs
      induction xs with
      | nil => exact fun _ => ⟨[], rfl, fun p hp => by cases hp⟩
      | cons x xs ih =>
        intro h
        rw [List.all_cons, Bool.and_eq_true] at h
        obtain ⟨p, rfl, hp⟩ := dipB_iff.mp h.1
        obtain ⟨ps, rfl, hps⟩ := ih h.2
        refine ⟨p :: ps, rfl, fun q hq => ?_⟩
        rcases List.mem_cons.mp hq with rfl | hq
        · exact hp
        · exact hps q hq
    obtain ⟨ps, rfl, hp⟩ := key xs h.2
    exact ⟨ps, rfl, hp, by have := h.1; rwa [List.length_map] at this⟩
theorem areB_of {m : Int} {d : D} {ps : List Dip} (h : seqOf d = some (ps.map dD)) (hp : ∀ p ∈ ps, DipOk m p) : areB m d = decide (ps.length ≤ 30) := by
  unfold areB
  rw [h]
  have : (ps.map dD).all (dipB m) = true := by
    rw [List.all_eq_true]
    intro x hx
    obtain ⟨p, h1, rfl⟩ := List.mem_map.mp hx
    exact dipB_iff.mpr ⟨p, rfl, hp p h1⟩
  simp only [this, Bool.and_true, List.length_map]
theorem at_hd {α : Type} {h : α} {tl : List α} : at? (h :: tl) 0 = some h := by
  rw [at_nat (by omega)]; rfl
theorem at_mid {α : Type} {a : α} {pre l : List α} {i : Int} (h : i = pre.length) : at? (pre ++ a :: l) i = some a := by
  subst h
  rw [at_nat (by omega), Int.toNat_natCast, List.getElem?_append_right (Nat.le_refl _), Nat.sub_self]; rfl
theorem at_mid2 {α : Type} {a b : α} {pre l : List α} {i : Int} (h : i = pre.length + 1) : at? (pre ++ a :: b :: l) i = some b := by
  have := at_mid (a := b) (pre := pre ++ [a]) (l := l) (i := i) (by rw [List.length_append]; simp only [List.length_cons, List.length_nil]; omega)
  rwa [List.append_assoc, List.singleton_append] at this
theorem at2_0 {α : Type} {a b : α} : at? [a, b] 0 = some a := rfl
theorem at2_1 {α : Type} {a b : α} : at? [a, b] 1 = some b := rfl
theorem dD_inj : ∀ {ps qs : List Dip}, ps.map dD = qs.map dD → ps = qs
  | [], [], _ => rfl
  | [], _ :: _, h => by cases h
  | _ :: _, [], h => by cases h
  | (a, b, c) :: ps, (a', b', c') :: qs, h => by
    rw [List.map_cons, List.map_cons] at h
    obtain ⟨h1, h2⟩ := List.cons.inj h
    rw [dD_inj h2]
    simp only [dD, D.tup.injEq, List.cons.injEq, D.int.injEq, D.str.injEq, and_true] at h1
    obtain ⟨rfl, rfl, rfl⟩ := h1
    rfl
theorem row_v {r : List Nat} (h : RowOk r) : rowV (.str r) = true := rowB_t.mpr h
theorem t1_str {r : List Nat} (h : r.length ≤ 1000) : T1 (.str r) := ⟨rfl, fun s e => by cases e; exact h⟩
theorem t1_dips {ps : List Dip} {d : D} (h : seqOf d = some (ps.map dD)) : T1 d := by
  cases d with
  | lst xs => exact ⟨rfl, fun s e => by cases e⟩
  | tup xs => exact ⟨rfl, fun s e => by cases e⟩
  | _ => cases h
theorem t2_dips {ps : List Dip} {d : D} (h : seqOf d = some (ps.map dD)) : ∀ xs, seqOf d = some xs → ∀ x ∈ xs, T2 x := fun xs e x hx => by
  rw [h] at e
  cases e
  obtain ⟨p, _, rfl⟩ := List.mem_map.mp hx
  exact dD_T2
theorem set_mid {α : Type} {A r : List α} {c : α} {i : Nat} (h : A.length = i) (hi : i < r.length) : (A ++ r.drop i).set i c = (A ++ [c]) ++ r.drop (i + 1) := by
  subst h
  rw [List.set_append_right _ _ (Nat.le_refl _), Nat.sub_self, List.drop_eq_getElem_cons hi, List.set_cons_zero, List.append_assoc]
  rfl
theorem ix_at {n : Nat} {i : Int} (h0 : 0 ≤ i) (h1 : i < n) : ixOf n i = some i.toNat := by
  unfold ixOf
  simp only [h0, if_true]
  first | rw [if_pos h1] | (rw [if_pos ⟨h0, h1⟩]) | (simp; omega)
def t1B (d : D) : Bool := typed d && (match d with
  | .str s => decide (s.length ≤ 1000)
  | _ => true)
def t2B (d : D) : Bool := t1B d && (match d with
  | .tup xs => xs.all t1B
  | _ => true)
theorem t1_of {d : D} (h : t1B d = true) : T1 d := by
  unfold t1B at h
  rw [Bool.and_eq_true] at h
  refine ⟨h.1, fun s e => ?_⟩
  subst e
  exact of_decide_eq_true h.2
theorem t2_of {d : D} (h : t2B d = true) : T2 d := by
  unfold t2B at h
  rw [Bool.and_eq_true] at h
  refine ⟨t1_of h.1, fun s e x hx => ?_⟩
  subst e
  exact t1_of (List.all_eq_true.mp h.2 x hx)
theorem wo_at {α : Type} {xs : List α} {v : Int} {K : α → Prop} (h0 : 0 ≤ v) (h1 : v < xs.length) (k : ∀ c ∈ xs, K c) : Wo (at? xs v) K := by
  obtain ⟨c, hc, hm⟩ := at_mem h0 h1
  rw [hc]
  exact k c hm
theorem mem_flat {α : Type} {x y : α} {n : Nat} (h : x ∈ (List.replicate n [y]).flatten) : x = y := by
  rw [List.mem_flatten] at h
  obtain ⟨l, h1, h2⟩ := h
  rw [List.eq_of_mem_replicate h1] at h2
  simpa using h2
theorem flat_len {α : Type} {y : α} {n : Nat} : (List.replicate n [y]).flatten.length = n := by
  induction n with
  | zero => rfl
  | succ n ih => rw [List.replicate_succ, List.flatten_cons, List.length_append, ih]; simp only [List.length_cons, List.length_nil]; omega
/-- a value that may be looked at as dips -/
def TV (v : D) : Prop := T1 v ∧ ∀ xs, seqOf v = some xs → ∀ x ∈ xs, T2 x
theorem tv_no {v : D} (h : t1B v = true) (hs : seqOf v = none) : TV v := ⟨t1_of h, fun xs e => by rw [hs] at e; cases e⟩
theorem tv_l {xs : List D} (h : ∀ x ∈ xs, T2 x) : TV (.lst xs) := ⟨t1_of rfl, fun ys e => by cases e; exact h⟩
theorem tv_t {xs : List D} (h : ∀ x ∈ xs, T2 x) : TV (.tup xs) := ⟨t1_of rfl, fun ys e => by cases e; exact h⟩
/-! ### faces -/
def topV (v : Nat → Option Int) : Nat → Int
  | 0 => 0
  | i + 1 => match v i with
    | some x => if topV v i < x + 1 then x + 1 else topV v i
    | none => topV v i
theorem topV_none {v : Nat → Option Int} {k : Nat} (h : v k = none) : topV v (k + 1) = topV v k := by rw [topV, h]
theorem topV_some {v : Nat → Option Int} {k : Nat} {x : Int} (h : v k = some x) : topV v (k + 1) = if topV v k < x + 1 then x + 1 else topV v k := by rw [topV, h]
theorem topV_nn (v : Nat → Option Int) : ∀ k, 0 ≤ topV v k
  | 0 => Int.le_refl _
  | k + 1 => by
    have ih := topV_nn v k
    cases h : v k with
    | none => rw [topV_none h]; exact ih
    | some x => rw [topV_some h]; split <;> omega
def PF1 (r : Nat → Nat) (v : Nat → Option Int) (k : Nat) : Prop := ∀ i, i < k → (r i = 46 ∧ v i = none) ∨ (r i ≠ 46 ∧ ∃ x, v i = some x ∧ 0 ≤ x ∧ x ≤ topV v i)
def ND (r : Nat → Nat) (a b : Nat) : Prop := ∀ i, a ≤ i → i < b → r i ≠ 46
def PF2 (r : Nat → Nat) (v : Nat → Option Int) (k : Nat) : Prop := ∀ a b x, a < b → b < k → v a = some x → v b = some x → (r a = r b ∧ ND r a (b + 1)) ∧ ∀ c d y, a ≤ c → c < b → b < d → d < k → v c = some y → y ≠ x → v d ≠ some y
def ClF (v : Nat → Option Int) (k : Nat) (x : Int) : Prop := ∃ a b c z, a < b ∧ b < c ∧ c < k ∧ v a = some z ∧ v b = some x ∧ v c = some z ∧ z ≠ x
def OpF (r : Nat → Nat) (v : Nat → Option Int) (k : Nat) (x : Int) : Prop := (∃ i, i < k ∧ v i = some x ∧ ND r i k) ∧ ¬ ClF v k x
def FaceP (r : Nat → Nat) (v : Nat → Option Int) (n : Nat) : Prop := PF1 r v n ∧ PF2 r v n
section
variable {r : Nat → Nat} {v : Nat → Option Int} {k : Nat}
theorem PF1.le {j : Nat} (h : PF1 r v k) (hj : j ≤ k) : PF1 r v j := fun i hi => h i (by omega)
theorem PF2.le {j : Nat} (h : PF2 r v k) (hj : j ≤ k) : PF2 r v j := fun a b x h1 h2 h3 h4 => by
  obtain ⟨g1, g2⟩ := h a b x h1 (by omega) h3 h4
  exact ⟨g1, fun c d y a1 a2 a3 a4 => g2 c d y a1 a2 a3 (by omega)⟩
theorem top_lt {i : Nat} {x : Int} : ∀ {k : Nat}, i < k → v i = some x → x < topV v k
  | k + 1, h, e => by
    by_cases hi : i = k
    · subst hi
      rw [topV_some e]
      split <;> omega
    · have ih := top_lt (k := k) (by omega) e
      cases hk : v k with
      | none => rw [topV_none hk]; exact ih
      | some y => rw [topV_some hk]; split <;> omega
theorem top_occ {x : Int} : ∀ {k : Nat}, PF1 r v k → 0 ≤ x → x < topV v k → ∃ i, i < k ∧ v i = some x
  | 0, _, h0, h1 => by simp only [topV] at h1; omega
  | k + 1, h, h0, h1 => by
    by_cases hx : x < topV v k
    · obtain ⟨i, g1, g2⟩ := top_occ (k := k) (h.le (by omega)) h0 hx
      exact ⟨i, by omega, g2⟩
    · rcases h k (by omega) with ⟨_, e⟩ | ⟨_, y, e, y0, y1⟩
      · rw [topV_none e] at h1; omega
      · rw [topV_some e] at h1
        split at h1
        · exact ⟨k, by omega, by rw [e]; congr 1; omega⟩
        · omega
theorem top_before {i : Nat} {x y : Int} (h : PF1 r v k) (hi : i < k) (e : v i = some y) (h0 : 0 ≤ x) (hx : x < y) : ∃ a, a < i ∧ v a = some x := by
  rcases h i hi with ⟨_, z⟩ | ⟨_, w, z, w0, w1⟩
  · rw [e] at z; cases z
  · rw [e] at z; cases z
    exact top_occ (h.le (by omega)) h0 (by omega)
theorem topV_le : ∀ {k : Nat}, PF1 r v k → topV v k ≤ k
  | 0, _ => Int.le_refl _
  | k + 1, h => by
    have ih := topV_le (k := k) (h.le (by omega))
    rcases h k (by omega) with ⟨_, e⟩ | ⟨_, x, e, _, x1⟩
    · rw [topV_none e]; omega
    · rw [topV_some e]; split <;> omega
theorem PF1.snoc (h : PF1 r v k) (e : (r k = 46 ∧ v k = none) ∨ (r k ≠ 46 ∧ ∃ x, v k = some x ∧ 0 ≤ x ∧ x ≤ topV v k)) : PF1 r v (k + 1) := fun i hi => by
  by_cases hk : i = k
  · subst hk; exact e
  · exact h i (by omega)
theorem face_dot (h2 : PF2 r v k) (hr : r k = 46) (e : v k = none) : PF2 r v (k + 1) ∧ ∀ x, ¬ OpF r v (k + 1) x := by
  refine ⟨fun a b x a1 a2 a3 a4 => ?_, fun x ⟨⟨i, i1, i2, i3⟩, _⟩ => i3 k (by omega) (by omega) hr⟩
  have hb : b < k := by
    by_cases hb : b = k
    · subst hb; rw [e] at a4; cases a4
    · omega
  obtain ⟨g1, g2⟩ := h2 a b x a1 hb a3 a4
  refine ⟨g1, fun c d y c1 c2 c3 c4 c5 c6 => ?_⟩
  by_cases hd : d = k
  · subst hd; rw [e]; exact nofun
  · exact g2 c d y c1 c2 c3 (by omega) c5 c6
theorem face_new (h1 : PF1 r v k) (h2 : PF2 r v k) (hr : r k ≠ 46) (e : v k = some (topV v k)) : PF2 r v (k + 1) ∧ ∀ x, OpF r v (k + 1) x ↔ (OpF r v k x ∨ x = topV v k) := by
  have no : ∀ i, i < k → v i ≠ some (topV v k) := fun i hi z => by have := top_lt hi z; omega
  refine ⟨fun a b x a1 a2 a3 a4 => ?_, fun x => ?_⟩
  · have hb : b < k := by
      by_cases hb : b = k
      · subst hb
        rw [e] at a4
        exact absurd (a3.trans a4.symm) (no a a1)
      · omega
    obtain ⟨g1, g2⟩ := h2 a b x a1 hb a3 a4
    refine ⟨g1, fun c d y c1 c2 c3 c4 c5 c6 => ?_⟩
    by_cases hd : d = k
    · subst hd
      rw [e]
      intro z
      cases z
      exact no c (by omega) c5
    · exact g2 c d y c1 c2 c3 (by omega) c5 c6
  · constructor
    · rintro ⟨⟨i, i1, i2, i3⟩, cl⟩
      by_cases hi : i = k
      · subst hi
        rw [e] at i2
        right
        exact (Option.some.inj i2).symm
      · left
        refine ⟨⟨i, by omega, i2, fun j j1 j2 => i3 j j1 (by omega)⟩, fun ⟨a, b, c, z, q1, q2, q3, q⟩ => cl ⟨a, b, c, z, q1, q2, by omega, q⟩⟩
    · rintro (⟨⟨i, i1, i2, i3⟩, cl⟩ | rfl)
      · refine ⟨⟨i, by omega, i2, fun j j1 j2 => ?_⟩, fun ⟨a, b, c, z, q1, q2, q3, q4, q5, q6, q7⟩ => ?_⟩
        · by_cases hj : j = k
          · rw [hj]; exact hr
          · exact i3 j j1 (by omega)
        · by_cases hc : c = k
          · subst hc
            rw [e] at q6
            cases q6
            exact no a (by omega) q4
          · exact cl ⟨a, b, c, z, q1, q2, by omega, q4, q5, q6, q7⟩
      · refine ⟨⟨k, by omega, e, fun j j1 j2 => ?_⟩, fun ⟨a, b, c, z, q1, q2, q3, q4, q5, q6, q7⟩ => no b (by omega) q5⟩
        rw [show j = k by omega]; exact hr
theorem face_shut {x : Int} (h1 : PF1 r v k) (h2 : PF2 r v (k + 1)) (e : v k = some x) (h0 : 0 ≤ x) (hx : x < topV v k) (no : ¬ OpF r v k x) : False := by
  obtain ⟨i, i1, i2⟩ := top_occ h1 h0 hx
  refine no ⟨⟨i, i1, i2, fun j j1 j2 => ?_⟩, fun ⟨a, b, c, z, q1, q2, q3, q4, q5, q6, q7⟩ => ?_⟩
  · exact (h2 i k x i1 (by omega) i2 e).1.2 j j1 (by omega)
  · exact (h2 a c z (by omega) (by omega) q4 q6).2 b k x (by omega) q2 (by omega) (by omega) q5 (fun h => q7 h.symm) e
theorem face_old {x : Int} {f : Nat} (h1 : PF1 r v k) (h2 : PF2 r v k) (hr : r k ≠ 46) (e : v k = some x) (op : OpF r v k x) (hf : f < k) (ef : v f = some x) (rf : r f = r k) : PF2 r v (k + 1) ∧ ∀ y, 0 ≤ y → (OpF r v (k + 1) y ↔ (OpF r v k y ∧ y ≤ x)) := by
  obtain ⟨⟨i, i1, i2, i3⟩, cl⟩ := op
  have x0 : 0 ≤ x := by
    rcases h1 f hf with ⟨_, z⟩ | ⟨_, w, z, w0, _⟩
    · rw [ef] at z; cases z
    · rw [ef] at z; cases z; exact w0
  have same : ∀ a, a < k → v a = some x → r a = r k := fun a ha ea => by
    by_cases h : a = f
    · rw [h]; exact rf
    · rcases Nat.lt_or_gt_of_ne h with h | h
      · rw [(h2 a f x h hf ea ef).1.1]; exact rf
      · rw [← (h2 f a x h ha ef ea).1.1]; exact rf
  have nd : ∀ a, a < k → v a = some x → ND r a (k + 1) := fun a ha ea j j1 j2 => by
    by_cases hj : j = k
    · rw [hj]; exact hr
    · by_cases hi : i ≤ j
      · exact i3 j hi (by omega)
      · exact (h2 a i x (by omega) i1 ea i2).1.2 j j1 (by omega)
  refine ⟨fun a b w a1 a2 a3 a4 => ?_, fun y y0 => ?_⟩
  · by_cases hb : b = k
    · subst hb
      rw [e] at a4
      cases a4
      exact ⟨⟨same a a1 a3, nd a a1 a3⟩, fun c d y c1 c2 c3 c4 => by omega⟩
    · obtain ⟨g1, g2⟩ := h2 a b w a1 (by omega) a3 a4
      refine ⟨g1, fun c d y c1 c2 c3 c4 c5 c6 => ?_⟩
      by_cases hd : d = k
      · subst hd
        rw [e]
        intro z
        cases z
        have ac : a ≠ c := fun z => by rw [z, c5] at a3; cases a3; exact c6 rfl
        exact cl ⟨a, c, b, w, by omega, c2, by omega, a3, c5, a4, fun h => c6 h.symm⟩
      · exact g2 c d y c1 c2 c3 (by omega) c5 c6
  · constructor
    · rintro ⟨⟨j, j1, j2, j3⟩, cl2⟩
      by_cases hy : y = x
      · subst hy
        exact ⟨⟨⟨i, i1, i2, i3⟩, cl⟩, Int.le_refl _⟩
      · have jk : j < k := by
          by_cases hj : j = k
          · subst hj; rw [e] at j2; cases j2; exact absurd rfl hy
          · omega
        refine ⟨⟨⟨j, jk, j2, fun q q1 q2 => j3 q q1 (by omega)⟩, fun ⟨a, b, c, z, q1, q2, q3, q⟩ => cl2 ⟨a, b, c, z, q1, q2, by omega, q⟩⟩, ?_⟩
        by_cases hle : y ≤ x
        · exact hle
        · obtain ⟨a, a1, a2⟩ := top_before h1 jk j2 x0 (by omega)
          exact absurd ⟨a, j, k, x, a1, jk, by omega, a2, j2, e, fun z => hy z.symm⟩ cl2
    · rintro ⟨⟨⟨j, j1, j2, j3⟩, cl2⟩, hle⟩
      by_cases hy : y = x
      · subst hy
        refine ⟨⟨k, by omega, e, fun q q1 q2 => by rw [show q = k by omega]; exact hr⟩, fun ⟨a, b, c, z, q1, q2, q3, q4, q5, q6, q7⟩ => ?_⟩
        by_cases hc : c = k
        · subst hc
          rw [e] at q6
          cases q6
          exact q7 rfl
        · exact cl ⟨a, b, c, z, q1, q2, by omega, q4, q5, q6, q7⟩
      · refine ⟨⟨j, by omega, j2, fun q q1 q2 => ?_⟩, fun ⟨a, b, c, z, q1, q2, q3, q4, q5, q6, q7⟩ => ?_⟩
        · by_cases hq : q = k
          · rw [hq]; exact hr
          · exact j3 q q1 (by omega)
        · by_cases hc : c = k
          · subst hc
            rw [e] at q6
            cases q6
            obtain ⟨d, d1, d2⟩ := top_before h1 (show a < c by omega) q4 y0 (by omega)
            exact cl ⟨d, a, b, y, d1, q1, q2, d2, q4, q5, hy⟩
          · exact cl2 ⟨a, b, c, z, q1, q2, by omega, q4, q5, q6, q7⟩
end
open Classical in
noncomputable def faceB (r : Nat → Nat) (v : Nat → Option Int) (n : Nat) : Bool := decide (FaceP r v n)
open Classical in
theorem faceB_t {r : Nat → Nat} {v : Nat → Option Int} {n : Nat} : faceB r v n = true ↔ FaceP r v n := by
  unfold faceB
  exact decide_eq_true_iff
open Classical in
theorem faceB_f {r : Nat → Nat} {v : Nat → Option Int} {n : Nat} : faceB r v n = false ↔ ¬ FaceP r v n := by
  unfold faceB
  exact decide_eq_false_iff_not
theorem faceB_no {r : Nat → Nat} {v : Nat → Option Int} {n k : Nat} (hk : k ≤ n) (h : ¬ (PF1 r v k ∧ PF2 r v k)) : faceB r v n = false := faceB_f.mpr fun ⟨a, b⟩ => h ⟨a.le hk, b.le hk⟩
theorem up_len : ∀ {l : List Int} {k : Nat}, l.Pairwise (· < ·) → (∀ y ∈ l, 0 ≤ y ∧ y < (k : Int)) → l.length ≤ k := by
  have key : ∀ (l : List Int) (a : Int) (k : Nat), l.Pairwise (· < ·) → (∀ y ∈ l, a ≤ y ∧ y < a + k) → l.length ≤ k := by
    intro l
    induction l with
    | nil => intro a k _ _; simp
    | cons x l ih =>
      intro a k h hb
      obtain ⟨h1, h2⟩ := List.pairwise_cons.mp h
      have hx := hb x (by simp)
      cases k with
      | zero => omega
      | succ k =>
        have := ih (a + 1) k h2 fun y hy => by
          have g1 := h1 y hy
          have g2 := hb y (by simp [hy])
          omega
        simp only [List.length_cons]
        omega
  intro l k h hb
  exact key l 0 k h fun y hy => by have := hb y hy; omega
/-- a list, as a function of the place -/
def cellF (s : List Nat) (i : Nat) : Nat := s.getD i 0
def numF (vs : List (Option Int)) (i : Nat) : Option Int := vs.getD i none
theorem cellF_at {s : List Nat} {i c : Nat} (h : s[i]? = some c) : cellF s i = c := by unfold cellF; rw [List.getD_eq_getElem?_getD, h]; rfl
theorem numF_at {s : List (Option Int)} {i : Nat} {c : Option Int} (h : s[i]? = some c) : numF s i = c := by unfold numF; rw [List.getD_eq_getElem?_getD, h]; rfl
def oD : Option Int → D
  | none => .non
  | some x => .int x
end Itp
set_option Elab.async false
set_option linter.all false
set_option maxRecDepth 100000
set_option maxHeartbeats 4000000
local macro_rules | `(tactic| simp! only [$a,*] $[$l:location]?) => `(tactic| simp -implicitDefEqProofs only [Itp.w_nil, Itp.w_cons, Itp.kS_nx, Itp.kS_rt, Itp.kS_bk, Itp.kS_ct, Itp.kOwn_u, Itp.kOwn2_un, Itp.kOwn2_val, Itp.kOwn2_own, Itp.w_own, Itp.kAsg_u, Itp.w_asg, Itp.w_nm, Itp.kT_un, Itp.kT_val, Itp.kT_own, Itp.kTs_u, Itp.w_tpt, Itp.w_tpl, Itp.w_tn, Itp.w_tc, Itp.kSt_o, Itp.kSt_p, Itp.kSet3_u, Itp.kSet4_o, Itp.kSet4_p, Itp.kSet1_u, Itp.w_seti, Itp.kApp_u, Itp.kApp2_o, Itp.kApp2_p, Itp.oL_u, Itp.oL_o, Itp.oL_p, Itp.w_app, Itp.kExt_u, Itp.kExt2_o, Itp.kExt2_p, Itp.w_ext, Itp.kEx_u, Itp.w_ex, Itp.kRet_u, Itp.w_ret, Itp.w_rv, Itp.kRv_own, Itp.kRv_val, Itp.rt_cst, Itp.rt_glb, Itp.rt_op, Itp.rt_and, Itp.rt_or, Itp.rt_not, Itp.rt_ite, Itp.rt_chain, Itp.rt_chain3, Itp.rt_call, Itp.rt_callV, Itp.rt_comp, Itp.w_retn, Itp.w_pass, Itp.kIf_u, Itp.kIf_t, Itp.kIf_f, Itp.w_ifs, Itp.kFor4_u, Itp.kIt_u, Itp.kIt2_s, Itp.w_for, Itp.w_whl, Itp.kRse3_u, Itp.kRse2_s, Itp.kRse_u, Itp.w_rse, Itp.zf_nil, Itp.zf_cons, Itp.zM_s, Itp.kTry_u, Itp.w_try, Itp.w_cat0, Itp.kUn_nx, Itp.kCat_f, Itp.kCat_t, Itp.kSuN_n, Itp.kSuN_s, Itp.kSu_un, Itp.kSu_val, Itp.w_cat, Itp.w_suc, Itp.kSl_u, Itp.kSl2_un, Itp.kSl2_val, Itp.kSl2_own, Itp.w_sul, Itp.w_var, Itp.kVar_val, Itp.kVar_own, Itp.w_cst, Itp.w_glb, Itp.w_fnv, Itp.kE_u, Itp.kOpX_u, Itp.kOp3_ff, Itp.kOp2_s, Itp.kOp_u, Itp.w_op, Itp.kBl_u, Itp.kAnd_u, Itp.kAnd_t, Itp.kAnd_f, Itp.w_and, Itp.kOr_u, Itp.kOr_f, Itp.kOr_t, Itp.w_or, Itp.kNot_u, Itp.w_not, Itp.kIte_u, Itp.kIte_t, Itp.kIte_f, Itp.w_ite, Itp.kCh5_u, Itp.kLk4_t, Itp.kLk4_f, Itp.kLk3_u, Itp.kCh2_u, Itp.kCh1_u, Itp.w_chain, Itp.kC5_u, Itp.kC2_u, Itp.kC1_u, Itp.w_chain3, Itp.kB2_u, Itp.kBack_u, Itp.kBackX_u, Itp.kCall2_s, Itp.kCall_u, Itp.w_call, Itp.kCv2_s, Itp.kCv_u, Itp.w_callV, Itp.kCm4_u, Itp.kCm_u, Itp.w_comp, Itp.w_en, Itp.kCo_u, Itp.kEv_u, Itp.w_ec, Itp.w_pk, Itp.kPk_val, Itp.kPk_own, Itp.kPk_par, Itp.kD_u, Itp.od_var, Itp.od_cst, Itp.od_glb, Itp.od_op, Itp.od_and, Itp.od_or, Itp.od_not, Itp.od_ite, Itp.od_chain, Itp.od_chain3, Itp.od_fnv, Itp.od_callV, Itp.od_call, Itp.od_comp, Itp.kFz_u, Itp.w_fz, Itp.w_an, Itp.kAl_u, Itp.kAl_t, Itp.kAl_f, Itp.w_ac, Itp.kRun_nx, Itp.kRun_rt, Itp.kRunX_u, Itp.w_fn, Itp.w_fv, Itp.kFl_u, Itp.kFs_p, Itp.w_fl, Itp.wo_some, Itp.wp_ok, Itp.wp_ex, Itp.sl_0, Itp.sl_S, Itp.rd_v, Itp.rd_n, Itp.rs_v, Itp.rs_n, Itp.opds_nil, Itp.opds_cons, Itp.opC_s, Itp.opd_d, Itp.opd_pk, Itp.toArgs_nil, Itp.toArgs_cons, Itp.arC_s, Itp.toArg_d, Itp.toArg_k, Itp.arS_val, Itp.arS_own, Itp.arS_par, Itp.d_val, Itp.d_own, Itp.d_par, Itp.muts_nil, Itp.muts_d, Itp.muts_pk, Itp.mutC_t, Itp.mutC_f, Itp.m_val, Itp.m_own, Itp.m_par, Itp.pb_nil, Itp.pb_cons, Itp.put_own, Itp.put_par, Itp.nd_nil, Itp.nd_one, Itp.ie_nil, Itp.ie_cons, Itp.as_v, Itp.as_l, Itp.ip_pk, Itp.ip_d, List.set_cons_zero, List.set_cons_succ, Itp.hideE, Itp.backE, Itp.disp, Itp.midOp, Itp.mthd, Itp.kV_u, Itp.kVI_u, Itp.kVC_u, Itp.p_addI, Itp.p_addS, Itp.p_addL, Itp.p_addT, Itp.p_subI, Itp.p_mulI, Itp.p_mulS, Itp.p_mulL, Itp.p_mulT, Itp.p_fdiv, Itp.p_mod, Itp.p_pow, Itp.p_neg, Itp.p_eqI, Itp.p_eqS, Itp.p_neI, Itp.p_neS, Itp.p_eqL, Itp.p_eqT, Itp.p_eqN, Itp.p_eqB, Itp.p_neL, Itp.p_neT, Itp.p_neN, Itp.p_neB, Itp.p_lt, Itp.p_ltS, Itp.p_le, Itp.p_gt, Itp.p_ge, Itp.p_isN, Itp.p_notN, Itp.n_non, Itp.n_int, Itp.n_str, Itp.n_tup, Itp.n_lst, Itp.n_bl, Itp.p_inC, Itp.p_inL, Itp.p_inT, Itp.p_niC, Itp.p_niL, Itp.p_niT, Itp.p_ixL, Itp.p_ixT, Itp.p_ixR, Itp.p_ixS, Itp.p_sS0, Itp.p_sS1, Itp.p_sS2, Itp.p_sS3, Itp.p_sL1, Itp.p_sL2, Itp.p_sL3, Itp.p_sT1, Itp.p_sT2, Itp.p_sT3, Itp.p_revL, Itp.p_tup, Itp.p_lst, Itp.p_lenS, Itp.p_lenL, Itp.p_lenT, Itp.p_lenR, Itp.p_int, Itp.p_intB, Itp.p_listL, Itp.p_listT, Itp.p_tupleL, Itp.p_tupleT, Itp.p_min, Itp.p_max, Itp.kAB_u, Itp.kNB_u, Itp.p_all, Itp.p_any, Itp.p_isi, Itp.kJn_u, Itp.p_join, Itp.i_lst, Itp.i_tup, Itp.i_str, Itp.i_eL, Itp.i_eT, Itp.i_eS, Itp.i_r1, Itp.i_r2, Itp.i_r3, Itp.cut_n, Itp.kL_nx, Itp.kL_ct, Itp.kL_bk, Itp.kL_rt, Itp.kBd_u, Itp.kCi2_u, Itp.kCi1_t, Itp.kCi1_f, Itp.kCi_u, List.any_cons, List.any_nil, Bool.or_false, Bool.or_true, Bool.true_or, Bool.false_or, Bool.and_false, Bool.false_and, Bool.and_true, Bool.true_and, Bool.not_true, Bool.not_false, decide_true, decide_false, true_and, and_true, Nat.reduceAdd, Nat.zero_add, List.length_cons, List.length_nil, Int.reduceLT, Int.reduceLE, Int.reduceNeg, Int.reducePow, Int.reduceAdd, Int.reduceSub, Int.reduceMul, Nat.reduceLeDiff, Nat.reduceLT, Nat.reducePow, Nat.reduceMul, Int.reduceEq, Int.reduceToNat, Itp.typed, Itp.typOf, Itp.big, ne_eq, not_false_eq_true, reduceCtorEq, List.cons_append, List.nil_append, true_or, or_true, Itp.kOwnC_un, Itp.kOwnC_val, Itp.kOwnC_own, Itp.kOwns_u, Itp.w_owns, Itp.kR2_u, Itp.kR1_u, Itp.w_rn, Itp.w_rc, Itp.w_on, Itp.w_oc, Itp.rt_dct1, Itp.rt_dcomp, Itp.rt_comp2, Itp.od_comp2, Itp.w_comp2, Itp.kCmm_u, Itp.kCt2_u, Itp.kCt2c_u, Itp.kCt2d_u, Itp.kSet4_do, Itp.kSet4_dp, Itp.kD1c_u, Itp.kD1_u, Itp.w_dct1, Itp.kDm4_u, Itp.kDm_u, Itp.w_dcomp, Itp.od_dct1, Itp.od_dcomp, Itp.p_inD, Itp.p_niD, Itp.p_ixD, Itp.p_get, Itp.p_lenD, Itp.p_dct, Itp.p_trng1, Itp.p_trng2, Itp.p_lrng1, Itp.p_lrng2, Itp.p_find1, Itp.p_find2, Itp.kPos_u, Itp.p_indexL, Itp.p_indexS, Itp.kCnt_u, Itp.p_count, Itp.kNl_u, Itp.kSs_u, Itp.p_srtD, Itp.p_srt, Itp.p_listS, Itp.kSum_u, Itp.p_sum, Itp.p_sumT, Itp.p_abs, Itp.kI_u, Itp.p_minL, Itp.p_maxL, Itp.i_dk, Itp.i_di, Itp.kDi3_u, Itp.kDi2_u, Itp.kDi1_t, Itp.kDi1_f, Itp.kDi_u, Itp.mb_join, Itp.mb_find, Itp.mb_count, Itp.mb_index, Itp.mb_split, Itp.mb_replace, Itp.mb_get, Itp.mb_slc, Option.bind_some, Itp.p_intS1, Itp.p_intS2, Itp.p_str, Itp.p_split, Itp.p_fst5, Itp.p_sset, Itp.kSd_u, Itp.mb_fst5, Itp.kS2n_u, Itp.kS2_u, Itp.kS2d_t, Itp.w_seti2, Itp.kPopV_o, Itp.kPopV_p, Itp.kPop_o, Itp.kPop_p, Itp.w_pop, Itp.n_ftp, Itp.p_addF, Itp.p_eqF, Itp.p_neF, Itp.p_lenF, Itp.p_listF, Itp.p_ftup, Itp.p_sF1, Itp.p_sF3, Itp.kLs_u, Itp.p_lset, Itp.i_ftp, Itp.i_eF, Itp.p_ixF, Itp.p_indexF, Itp.cg_is_from, Itp.ch_is_from, Itp.cg_is_row, Itp.ch_is_row, Itp.cf_need_row_0, Itp.cg_need_row, Itp.ch_need_row, Itp.cf_is_face_by_0, Itp.cg_is_face_by, Itp.ch_is_face_by, Itp.cf_is_face_0, Itp.cf_is_face_1, Itp.cg_is_face, Itp.ch_is_face, Itp.cg__law_taken, Itp.ch__law_taken, Itp.cf__law_row_0, Itp.cg__law_row, Itp.ch__law_row, Itp.cg__law_joins, Itp.ch__law_joins, Itp.cf__law_is_face_0, Itp.cg__law_is_face, Itp.ch__law_is_face, Itp.cf_law_0, Itp.cf_law_1, Itp.cf_law_2, Itp.cf_law_3, Itp.cf_law_4, Itp.cg_law, Itp.ch_law, Itp.fl_1, $a,*] $[$l]?)
namespace Itp
open PySem L2
theorem ints_pl : ∀ l : List Int, D.plains 63 (l.map D.int) = true
  | [] => rfl
  | x :: l => by rw [List.map_cons, D.plains, ints_pl l]; rfl
theorem lst_pl {l : List Int} : (D.lst (l.map D.int)).plain 64 = true := by rw [D.plain]; exact ints_pl l
theorem any_I (x : Int) : ∀ l : List Int, ((l.map D.int).any fun y => D.eqv y (.int x)) = decide (x ∈ l)
  | [] => rfl
  | y :: l => by
    rw [List.map_cons, List.any_cons, any_I x l]
    by_cases h : x = y
    · subst h; simp [D.eqv]
    · have h' : ¬ y = x := fun z => h z.symm
      simp [D.eqv, h, h']
theorem all_flatI : ∀ l : List Int, (l.map D.int).all D.flat = true
  | [] => rfl
  | x :: l => by rw [List.map_cons, List.all_cons, all_flatI l]; rfl
theorem all_flatO : ∀ l : List (Option Int), (l.map oD).all D.flat = true
  | [] => rfl
  | none :: l => by rw [List.map_cons, List.all_cons, all_flatO l]; rfl
  | some x :: l => by rw [List.map_cons, List.all_cons, all_flatO l]; rfl
theorem pos_I {x : Int} : ∀ {l : List Int}, x ∈ l → ∃ j, posOf (.int x) (l.map D.int) = some j ∧ l[j]? = some x
  | y :: l, h => by
    rw [List.map_cons, posOf]
    by_cases e : y = x
    · subst e
      exact ⟨0, by simp [D.eqv], rfl⟩
    · have hx : x ∈ l := by
        rcases List.mem_cons.mp h with z | z
        · exact absurd z.symm e
        · exact z
      obtain ⟨j, h1, h2⟩ := pos_I hx
      refine ⟨j + 1, ?_, h2⟩
      simp [D.eqv, e, h1]
theorem pos_O {x : Int} : ∀ {l : List (Option Int)} {i : Nat}, l[i]? = some (some x) → ∃ j, posOf (.int x) (l.map oD) = some j ∧ j ≤ i ∧ l[j]? = some (some x)
  | y :: l, 0, h => by
    simp only [List.getElem?_cons_zero, Option.some.injEq] at h
    subst h
    exact ⟨0, by simp [posOf, oD, D.eqv], by omega, rfl⟩
  | y :: l, i + 1, h => by
    rw [List.map_cons, posOf]
    by_cases e : D.eqv (oD y) (.int x) = true
    · refine ⟨0, by rw [if_pos e], by omega, ?_⟩
      cases y with
      | none => simp [oD, D.eqv] at e
      | some z => simp only [oD, D.eqv, beq_iff_eq] at e; rw [e]; rfl
    · obtain ⟨j, h1, h2, h3⟩ := pos_O (l := l) (i := i) (by simpa using h)
      exact ⟨j + 1, by rw [if_neg e, h1]; rfl, by omega, by simpa using h3⟩
theorem trunc_mem {x : Int} : ∀ {l : List Int} {j : Nat}, l.Pairwise (· < ·) → l[j]? = some x → ∀ y, y ∈ l.take (j + 1) ↔ (y ∈ l ∧ y ≤ x)
  | a :: l, 0, h, e, y => by
    simp only [List.getElem?_cons_zero, Option.some.injEq] at e
    subst e
    obtain ⟨h1, _⟩ := List.pairwise_cons.mp h
    simp only [List.take_succ_cons, List.take_zero, List.mem_cons, List.not_mem_nil, or_false]
    constructor
    · rintro rfl; exact ⟨.inl rfl, Int.le_refl _⟩
    · rintro ⟨rfl | q, hle⟩
      · rfl
      · have := h1 y q; omega
  | a :: l, j + 1, h, e, y => by
    obtain ⟨h1, h2⟩ := List.pairwise_cons.mp h
    have e : l[j]? = some x := by simpa using e
    rw [List.take_succ_cons, List.mem_cons, trunc_mem h2 e, List.mem_cons]
    have := h1 x (List.mem_of_getElem? e)
    constructor
    · rintro (rfl | ⟨q, hle⟩)
      · exact ⟨.inl rfl, by omega⟩
      · exact ⟨.inr q, hle⟩
    · rintro ⟨rfl | q, hle⟩
      · exact .inl rfl
      · exact .inr ⟨q, hle⟩
theorem isNon_o (o : Option Int) : isNonB (oD o) = o.isNone := by cases o <;> rfl
theorem typed_o (o : Option Int) : typed (oD o) = true := by cases o <;> rfl
theorem at_get {α : Type} {xs : List α} {i : Int} {y : α} (h0 : 0 ≤ i) (h : xs[i.toNat]? = some y) : at? xs i = some y := by
  unfold at? ixOf
  have := (List.getElem?_eq_some_iff.mp h).1
  rw [if_pos h0, if_pos (by omega)]
  exact h
theorem is_face_by_w {s : List Nat} {vs : List (Option Int)} {Q : Res → List D → Prop} {X : Xc → List D → Prop} (hl : s.length ≤ 1000) (hv : vs.length = s.length) (kk : Q (.val (.bl (faceB (cellF s) (numF vs) s.length))) []) : Wf (f_is_face_by [.val (.str s), .val (.ftp (vs.map oD))]) Q X := by
  rw [w_is_face_by]
  unfold b_is_face_by
  have gb : s.length ≤ 100000 := by omega
  have e1 : (((vs.map oD).length : Nat) : Int) = (s.length : Nat) := by rw [List.length_map, hv]
  simp! only [gb, e1]
  refine w_forI (fun q e => ∃ (k : Nat) (rest : List (Option Int)) (O : List Int) (s3 s4 s5 : Slot), vs.drop k = rest ∧ q = enumF (k : Int) (rest.map oD) ∧ (PF1 (cellF s) (numF vs) k ∧ PF2 (cellF s) (numF vs) k) ∧ O.Pairwise (· < ·) ∧ (∀ x ∈ O, 0 ≤ x) ∧ (∀ x, 0 ≤ x → (x ∈ O ↔ OpF (cellF s) (numF vs) k x)) ∧ (s3 = .own (.lst (O.map D.int)) ∨ s3 = .val (.lst (O.map D.int))) ∧ (U s4 ∧ U s5) ∧ k ≤ s.length ∧ e = [.val (.str s), .val (.ftp (vs.map oD)), .val (.int (topV (numF vs) k)), s3, s4, s5]) _ _ ?_ ?_ ?_
  · exact ⟨0, vs, [], _, _, _, rfl, rfl, ⟨fun i hi => absurd hi (by omega), fun a b x h1 h2 => absurd h2 (by omega)⟩, List.Pairwise.nil, fun x hx => absurd hx (by simp), fun x _ => ⟨fun h => absurd h (by simp), fun ⟨⟨i, hi, _⟩, _⟩ => absurd hi (by omega)⟩, .inl rfl, ⟨U_un, U_un⟩, by omega, rfl⟩
  · intro x q e ⟨k, rest, O, s3, s4, s5, j1, j2, ⟨p1, p2⟩, j3, j4, j5, j6, ⟨u4, u5⟩, j7, j8⟩
    subst j8
    cases rest with
    | nil => cases j2
    | cons o rest =>
      simp only [List.map_cons, enumF] at j2
      obtain ⟨rfl, rfl⟩ := List.cons.inj j2
      have hk : k < vs.length := by
        by_cases h : k < vs.length
        · exact h
        · rw [List.drop_eq_nil_of_le (by omega)] at j1; cases j1
      have ho : vs[k]? = some o := by
        have := congrArg List.head? j1
        rw [List.head?_drop] at this
        simpa using this
      have hd : vs.drop (k + 1) = rest := by
        have := congrArg List.tail j1
        rwa [List.tail_drop] at this
      have hc : s[k]? = some (s[k]'(by omega)) := List.getElem?_eq_getElem (by omega)
      generalize hcc : s[k]'(by omega) = c at hc
      have cc := cellF_at hc
      have nn := numF_at ho
      have ac : at? s (k : Int) = some c := at_get (by omega) (by rw [Int.toNat_natCast]; exact hc)
      have nx : (k : Int) + 1 = ((k + 1 : Nat) : Int) := by omega
      have fail : ¬ (PF1 (cellF s) (numF vs) (k + 1) ∧ PF2 (cellF s) (numF vs) (k + 1)) → faceB (cellF s) (numF vs) s.length = false := fun h => faceB_no (by omega) h
      by_cases h46 : c = 46
      · subst h46
        cases o with
        | some x =>
          have ff := fail fun ⟨h, _⟩ => by
            rcases h k (by omega) with ⟨_, z⟩ | ⟨z, _⟩
            · rw [nn] at z; cases z
            · exact z cc
          rw [ff] at kk
          rcases j6 with rfl | rfl <;>
          · simp! only [kT_U u4, kT_U u5, gb, ac, isNon_o, Option.isNone]
            exact kk
        | none =>
          obtain ⟨g1, g2⟩ := face_dot p2 cc nn
          have e2 : topV (numF vs) (k + 1) = topV (numF vs) k := topV_none nn
          rcases j6 with rfl | rfl <;>
          · simp! only [kT_U u4, kT_U u5, gb, ac, isNon_o, Option.isNone]
            exact ⟨k + 1, rest, [], _, _, _, hd, by rw [nx], ⟨p1.snoc (.inl ⟨cc, nn⟩), g1⟩, List.Pairwise.nil, fun x hx => absurd hx (by simp), fun x _ => ⟨fun h => absurd h (by simp), fun h => absurd h (g2 x)⟩, .inl rfl, ⟨U_val, U_val⟩, by omega, by rw [e2]; rfl⟩
      · have cne : cellF s k ≠ 46 := by rw [cc]; exact h46
        have t0 := topV_nn (numF vs) k
        have h46' : ¬ ([c] = [46]) := fun z => h46 (by simpa using z)
        rcases j6 with rfl | rfl <;>
        · simp! only [kT_U u4, kT_U u5, gb, ac, h46']
          refine is_from_w (typed_o o) ?_
          cases hf : fromB (oD o) 0 (topV (numF vs) k) with
          | false =>
            have ff := fail fun ⟨h, _⟩ => by
              rcases h k (by omega) with ⟨z, _⟩ | ⟨_, x, z, z0, z1⟩
              · exact cne z
              · rw [nn] at z
                subst z
                simp only [oD, fromB, decide_eq_true z0, decide_eq_true z1, Bool.and_true, Bool.true_eq_false] at hf
            rw [ff] at kk
            simp! only [true_and]
            exact kk
          | true =>
            obtain ⟨x, rfl, x0, x1⟩ : ∃ x, o = some x ∧ 0 ≤ x ∧ x ≤ topV (numF vs) k := by
              cases o with
              | none => simp [oD, fromB] at hf
              | some x =>
                simp only [oD, fromB, Bool.and_eq_true, decide_eq_true_eq] at hf
                exact ⟨x, rfl, hf.1, hf.2⟩
            have p1' : PF1 (cellF s) (numF vs) (k + 1) := p1.snoc (.inr ⟨cne, x, nn, x0, x1⟩)
            by_cases hx : x = topV (numF vs) k
            · obtain ⟨g1, g2⟩ := face_new p1 p2 cne (by rw [nn, hx])
              have e2 : topV (numF vs) (k + 1) = topV (numF vs) k + 1 := by rw [topV_some nn, hx, if_pos (by omega)]
              have le : O.length + 1 ≤ 100000 := by
                have : O.length ≤ k := by
                  have hs : ∀ y ∈ O, y < (k : Int) := fun y hy => by
                    obtain ⟨⟨i, i1, i2, _⟩, _⟩ := (j5 y (j4 y hy)).mp hy
                    have a1 := top_lt i1 i2
                    have a2 : ∀ m, topV (numF vs) m ≤ m ∨ True := fun m => .inr trivial
                    have a3 := topV_le p1
                    omega
                  exact up_len j3 (fun y hy => ⟨j4 y hy, hs y hy⟩)
                omega
              have le2 : (O.map D.int).length ≤ 99999 := by rw [List.length_map]; omega
              simp! only [oD, hx, le2]
              refine ⟨k + 1, rest, O ++ [topV (numF vs) k], _, _, _, hd, by rw [nx], ⟨p1', g1⟩, ?_, ?_, ?_, .inl rfl, ⟨U_val, U_val⟩, by omega, by rw [e2, List.map_append]; rfl⟩
              · rw [List.pairwise_append]
                refine ⟨j3, List.pairwise_singleton _ _, fun a ha b hb => ?_⟩
                rw [List.mem_singleton.mp hb]
                obtain ⟨⟨i, i1, i2, _⟩, _⟩ := (j5 a (j4 a ha)).mp ha
                exact top_lt i1 i2
              · intro y hy
                rcases List.mem_append.mp hy with z | z
                · exact j4 y z
                · rw [List.mem_singleton.mp z]; exact t0
              · intro y y0
                rw [List.mem_append, List.mem_singleton, g2, j5 y y0]
            · have xlt : x < topV (numF vs) k := by omega
              have e2 : topV (numF vs) (k + 1) = topV (numF vs) k := by rw [topV_some nn, if_neg (by omega)]
              by_cases hin : x ∈ O
              · have hop := (j5 x x0).mp hin
                obtain ⟨f0, hf1, hf2⟩ : ∃ i, i < k ∧ numF vs i = some x := by
                  obtain ⟨⟨i, i1, i2, _⟩, _⟩ := hop
                  exact ⟨i, i1, i2⟩
                have hvi : vs[f0]? = some (some x) := by
                  have h1 : vs[f0]? = some (vs[f0]'(by omega)) := List.getElem?_eq_getElem (by omega)
                  rw [h1]
                  rw [numF_at h1] at hf2
                  rw [hf2]
                obtain ⟨f, hp, hfle, hfv⟩ := pos_O hvi
                have hcf : s[f]? = some (s[f]'(by omega)) := List.getElem?_eq_getElem (by omega)
                generalize s[f]'(by omega) = cf at hcf
                have acf : at? s (f : Int) = some cf := at_get (by omega) (by rw [Int.toNat_natCast]; exact hcf)
                have ain : ((O.map D.int).any fun y => D.eqv y (.int x)) = true := by rw [any_I]; exact decide_eq_true hin
                obtain ⟨j, hj1, hj2⟩ := pos_I hin
                have hpx : (D.int x).plain 64 = true := by rfl
                have hfx : (D.int x).flat = true := by rfl
                by_cases hcol : cf = c
                · have hcol' : ([cf] : List Nat) = [c] := by rw [hcol]
                  obtain ⟨g1, g2⟩ := face_old p1 p2 cne nn hop (show f < k by omega) (numF_at hfv) (by rw [cellF_at hcf, cc]; exact hcol)
                  have j0 : (0 : Int) ≤ (j : Int) + 1 := by omega
                  have jt : ((j : Int) + 1).toNat = j + 1 := by omega
                  simp! only [oD, hx, hpx, hfx, lst_pl, all_flatI, all_flatO, ain, hp, gb, acf, ac, hcol', hj1, cut_p j0, jt]
                  refine ⟨k + 1, rest, O.take (j + 1), _, _, _, hd, by rw [nx], ⟨p1', g1⟩, List.Pairwise.sublist (List.take_sublist _ _) j3, fun y hy => j4 y (List.mem_of_mem_take hy), fun y y0 => ?_, .inl (by rw [List.map_take]), ⟨U_val, U_val⟩, by omega, by rw [e2]⟩
                  rw [trunc_mem j3 hj2, g2 y y0, j5 y y0]
                · have ff := fail fun ⟨_, h⟩ => by
                    have := (h f k x (by omega) (by omega) (numF_at hfv) nn).1.1
                    rw [cellF_at hcf, cc] at this
                    exact hcol this
                  have hcol' : ¬ (([cf] : List Nat) = [c]) := fun z => hcol (by simpa using z)
                  rw [ff] at kk
                  simp! only [oD, hx, hpx, hfx, lst_pl, all_flatI, all_flatO, ain, hp, gb, acf, ac, hcol']
                  exact kk
              · have ain : ((O.map D.int).any fun y => D.eqv y (.int x)) = false := by rw [any_I]; exact decide_eq_false hin
                have hpx : (D.int x).plain 64 = true := by rfl
                have ff := fail fun ⟨_, h⟩ => face_shut p1 h nn x0 xlt fun z => hin ((j5 x x0).mpr z)
                rw [ff] at kk
                simp! only [oD, hx, hpx, lst_pl, ain]
                exact kk
  · intro e ⟨k, rest, O, s3, s4, s5, j1, j2, p, j3, j4, j5, j6, us, j7, j8⟩
    subst j8
    cases rest with
    | cons o rest => cases j2
    | nil =>
      have hk : s.length = k := by
        have := List.drop_eq_nil_iff.mp j1
        omega
      have ff : faceB (cellF s) (numF vs) s.length = true := faceB_t.mpr (by rw [hk]; exact p)
      rw [ff] at kk
      simp! only [true_and]
      exact kk
theorem is_face_by_n {s : List Nat} {d : D} {Q : Res → List D → Prop} {X : Xc → List D → Prop} (hl : s.length ≤ 1000) (td : typed d = true) (h : typOf d .tuple = false ∨ ∃ xs, d = .tup xs ∧ xs.length ≠ s.length) (kk : Q (.val (.bl false)) []) : Wf (f_is_face_by [.val (.str s), .val d]) Q X := by
  rw [w_is_face_by]
  unfold b_is_face_by
  have gb : s.length ≤ 100000 := by omega
  rcases h with h | ⟨xs, rfl, h⟩
  · cases d with
    | tup xs => cases h
    | ftp xs => cases h
    | dct t kvs =>
      cases t with
      | true => cases td
      | false => simp! only [true_and]; exact kk
    | fn g => cases td
    | scr g => cases td
    | _ => simp! only [true_and]; exact kk
  · have h' : ¬ ((xs.length : Nat) : Int) = (s.length : Nat) := by omega
    simp! only [gb, h']
    exact kk
theorem is_face_w {s : List Nat} {vs : List (Option Int)} {Q : Res → List D → Prop} {X : Xc → List D → Prop} (hr : RowOk s) (hv : vs.length = s.length) (kk : Q (.val (.bl (faceB (cellF s) (numF vs) s.length))) []) : Wf (f_is_face [.val (.str s), .val (.ftp (vs.map oD))]) Q X := by
  have h2 := hr.2.1
  rw [w_is_face]
  unfold b_is_face
  simp! only [true_and]
  refine need_row_w rfl (fun t e => by cases e; omega) (fun _ => ?_) (fun h => by rw [row_v hr] at h; cases h)
  simp! only [true_and]
  refine is_face_by_w (by omega) hv ?_
  simp! only [true_and]
  exact kk
theorem is_face_n {s : List Nat} {d : D} {Q : Res → List D → Prop} {X : Xc → List D → Prop} (hr : RowOk s) (td : typed d = true) (h : typOf d .tuple = false ∨ ∃ xs, d = .tup xs ∧ xs.length ≠ s.length) (kk : Q (.val (.bl false)) []) : Wf (f_is_face [.val (.str s), .val d]) Q X := by
  have h2 := hr.2.1
  rw [w_is_face]
  unfold b_is_face
  simp! only [true_and]
  refine need_row_w rfl (fun t e => by cases e; omega) (fun _ => ?_) (fun h => by rw [row_v hr] at h; cases h)
  simp! only [true_and]
  refine is_face_by_n (by omega) td h ?_
  simp! only [true_and]
  exact kk
end Itp
set_option Elab.async false
set_option linter.all false
set_option maxRecDepth 100000
set_option maxHeartbeats 4000000
local macro_rules | `(tactic| simp! only [$a,*] $[$l:location]?) => `(tactic| simp -implicitDefEqProofs only [Itp.w_nil, Itp.w_cons, Itp.kS_nx, Itp.kS_rt, Itp.kS_bk, Itp.kS_ct, Itp.kOwn_u, Itp.kOwn2_un, Itp.kOwn2_val, Itp.kOwn2_own, Itp.w_own, Itp.kAsg_u, Itp.w_asg, Itp.w_nm, Itp.kT_un, Itp.kT_val, Itp.kT_own, Itp.kTs_u, Itp.w_tpt, Itp.w_tpl, Itp.w_tn, Itp.w_tc, Itp.kSt_o, Itp.kSt_p, Itp.kSet3_u, Itp.kSet4_o, Itp.kSet4_p, Itp.kSet1_u, Itp.w_seti, Itp.kApp_u, Itp.kApp2_o, Itp.kApp2_p, Itp.oL_u, Itp.oL_o, Itp.oL_p, Itp.w_app, Itp.kExt_u, Itp.kExt2_o, Itp.kExt2_p, Itp.w_ext, Itp.kEx_u, Itp.w_ex, Itp.kRet_u, Itp.w_ret, Itp.w_rv, Itp.kRv_own, Itp.kRv_val, Itp.rt_cst, Itp.rt_glb, Itp.rt_op, Itp.rt_and, Itp.rt_or, Itp.rt_not, Itp.rt_ite, Itp.rt_chain, Itp.rt_chain3, Itp.rt_call, Itp.rt_callV, Itp.rt_comp, Itp.w_retn, Itp.w_pass, Itp.kIf_u, Itp.kIf_t, Itp.kIf_f, Itp.w_ifs, Itp.kFor4_u, Itp.kIt_u, Itp.kIt2_s, Itp.w_for, Itp.w_whl, Itp.kRse3_u, Itp.kRse2_s, Itp.kRse_u, Itp.w_rse, Itp.zf_nil, Itp.zf_cons, Itp.zM_s, Itp.kTry_u, Itp.w_try, Itp.w_cat0, Itp.kUn_nx, Itp.kCat_f, Itp.kCat_t, Itp.kSuN_n, Itp.kSuN_s, Itp.kSu_un, Itp.kSu_val, Itp.w_cat, Itp.w_suc, Itp.kSl_u, Itp.kSl2_un, Itp.kSl2_val, Itp.kSl2_own, Itp.w_sul, Itp.w_var, Itp.kVar_val, Itp.kVar_own, Itp.w_cst, Itp.w_glb, Itp.w_fnv, Itp.kE_u, Itp.kOpX_u, Itp.kOp3_ff, Itp.kOp2_s, Itp.kOp_u, Itp.w_op, Itp.kBl_u, Itp.kAnd_u, Itp.kAnd_t, Itp.kAnd_f, Itp.w_and, Itp.kOr_u, Itp.kOr_f, Itp.kOr_t, Itp.w_or, Itp.kNot_u, Itp.w_not, Itp.kIte_u, Itp.kIte_t, Itp.kIte_f, Itp.w_ite, Itp.kCh5_u, Itp.kLk4_t, Itp.kLk4_f, Itp.kLk3_u, Itp.kCh2_u, Itp.kCh1_u, Itp.w_chain, Itp.kC5_u, Itp.kC2_u, Itp.kC1_u, Itp.w_chain3, Itp.kB2_u, Itp.kBack_u, Itp.kBackX_u, Itp.kCall2_s, Itp.kCall_u, Itp.w_call, Itp.kCv2_s, Itp.kCv_u, Itp.w_callV, Itp.kCm4_u, Itp.kCm_u, Itp.w_comp, Itp.w_en, Itp.kCo_u, Itp.kEv_u, Itp.w_ec, Itp.w_pk, Itp.kPk_val, Itp.kPk_own, Itp.kPk_par, Itp.kD_u, Itp.od_var, Itp.od_cst, Itp.od_glb, Itp.od_op, Itp.od_and, Itp.od_or, Itp.od_not, Itp.od_ite, Itp.od_chain, Itp.od_chain3, Itp.od_fnv, Itp.od_callV, Itp.od_call, Itp.od_comp, Itp.kFz_u, Itp.w_fz, Itp.w_an, Itp.kAl_u, Itp.kAl_t, Itp.kAl_f, Itp.w_ac, Itp.kRun_nx, Itp.kRun_rt, Itp.kRunX_u, Itp.w_fn, Itp.w_fv, Itp.kFl_u, Itp.kFs_p, Itp.w_fl, Itp.wo_some, Itp.wp_ok, Itp.wp_ex, Itp.sl_0, Itp.sl_S, Itp.rd_v, Itp.rd_n, Itp.rs_v, Itp.rs_n, Itp.opds_nil, Itp.opds_cons, Itp.opC_s, Itp.opd_d, Itp.opd_pk, Itp.toArgs_nil, Itp.toArgs_cons, Itp.arC_s, Itp.toArg_d, Itp.toArg_k, Itp.arS_val, Itp.arS_own, Itp.arS_par, Itp.d_val, Itp.d_own, Itp.d_par, Itp.muts_nil, Itp.muts_d, Itp.muts_pk, Itp.mutC_t, Itp.mutC_f, Itp.m_val, Itp.m_own, Itp.m_par, Itp.pb_nil, Itp.pb_cons, Itp.put_own, Itp.put_par, Itp.nd_nil, Itp.nd_one, Itp.ie_nil, Itp.ie_cons, Itp.as_v, Itp.as_l, Itp.ip_pk, Itp.ip_d, List.set_cons_zero, List.set_cons_succ, Itp.hideE, Itp.backE, Itp.disp, Itp.midOp, Itp.mthd, Itp.kV_u, Itp.kVI_u, Itp.kVC_u, Itp.p_addI, Itp.p_addS, Itp.p_addL, Itp.p_addT, Itp.p_subI, Itp.p_mulI, Itp.p_mulS, Itp.p_mulL, Itp.p_mulT, Itp.p_fdiv, Itp.p_mod, Itp.p_pow, Itp.p_neg, Itp.p_eqI, Itp.p_eqS, Itp.p_neI, Itp.p_neS, Itp.p_eqL, Itp.p_eqT, Itp.p_eqN, Itp.p_eqB, Itp.p_neL, Itp.p_neT, Itp.p_neN, Itp.p_neB, Itp.p_lt, Itp.p_ltS, Itp.p_le, Itp.p_gt, Itp.p_ge, Itp.p_isN, Itp.p_notN, Itp.n_non, Itp.n_int, Itp.n_str, Itp.n_tup, Itp.n_lst, Itp.n_bl, Itp.p_inC, Itp.p_inL, Itp.p_inT, Itp.p_niC, Itp.p_niL, Itp.p_niT, Itp.p_ixL, Itp.p_ixT, Itp.p_ixR, Itp.p_ixS, Itp.p_sS0, Itp.p_sS1, Itp.p_sS2, Itp.p_sS3, Itp.p_sL1, Itp.p_sL2, Itp.p_sL3, Itp.p_sT1, Itp.p_sT2, Itp.p_sT3, Itp.p_revL, Itp.p_tup, Itp.p_lst, Itp.p_lenS, Itp.p_lenL, Itp.p_lenT, Itp.p_lenR, Itp.p_int, Itp.p_intB, Itp.p_listL, Itp.p_listT, Itp.p_tupleL, Itp.p_tupleT, Itp.p_min, Itp.p_max, Itp.kAB_u, Itp.kNB_u, Itp.p_all, Itp.p_any, Itp.p_isi, Itp.kJn_u, Itp.p_join, Itp.i_lst, Itp.i_tup, Itp.i_str, Itp.i_eL, Itp.i_eT, Itp.i_eS, Itp.i_r1, Itp.i_r2, Itp.i_r3, Itp.cut_n, Itp.kL_nx, Itp.kL_ct, Itp.kL_bk, Itp.kL_rt, Itp.kBd_u, Itp.kCi2_u, Itp.kCi1_t, Itp.kCi1_f, Itp.kCi_u, List.any_cons, List.any_nil, Bool.or_false, Bool.or_true, Bool.true_or, Bool.false_or, Bool.and_false, Bool.false_and, Bool.and_true, Bool.true_and, Bool.not_true, Bool.not_false, decide_true, decide_false, true_and, and_true, Nat.reduceAdd, Nat.zero_add, List.length_cons, List.length_nil, Int.reduceLT, Int.reduceLE, Int.reduceNeg, Int.reducePow, Int.reduceAdd, Int.reduceSub, Int.reduceMul, Nat.reduceLeDiff, Nat.reduceLT, Nat.reducePow, Nat.reduceMul, Int.reduceEq, Int.reduceToNat, Itp.typed, Itp.typOf, Itp.big, ne_eq, not_false_eq_true, reduceCtorEq, List.cons_append, List.nil_append, true_or, or_true, Itp.kOwnC_un, Itp.kOwnC_val, Itp.kOwnC_own, Itp.kOwns_u, Itp.w_owns, Itp.kR2_u, Itp.kR1_u, Itp.w_rn, Itp.w_rc, Itp.w_on, Itp.w_oc, Itp.rt_dct1, Itp.rt_dcomp, Itp.rt_comp2, Itp.od_comp2, Itp.w_comp2, Itp.kCmm_u, Itp.kCt2_u, Itp.kCt2c_u, Itp.kCt2d_u, Itp.kSet4_do, Itp.kSet4_dp, Itp.kD1c_u, Itp.kD1_u, Itp.w_dct1, Itp.kDm4_u, Itp.kDm_u, Itp.w_dcomp, Itp.od_dct1, Itp.od_dcomp, Itp.p_inD, Itp.p_niD, Itp.p_ixD, Itp.p_get, Itp.p_lenD, Itp.p_dct, Itp.p_trng1, Itp.p_trng2, Itp.p_lrng1, Itp.p_lrng2, Itp.p_find1, Itp.p_find2, Itp.kPos_u, Itp.p_indexL, Itp.p_indexS, Itp.kCnt_u, Itp.p_count, Itp.kNl_u, Itp.kSs_u, Itp.p_srtD, Itp.p_srt, Itp.p_listS, Itp.kSum_u, Itp.p_sum, Itp.p_sumT, Itp.p_abs, Itp.kI_u, Itp.p_minL, Itp.p_maxL, Itp.i_dk, Itp.i_di, Itp.kDi3_u, Itp.kDi2_u, Itp.kDi1_t, Itp.kDi1_f, Itp.kDi_u, Itp.mb_join, Itp.mb_find, Itp.mb_count, Itp.mb_index, Itp.mb_split, Itp.mb_replace, Itp.mb_get, Itp.mb_slc, Option.bind_some, Itp.p_intS1, Itp.p_intS2, Itp.p_str, Itp.p_split, Itp.p_fst5, Itp.p_sset, Itp.kSd_u, Itp.mb_fst5, Itp.kS2n_u, Itp.kS2_u, Itp.kS2d_t, Itp.w_seti2, Itp.kPopV_o, Itp.kPopV_p, Itp.kPop_o, Itp.kPop_p, Itp.w_pop, Itp.n_ftp, Itp.p_addF, Itp.p_eqF, Itp.p_neF, Itp.p_lenF, Itp.p_listF, Itp.p_ftup, Itp.p_sF1, Itp.p_sF3, Itp.kLs_u, Itp.p_lset, Itp.i_ftp, Itp.i_eF, Itp.p_ixF, Itp.p_indexF, Itp.cg_is_from, Itp.ch_is_from, Itp.cg_is_row, Itp.ch_is_row, Itp.cf_need_row_0, Itp.cg_need_row, Itp.ch_need_row, Itp.cf_is_face_by_0, Itp.cg_is_face_by, Itp.ch_is_face_by, Itp.cf_is_face_0, Itp.cf_is_face_1, Itp.cg_is_face, Itp.ch_is_face, Itp.cg__law_taken, Itp.ch__law_taken, Itp.cf__law_row_0, Itp.cg__law_row, Itp.ch__law_row, Itp.cg__law_joins, Itp.ch__law_joins, Itp.cf__law_is_face_0, Itp.cg__law_is_face, Itp.ch__law_is_face, Itp.cf_law_0, Itp.cf_law_1, Itp.cf_law_2, Itp.cf_law_3, Itp.cf_law_4, Itp.cg_law, Itp.ch_law, Itp.fl_1, $a,*] $[$l]?)
namespace Itp
open PySem L2
theorem mem_take_drop {α : Type} {x : α} : ∀ {l : List α} {a b : Nat}, x ∈ (l.drop a).take b ↔ ∃ c, a ≤ c ∧ c < a + b ∧ l[c]? = some x := by
  intro l a b
  constructor
  · intro h
    obtain ⟨i, hi⟩ := List.mem_iff_getElem?.mp h
    rw [List.getElem?_take] at hi
    split at hi
    · rw [List.getElem?_drop] at hi
      exact ⟨a + i, by omega, by omega, hi⟩
    · cases hi
  · rintro ⟨c, h1, h2, h3⟩
    refine List.mem_iff_getElem?.mpr ⟨c - a, ?_⟩
    rw [List.getElem?_take, if_pos (by omega), List.getElem?_drop, show a + (c - a) = c by omega]
    exact h3
theorem cut_bb {α : Type} {xs : List α} {a b : Int} (h0 : 0 ≤ a) (h1 : a ≤ b) (h2 : b ≤ xs.length) : cut xs (some a) (some b) = (xs.drop a.toNat).take (b.toNat - a.toNat) := by
  unfold cut HT.sIx
  simp only
  rw [if_neg (by omega), if_neg (by omega)]
  rw [Nat.min_eq_left (by omega), Nat.min_eq_left (by omega)]
theorem cut_mm {α : Type} {x : α} {l : List α} {a b : Int} (h0 : 0 ≤ a) (h1 : a ≤ b) (h2 : b ≤ l.length) : x ∈ cut l (some a) (some b) ↔ ∃ c : Nat, a ≤ c ∧ (c : Int) < b ∧ l[c]? = some x := by
  rw [cut_bb h0 h1 h2, mem_take_drop]
  constructor
  · rintro ⟨c, g1, g2, g3⟩; exact ⟨c, by omega, by omega, g3⟩
  · rintro ⟨c, g1, g2, g3⟩; exact ⟨c, by omega, by omega, g3⟩
theorem num_at {vs : List (Option Int)} {i : Nat} (h : i < vs.length) : vs[i]? = some (numF vs i) := by
  unfold numF
  rw [List.getD_eq_getElem?_getD, List.getElem?_eq_getElem h]
  rfl
theorem cell_at {s : List Nat} {i : Nat} (h : i < s.length) : s[i]? = some (cellF s i) := by
  unfold cellF
  rw [List.getD_eq_getElem?_getD, List.getElem?_eq_getElem h]
  rfl
theorem nd_cut {s : List Nat} {a b : Nat} (h1 : a ≤ b) (h2 : b < s.length) : (46 ∈ cut s (some (a : Int)) (some ((b : Int) + 1))) ↔ ¬ ND (cellF s) a (b + 1) := by
  rw [cut_mm (by omega) (by omega) (by omega)]
  constructor
  · rintro ⟨c, g1, g2, g3⟩ h
    exact h c (by omega) (by omega) (cellF_at g3)
  · intro h
    apply Classical.byContradiction
    intro no
    refine h fun i i1 i2 e => no ⟨i, by omega, by omega, ?_⟩
    rw [cell_at (by omega), e]
open Classical in
noncomputable def joinB (s : List Nat) (a b : Nat) : Bool := decide (cellF s a = cellF s b ∧ ND (cellF s) a (b + 1))
open Classical in
theorem joinB_t {s : List Nat} {a b : Nat} : joinB s a b = true ↔ cellF s a = cellF s b ∧ ND (cellF s) a (b + 1) := by
  unfold joinB
  exact decide_eq_true_iff
theorem at_c {s : List Nat} {i : Nat} (h : i < s.length) : at? s (i : Int) = some (cellF s i) := at_get (by omega) (by rw [Int.toNat_natCast]; exact cell_at h)
theorem at_o {vs : List (Option Int)} {i : Nat} (h : i < vs.length) : at? (vs.map oD) (i : Int) = some (oD (numF vs i)) := at_get (by omega) (by rw [Int.toNat_natCast, List.getElem?_map, num_at h]; rfl)
theorem ljoins_w {s : List Nat} {a b : Nat} {Q : Res → List D → Prop} {X : Xc → List D → Prop} (hl : s.length ≤ 1000) (h1 : a ≤ b) (h2 : b < s.length) (kk : Q (.val (.bl (joinB s a b))) []) : Wf (f__law_joins [.val (.str s), .val (.int a), .val (.int b)]) Q X := by
  rw [w__law_joins]
  unfold b__law_joins
  have gb : s.length ≤ 100000 := by omega
  have a1 := at_c (s := s) (i := a) (by omega)
  have a2 := at_c (s := s) (i := b) h2
  by_cases hc : cellF s a = cellF s b
  · have hc' : ([cellF s a] : List Nat) = [cellF s b] := by rw [hc]
    by_cases hd : ND (cellF s) a (b + 1)
    · have hm : ¬ (46 ∈ cut s (some (a : Int)) (some ((b : Int) + 1))) := fun h => (nd_cut h1 h2).mp h hd
      rw [joinB_t.mpr ⟨hc, hd⟩] at kk
      simp! only [gb, a1, a2, hc', hm]
      exact kk
    · have hm : 46 ∈ cut s (some (a : Int)) (some ((b : Int) + 1)) := (nd_cut h1 h2).mpr hd
      have hj : joinB s a b = false := by
        cases q : joinB s a b with
        | false => rfl
        | true => exact absurd (joinB_t.mp q).2 hd
      rw [hj] at kk
      simp! only [gb, a1, a2, hc', hm]
      exact kk
  · have hc' : ¬ (([cellF s a] : List Nat) = [cellF s b]) := fun z => hc (by simpa using z)
    have hj : joinB s a b = false := by
      cases q : joinB s a b with
      | false => rfl
      | true => exact absurd (joinB_t.mp q).1 hc
    rw [hj] at kk
    simp! only [gb, a1, a2, hc']
    exact kk
theorem o_pl (o : Option Int) : (oD o).plain 64 = true := by cases o <;> rfl
theorem p_eqO {x : Int} {o : Option Int} {K : Res → Prop} : Wo (prim .eq [.int x, oD o]) K = K (.val (.bl (decide (some x = o)))) := by
  cases o with
  | none => rfl
  | some y =>
    show K (.val (.bl (x == y))) = _
    congr 3
    by_cases h : x = y
    · subst h; simp
    · simp [h]
theorem p_neO {x : Int} {o : Option Int} {K : Res → Prop} : Wo (prim .ne [oD o, .int x]) K = K (.val (.bl (decide (o ≠ some x)))) := by
  cases o with
  | none => rfl
  | some y =>
    show K (.val (.bl (!(y == x)))) = _
    congr 3
    by_cases h : y = x
    · subst h; simp
    · simp [h]
theorem eqv_O (o p : Option Int) : D.eqv (oD o) (oD p) = decide (o = p) := by
  cases o <;> cases p <;> simp [oD, D.eqv]
  rename_i x y
  by_cases h : x = y
  · subst h; simp
  · simp [h]
theorem any_O (o : Option Int) : ∀ l : List (Option Int), ((l.map oD).any fun y => D.eqv y (oD o)) = decide (o ∈ l)
  | [] => rfl
  | p :: l => by
    rw [List.map_cons, List.any_cons, any_O o l, eqv_O]
    by_cases h : p = o
    · subst h; simp
    · have h' : ¬ o = p := fun z => h z.symm
      simp [h, h']
theorem plains_O : ∀ l : List (Option Int), D.plains 63 (l.map oD) = true
  | [] => rfl
  | none :: l => by rw [List.map_cons, D.plains, plains_O l]; rfl
  | some x :: l => by rw [List.map_cons, D.plains, plains_O l]; rfl
theorem lst_plO {l : List (Option Int)} : (D.lst (l.map oD)).plain 64 = true := by rw [D.plain]; exact plains_O l
theorem cut_map {α β : Type} (f : α → β) (l : List α) (a b : Option Int) : cut (l.map f) a b = (cut l a b).map f := by
  unfold cut
  rw [List.map_take, List.map_drop, List.length_map]
theorem p_inO {o : Option Int} {l : List (Option Int)} {K : Res → Prop} : Wo (prim .inn [oD o, .lst (l.map oD)]) K = K (.val (.bl (decide (o ∈ l)))) := by
  rw [← any_O]
  have h : prim .inn [oD o, .lst (l.map oD)] = small ((oD o).plain 64 && (D.lst (l.map oD)).plain 64) (.val (.bl ((l.map oD).any fun y => D.eqv y (oD o)))) := by cases o <;> rfl
  rw [h, o_pl, lst_plO]
  rfl
/-- what the second walk asks of two places -/
def PairF (r : Nat → Nat) (v : Nat → Option Int) (n a b : Nat) : Prop := ∀ x, v a = some x → v b = some x → (r a = r b ∧ ND r a (b + 1)) ∧ ∀ c d y, a ≤ c → c < b → b < d → d < n → v c = some y → y ≠ x → v d ≠ some y
theorem pairs_all {r : Nat → Nat} {v : Nat → Option Int} {n : Nat} : PF2 r v n ↔ ∀ a b, a < b → b < n → PairF r v n a b :=
  ⟨fun h a b h1 h2 x h3 h4 => h a b x h1 h2 h3 h4, fun h a b x h1 h2 h3 h4 => h a b h1 h2 x h3 h4⟩
/-- lists of numbers as the law holds them -/
def seqO (d : D) (vs : List (Option Int)) : Prop := d = .lst (vs.map oD) ∨ d = .ftp (vs.map oD) ∨ d = .tup (vs.map oD)
theorem lis_face_w {s : List Nat} {vs : List (Option Int)} {d : D} {Q : Res → List D → Prop} {X : Xc → List D → Prop} (hl : s.length ≤ 1000) (hv : vs.length = s.length) (hd : seqO d vs) (kk : Q (.val (.bl (faceB (cellF s) (numF vs) s.length))) []) : Wf (f__law_is_face [.val (.str s), .val d]) Q X := by
  rw [w__law_is_face]
  have gb : s.length ≤ 100000 := by omega
  have o1 : okI (s.length : Int) = true := okI_c (by omega) (by omega)
  -- the second walk
  have second : ∀ (top : Int) (s3 s4 : Slot), U s3 → U s4 → PF1 (cellF s) (numF vs) s.length → Wp (exs c__law_is_face (b__law_is_face.drop 2) [.val (.str s), .val d, .val (.int top), s3, s4, .un, .un, .un, .un]) (kRun [.val (.str s), .val d] Q) (kRunX [.val (.str s), .val d] X) := by
    intro top s3 s4 u3 u4 p1
    simp only [b__law_is_face, List.drop]
    have no2 : ∀ a b, a < b → b < s.length → ¬ PairF (cellF s) (numF vs) s.length a b → faceB (cellF s) (numF vs) s.length = false := fun a b h1 h2 h => faceB_f.mpr fun ⟨_, q⟩ => h (pairs_all.mp q a b h1 h2)
    simp! only [gb, o1]
    refine w_forI (fun q e => ∃ (a m : Nat) (s3 s4 s5 s6 s7 s8 : Slot), q = rngs a m ∧ a + m = s.length ∧ (∀ a' b, a' < a → a' < b → b < s.length → PairF (cellF s) (numF vs) s.length a' b) ∧ (U s3 ∧ U s4 ∧ U s5 ∧ U s6 ∧ U s7 ∧ U s8) ∧ e = [.val (.str s), .val d, .val (.int top), s3, s4, s5, s6, s7, s8]) _ _ ?_ ?_ ?_
    · exact ⟨0, s.length, _, _, _, _, _, _, by rw [Int.toNat_natCast]; rfl, by omega, fun a' b h => absurd h (by omega), ⟨u3, u4, U_un, U_un, U_un, U_un⟩, rfl⟩
    · intro x q e ⟨a, m, s3, s4, s5, s6, s7, s8, j1, j2, j3, ⟨u3, u4, u5, u6, u7, u8⟩, j4⟩
      subst j4
      cases m with
      | zero => cases j1
      | succ m =>
        obtain ⟨rfl, rfl⟩ := List.cons.inj j1
        have o2 : okI ((a : Int) + 1) = true := okI_c (by omega) (by omega)
        simp! only [kT_U u5, gb, o1, o2]
        refine w_forI (fun q e => ∃ (b m2 : Nat) (s3 s4 s6 s7 s8 : Slot), q = rngs b m2 ∧ b + m2 = s.length ∧ a < b ∧ (∀ b', a < b' → b' < b → PairF (cellF s) (numF vs) s.length a b') ∧ (U s3 ∧ U s4 ∧ U s6 ∧ U s7 ∧ U s8) ∧ e = [.val (.str s), .val d, .val (.int top), s3, s4, .val (.int a), s6, s7, s8]) _ _ ?_ ?_ ?_
        · exact ⟨a + 1, m, _, _, _, _, _, by rw [show ((s.length : Int) - (↑a + 1)).toNat = m by omega]; rfl, by omega, by omega, fun b' h1 h2 => absurd h2 (by omega), ⟨u3, u4, u6, u7, u8⟩, rfl⟩
        · intro x q e ⟨b, m2, s3, s4, s6, s7, s8, i1, i2, i3, i4, ⟨u3, u4, u6, u7, u8⟩, i5⟩
          subst i5
          cases m2 with
          | zero => cases i1
          | succ m2 =>
            obtain ⟨rfl, rfl⟩ := List.cons.inj i1
            have va := at_o (vs := vs) (i := a) (by omega)
            have vb := at_o (vs := vs) (i := b) (by omega)
            have next : PairF (cellF s) (numF vs) s.length a b → ∀ b', a < b' → b' < b + 1 → PairF (cellF s) (numF vs) s.length a b' := fun h b' h1 h2 => by
              by_cases e : b' = b
              · rw [e]; exact h
              · exact i4 b' h1 (by omega)
            have nb : (b : Int) + 1 = ((b + 1 : Nat) : Int) := by omega
            cases ea : numF vs a with
            | none =>
              have g : PairF (cellF s) (numF vs) s.length a b := fun x h1 => by rw [ea] at h1; cases h1
              rw [ea] at va
              rcases hd with rfl | rfl | rfl
              all_goals
                simp! only [kT_U u6, va, oD, n_non]
                exact ⟨b + 1, m2, _, _, _, _, _, by rw [nb], by omega, by omega, next g, ⟨u3, u4, U_val, u7, u8⟩, rfl⟩
            | some x =>
              rw [ea] at va
              have va' : at? (vs.map oD) (a : Int) = some (.int x) := va
              by_cases eb : some x = numF vs b
              · have eb' : at? (vs.map oD) (b : Int) = some (.int x) := by rw [vb, ← eb]; rfl
                cases hj : joinB s a b with
                | false =>
                  rw [no2 a b i3 (by omega) fun h => by rw [joinB_t.mpr (h x ea eb.symm).1] at hj; cases hj] at kk
                  rcases hd with rfl | rfl | rfl
                  all_goals
                    simp! only [kT_U u6, va', eb']
                    refine ljoins_w hl (by omega) (by omega) ?_
                    rw [hj]
                    simp! only [true_and]
                    exact kk
                | true =>
                  obtain ⟨hj1, hj2⟩ := joinB_t.mp hj
                  have b1 : (0 : Int) ≤ (b : Int) + 1 := by omega
                  have cl1 : (cut vs (some (a : Int)) (some (b : Int))).length < vs.length := by
                    rw [cut_bb (by omega) (by omega) (by omega), List.length_take, List.length_drop]
                    omega
                  have cl2 : (cut vs (some ((b : Int) + 1)) none).length < vs.length := by
                    rw [cut_s b1, List.length_drop]
                    omega
                  obtain ⟨ins, hi⟩ : ∃ ins, ins = cut vs (some (a : Int)) (some (b : Int)) := ⟨_, rfl⟩
                  obtain ⟨out, ho⟩ : ∃ out, out = cut vs (some ((b : Int) + 1)) none := ⟨_, rfl⟩
                  have cm1 : cut (vs.map oD) (some (a : Int)) (some (b : Int)) = ins.map oD := by rw [cut_map, hi]
                  have cm2 : cut (vs.map oD) (some ((b : Int) + 1)) none = out.map oD := by rw [cut_map, ho]
                  have l1 : (ins.map oD).length < (vs.map oD).length := by rw [List.length_map, List.length_map, hi]; exact cl1
                  have l2 : (out.map oD).length < (vs.map oD).length := by rw [List.length_map, List.length_map, ho]; exact cl2
                  have li : ins.length ≤ 1000 := by rw [hi]; omega
                  have mi : ∀ o, o ∈ ins ↔ ∃ c, a ≤ c ∧ c < b ∧ numF vs c = o := fun o => by
                    rw [hi, cut_mm (by omega) (by omega) (by omega)]
                    constructor
                    · rintro ⟨c, g1, g2, g3⟩; exact ⟨c, by omega, by omega, numF_at g3⟩
                    · rintro ⟨c, g1, g2, g3⟩; exact ⟨c, by omega, by omega, by rw [← g3]; exact num_at (by omega)⟩
                  have mo : ∀ o, o ∈ out ↔ ∃ c, b < c ∧ c < s.length ∧ numF vs c = o := fun o => by
                    rw [ho, cut_s b1, show ((b : Int) + 1).toNat = b + 1 by omega]
                    constructor
                    · intro h
                      obtain ⟨c, hc⟩ := List.mem_iff_getElem?.mp h
                      rw [List.getElem?_drop] at hc
                      have := (List.getElem?_eq_some_iff.mp hc).1
                      exact ⟨b + 1 + c, by omega, by omega, numF_at hc⟩
                    · rintro ⟨c, g1, g2, g3⟩
                      refine List.mem_iff_getElem?.mpr ⟨c - (b + 1), ?_⟩
                      rw [List.getElem?_drop, show b + 1 + (c - (b + 1)) = c by omega, num_at (by omega), g3]
                  obtain ⟨dd, hdd⟩ : ∃ q : D, q = d := ⟨_, rfl⟩
                  have key : (ins.map fun o => (decide (o ≠ some x) && decide (o ∈ out))).any id = true ↔ ¬ PairF (cellF s) (numF vs) s.length a b := by
                    rw [any_id, List.any_eq_true]
                    constructor
                    · rintro ⟨o, h1, h2⟩ hp
                      rw [Bool.and_eq_true, decide_eq_true_eq, decide_eq_true_eq] at h2
                      obtain ⟨c, c1, c2, c3⟩ := (mi o).mp h1
                      obtain ⟨e, e1, e2, e3⟩ := (mo o).mp h2.2
                      cases o with
                      | none =>
                        rcases p1 c (by omega) with ⟨z, _⟩ | ⟨_, y, z, _⟩
                        · exact hj2 c c1 (by omega) z
                        · rw [c3] at z; cases z
                      | some y => exact (hp x ea eb.symm).2 c e y c1 c2 e1 e2 c3 (fun z => h2.1 (by rw [z])) e3
                    · intro hn
                      apply Classical.byContradiction
                      intro no
                      refine hn fun x' h1 h2 => ?_
                      rw [ea] at h1
                      cases h1
                      refine ⟨⟨hj1, hj2⟩, fun c e y c1 c2 c3 c4 c5 c6 c7 => no ⟨some y, (mi _).mpr ⟨c, c1, c2, c5⟩, ?_⟩⟩
                      rw [Bool.and_eq_true, decide_eq_true_eq, decide_eq_true_eq]
                      exact ⟨fun z => c6 (Option.some.inj z), (mo _).mpr ⟨e, c3, c4, c7⟩⟩
                  rcases hd with rfl | rfl | rfl
                  all_goals
                    simp! only [kT_U u6, va', eb']
                    refine ljoins_w hl (by omega) (by omega) ?_
                    rw [hj]
                    simp! only [cm1, cm2, l1, l2, kOwnC_U u7, kOwnC_U u8]
                    rw [← hdd]
                    refine w_compI (fun q acc e => ∃ (dn rest : List (Option Int)) (s8 : Slot), ins = dn ++ rest ∧ q = rest.map oD ∧ acc = dn.map (fun o => D.bl (decide (o ≠ some x) && decide (o ∈ out))) ∧ (s8 = .own (.lst (out.map oD)) ∨ s8 = .val (.lst (out.map oD))) ∧ e = [.val (.str s), .val dd, .val (.int top), s3, .un, .val (.int a), .val (.int b), .val (.lst (ins.map oD)), s8]) _ _ _ ?_ ?_ ?_
                    · exact ⟨[], ins, _, rfl, rfl, rfl, .inl rfl, rfl⟩
                    · intro y q acc e ⟨dn, rest, s8, t1, t2, t3, t4, t5⟩
                      subst t5
                      cases rest with
                      | nil => cases t2
                      | cons o rest =>
                        rw [List.map_cons] at t2
                        obtain ⟨rfl, rfl⟩ := List.cons.inj t2
                        have al : acc.length < 100000 := by
                          rw [t3, List.length_map]
                          have := congrArg List.length t1
                          rw [List.length_append] at this
                          omega
                        have fin : ∀ v : Bool, v = (decide (o ≠ some x) && decide (o ∈ out)) → acc ++ [D.bl v] = (dn ++ [o]).map (fun o => D.bl (decide (o ≠ some x) && decide (o ∈ out))) := fun v hv => by rw [t3, List.map_append, hv]; rfl
                        rw [hdd]
                        by_cases ho1 : o ≠ some x
                        · rcases t4 with rfl | rfl
                          all_goals
                            simp! only [va', p_neO, o_pl, lst_plO, any_O, ho1, al]
                            exact ⟨dn ++ [o], rest, _, by rw [t1, List.append_assoc]; rfl, rfl, fin _ (by rw [decide_eq_true ho1, Bool.true_and]), .inr rfl, rfl⟩
                        · rcases t4 with rfl | rfl
                          all_goals
                            simp! only [va', p_neO, o_pl, lst_plO, any_O, ho1, al]
                            exact ⟨dn ++ [o], rest, _, by rw [t1, List.append_assoc]; rfl, rfl, fin _ (by rw [decide_eq_false ho1, Bool.false_and]), by simp, rfl⟩
                    · intro acc e ⟨dn, rest, s8, t1, t2, t3, t4, t5⟩
                      subst t5
                      cases rest with
                      | cons o rest => cases t2
                      | nil =>
                        rw [List.append_nil] at t1
                        subst t1
                        have u8' : U s8 := by rcases t4 with rfl | rfl; exact U_own; exact U_val
                        have hb : bls? acc = some (ins.map fun o => (decide (o ≠ some x) && decide (o ∈ out))) := by rw [t3]; exact bls_map _ _
                        rw [hdd]
                        simp! only [hb]
                        cases hq : (ins.map fun o => (decide (o ≠ some x) && decide (o ∈ out))).any id with
                        | true =>
                          rw [no2 a b i3 (by omega) (key.mp hq)] at kk
                          simp! only [true_and]
                          exact kk
                        | false =>
                          have g : PairF (cellF s) (numF vs) s.length a b := by
                            apply Classical.byContradiction
                            intro z
                            rw [key.mpr z] at hq
                            cases hq
                          simp! only [true_and]
                          exact ⟨b + 1, m2, _, _, _, _, _, by rw [nb], by omega, by omega, next g, ⟨u3, u4, U_val, U_val, u8'⟩, rfl⟩
              · have g : PairF (cellF s) (numF vs) s.length a b := fun y h1 h2 => by
                  rw [ea] at h1
                  cases h1
                  exact absurd h2.symm eb
                rcases hd with rfl | rfl | rfl
                all_goals
                  simp! only [kT_U u6, va', vb, p_eqO, eb]
                  exact ⟨b + 1, m2, _, _, _, _, _, by rw [nb], by omega, by omega, next g, ⟨u3, u4, U_val, u7, u8⟩, rfl⟩
        · intro e ⟨b, m2, s3, s4, s6, s7, s8, i1, i2, i3, i4, ⟨u3, u4, u6, u7, u8⟩, i5⟩
          subst i5
          cases m2 with
          | succ m2 => cases i1
          | zero =>
            simp! only [true_and]
            refine ⟨a + 1, m, _, _, _, _, _, _, by rw [show (a : Int) + 1 = ((a + 1 : Nat) : Int) by omega], by omega, fun a' b' h1 h2 h3 => ?_, ⟨u3, u4, U_val, u6, u7, u8⟩, rfl⟩
            by_cases e : a' = a
            · rw [e]; exact i4 b' (by omega) (by omega)
            · exact j3 a' b' (by omega) h2 h3
    · intro e ⟨a, m, s3, s4, s5, s6, s7, s8, j1, j2, j3, us, j4⟩
      subst j4
      cases m with
      | succ m => cases j1
      | zero =>
        have ff : faceB (cellF s) (numF vs) s.length = true := faceB_t.mpr ⟨p1, pairs_all.mpr fun a' b h1 h2 => j3 a' b (by omega) h1 h2⟩
        rw [ff] at kk
        simp! only [true_and]
        exact kk
  simp only [b__law_is_face, List.drop] at second
  unfold b__law_is_face
  simp! only [gb, o1]
  refine w_forI (fun q e => ∃ (k m : Nat) (s3 s4 : Slot), q = rngs k m ∧ k + m = s.length ∧ PF1 (cellF s) (numF vs) k ∧ (U s3 ∧ U s4) ∧ e = [.val (.str s), .val d, .val (.int (topV (numF vs) k)), s3, s4, .un, .un, .un, .un]) _ _ ?_ ?_ ?_
  · exact ⟨0, s.length, _, _, by rw [Int.toNat_natCast]; rfl, by omega, fun i hi => absurd hi (by omega), ⟨U_un, U_un⟩, rfl⟩
  · intro x q e ⟨k, m, s3, s4, j1, j2, j3, ⟨u3, u4⟩, j4⟩
    subst j4
    cases m with
    | zero => cases j1
    | succ m =>
      obtain ⟨rfl, rfl⟩ := List.cons.inj j1
      have ac := at_c (s := s) (i := k) (by omega)
      have av := at_o (vs := vs) (i := k) (by omega)
      have nk : (k : Int) + 1 = ((k + 1 : Nat) : Int) := by omega
      have fail : ¬ PF1 (cellF s) (numF vs) (k + 1) → faceB (cellF s) (numF vs) s.length = false := fun h => faceB_no (k := k + 1) (by omega) fun ⟨z, _⟩ => h z
      have av2 : ∀ K : D → Prop, Wo (prim .ix [d, .int k]) (fun r => K r.d) → True := fun _ _ => trivial
      by_cases h46 : cellF s k = 46
      · have h46' : ([cellF s k] : List Nat) = [46] := by rw [h46]
        cases ek : numF vs k with
        | none =>
          have p' := j3.snoc (.inl ⟨h46, ek⟩)
          have e2 : topV (numF vs) (k + 1) = topV (numF vs) k := topV_none ek
          rw [ek] at av
          rcases hd with rfl | rfl | rfl
          all_goals
            simp! only [kT_U u3, kOwn2_U u4, gb, av, ac, h46', oD]
            exact ⟨k + 1, m, _, _, by rw [nk], by omega, p', ⟨U_val, U_val⟩, by rw [e2]⟩
        | some y =>
          rw [fail fun h => by
            rcases h k (by omega) with ⟨_, z⟩ | ⟨z, _⟩
            · rw [ek] at z; cases z
            · exact z h46] at kk
          rw [ek] at av
          rcases hd with rfl | rfl | rfl
          all_goals
            simp! only [kT_U u3, kOwn2_U u4, gb, av, ac, h46', oD]
            exact kk
      · have h46' : ¬ (([cellF s k] : List Nat) = [46]) := fun z => h46 (by simpa using z)
        cases ek : numF vs k with
        | none =>
          rw [fail fun h => by
            rcases h k (by omega) with ⟨z, _⟩ | ⟨_, y, z, _⟩
            · exact h46 z
            · rw [ek] at z; cases z] at kk
          rw [ek] at av
          rcases hd with rfl | rfl | rfl
          all_goals
            simp! only [kT_U u3, kOwn2_U u4, gb, av, ac, h46', oD]
            exact kk
        | some y =>
          rw [ek] at av
          by_cases y0 : 0 ≤ y
          · by_cases y1 : y ≤ topV (numF vs) k
            · have p' := j3.snoc (.inr ⟨h46, y, ek, y0, y1⟩)
              have e2 := topV_some ek
              rcases hd with rfl | rfl | rfl
              all_goals
                simp! only [kT_U u3, kOwn2_U u4, gb, av, ac, h46', oD, y0, y1]
                exact ⟨k + 1, m, _, _, by rw [nk], by omega, p', ⟨U_val, U_val⟩, by rw [e2]⟩
            · rw [fail fun h => by
                rcases h k (by omega) with ⟨z, _⟩ | ⟨_, w, z, _, w1⟩
                · exact h46 z
                · rw [ek] at z; cases z; exact y1 w1] at kk
              rcases hd with rfl | rfl | rfl
              all_goals
                simp! only [kT_U u3, kOwn2_U u4, gb, av, ac, h46', oD, y0, y1]
                exact kk
          · rw [fail fun h => by
              rcases h k (by omega) with ⟨z, _⟩ | ⟨_, w, z, w0, _⟩
              · exact h46 z
              · rw [ek] at z; cases z; exact y0 w0] at kk
            rcases hd with rfl | rfl | rfl
            all_goals
              simp! only [kT_U u3, kOwn2_U u4, gb, av, ac, h46', oD, y0]
              exact kk
  · intro e ⟨k, m, s3, s4, j1, j2, j3, ⟨u3, u4⟩, j4⟩
    subst j4
    cases m with
    | succ m => cases j1
    | zero =>
      have hk : k = s.length := by omega
      subst hk
      have r := second (topV (numF vs) s.length) s3 s4 u3 u4 j3
      simp! only [gb, o1] at r ⊢
      exact r
end Itp
set_option Elab.async false
set_option linter.all false
set_option maxRecDepth 100000
set_option maxHeartbeats 4000000
local macro_rules | `(tactic| simp! only [$a,*] $[$l:location]?) => `(tactic| simp -implicitDefEqProofs only [Itp.w_nil, Itp.w_cons, Itp.kS_nx, Itp.kS_rt, Itp.kS_bk, Itp.kS_ct, Itp.kOwn_u, Itp.kOwn2_un, Itp.kOwn2_val, Itp.kOwn2_own, Itp.w_own, Itp.kAsg_u, Itp.w_asg, Itp.w_nm, Itp.kT_un, Itp.kT_val, Itp.kT_own, Itp.kTs_u, Itp.w_tpt, Itp.w_tpl, Itp.w_tn, Itp.w_tc, Itp.kSt_o, Itp.kSt_p, Itp.kSet3_u, Itp.kSet4_o, Itp.kSet4_p, Itp.kSet1_u, Itp.w_seti, Itp.kApp_u, Itp.kApp2_o, Itp.kApp2_p, Itp.oL_u, Itp.oL_o, Itp.oL_p, Itp.w_app, Itp.kExt_u, Itp.kExt2_o, Itp.kExt2_p, Itp.w_ext, Itp.kEx_u, Itp.w_ex, Itp.kRet_u, Itp.w_ret, Itp.w_rv, Itp.kRv_own, Itp.kRv_val, Itp.rt_cst, Itp.rt_glb, Itp.rt_op, Itp.rt_and, Itp.rt_or, Itp.rt_not, Itp.rt_ite, Itp.rt_chain, Itp.rt_chain3, Itp.rt_call, Itp.rt_callV, Itp.rt_comp, Itp.w_retn, Itp.w_pass, Itp.kIf_u, Itp.kIf_t, Itp.kIf_f, Itp.w_ifs, Itp.kFor4_u, Itp.kIt_u, Itp.kIt2_s, Itp.w_for, Itp.w_whl, Itp.kRse3_u, Itp.kRse2_s, Itp.kRse_u, Itp.w_rse, Itp.zf_nil, Itp.zf_cons, Itp.zM_s, Itp.kTry_u, Itp.w_try, Itp.w_cat0, Itp.kUn_nx, Itp.kCat_f, Itp.kCat_t, Itp.kSuN_n, Itp.kSuN_s, Itp.kSu_un, Itp.kSu_val, Itp.w_cat, Itp.w_suc, Itp.kSl_u, Itp.kSl2_un, Itp.kSl2_val, Itp.kSl2_own, Itp.w_sul, Itp.w_var, Itp.kVar_val, Itp.kVar_own, Itp.w_cst, Itp.w_glb, Itp.w_fnv, Itp.kE_u, Itp.kOpX_u, Itp.kOp3_ff, Itp.kOp2_s, Itp.kOp_u, Itp.w_op, Itp.kBl_u, Itp.kAnd_u, Itp.kAnd_t, Itp.kAnd_f, Itp.w_and, Itp.kOr_u, Itp.kOr_f, Itp.kOr_t, Itp.w_or, Itp.kNot_u, Itp.w_not, Itp.kIte_u, Itp.kIte_t, Itp.kIte_f, Itp.w_ite, Itp.kCh5_u, Itp.kLk4_t, Itp.kLk4_f, Itp.kLk3_u, Itp.kCh2_u, Itp.kCh1_u, Itp.w_chain, Itp.kC5_u, Itp.kC2_u, Itp.kC1_u, Itp.w_chain3, Itp.kB2_u, Itp.kBack_u, Itp.kBackX_u, Itp.kCall2_s, Itp.kCall_u, Itp.w_call, Itp.kCv2_s, Itp.kCv_u, Itp.w_callV, Itp.kCm4_u, Itp.kCm_u, Itp.w_comp, Itp.w_en, Itp.kCo_u, Itp.kEv_u, Itp.w_ec, Itp.w_pk, Itp.kPk_val, Itp.kPk_own, Itp.kPk_par, Itp.kD_u, Itp.od_var, Itp.od_cst, Itp.od_glb, Itp.od_op, Itp.od_and, Itp.od_or, Itp.od_not, Itp.od_ite, Itp.od_chain, Itp.od_chain3, Itp.od_fnv, Itp.od_callV, Itp.od_call, Itp.od_comp, Itp.kFz_u, Itp.w_fz, Itp.w_an, Itp.kAl_u, Itp.kAl_t, Itp.kAl_f, Itp.w_ac, Itp.kRun_nx, Itp.kRun_rt, Itp.kRunX_u, Itp.w_fn, Itp.w_fv, Itp.kFl_u, Itp.kFs_p, Itp.w_fl, Itp.wo_some, Itp.wp_ok, Itp.wp_ex, Itp.sl_0, Itp.sl_S, Itp.rd_v, Itp.rd_n, Itp.rs_v, Itp.rs_n, Itp.opds_nil, Itp.opds_cons, Itp.opC_s, Itp.opd_d, Itp.opd_pk, Itp.toArgs_nil, Itp.toArgs_cons, Itp.arC_s, Itp.toArg_d, Itp.toArg_k, Itp.arS_val, Itp.arS_own, Itp.arS_par, Itp.d_val, Itp.d_own, Itp.d_par, Itp.muts_nil, Itp.muts_d, Itp.muts_pk, Itp.mutC_t, Itp.mutC_f, Itp.m_val, Itp.m_own, Itp.m_par, Itp.pb_nil, Itp.pb_cons, Itp.put_own, Itp.put_par, Itp.nd_nil, Itp.nd_one, Itp.ie_nil, Itp.ie_cons, Itp.as_v, Itp.as_l, Itp.ip_pk, Itp.ip_d, List.set_cons_zero, List.set_cons_succ, Itp.hideE, Itp.backE, Itp.disp, Itp.midOp, Itp.mthd, Itp.kV_u, Itp.kVI_u, Itp.kVC_u, Itp.p_addI, Itp.p_addS, Itp.p_addL, Itp.p_addT, Itp.p_subI, Itp.p_mulI, Itp.p_mulS, Itp.p_mulL, Itp.p_mulT, Itp.p_fdiv, Itp.p_mod, Itp.p_pow, Itp.p_neg, Itp.p_eqI, Itp.p_eqS, Itp.p_neI, Itp.p_neS, Itp.p_eqL, Itp.p_eqT, Itp.p_eqN, Itp.p_eqB, Itp.p_neL, Itp.p_neT, Itp.p_neN, Itp.p_neB, Itp.p_lt, Itp.p_ltS, Itp.p_le, Itp.p_gt, Itp.p_ge, Itp.p_isN, Itp.p_notN, Itp.n_non, Itp.n_int, Itp.n_str, Itp.n_tup, Itp.n_lst, Itp.n_bl, Itp.p_inC, Itp.p_inL, Itp.p_inT, Itp.p_niC, Itp.p_niL, Itp.p_niT, Itp.p_ixL, Itp.p_ixT, Itp.p_ixR, Itp.p_ixS, Itp.p_sS0, Itp.p_sS1, Itp.p_sS2, Itp.p_sS3, Itp.p_sL1, Itp.p_sL2, Itp.p_sL3, Itp.p_sT1, Itp.p_sT2, Itp.p_sT3, Itp.p_revL, Itp.p_tup, Itp.p_lst, Itp.p_lenS, Itp.p_lenL, Itp.p_lenT, Itp.p_lenR, Itp.p_int, Itp.p_intB, Itp.p_listL, Itp.p_listT, Itp.p_tupleL, Itp.p_tupleT, Itp.p_min, Itp.p_max, Itp.kAB_u, Itp.kNB_u, Itp.p_all, Itp.p_any, Itp.p_isi, Itp.kJn_u, Itp.p_join, Itp.i_lst, Itp.i_tup, Itp.i_str, Itp.i_eL, Itp.i_eT, Itp.i_eS, Itp.i_r1, Itp.i_r2, Itp.i_r3, Itp.cut_n, Itp.kL_nx, Itp.kL_ct, Itp.kL_bk, Itp.kL_rt, Itp.kBd_u, Itp.kCi2_u, Itp.kCi1_t, Itp.kCi1_f, Itp.kCi_u, List.any_cons, List.any_nil, Bool.or_false, Bool.or_true, Bool.true_or, Bool.false_or, Bool.and_false, Bool.false_and, Bool.and_true, Bool.true_and, Bool.not_true, Bool.not_false, decide_true, decide_false, true_and, and_true, Nat.reduceAdd, Nat.zero_add, List.length_cons, List.length_nil, Int.reduceLT, Int.reduceLE, Int.reduceNeg, Int.reducePow, Int.reduceAdd, Int.reduceSub, Int.reduceMul, Nat.reduceLeDiff, Nat.reduceLT, Nat.reducePow, Nat.reduceMul, Int.reduceEq, Int.reduceToNat, Itp.typed, Itp.typOf, Itp.big, ne_eq, not_false_eq_true, reduceCtorEq, List.cons_append, List.nil_append, true_or, or_true, Itp.kOwnC_un, Itp.kOwnC_val, Itp.kOwnC_own, Itp.kOwns_u, Itp.w_owns, Itp.kR2_u, Itp.kR1_u, Itp.w_rn, Itp.w_rc, Itp.w_on, Itp.w_oc, Itp.rt_dct1, Itp.rt_dcomp, Itp.rt_comp2, Itp.od_comp2, Itp.w_comp2, Itp.kCmm_u, Itp.kCt2_u, Itp.kCt2c_u, Itp.kCt2d_u, Itp.kSet4_do, Itp.kSet4_dp, Itp.kD1c_u, Itp.kD1_u, Itp.w_dct1, Itp.kDm4_u, Itp.kDm_u, Itp.w_dcomp, Itp.od_dct1, Itp.od_dcomp, Itp.p_inD, Itp.p_niD, Itp.p_ixD, Itp.p_get, Itp.p_lenD, Itp.p_dct, Itp.p_trng1, Itp.p_trng2, Itp.p_lrng1, Itp.p_lrng2, Itp.p_find1, Itp.p_find2, Itp.kPos_u, Itp.p_indexL, Itp.p_indexS, Itp.kCnt_u, Itp.p_count, Itp.kNl_u, Itp.kSs_u, Itp.p_srtD, Itp.p_srt, Itp.p_listS, Itp.kSum_u, Itp.p_sum, Itp.p_sumT, Itp.p_abs, Itp.kI_u, Itp.p_minL, Itp.p_maxL, Itp.i_dk, Itp.i_di, Itp.kDi3_u, Itp.kDi2_u, Itp.kDi1_t, Itp.kDi1_f, Itp.kDi_u, Itp.mb_join, Itp.mb_find, Itp.mb_count, Itp.mb_index, Itp.mb_split, Itp.mb_replace, Itp.mb_get, Itp.mb_slc, Option.bind_some, Itp.p_intS1, Itp.p_intS2, Itp.p_str, Itp.p_split, Itp.p_fst5, Itp.p_sset, Itp.kSd_u, Itp.mb_fst5, Itp.kS2n_u, Itp.kS2_u, Itp.kS2d_t, Itp.w_seti2, Itp.kPopV_o, Itp.kPopV_p, Itp.kPop_o, Itp.kPop_p, Itp.w_pop, Itp.n_ftp, Itp.p_addF, Itp.p_eqF, Itp.p_neF, Itp.p_lenF, Itp.p_listF, Itp.p_ftup, Itp.p_sF1, Itp.p_sF3, Itp.kLs_u, Itp.p_lset, Itp.i_ftp, Itp.i_eF, Itp.p_ixF, Itp.p_indexF, Itp.cg_is_from, Itp.ch_is_from, Itp.cg_is_row, Itp.ch_is_row, Itp.cf_need_row_0, Itp.cg_need_row, Itp.ch_need_row, Itp.cf_is_face_by_0, Itp.cg_is_face_by, Itp.ch_is_face_by, Itp.cf_is_face_0, Itp.cf_is_face_1, Itp.cg_is_face, Itp.ch_is_face, Itp.cg__law_taken, Itp.ch__law_taken, Itp.cf__law_row_0, Itp.cg__law_row, Itp.ch__law_row, Itp.cg__law_joins, Itp.ch__law_joins, Itp.cf__law_is_face_0, Itp.cg__law_is_face, Itp.ch__law_is_face, Itp.cf_law_0, Itp.cf_law_1, Itp.cf_law_2, Itp.cf_law_3, Itp.cf_law_4, Itp.cg_law, Itp.ch_law, Itp.fl_1, $a,*] $[$l]?)
namespace Itp
open PySem L2
def okF : FRes → Bool
  | .ok (.val (.bl false)) [] => true
  | _ => false
theorem okF_eq {r : FRes} (h : okF r = true) : r = .ok (.val (.bl false)) [] := by
  unfold okF at h
  split at h
  · rfl
  · cases h
theorem okF_w {r : FRes} {Q : Res → List D → Prop} {X : Xc → List D → Prop} (h : okF r = true) (kk : Q (.val (.bl false)) []) : Wf r Q X := by
  rw [okF_eq h]; exact kk
theorem fx1 : okF (f_is_face [.val (.str [97, 98]), .val (.tup [.int 0, .bl true])]) = true := by decide +kernel
theorem fx2 : okF (f_is_face [.val (.str [97]), .val (.tup [.bl false])]) = true := by decide +kernel
theorem fx3 : okF (f_is_face [.val (.str [97, 97]), .val (.tup [.int 0, .str [48]])]) = true := by decide +kernel
theorem eqv_bl (b : Bool) : D.eqv (.bl b) (.bl b) = true := by cases b <;> rfl
theorem eqv_nilO (l : List (Option Int)) : D.eqv (.lst (l.map oD)) (.lst []) = l.isEmpty := by cases l <;> rfl
theorem law_ok : ∀ ns : List Int, ns.length ≤ 63 → f_law [.val (.scr ns)] = .ok (.val (.bl true)) [] := fun ns _ => by
  apply wf_ok
  rw [w_law]
  unfold b_law
  have o3 : okI 3 = true := rfl
  simp! only [o3]
  refine w_forI (fun _ e => ∃ d' s2 s3 s4 s5 s6 s7 s8 s9 s10, IsRow ns d' ∧ (U s2 ∧ U s3 ∧ U s4 ∧ U s5 ∧ U s6 ∧ U s7 ∧ U s8 ∧ U s9 ∧ U s10) ∧ e = [.val (.scr ns), .own d', s2, s3, s4, s5, s6, s7, s8, s9, s10]) _ _ ?_ ?_ ?_
  · exact ⟨_, _, _, _, _, _, _, _, _, _, ⟨0, 508, 0, rfl, by omega⟩, ⟨U_un, U_un, U_un, U_un, U_un, U_un, U_un, U_un, U_un⟩, rfl⟩
  · intro x xs e ⟨d, s2, s3, s4, s5, s6, s7, s8, s9, s10, hd, ⟨u2, u3, u4, u5, u6, u7, u8, u9, u10⟩, he⟩
    subst he
    simp! only [kT_U u2]
    refine row_w hd (by omega) (by omega) fun s d1 hd1 hs hsl => ?_
    have h1 := hs.1
    have h2 := hs.2.1
    have gb : s.length ≤ 100000 := by omega
    have o1 : okI (s.length : Int) = true := okI_c (by omega) (by omega)
    simp! only [kOwn2_U u3, kOwnC_U u4, kOwnC_U u5, gb, o1]
    refine w_forI (fun q e => ∃ (d' : D) (k m : Nat) (vs : List (Option Int)) (top : Int) (s2 s6 s7 s8 : Slot), IsRow ns d' ∧ q = rngs k m ∧ k + m = s.length ∧ vs.length = k ∧ (U s2 ∧ U s6 ∧ U s7 ∧ U s8) ∧ e = [.val (.scr ns), .own d', s2, .val (.str s), .own (.lst (vs.map oD)), .val (.int top), s6, s7, s8, s9, s10]) _ _ ?_ ?_ ?_
    · exact ⟨_, 0, s.length, [], 0, _, _, _, _, hd1, by rw [Int.toNat_natCast]; rfl, by omega, rfl, ⟨U_val, u6, u7, u8⟩, rfl⟩
    · intro x q e ⟨d', k, m, vs, top, s2, s6, s7, s8, hd', j1, j2, j3, ⟨u2, u6, u7, u8⟩, j4⟩
      subst j4
      cases m with
      | zero => cases j1
      | succ m =>
        obtain ⟨rfl, rfl⟩ := List.cons.inj j1
        have nk : (k : Int) + 1 = ((k + 1 : Nat) : Int) := by omega
        have ok2 : okI (k : Int) = true := okI_c (by omega) (by omega)
        have ac := at_c (s := s) (i := k) (by omega)
        have ap : ∀ o : Option Int, (vs.map oD) ++ [oD o] = (vs ++ [o]).map oD := fun o => by rw [List.map_append]; rfl
        have vl : (vs.map oD).length < 100000 := by rw [List.length_map]; omega
        simp! only [kT_U u6, ok2]
        refine w_compI (fun q acc e => ∃ (a m2 : Nat) (los : List (Option Int)), q = rngs a m2 ∧ a + m2 = k ∧ acc = los.map oD ∧ los.length ≤ a ∧ e = [.val (.scr ns), .own d', s2, .val (.str s), .own (.lst (vs.map oD)), .val (.int top), .val (.int k), s7, .un, s9, s10]) _ _ _ ?_ ?_ ?_
        · exact ⟨0, k, [], by rw [Int.toNat_natCast]; rfl, by omega, rfl, by simp, rfl⟩
        · intro x q acc e ⟨a, m2, los, i1, i2, i3, i5, i4⟩
          subst i4
          cases m2 with
          | zero => cases i1
          | succ m2 =>
            obtain ⟨rfl, rfl⟩ := List.cons.inj i1
            have na : (a : Int) + 1 = ((a + 1 : Nat) : Int) := by omega
            have av := at_o (vs := vs) (i := a) (by omega)
            have al : acc.length < 100000 := by rw [i3, List.length_map]; omega
            simp! only [true_and]
            refine ljoins_w (by omega) (by omega) (by omega) ?_
            cases joinB s a k with
            | true =>
              simp! only [av, al]
              exact ⟨a + 1, m2, los ++ [numF vs a], by rw [na], by omega, by rw [i3, List.map_append]; rfl, by rw [List.length_append]; simp only [List.length_cons, List.length_nil]; omega⟩
            | false =>
              simp! only [true_and]
              exact ⟨a + 1, m2, los, by rw [na], by omega, i3, by omega⟩
        · intro acc e ⟨a, m2, los, i1, i2, i3, i5, i4⟩
          subst i4
          cases m2 with
          | succ m2 => cases i1
          | zero =>
            subst i3
            by_cases h46 : cellF s k = 46
            · have h46' : ([cellF s k] : List Nat) = [46] := by rw [h46]
              simp! only [kOwn2_U u7, gb, ac, h46', vl]
              exact ⟨d', k + 1, m, vs ++ [none], top, _, _, _, _, hd', by rw [nk], by omega, by rw [List.length_append, j3]; rfl, ⟨u2, U_val, U_own, u8⟩, by rw [← ap none]; rfl⟩
            · have h46' : ¬ (([cellF s k] : List Nat) = [46]) := fun z => h46 (by simpa using z)
              have pl : (D.lst []).plain 64 = true := rfl
              cases he : los.isEmpty with
              | true =>
                simp! only [kOwn2_U u7, gb, ac, h46', lst_plO, pl, eqv_nilO, he, vl]
                exact ⟨d', k + 1, m, vs ++ [some top], top + 1, _, _, _, _, hd', by rw [nk], by omega, by rw [List.length_append, j3]; rfl, ⟨u2, U_val, U_val, u8⟩, by rw [← ap (some top)]; rfl⟩
              | false =>
                have ln : 0 < los.length := by
                  cases los with
                  | nil => cases he
                  | cons a l => simp
                simp! only [kOwn2_U u7, gb, ac, h46', lst_plO, pl, eqv_nilO, he, vl]
                refine taken_w hd' (by omega) (by omega) fun v1 d2 hd2 a1 b1 => ?_
                by_cases c1 : 0 < v1
                · simp! only [c1]
                  obtain ⟨z, hz⟩ : ∃ z : Int, z = ((los.map oD).length : Nat) := ⟨_, rfl⟩
                  have zl : z = los.length := by rw [hz, List.length_map]
                  rw [← hz]
                  refine taken_w hd2 (by omega) (by omega) fun v2 d3 hd3 a2 b2 => ?_
                  have hv2 : los[v2.toNat]? = some (numF los v2.toNat) := num_at (by omega)
                  have av2 : at? (los.map oD) v2 = some (oD (numF los v2.toNat)) := at_get a2 (by rw [List.getElem?_map, hv2]; rfl)
                  simp! only [av2, vl]
                  exact ⟨d3, k + 1, m, vs ++ [numF los v2.toNat], top, _, _, _, _, hd3, by rw [nk], by omega, by rw [List.length_append, j3]; rfl, ⟨u2, U_val, U_val, u8⟩, by rw [← ap]⟩
                · simp! only [c1, vl]
                  exact ⟨d2, k + 1, m, vs ++ [some top], top + 1, _, _, _, _, hd2, by rw [nk], by omega, by rw [List.length_append, j3]; rfl, ⟨u2, U_val, U_val, u8⟩, by rw [← ap (some top)]; rfl⟩
    · intro e ⟨d', k, m, vs, top, s2, s6, s7, s8, hd', j1, j2, j3, ⟨u2, u6, u7, u8⟩, j4⟩
      subst j4
      cases m with
      | succ m => cases j1
      | zero =>
        have hk : k = s.length := by omega
        subst hk
        simp! only [true_and]
        refine taken_w hd' (by omega) (by omega) fun v1 d1 hd1 a1 b1 => ?_
        by_cases c1 : v1 = 0
        case' pos =>
          simp! only [c1]
          refine taken_w hd1 (by omega) (by omega) fun v2 d2 hd2 a2 b2 => ?_
          obtain ⟨o, ho⟩ : ∃ o : Option Int, at? [D.non, D.int 0, D.int 1, D.int 2] v2 = some (oD o) := by
            have : v2 = 0 ∨ v2 = 1 ∨ v2 = 2 ∨ v2 = 3 := by omega
            rcases this with rfl | rfl | rfl | rfl
            · exact ⟨none, rfl⟩
            · exact ⟨some 0, rfl⟩
            · exact ⟨some 1, rfl⟩
            · exact ⟨some 2, rfl⟩
          simp! only [ho]
          obtain ⟨z, hz⟩ : ∃ z : Int, z = ((vs.map oD).length : Nat) := ⟨_, rfl⟩
          have zl : z = vs.length := by rw [hz, List.length_map]
          rw [← hz]
          refine taken_w hd2 (by omega) (by omega) fun v3 d3 hd3 a3 b3 => ?_
          have ix : ixOf (vs.map oD).length v3 = some v3.toNat := ix_at a3 (by rw [List.length_map]; omega)
          have hv : (vs.set v3.toNat o).length = s.length := by rw [List.length_set]; exact j3
          simp! only [ix]
          rw [← List.map_set]
          generalize hvs : vs.set v3.toNat o = ws at hv ⊢
          have hdd := hd3
          generalize d3 = dd at hdd ⊢
        case' neg =>
          have hv : vs.length = s.length := j3
          have hdd := hd1
          simp! only [c1]
          generalize hvs : vs = ws at hv ⊢
          generalize d1 = dd at hdd ⊢
        all_goals
          have pb : ∀ b : Bool, (D.bl b).plain 64 = true := fun b => rfl
          have l1 : (ws.map oD).length + 1 ≤ 100000 := by rw [List.length_map]; omega
          have l1' : (ws.map oD).length ≤ 99999 := by rw [List.length_map]; omega
          have n0 : ([D.int 0] : List D) ≠ [] := by simp
          have l2 : (cut (ws.map oD) (some 1) none).length < (ws.map oD).length := by
            rw [cut_s (by omega), List.length_drop, List.length_map]
            show ws.length - 1 < ws.length
            omega
          refine is_face_w hs hv ?_
          simp! only [kOwn2_U u9]
          refine lis_face_w (by omega) hv (.inl rfl) ?_
          simp! only [pb, eqv_bl, l1, l1', n0, l2, kOwn2_U u10]
          refine taken_w hdd (by omega) (by omega) fun v5 d5 hd5 a5 b5 => ?_
          simp! only [true_and]
          refine wo_at a5 b5 fun y hy => ?_
          simp! only [true_and]
          have ty : typed y = true ∧ (typOf y .tuple = false ∨ ∃ xs, y = .tup xs ∧ xs.length ≠ s.length) := by
            simp only [List.mem_cons, List.not_mem_nil, or_false] at hy
            rcases hy with rfl | rfl | rfl | rfl | rfl | rfl | rfl | rfl
            · exact ⟨rfl, .inl rfl⟩
            · exact ⟨rfl, .inl rfl⟩
            · exact ⟨rfl, .inl rfl⟩
            · exact ⟨rfl, .inl rfl⟩
            · exact ⟨rfl, .inl rfl⟩
            · exact ⟨rfl, .inr ⟨_, rfl, by rw [List.length_append, List.length_map, hv]; simp⟩⟩
            · exact ⟨rfl, .inr ⟨_, rfl, by rw [cut_s (by omega), List.length_drop, List.length_map]; show ws.length - 1 ≠ s.length; omega⟩⟩
            · exact ⟨rfl, .inl rfl⟩
          refine is_face_n hs ty.1 ty.2 ?_
          simp! only [true_and]
          exact ⟨d5, _, _, _, _, _, _, _, _, _, hd5, ⟨u2, U_val, U_val, U_val, u6, u7, u8, U_val, U_val⟩, rfl⟩
  · intro e ⟨d, s2, s3, s4, s5, s6, s7, s8, s9, s10, hd, us, he⟩
    subst he
    simp! only [true_and]
    refine okF_w fx1 ?_
    simp! only [true_and]
    refine okF_w fx2 ?_
    simp! only [true_and]
    refine okF_w fx3 ?_
    simp! only [true_and]
end Itp
set_option Elab.async false
set_option linter.all false
set_option maxRecDepth 100000
set_option maxHeartbeats 4000000
namespace Itp
open PySem L2
abbrev s_BadRow : Stmt := (clsBody (topS 2)).getD 0 (.Pass ⟨0, 0, 0, 0⟩)
theorem sc_BadRow : FnScope ["self"] ["self"] (defScope s_BadRow) := ⟨rfl, rfl, rfl, by decide +kernel, rfl, by decide +kernel, by decide +kernel⟩
theorem k_BadRow : initB ["self"] (defScope s_BadRow) [] "DipError" (defBody s_BadRow) = true := by decide +kernel
theorem fld_cases {c : Nat} {fl : List Str} (h : fldsC c = some fl) : (c = 1 ∧ fl = ([] : List Str)) := by
  unfold fldsC at h
  split at h <;> simp_all
theorem sub_cases {c d : Nat} {v : Bool} (h : subC c d = some v) : False := by
  unfold subC at h
  split at h <;> simp_all
theorem all_mk {l : PySem.W.OpenLaw} {w : World} {K : PySem.W.Frag} {h : Heap} {mg : Str → Option Value} {fa : Addr} (KX : K.In h) (G : h.Ns mainGlobals mg) (hfa : mg "law" = some (.ref fa))
    {C_DipError : Addr}
    {C_BadRow : Addr}
    {nm_BadRow q_BadRow : Str} {N_BadRow : Addr} {bs_BadRow : List Value} {sn_BadRow : List Str} {sub_BadRow : List Value} {ab_BadRow : Bool} {col_BadRow : Option Bool} {dd_BadRow : Option Addr} {m0_BadRow m1_BadRow m2_BadRow m3_BadRow m5_BadRow : Option Value}
    {I_BadRow : Addr} {oci_BadRow kVi_BadRow dci_BadRow pmi_BadRow cdi_BadRow cti_BadRow : Value} {odi_BadRow ani_BadRow : Option Addr} {sli_BadRow : Array (Option Value)}
    {k_MOST_CELLS : Tok}
    {k_LETTERS : Tok}
    {k_BLANK : Tok}
    {A_is_from : Addr} {od_is_from an_is_from : Option Addr} {sl_is_from : Array (Option Value)} {oc_is_from kV_is_from dc_is_from pm_is_from cd_is_from ct_is_from : Value}
    {A_is_row : Addr} {od_is_row an_is_row : Option Addr} {sl_is_row : Array (Option Value)} {oc_is_row kV_is_row dc_is_row pm_is_row cd_is_row ct_is_row : Value}
    {A_need_row : Addr} {od_need_row an_need_row : Option Addr} {sl_need_row : Array (Option Value)} {oc_need_row kV_need_row dc_need_row pm_need_row cd_need_row ct_need_row : Value}
    {A_is_face_by : Addr} {od_is_face_by an_is_face_by : Option Addr} {sl_is_face_by : Array (Option Value)} {oc_is_face_by kV_is_face_by dc_is_face_by pm_is_face_by cd_is_face_by ct_is_face_by : Value}
    {A_is_face : Addr} {od_is_face an_is_face : Option Addr} {sl_is_face : Array (Option Value)} {oc_is_face kV_is_face dc_is_face pm_is_face cd_is_face ct_is_face : Value}
    {A__law_taken : Addr} {od__law_taken an__law_taken : Option Addr} {sl__law_taken : Array (Option Value)} {oc__law_taken kV__law_taken dc__law_taken pm__law_taken cd__law_taken ct__law_taken : Value}
    {A__law_row : Addr} {od__law_row an__law_row : Option Addr} {sl__law_row : Array (Option Value)} {oc__law_row kV__law_row dc__law_row pm__law_row cd__law_row ct__law_row : Value}
    {A__law_joins : Addr} {od__law_joins an__law_joins : Option Addr} {sl__law_joins : Array (Option Value)} {oc__law_joins kV__law_joins dc__law_joins pm__law_joins cd__law_joins ct__law_joins : Value}
    {A__law_is_face : Addr} {od__law_is_face an__law_is_face : Option Addr} {sl__law_is_face : Array (Option Value)} {oc__law_is_face kV__law_is_face dc__law_is_face pm__law_is_face cd__law_is_face ct__law_is_face : Value}
    {A_law : Addr} {od_law an_law : Option Addr} {sl_law : Array (Option Value)} {oc_law kV_law dc_law pm_law cd_law ct_law : Value}
    (a_DipError : PySem.W.nsIn K mainGlobals "DipError" = some (some (.ref C_DipError)))
    (a_BadRow : PySem.W.nsIn K mainGlobals "BadRow" = some (some (.ref C_BadRow)))
    (x_BadRow : K.lookup C_BadRow = some (excClassObj nm_BadRow q_BadRow C_BadRow N_BadRow bs_BadRow [.ref C_DipError, .type "ValueError", .type "Exception", .type "BaseException", .type "object"] true sn_BadRow sub_BadRow ab_BadRow col_BadRow dd_BadRow m0_BadRow m1_BadRow m2_BadRow m3_BadRow m5_BadRow "ValueError.__new__"))
    (sa_BadRow : PySem.W.findIn K (.ref C_BadRow) "__setattr__" = some (some (.builtin "object.__setattr__")))
    (ga_BadRow : PySem.W.findIn K (.ref C_BadRow) "__getattribute__" = some (some (.builtin "BaseException.__getattribute__")))
    (gg_BadRow : PySem.W.findIn K (.ref C_BadRow) "__getattr__" = some none)
    (ii_BadRow : PySem.W.findIn K (.ref C_BadRow) "__init__" = some (some (.ref I_BadRow)))
    (ti_BadRow : PySem.W.typeIn K (.ref I_BadRow) = some (.type "function"))
    (li_BadRow : K.lookup I_BadRow = some ⟨oci_BadRow, odi_BadRow, .func (PySem.W.fnOf "__init__" "BadRow.__init__" (defArgs s_BadRow) (defBody s_BadRow) (defScope s_BadRow) .none kVi_BadRow dci_BadRow pmi_BadRow ani_BadRow cdi_BadRow cti_BadRow), sli_BadRow⟩)
    (ci_BadRow : PySem.W.codeIn K cdi_BadRow "BadRow.__init__" = true)
    (ki_BadRow : PySem.W.keepIn K (.ref I_BadRow) = true)
    (kC_BadRow : PySem.W.keepIn K (.ref C_BadRow) = true)
    (eC_BadRow : PySem.W.subIn K (.ref C_BadRow) (.type "BaseException") = some true)
    (tC_BadRow : PySem.W.typeIn K (.ref C_BadRow) = some (.type "type"))
    (hC_BadRow : PySem.W.hasDictIn K C_BadRow = true)
    (sB_DipError : PySem.W.specialIn K (.ref C_DipError) "__getattribute__" = some (some (.builtin "type.__getattribute__")))
    (rB_DipError : PySem.W.readsIn K C_DipError (.type "type") = true)
    (vB_DipError : PySem.W.findCls K (.ref C_DipError) (.type "type") "__init__" = some (.val (.builtin "ValueError.__init__")))
    (v_MOST_CELLS : PySem.W.nsIn K mainGlobals "MOST_CELLS" = some (some (.int 12 k_MOST_CELLS)))
    (v_LETTERS : PySem.W.nsIn K mainGlobals "LETTERS" = some (some (.str ⟨[97, 98, 99, 100, 101, 102, 103, 104].toArray⟩ k_LETTERS)))
    (v_BLANK : PySem.W.nsIn K mainGlobals "BLANK" = some (some (.str ⟨[46].toArray⟩ k_BLANK)))
    (g_is_from : PySem.W.nsIn K mainGlobals "is_from" = some (some (.ref A_is_from)))
    (l_is_from : K.lookup A_is_from = some ⟨oc_is_from, od_is_from, .func (PySem.W.fnOf "is_from" "is_from" (defArgs s_is_from) (defBody s_is_from) (defScope s_is_from) .none kV_is_from dc_is_from pm_is_from an_is_from cd_is_from ct_is_from), sl_is_from⟩)
    (d_is_from : PySem.W.codeIn K cd_is_from "is_from" = true)
    (e_is_from : PySem.W.keepIn K (.ref A_is_from) = true)
    (g_is_row : PySem.W.nsIn K mainGlobals "is_row" = some (some (.ref A_is_row)))
    (l_is_row : K.lookup A_is_row = some ⟨oc_is_row, od_is_row, .func (PySem.W.fnOf "is_row" "is_row" (defArgs s_is_row) (defBody s_is_row) (defScope s_is_row) .none kV_is_row dc_is_row pm_is_row an_is_row cd_is_row ct_is_row), sl_is_row⟩)
    (d_is_row : PySem.W.codeIn K cd_is_row "is_row" = true)
    (e_is_row : PySem.W.keepIn K (.ref A_is_row) = true)
    (g_need_row : PySem.W.nsIn K mainGlobals "need_row" = some (some (.ref A_need_row)))
    (l_need_row : K.lookup A_need_row = some ⟨oc_need_row, od_need_row, .func (PySem.W.fnOf "need_row" "need_row" (defArgs s_need_row) (defBody s_need_row) (defScope s_need_row) .none kV_need_row dc_need_row pm_need_row an_need_row cd_need_row ct_need_row), sl_need_row⟩)
    (d_need_row : PySem.W.codeIn K cd_need_row "need_row" = true)
    (e_need_row : PySem.W.keepIn K (.ref A_need_row) = true)
    (g_is_face_by : PySem.W.nsIn K mainGlobals "is_face_by" = some (some (.ref A_is_face_by)))
    (l_is_face_by : K.lookup A_is_face_by = some ⟨oc_is_face_by, od_is_face_by, .func (PySem.W.fnOf "is_face_by" "is_face_by" (defArgs s_is_face_by) (defBody s_is_face_by) (defScope s_is_face_by) .none kV_is_face_by dc_is_face_by pm_is_face_by an_is_face_by cd_is_face_by ct_is_face_by), sl_is_face_by⟩)
    (d_is_face_by : PySem.W.codeIn K cd_is_face_by "is_face_by" = true)
    (e_is_face_by : PySem.W.keepIn K (.ref A_is_face_by) = true)
    (g_is_face : PySem.W.nsIn K mainGlobals "is_face" = some (some (.ref A_is_face)))
    (l_is_face : K.lookup A_is_face = some ⟨oc_is_face, od_is_face, .func (PySem.W.fnOf "is_face" "is_face" (defArgs s_is_face) (defBody s_is_face) (defScope s_is_face) .none kV_is_face dc_is_face pm_is_face an_is_face cd_is_face ct_is_face), sl_is_face⟩)
    (d_is_face : PySem.W.codeIn K cd_is_face "is_face" = true)
    (e_is_face : PySem.W.keepIn K (.ref A_is_face) = true)
    (g__law_taken : PySem.W.nsIn K mainGlobals "_law_taken" = some (some (.ref A__law_taken)))
    (l__law_taken : K.lookup A__law_taken = some ⟨oc__law_taken, od__law_taken, .func (PySem.W.fnOf "_law_taken" "_law_taken" (defArgs s__law_taken) (defBody s__law_taken) (defScope s__law_taken) .none kV__law_taken dc__law_taken pm__law_taken an__law_taken cd__law_taken ct__law_taken), sl__law_taken⟩)
    (d__law_taken : PySem.W.codeIn K cd__law_taken "_law_taken" = true)
    (e__law_taken : PySem.W.keepIn K (.ref A__law_taken) = true)
    (g__law_row : PySem.W.nsIn K mainGlobals "_law_row" = some (some (.ref A__law_row)))
    (l__law_row : K.lookup A__law_row = some ⟨oc__law_row, od__law_row, .func (PySem.W.fnOf "_law_row" "_law_row" (defArgs s__law_row) (defBody s__law_row) (defScope s__law_row) .none kV__law_row dc__law_row pm__law_row an__law_row cd__law_row ct__law_row), sl__law_row⟩)
    (d__law_row : PySem.W.codeIn K cd__law_row "_law_row" = true)
    (e__law_row : PySem.W.keepIn K (.ref A__law_row) = true)
    (g__law_joins : PySem.W.nsIn K mainGlobals "_law_joins" = some (some (.ref A__law_joins)))
    (l__law_joins : K.lookup A__law_joins = some ⟨oc__law_joins, od__law_joins, .func (PySem.W.fnOf "_law_joins" "_law_joins" (defArgs s__law_joins) (defBody s__law_joins) (defScope s__law_joins) .none kV__law_joins dc__law_joins pm__law_joins an__law_joins cd__law_joins ct__law_joins), sl__law_joins⟩)
    (d__law_joins : PySem.W.codeIn K cd__law_joins "_law_joins" = true)
    (e__law_joins : PySem.W.keepIn K (.ref A__law_joins) = true)
    (g__law_is_face : PySem.W.nsIn K mainGlobals "_law_is_face" = some (some (.ref A__law_is_face)))
    (l__law_is_face : K.lookup A__law_is_face = some ⟨oc__law_is_face, od__law_is_face, .func (PySem.W.fnOf "_law_is_face" "_law_is_face" (defArgs s__law_is_face) (defBody s__law_is_face) (defScope s__law_is_face) .none kV__law_is_face dc__law_is_face pm__law_is_face an__law_is_face cd__law_is_face ct__law_is_face), sl__law_is_face⟩)
    (d__law_is_face : PySem.W.codeIn K cd__law_is_face "_law_is_face" = true)
    (e__law_is_face : PySem.W.keepIn K (.ref A__law_is_face) = true)
    (g_law : PySem.W.nsIn K mainGlobals "law" = some (some (.ref A_law)))
    (l_law : K.lookup A_law = some ⟨oc_law, od_law, .func (PySem.W.fnOf "law" "law" (defArgs s_law) (defBody s_law) (defScope s_law) .none kV_law dc_law pm_law an_law cd_law ct_law), sl_law⟩)
    (d_law : PySem.W.codeIn K cd_law "law" = true)
    (e_law : PySem.W.keepIn K (.ref A_law) = true)
    (z_len : PySem.W.nsIn K mainGlobals "len" = some none)
    (z_int : PySem.W.nsIn K mainGlobals "int" = some none)
    (z_str : PySem.W.nsIn K mainGlobals "str" = some none)
    (z_list : PySem.W.nsIn K mainGlobals "list" = some none)
    (z_tuple : PySem.W.nsIn K mainGlobals "tuple" = some none)
    (z_min : PySem.W.nsIn K mainGlobals "min" = some none)
    (z_max : PySem.W.nsIn K mainGlobals "max" = some none)
    (z_sum : PySem.W.nsIn K mainGlobals "sum" = some none)
    (z_abs : PySem.W.nsIn K mainGlobals "abs" = some none)
    (z_all : PySem.W.nsIn K mainGlobals "all" = some none)
    (z_any : PySem.W.nsIn K mainGlobals "any" = some none)
    (z_isinstance : PySem.W.nsIn K mainGlobals "isinstance" = some none)
    (z_range : PySem.W.nsIn K mainGlobals "range" = some none)
    (z_enumerate : PySem.W.nsIn K mainGlobals "enumerate" = some none)
    (z_sorted : PySem.W.nsIn K mainGlobals "sorted" = some none)
    (z_set : PySem.W.nsIn K mainGlobals "set" = some none)
    (z_bool : PySem.W.nsIn K mainGlobals "bool" = some none)
    (hF : ∀ ns : List Int, ns.length ≤ 63 → f_law [.val (.scr ns)] = .ok (.val (.bl true)) []) :
    ∃ fd : FuncData, (∀ (s : Shared) (v : Value), BindsTo s fd ⟨[v], []⟩ [("_law_script", v)]) ∧ ∀ base : Heap, K.In base → base.Ns mainGlobals mg → FnOk l.prog w K mg base (L2.CX l.prog w) 7 fa fd ["_law_script"] (spLaw K 63) := by
  have e := hfa.symm.trans (PySem.W.mg_of KX G g_law)
  cases e
  have F_is_from := fun_mk (st := s_is_from) l_is_from d_is_from e_is_from
  have B_is_from := F_is_from.binds (ps := ["value", "low", "high"]) fun _ _ _ _ _ _ us hl => match us, hl with | [_, _, _], _ => rfl
  have m_is_from := PySem.W.mg_of KX G g_is_from
  have F_is_row := fun_mk (st := s_is_row) l_is_row d_is_row e_is_row
  have B_is_row := F_is_row.binds (ps := ["value"]) fun _ _ _ _ _ _ us hl => match us, hl with | [_], _ => rfl
  have m_is_row := PySem.W.mg_of KX G g_is_row
  have F_need_row := fun_mk (st := s_need_row) l_need_row d_need_row e_need_row
  have B_need_row := F_need_row.binds (ps := ["row"]) fun _ _ _ _ _ _ us hl => match us, hl with | [_], _ => rfl
  have m_need_row := PySem.W.mg_of KX G g_need_row
  have F_is_face_by := fun_mk (st := s_is_face_by) l_is_face_by d_is_face_by e_is_face_by
  have B_is_face_by := F_is_face_by.binds (ps := ["row", "value"]) fun _ _ _ _ _ _ us hl => match us, hl with | [_, _], _ => rfl
  have m_is_face_by := PySem.W.mg_of KX G g_is_face_by
  have F_is_face := fun_mk (st := s_is_face) l_is_face d_is_face e_is_face
  have B_is_face := F_is_face.binds (ps := ["row", "value"]) fun _ _ _ _ _ _ us hl => match us, hl with | [_, _], _ => rfl
  have m_is_face := PySem.W.mg_of KX G g_is_face
  have F__law_taken := fun_mk (st := s__law_taken) l__law_taken d__law_taken e__law_taken
  have B__law_taken := F__law_taken.binds (ps := ["_law_row_here", "_law_many"]) fun _ _ _ _ _ _ us hl => match us, hl with | [_, _], _ => rfl
  have m__law_taken := PySem.W.mg_of KX G g__law_taken
  have F__law_row := fun_mk (st := s__law_row) l__law_row d__law_row e__law_row
  have B__law_row := F__law_row.binds (ps := ["_law_row_here", "_law_most"]) fun _ _ _ _ _ _ us hl => match us, hl with | [_, _], _ => rfl
  have m__law_row := PySem.W.mg_of KX G g__law_row
  have F__law_joins := fun_mk (st := s__law_joins) l__law_joins d__law_joins e__law_joins
  have B__law_joins := F__law_joins.binds (ps := ["_law_told", "_law_one", "_law_other"]) fun _ _ _ _ _ _ us hl => match us, hl with | [_, _, _], _ => rfl
  have m__law_joins := PySem.W.mg_of KX G g__law_joins
  have F__law_is_face := fun_mk (st := s__law_is_face) l__law_is_face d__law_is_face e__law_is_face
  have B__law_is_face := F__law_is_face.binds (ps := ["_law_told", "_law_value"]) fun _ _ _ _ _ _ us hl => match us, hl with | [_, _], _ => rfl
  have m__law_is_face := PySem.W.mg_of KX G g__law_is_face
  have F_law := fun_mk (st := s_law) l_law d_law e_law
  have B_law := F_law.binds (ps := ["_law_script"]) fun _ _ _ _ _ _ us hl => match us, hl with | [_], _ => rfl
  have m_law := PySem.W.mg_of KX G g_law
  have F_BadRow := fun_mk (st := s_BadRow) li_BadRow ci_BadRow ki_BadRow
  have B_BadRow := F_BadRow.binds (ps := ["self"]) fun _ _ _ _ _ _ us hl => match us, hl with | [_], _ => rfl
  have TB_DipError : BasC K C_DipError := ⟨sB_DipError, rB_DipError, vB_DipError⟩
  refine ⟨PySem.W.fnOf "law" "law" (defArgs s_law) (defBody s_law) (defScope s_law) .none kV_law dc_law pm_law an_law cd_law ct_law, fun s v => .of_eq rfl, fun base _ _ => ?_⟩
  have hblt : ∀ x ∈ bltNames, mg x = none := fun x hx => by
    simp only [bltNames, List.mem_cons, List.not_mem_nil, or_false] at hx
    rcases hx with rfl | rfl | rfl | rfl | rfl | rfl | rfl | rfl | rfl | rfl | rfl | rfl | rfl | rfl | rfl | rfl | rfl
    · exact PySem.W.mg_none_of KX G z_len
    · exact PySem.W.mg_none_of KX G z_int
    · exact PySem.W.mg_none_of KX G z_str
    · exact PySem.W.mg_none_of KX G z_list
    · exact PySem.W.mg_none_of KX G z_tuple
    · exact PySem.W.mg_none_of KX G z_min
    · exact PySem.W.mg_none_of KX G z_max
    · exact PySem.W.mg_none_of KX G z_sum
    · exact PySem.W.mg_none_of KX G z_abs
    · exact PySem.W.mg_none_of KX G z_all
    · exact PySem.W.mg_none_of KX G z_any
    · exact PySem.W.mg_none_of KX G z_isinstance
    · exact PySem.W.mg_none_of KX G z_range
    · exact PySem.W.mg_none_of KX G z_enumerate
    · exact PySem.W.mg_none_of KX G z_sorted
    · exact PySem.W.mg_none_of KX G z_set
    · exact PySem.W.mg_none_of KX G z_bool
  let W : Wd := ⟨K, fun n => [].getD n none, fun n => [some C_DipError, some C_BadRow].getD n none⟩
  have xf_BadRow : XfC K C_BadRow := ⟨ga_BadRow, gg_BadRow, eC_BadRow, hC_BadRow⟩
  have nf_BadRow : ∀ f ∈ ([] : List Str), PySem.W.findIn K (.ref C_BadRow) f = some none := fun f hf => by
    simp only [List.mem_cons, List.not_mem_nil, or_false] at hf
  have CG_BadRow : ClsG l.prog w K mg base W 2 "BadRow" 1 [] C_BadRow := ⟨rfl, ⟨⟨_, _, _, _, _, _, _, _, _, _, _, _, _, _, _, x_BadRow, by first | rfl | decide⟩, sa_BadRow, eC_BadRow, tC_BadRow, kC_BadRow⟩, PySem.W.mg_of KX G a_BadRow, nf_BadRow, xf_BadRow, by decide, by decide +kernel, I_BadRow, _, 1, _, ii_BadRow, ti_BadRow, init_fn F_BadRow sc_BadRow rfl (by decide) k_BadRow (PySem.W.mg_of KX G a_DipError) TB_DipError, by decide, B_BadRow⟩
  have hxcl : ∀ c fl A, fldsC c = some fl → W.ca c = some A → XfC K A ∧ ∀ f ∈ fl, PySem.W.findIn K (.ref A) f = some none := fun c fl A h1 h2 => by
    obtain ⟨rfl, rfl⟩ := fld_cases h1
    · obtain rfl : C_BadRow = A := Option.some.inj h2
      exact ⟨xf_BadRow, nf_BadRow⟩
  have hexm : ∀ c c2 b A B, subC c c2 = some b → W.ca c = some A → W.ca c2 = some B → PySem.W.exmOne K (.ref A) (.ref B) = some b := fun c c2 b A B h h1 h2 => by
    exact (sub_cases h).elim
  have P_is_from : Pg l.prog w K mg base W c_is_from t_is_from 3 := by
    refine ⟨rfl, hblt, fun x d q => ?_, fun x f q => ?_, fun x g q => ?_, fun g F a q q2 => ?_, fun x c q => ?_, fun x c fl q q2 => ?_, hxcl, hexm⟩
    · exact lk_nil q
    · exact lk_nil q
    · exact lk_nil q
    · cases q
    · exact lk_nil q
    · exact lk_nil q
  have N_is_from : FnOk l.prog w K mg base (L2.CX l.prog w) 4 A_is_from _ _ (spOf W f_is_from) := def_ok P_is_from F_is_from sc_is_from rfl rfl (by decide) k_is_from
  have P_is_row : Pg l.prog w K mg base W c_is_row t_is_row 3 := by
    refine ⟨rfl, hblt, fun x d q => ?_, fun x f q => ?_, fun x g q => ?_, fun g F a q q2 => ?_, fun x c q => ?_, fun x c fl q q2 => ?_, hxcl, hexm⟩
    · rcases lk_cons q with ⟨rfl, rfl⟩ | q
      · exact cst_int (PySem.W.mg_of KX G v_MOST_CELLS)
      rcases lk_cons q with ⟨rfl, rfl⟩ | q
      · exact cst_str (PySem.W.mg_of KX G v_LETTERS)
      rcases lk_cons q with ⟨rfl, rfl⟩ | q
      · exact cst_str (PySem.W.mg_of KX G v_BLANK)
      exact lk_nil q
    · exact lk_nil q
    · exact lk_nil q
    · cases q
    · exact lk_nil q
    · exact lk_nil q
  have N_is_row : FnOk l.prog w K mg base (L2.CX l.prog w) 4 A_is_row _ _ (spOf W f_is_row) := def_ok P_is_row F_is_row sc_is_row rfl rfl (by decide) k_is_row
  have P_need_row : Pg l.prog w K mg base W c_need_row t_need_row 4 := by
    refine ⟨rfl, hblt, fun x d q => ?_, fun x f q => ?_, fun x g q => ?_, fun g F a q q2 => ?_, fun x c q => ?_, fun x c fl q q2 => ?_, hxcl, hexm⟩
    · exact lk_nil q
    · rcases lk_cons q with ⟨rfl, rfl⟩ | q
      · exact ⟨A_is_row, _, 4, _, (show FnOk l.prog w K mg base (L2.CX l.prog w) 4 A_is_row _ _ (spOf W f_is_row) from N_is_row), by omega, m_is_row, e_is_row, B_is_row⟩
      exact lk_nil q
    · exact lk_nil q
    · cases q
    · rcases lk_cons q with ⟨rfl, rfl⟩ | q
      · exact ⟨C_BadRow, rfl, PySem.W.mg_of KX G a_BadRow⟩
      exact lk_nil q
    · rcases lk_cons q with ⟨rfl, rfl⟩ | q
      · cases q2
        exact ⟨C_BadRow, CG_BadRow.mono (by omega)⟩
      exact lk_nil q
  have N_need_row : FnOk l.prog w K mg base (L2.CX l.prog w) 5 A_need_row _ _ (spOf W f_need_row) := def_ok P_need_row F_need_row sc_need_row rfl rfl (by decide) k_need_row
  have P_is_face_by : Pg l.prog w K mg base W c_is_face_by t_is_face_by 4 := by
    refine ⟨rfl, hblt, fun x d q => ?_, fun x f q => ?_, fun x g q => ?_, fun g F a q q2 => ?_, fun x c q => ?_, fun x c fl q q2 => ?_, hxcl, hexm⟩
    · rcases lk_cons q with ⟨rfl, rfl⟩ | q
      · exact cst_str (PySem.W.mg_of KX G v_BLANK)
      exact lk_nil q
    · rcases lk_cons q with ⟨rfl, rfl⟩ | q
      · exact ⟨A_is_from, _, 4, _, (show FnOk l.prog w K mg base (L2.CX l.prog w) 4 A_is_from _ _ (spOf W f_is_from) from N_is_from), by omega, m_is_from, e_is_from, B_is_from⟩
      exact lk_nil q
    · exact lk_nil q
    · cases q
    · exact lk_nil q
    · exact lk_nil q
  have N_is_face_by : FnOk l.prog w K mg base (L2.CX l.prog w) 5 A_is_face_by _ _ (spOf W f_is_face_by) := def_ok P_is_face_by F_is_face_by sc_is_face_by rfl rfl (by decide) k_is_face_by
  have P_is_face : Pg l.prog w K mg base W c_is_face t_is_face 5 := by
    refine ⟨rfl, hblt, fun x d q => ?_, fun x f q => ?_, fun x g q => ?_, fun g F a q q2 => ?_, fun x c q => ?_, fun x c fl q q2 => ?_, hxcl, hexm⟩
    · exact lk_nil q
    · rcases lk_cons q with ⟨rfl, rfl⟩ | q
      · exact ⟨A_need_row, _, 5, _, (show FnOk l.prog w K mg base (L2.CX l.prog w) 5 A_need_row _ _ (spOf W f_need_row) from N_need_row), by omega, m_need_row, e_need_row, B_need_row⟩
      rcases lk_cons q with ⟨rfl, rfl⟩ | q
      · exact ⟨A_is_face_by, _, 5, _, (show FnOk l.prog w K mg base (L2.CX l.prog w) 5 A_is_face_by _ _ (spOf W f_is_face_by) from N_is_face_by), by omega, m_is_face_by, e_is_face_by, B_is_face_by⟩
      exact lk_nil q
    · exact lk_nil q
    · cases q
    · exact lk_nil q
    · exact lk_nil q
  have N_is_face : FnOk l.prog w K mg base (L2.CX l.prog w) 6 A_is_face _ _ (spOf W f_is_face) := def_ok P_is_face F_is_face sc_is_face rfl rfl (by decide) k_is_face
  have P__law_taken : Pg l.prog w K mg base W c__law_taken t__law_taken 3 := by
    refine ⟨rfl, hblt, fun x d q => ?_, fun x f q => ?_, fun x g q => ?_, fun g F a q q2 => ?_, fun x c q => ?_, fun x c fl q q2 => ?_, hxcl, hexm⟩
    · exact lk_nil q
    · exact lk_nil q
    · exact lk_nil q
    · cases q
    · exact lk_nil q
    · exact lk_nil q
  have N__law_taken : FnOk l.prog w K mg base (L2.CX l.prog w) 4 A__law_taken _ _ (spOf W f__law_taken) := def_ok P__law_taken F__law_taken sc__law_taken rfl rfl (by decide) k__law_taken
  have P__law_row : Pg l.prog w K mg base W c__law_row t__law_row 4 := by
    refine ⟨rfl, hblt, fun x d q => ?_, fun x f q => ?_, fun x g q => ?_, fun g F a q q2 => ?_, fun x c q => ?_, fun x c fl q q2 => ?_, hxcl, hexm⟩
    · exact lk_nil q
    · rcases lk_cons q with ⟨rfl, rfl⟩ | q
      · exact ⟨A__law_taken, _, 4, _, (show FnOk l.prog w K mg base (L2.CX l.prog w) 4 A__law_taken _ _ (spOf W f__law_taken) from N__law_taken), by omega, m__law_taken, e__law_taken, B__law_taken⟩
      exact lk_nil q
    · exact lk_nil q
    · cases q
    · exact lk_nil q
    · exact lk_nil q
  have N__law_row : FnOk l.prog w K mg base (L2.CX l.prog w) 5 A__law_row _ _ (spOf W f__law_row) := def_ok P__law_row F__law_row sc__law_row rfl rfl (by decide) k__law_row
  have P__law_joins : Pg l.prog w K mg base W c__law_joins t__law_joins 3 := by
    refine ⟨rfl, hblt, fun x d q => ?_, fun x f q => ?_, fun x g q => ?_, fun g F a q q2 => ?_, fun x c q => ?_, fun x c fl q q2 => ?_, hxcl, hexm⟩
    · exact lk_nil q
    · exact lk_nil q
    · exact lk_nil q
    · cases q
    · exact lk_nil q
    · exact lk_nil q
  have N__law_joins : FnOk l.prog w K mg base (L2.CX l.prog w) 4 A__law_joins _ _ (spOf W f__law_joins) := def_ok P__law_joins F__law_joins sc__law_joins rfl rfl (by decide) k__law_joins
  have P__law_is_face : Pg l.prog w K mg base W c__law_is_face t__law_is_face 4 := by
    refine ⟨rfl, hblt, fun x d q => ?_, fun x f q => ?_, fun x g q => ?_, fun g F a q q2 => ?_, fun x c q => ?_, fun x c fl q q2 => ?_, hxcl, hexm⟩
    · exact lk_nil q
    · rcases lk_cons q with ⟨rfl, rfl⟩ | q
      · exact ⟨A__law_joins, _, 4, _, (show FnOk l.prog w K mg base (L2.CX l.prog w) 4 A__law_joins _ _ (spOf W f__law_joins) from N__law_joins), by omega, m__law_joins, e__law_joins, B__law_joins⟩
      exact lk_nil q
    · exact lk_nil q
    · cases q
    · exact lk_nil q
    · exact lk_nil q
  have N__law_is_face : FnOk l.prog w K mg base (L2.CX l.prog w) 5 A__law_is_face _ _ (spOf W f__law_is_face) := def_ok P__law_is_face F__law_is_face sc__law_is_face rfl rfl (by decide) k__law_is_face
  have P_law : Pg l.prog w K mg base W c_law t_law 6 := by
    refine ⟨rfl, hblt, fun x d q => ?_, fun x f q => ?_, fun x g q => ?_, fun g F a q q2 => ?_, fun x c q => ?_, fun x c fl q q2 => ?_, hxcl, hexm⟩
    · exact lk_nil q
    · rcases lk_cons q with ⟨rfl, rfl⟩ | q
      · exact ⟨A__law_row, _, 5, _, (show FnOk l.prog w K mg base (L2.CX l.prog w) 5 A__law_row _ _ (spOf W f__law_row) from N__law_row), by omega, m__law_row, e__law_row, B__law_row⟩
      rcases lk_cons q with ⟨rfl, rfl⟩ | q
      · exact ⟨A__law_joins, _, 4, _, (show FnOk l.prog w K mg base (L2.CX l.prog w) 4 A__law_joins _ _ (spOf W f__law_joins) from N__law_joins), by omega, m__law_joins, e__law_joins, B__law_joins⟩
      rcases lk_cons q with ⟨rfl, rfl⟩ | q
      · exact ⟨A__law_taken, _, 4, _, (show FnOk l.prog w K mg base (L2.CX l.prog w) 4 A__law_taken _ _ (spOf W f__law_taken) from N__law_taken), by omega, m__law_taken, e__law_taken, B__law_taken⟩
      rcases lk_cons q with ⟨rfl, rfl⟩ | q
      · exact ⟨A_is_face, _, 6, _, (show FnOk l.prog w K mg base (L2.CX l.prog w) 6 A_is_face _ _ (spOf W f_is_face) from N_is_face), by omega, m_is_face, e_is_face, B_is_face⟩
      rcases lk_cons q with ⟨rfl, rfl⟩ | q
      · exact ⟨A__law_is_face, _, 5, _, (show FnOk l.prog w K mg base (L2.CX l.prog w) 5 A__law_is_face _ _ (spOf W f__law_is_face) from N__law_is_face), by omega, m__law_is_face, e__law_is_face, B__law_is_face⟩
      exact lk_nil q
    · exact lk_nil q
    · cases q
    · exact lk_nil q
    · exact lk_nil q
  have N_law : FnOk l.prog w K mg base (L2.CX l.prog w) 7 fa _ _ (spOf W f_law) := def_ok P_law F_law sc_law rfl rfl (by decide) k_law
  exact N_law.imp (law_imp (W := W) hF)
end Itp
set_option Elab.async false
set_option linter.all false
set_option maxRecDepth 100000
set_option maxHeartbeats 4000000
namespace Itp
open PySem L2
end Itp
open PySem PySem.W PyProof.Rows
set_option maxHeartbeats 0 in
theorem PySem.Challenge.cw_dipsoverdips_k08_faces_checked_holds : PySem.Challenge.rw_dipsoverdips_k08_faces_checked.Holds := by
  w_on; o_law; k_head; (case hw => w_witness2)
  k_fill
  refine L2.walk_of (l := PySem.Challenge.rw_dipsoverdips_k08_faces_checked) (n := 63) (k := 7) (x := "_law_script") (CX := fun w => L2.CX PySem.Challenge.rw_dipsoverdips_k08_faces_checked.prog w) (sp := fun w => Itp.spLaw _ 63) rfl (by decide) rfl ⟨rfl, by decide, by decide⟩ (fun w h Y => by first | exact PySem.W.kIn_of Y | exact PySem.W.km_in_of Y) ?F (fun _ _ a ns hl _ hS => ⟨a, ns, rfl, hS, hl, fun _ => rfl⟩) (fun _ _ _ _ _ h => Itp.cx_no h)
  case F =>
    intro w mg fa h KX G hmg
    refine' Itp.all_mk KX G hmg ?a_DipError ?a_BadRow ?x_BadRow ?sa_BadRow ?ga_BadRow ?gg_BadRow ?ii_BadRow ?ti_BadRow ?li_BadRow ?ci_BadRow ?ki_BadRow ?kC_BadRow ?eC_BadRow ?tC_BadRow ?hC_BadRow ?sB_DipError ?rB_DipError ?vB_DipError ?v_MOST_CELLS ?v_LETTERS ?v_BLANK ?g_is_from ?l_is_from ?d_is_from ?e_is_from ?g_is_row ?l_is_row ?d_is_row ?e_is_row ?g_need_row ?l_need_row ?d_need_row ?e_need_row ?g_is_face_by ?l_is_face_by ?d_is_face_by ?e_is_face_by ?g_is_face ?l_is_face ?d_is_face ?e_is_face ?g__law_taken ?l__law_taken ?d__law_taken ?e__law_taken ?g__law_row ?l__law_row ?d__law_row ?e__law_row ?g__law_joins ?l__law_joins ?d__law_joins ?e__law_joins ?g__law_is_face ?l__law_is_face ?d__law_is_face ?e__law_is_face ?g_law ?l_law ?d_law ?e_law ?z_len ?z_int ?z_str ?z_list ?z_tuple ?z_min ?z_max ?z_sum ?z_abs ?z_all ?z_any ?z_isinstance ?z_range ?z_enumerate ?z_sorted ?z_set ?z_bool Itp.law_ok
    (case a_DipError => k_is)
    (case a_BadRow => k_is)
    (case x_BadRow => k_is)
    (case sa_BadRow => k_is)
    (case ga_BadRow => k_is)
    (case gg_BadRow => k_is)
    (case ii_BadRow => k_is)
    (case ti_BadRow => k_is)
    (case li_BadRow => k_is)
    (case ci_BadRow => k_is)
    (case ki_BadRow => k_is)
    (case kC_BadRow => k_is)
    (case eC_BadRow => k_is)
    (case tC_BadRow => k_is)
    (case hC_BadRow => k_is)
    (case sB_DipError => k_is)
    (case rB_DipError => k_is)
    (case vB_DipError => k_is)
    (case v_MOST_CELLS => k_is)
    (case v_LETTERS => k_is)
    (case v_BLANK => k_is)
    (case g_is_from => k_is)
    (case l_is_from => k_is)
    (case d_is_from => k_is)
    (case e_is_from => k_is)
    (case g_is_row => k_is)
    (case l_is_row => k_is)
    (case d_is_row => k_is)
    (case e_is_row => k_is)
    (case g_need_row => k_is)
    (case l_need_row => k_is)
    (case d_need_row => k_is)
    (case e_need_row => k_is)
    (case g_is_face_by => k_is)
    (case l_is_face_by => k_is)
    (case d_is_face_by => k_is)
    (case e_is_face_by => k_is)
    (case g_is_face => k_is)
    (case l_is_face => k_is)
    (case d_is_face => k_is)
    (case e_is_face => k_is)
    (case g__law_taken => k_is)
    (case l__law_taken => k_is)
    (case d__law_taken => k_is)
    (case e__law_taken => k_is)
    (case g__law_row => k_is)
    (case l__law_row => k_is)
    (case d__law_row => k_is)
    (case e__law_row => k_is)
    (case g__law_joins => k_is)
    (case l__law_joins => k_is)
    (case d__law_joins => k_is)
    (case e__law_joins => k_is)
    (case g__law_is_face => k_is)
    (case l__law_is_face => k_is)
    (case d__law_is_face => k_is)
    (case e__law_is_face => k_is)
    (case g_law => k_is)
    (case l_law => k_is)
    (case d_law => k_is)
    (case e_law => k_is)
    (case z_len => k_is)
    (case z_int => k_is)
    (case z_str => k_is)
    (case z_list => k_is)
    (case z_tuple => k_is)
    (case z_min => k_is)
    (case z_max => k_is)
    (case z_sum => k_is)
    (case z_abs => k_is)
    (case z_all => k_is)
    (case z_any => k_is)
    (case z_isinstance => k_is)
    (case z_range => k_is)
    (case z_enumerate => k_is)
    (case z_sorted => k_is)
    (case z_set => k_is)
    (case z_bool => k_is)
