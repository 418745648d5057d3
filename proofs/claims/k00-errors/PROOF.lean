import PyProof.Rows.All
import Wide.All
import OpenK.AllK
import Wide.FinOn
import HandS.ForMost
import HandS.Lambda
import HandS.Nested
import HandS.Walk
import HandS.TryMany
import HandS.Style
import HandS.TupAny
import HandS.TupMul
import HandS.Deep
import HandS.IsInst
import HandS.Flow
import HandS.CallSlots
import HandS.ExcInit
import HandS.ExcValue
import HandS.RaiseMore
import HandS.Small
import HandS.Conv
import HandS.SortInts
import HandS.TupSets
import HandS.DictTup
import HandS.DictComp
import HandS.WordsDict
import HandS.TupLen
import KE.KIndexOf
import KE.GoesMore
import KE.GoesEnum
import HandS.Zip
import HandS.ExcIs
import HandS.ExcField
import HandS.HeadHook4
import HandS.EndBits
import HandS.EndTab
import KE.KStateDown
import HandS.Head0
import HandS.Head1
import HandS.Head2
import PySem.Challenge.RW_primesteps_k00_errors
set_option autoImplicit false
set_option linter.all false
set_option Elab.async false
set_option maxRecDepth 100000
namespace Mini
open PySem (Str PyData)
open L2 (Key)
inductive MV where
  | non
  | bl (b : Bool)
  | int (i : Int)
  | str (s : Str)
  /-- a tuple of pure values; one that may hold locations -/
  | tup (vs : List MV) | tupL (vs : List MV)
  /-- a tuple of pure values whose object is known to have no dict -/
  | tupB (vs : List MV)
  /-- a frozen list of pure values; a frozen instance -/
  | fls (vs : List MV)
  /-- the script -/
  | scr (vs : List MV)
  | obj (c : Nat) (fs : List (Str × MV))
  /-- an error held as a value -/
  | exn (c : Nat) (fs : List (Str × MV))
  | loc (i : Nat)
  deriving Inhabited
inductive MO where
  | lst (vs : List MV)
  /-- a dict; lk: a loop walks it -/
  | dK (lk : Bool) (kvs : List (Key × MV))
  | dT (lk : Bool) (kvs : List (List Key × MV))
  | ins (c : Nat) (fs : List (Str × MV))
  | cell (v : Option MV)
  | clo (l : Nat) (cs : List Nat)
  | dead
  deriving Inhabited
abbrev Store := List MO
abbrev Flds := List (Str × MV)
abbrev Env := List (Option MV)
inductive Res (α : Type) where
  | ok (a : α) (S : Store)
  | exc (c : Nat) (fs : Flds) (S : Store)
  | bad
def Res.bind {α β : Type} (r : Res α) (f : α → Store → Res β) : Res β :=
  match r with
  | .ok a S => f a S
  | .exc c fs S => .exc c fs S
  | .bad => .bad
/-- an option's value, the store as it is -/
def Res.of {α : Type} (o : Option α) (S : Store) : Res α :=
  match o with
  | some a => .ok a S
  | none => .bad
def line : Nat := 16777216
def pureV : MV → Bool
  | .loc _ => false
  | .tupL _ => false
  | _ => true
def mkTup (vs : List MV) : MV := if vs.all pureV then .tup vs else .tupL vs
/-- a new list: kept in the store, or read only -/
def mkL (k : Bool) (vs : List MV) (S : Store) : Res MV :=
  if vs.length ≤ line then (if k || !vs.all pureV then .ok (.loc S.length) (S ++ [.lst vs]) else .ok (.fls vs) S) else .bad
def asList (v : MV) (S : Store) : Option (List MV) :=
  match v with
  | .fls vs => some vs
  | .loc i => match S[i]? with
    | some (.lst vs) => some vs
    | _ => none
  | _ => none
def asTup : MV → Option (List MV)
  | .tup vs => some vs
  | .tupB vs => some vs
  | .tupL vs => some vs
  | _ => none
def asScr : MV → Option (List MV)
  | .scr vs => some vs
  | _ => none
def asSeq (v : MV) (S : Store) : Option (List MV) :=
  match asTup v with
  | some vs => some vs
  | none => match asScr v with
    | some vs => some vs
    | none => asList v S
def keyOf : MV → Option Key
  | .int i => some (.inl i)
  | .str x => some (.inr x)
  | _ => none
def keysOf : List MV → Option (List Key)
  | [] => some []
  | v :: r => match keyOf v, keysOf r with
    | some k, some ks => some (k :: ks)
    | _, _ => none
def tkeyOf : MV → Option (List Key)
  | .tup vs => keysOf vs
  | _ => none
def ofKey : Key → MV
  | .inl i => .int i
  | .inr x => .str x
def seqStr (a b : Str) : Bool := a.cps.toList == b.cps.toList
def kEq : Key → Key → Bool
  | .inl i, .inl j => i == j
  | .inr x, .inr y => seqStr x y
  | _, _ => false
def tkEq : List Key → List Key → Bool
  | [], [] => true
  | x :: xs, y :: ys => kEq x y && tkEq xs ys
  | _, _ => false
section
variable {κ β : Type} (eq : κ → κ → Bool)
def gGet (k : κ) : List (κ × β) → Option β
  | [] => none
  | (k0, v) :: r => if eq k0 k then some v else gGet k r
def gPut (k : κ) (v : β) : List (κ × β) → List (κ × β)
  | [] => [(k, v)]
  | (k0, v0) :: r => if eq k0 k then (k0, v) :: r else (k0, v0) :: gPut k v r
def gDrop (k : κ) : List (κ × β) → List (κ × β)
  | [] => []
  | (k0, v0) :: r => if eq k0 k then gDrop k r else (k0, v0) :: gDrop k r
end
/-- d[k], if there: none is stuck -/
def dGet (o : MO) (k : MV) : Option (Option MV) :=
  match o, keyOf k, tkeyOf k with
  | .dK _ kvs, some k, _ => some (gGet kEq k kvs)
  | .dK false [], none, some _ => some none
  | .dT _ kvs, none, some k => some (gGet tkEq k kvs)
  | .dT false [], some _, _ => some none
  | _, _, _ => none
def dPut (o : MO) (k v : MV) : Option MO :=
  match o, keyOf k, tkeyOf k with
  | .dK false kvs, some k, _ => if kvs.length < line then some (.dK false (gPut kEq k v kvs)) else none
  | .dK false [], none, some k => some (.dT false [(k, v)])
  | .dT false kvs, none, some k => if kvs.length < line then some (.dT false (gPut tkEq k v kvs)) else none
  | .dT false [], some k, _ => some (.dK false [(k, v)])
  | _, _, _ => none
def fGet (fs : Flds) (f : Str) : Option MV :=
  match fs with
  | [] => none
  | (g, v) :: r => if seqStr g f then some v else fGet r f
def fPut (fs : Flds) (f : Str) (v : MV) : Flds :=
  match fs with
  | [] => [(f, v)]
  | (g, w) :: r => if seqStr g f then (g, v) :: r else (g, w) :: fPut r f v
def toD (S : Store) : Nat → MV → Option PyData
  | 0, _ => none
  | _ + 1, .non => some .none
  | _ + 1, .bl b => some (.bool b)
  | _ + 1, .int i => some (.int i)
  | _ + 1, .str s => some (.str s)
  | n + 1, .tup vs => (vs.mapM (toD S n)).map .tuple
  | n + 1, .tupL vs => (vs.mapM (toD S n)).map .tuple
  | n + 1, .tupB vs => (vs.mapM (toD S n)).map .tuple
  | n + 1, .fls vs => (vs.mapM (toD S n)).map .list
  | n + 1, .loc i => match S[i]? with
    | some (.lst vs) => (vs.mapM (toD S n)).map .list
    | _ => none
  | _ + 1, .obj _ _ => none
  | _ + 1, .exn _ _ => none
  | _ + 1, .scr _ => none
/-- values that are compared without a look at the store -/
def scalM : MV → Bool
  | .non => true
  | .bl _ => true
  | .int _ => true
  | .str _ => true
  | _ => false
def eqS : MV → MV → Bool
  | .non, .non => true
  | .bl a, .bl b => a == b
  | .bl a, .int j => (if a then 1 else 0) == j
  | .int i, .bl b => i == (if b then 1 else 0)
  | .int i, .int j => i == j
  | .str x, .str y => seqStr x y
  | _, _ => false
/-- == -/
def eqM (a b : MV) (S : Store) : Option Bool :=
  if scalM a && scalM b then some (eqS a b) else
  match toD S 64 a, toD S 64 b with
  | some d, some e => if PySem.SeqAt.shaped d && PySem.SeqAt.shaped e then some (PyData.eqv d e) else none
  | _, _ => none
def truth (v : MV) (S : Store) : Option Bool :=
  match v with
  | .non => some false
  | .bl b => some b
  | .int i => some (i != 0)
  | .str s => if s.length ≤ line then some ((s.length : Int) != 0) else none
  | .tup vs => some (!vs.isEmpty)
  | .tupL vs => some (!vs.isEmpty)
  | .tupB vs => some (!vs.isEmpty)
  | .fls vs => some (!vs.isEmpty)
  | .loc i => match S[i]? with
    | some (.lst vs) => some (!vs.isEmpty)
    | some (.dK false (_ :: _)) => some true
    | _ => none
  | .obj _ _ => none
  | .exn _ _ => none
  | .scr _ => none
inductive Bop where
  | add | sub | mul | fdiv | mod | pow | shl | band
  deriving DecidableEq
def small (i : Int) : Bool := decide (i.natAbs < 18446744073709551616)
def binM (op : Bop) (a b : MV) (S : Store) : Res MV :=
  match op, a, b with
  | .add, .int i, .int j => .ok (.int (i + j)) S
  | .add, .str x, .str y => if x.length + y.length ≤ line then .ok (.str (x ++ y)) S else .bad
  | .sub, .int i, .int j => .ok (.int (i - j)) S
  | .mul, .int i, .int j => if small i || small j then .ok (.int (i * j)) S else .bad
  | .fdiv, .int i, .int j => if j != 0 && decide (j.natAbs < 1073741824) then .ok (.int (i.fdiv j)) S else .bad
  | .mod, .int i, .int j => if j != 0 then .ok (.int (i.fmod j)) S else .bad
  | .pow, .int i, .int j => if decide (0 ≤ j) && decide (j ≤ 1000000) && small i then .ok (.int (i ^ j.toNat)) S else .bad
  | .shl, .int i, .int j => if decide (0 ≤ j) && decide (j ≤ 1000000) && small i then .ok (.int (i * 2 ^ j.toNat)) S else .bad
  | .band, .int i, .int j => .ok (.int (PySem.Builtin.bitAnd i j)) S
  | .add, a, b =>
    match asTup a, asTup b with
    | some xs, some ys => if decide (xs.length + ys.length ≤ line) then (if xs.isEmpty then .ok b S else if ys.isEmpty then .ok a S else .ok (mkTup (xs ++ ys)) S) else .bad
    | none, none =>
      match asList a S, asList b S with
      | some xs, some ys => if decide (xs.length + ys.length ≤ line) then mkL true (xs ++ ys) S else .bad
      | _, _ => .bad
    | _, _ => .bad
  | .mul, a, .int k =>
    match asTup a with
    | some xs => if !xs.isEmpty && decide (2 ≤ k) && decide (k ≤ 1000) && decide (xs.length ≤ 1000) then .ok (mkTup (List.replicate k.toNat xs).flatten) S else .bad
    | none => match asList a S with
      | some xs => if decide (0 ≤ k) && decide (k < 9223372036854775808) && decide (xs.length * k.toNat ≤ line) then mkL true ((List.replicate k.toNat xs).flatten) S else .bad
      | none => .bad
  | _, _, _ => .bad
def subM (a i : MV) (S : Store) : Option MV :=
  match a, i with
  | .str x, .int i => if x.length ≤ line then (L2.atI x.cps.toList i).map fun c => .str ⟨#[c]⟩ else none
  | a, i =>
    match asSeq a S, i with
    | some xs, .int i => L2.atI xs i
    | some _, _ => none
    | none, i => match a with
      | .loc l => match S[l]? with
        | some o => (dGet o i).bind id
        | none => none
      | _ => none
def cutM {α : Type} (xs : List α) (lo hi : Option Int) : List α := (xs.drop (HT.sIx xs.length 0 lo)).take (HT.sIx xs.length xs.length hi - HT.sIx xs.length 0 lo)
def optInt : Option MV → Option (Option Int)
  | none => some none
  | some (.int i) => some (some i)
  | _ => none
def sliceM (k : Bool) (a : MV) (lo hi : Option Int) (S : Store) : Res MV :=
  match a with
  | .str x => if x.length ≤ line then .ok (.str ⟨(cutM x.cps.toList lo hi).toArray⟩) S else .bad
  | a => match asTup a with
    | some xs => if HT.sIx xs.length 0 lo = 0 ∧ HT.sIx xs.length xs.length hi = xs.length then .ok a S else .ok (mkTup (cutM xs lo hi)) S
    | none => match asList a S with
      | some xs => mkL k (cutM xs lo hi) S
      | none => .bad
inductive Cop where
  | eq | ne | lt | le | gt | ge | is | isNot | isin | notIn
  deriving DecidableEq
def intsOf : List MV → Option (List Int)
  | [] => some []
  | .int i :: r => (intsOf r).map (i :: ·)
  | _ => none
def inM (x c : MV) (S : Store) : Option Bool :=
  match x, c with
  | .str x, .str z => if x.length = 1 then some (z.cps.toList.contains (x.cps.toList.headD 0)) else none
  | x, c => match asSeq c S with
    | some xs => if scalM x && xs.all scalM then some (xs.any fun y => eqS y x) else
      match toD S 64 x, (asList c S).bind fun ys => ys.mapM (toD S 63) with
      | some d, some ds => if PySem.SeqAt.shaped d && PySem.SeqAt.shaped (.list ds) then some (ds.any fun z => PyData.eqv z d) else none
      | _, _ => none
    | none => match c with
      | .loc l => match S[l]? with
        | some o => (dGet o x).map fun r => r.isSome
        | none => none
      | _ => none
def cmpM (op : Cop) (a b : MV) (S : Store) : Option Bool :=
  match op with
  | .eq => eqM a b S
  | .ne => (eqM a b S).map (!·)
  | .is => match a, b with
    | .bl x, .bl y => some (x == y)
    | .non, .non => some true
    | _, .non => some false
    | _, _ => none
  | .isNot => match a, b with
    | .bl x, .bl y => some (!(x == y))
    | .non, .non => some false
    | _, .non => some true
    | _, _ => none
  | .isin => inM a b S
  | .notIn => (inM a b S).map (!·)
  | .lt => match a, b with
    | .int i, .int j => some (decide (i < j))
    | .tup xs, .tup ys => match intsOf xs, intsOf ys with
      | some is, some js => some (HT.lexLt is js)
      | _, _ => none
    | _, _ => none
  | .le => match a, b with
    | .int i, .int j => some (decide (i ≤ j))
    | _, _ => none
  | .gt => match a, b with
    | .int i, .int j => some (decide (j < i))
    | _, _ => none
  | .ge => match a, b with
    | .int i, .int j => some (decide (j ≤ i))
    | _, _ => none
inductive Ty where
  | int | bool | str | tuple | list | dict | cls (c : Nat)
  deriving DecidableEq
end Mini
namespace Mini
open PySem (Str PyData)
open L2 (Key)
inductive Bi where
  | len | abs | int | max2 | min2 | sum | maxL | minL | all | any | repr | tuple | tupleB | str
  deriving DecidableEq
inductive BiL where
  | list | sorted
  deriving DecidableEq
inductive Mth where
  | append | pop | popAt | index | extend
  deriving DecidableEq
def blsOf : List MV → Option (List Bool)
  | [] => some []
  | .bl b :: r => (blsOf r).map (b :: ·)
  | _ => none
def strsOf : List MV → Option (List Str)
  | [] => some []
  | .str x :: r => (strsOf r).map (x :: ·)
  | _ => none
/-- tuples of ints -/
def tupsOf : List MV → Option (List (List Int))
  | [] => some []
  | .tup vs :: r => match intsOf vs, tupsOf r with
    | some is, some iss => some (is :: iss)
    | _, _ => none
  | _ => none
def maxI : Int → List Int → Int
  | m, [] => m
  | m, i :: r => maxI (if m < i then i else m) r
def minI : Int → List Int → Int
  | m, [] => m
  | m, i :: r => minI (if i < m then i else m) r
/-- a stable sort -/
def ins {α : Type} (lt : α → α → Bool) (x : α) : List α → List α
  | [] => [x]
  | y :: r => if lt y x then y :: ins lt x r else x :: y :: r
def isort {α : Type} (lt : α → α → Bool) : List α → List α
  | [] => []
  | x :: r => ins lt x (isort lt r)
def ltI (i j : Int) : Bool := decide (i < j)
def sortM (vs : List MV) : Option (List MV) :=
  match intsOf vs with
  | some is => some ((isort ltI is).map .int)
  | none => match tupsOf vs with
    | some ts => some ((isort HT.lexLt ts).map fun t => .tup (t.map .int))
    | none => none
def lenM (v : MV) (S : Store) : Option Nat :=
  match v with
  | .str x => if x.length ≤ line then some x.length else none
  | v => match asSeq v S with
    | some xs => some xs.length
    | none => match v with
      | .loc l => match S[l]? with
        | some (.dK false kvs) => some kvs.length
        | some (.dT false kvs) => some kvs.length
        | _ => none
      | _ => none
def reprM (v : MV) (S : Store) : Option Str :=
  match toD S 64 v with
  | some d => if d.showable && !d.hasDict && decide (d.shown.length ≤ line) && decide (d.depth ≤ 64) then some d.shown else none
  | none => none
def biM (b : Bi) (vs : List MV) (S : Store) : Option MV :=
  match b, vs with
  | .len, [v] => (lenM v S).map fun n => .int (n : Nat)
  | .abs, [.int i] => some (.int (if i < 0 then -i else i))
  | .int, [.int i] => some (.int i)
  | .int, [.bl b] => some (.int (if b then 1 else 0))
  | .int, [.str x] => match PySem.intText? x with
    | some n => if x.length ≤ 640 then some (.int n) else none
    | none => none
  | .max2, [.int i, .int j] => some (.int (if j > i then j else i))
  | .min2, [.int i, .int j] => some (.int (if j < i then j else i))
  | .sum, [v] => match asList v S with
    | some xs => (intsOf xs).map fun is => .int is.sum
    | none => none
  | .maxL, [v] => match asList v S with
    | some (.int i :: r) => (intsOf r).map fun is => .int (maxI i is)
    | _ => none
  | .minL, [v] => match asList v S with
    | some (.int i :: r) => (intsOf r).map fun is => .int (minI i is)
    | _ => none
  | .all, [v] => match asList v S with
    | some xs => (blsOf xs).map fun bs => .bl (bs.all id)
    | none => none
  | .any, [v] => match asList v S with
    | some xs => (blsOf xs).map fun bs => .bl (bs.any id)
    | none => none
  | .repr, [v] => (reprM v S).map .str
  | .tuple, [v] => match asTup v with
    | some _ => some v
    | none => (asList v S).map mkTup
  | .tupleB, [v] => match asTup v with
    | some _ => some v
    | none => match asList v S with
      | some xs => if xs.all pureV then some (.tupB xs) else none
      | none => none
  | .str, [.int i] => if i.natAbs.log2 < 1920 then some (.str (toString i)) else none
  | .str, [.str x] => some (.str x)
  | _, _ => none
def biLM (b : BiL) (vs : List MV) (S : Store) : Option (List MV) :=
  match b, vs with
  | .list, [v] => asSeq v S
  | .sorted, [v] => match asSeq v S with
    | some xs => sortM xs
    | none => match v with
      | .loc l => match S[l]? with
        | some (.dK _ kvs) => sortM (kvs.map fun kv => ofKey kv.1)
        | some (.dT _ kvs) => sortM (kvs.map fun kv => .tup (kv.1.map ofKey))
        | _ => none
      | _ => none
  | _, _ => none
def findM (x : MV) : List MV → Nat → Option Nat
  | [], _ => none
  | y :: r, n => if eqS y x then some n else findM x r (n + 1)
/-- x op= y of ints -/
def augM (op : Bop) (x y : Int) : Option Int :=
  match op with
  | .add => some (x + y)
  | .sub => some (x - y)
  | .mul => if small x || small y then some (x * y) else none
  | .fdiv => if y != 0 && decide (y.natAbs < 1073741824) then some (x.fdiv y) else none
  | _ => none
/-- what an item's store does -/
def setM (x y v : MV) (S : Store) : Option Store :=
  match x with
  | .loc l => (match S[l]? with
    | some (.lst xs) => (match y with
      | .int k => (L2.ixN xs.length k).map fun j => S.set l (.lst (xs.set j v))
      | _ => none)
    | some o => (dPut o y v).map fun o => S.set l o
    | none => none)
  | _ => none
def isTupB : MV → Bool
  | .tupB _ => true
  | _ => false
/-- what the method is asked of -/
def recvOk (m : Mth) (x : MV) (S : Store) : Bool :=
  (asList x S).isSome || (decide (m = .index) && isTupB x)
def findD (x : PyData) : List PyData → Nat → Option Nat
  | [], _ => none
  | y :: r, n => if PyData.eqv y x then some n else findD x r (n + 1)
def findI (x : Int) : List Int → Nat → Option Nat
  | [], _ => none
  | y :: r, n => if y == x then some n else findI x r (n + 1)
def methM (m : Mth) (a : MV) (vs : List MV) (S : Store) : Res MV :=
  match m, vs with
  | .append, [v] => match a with
    | .loc l => match S[l]? with
      | some (.lst xs) => if xs.length < line then .ok .non (S.set l (.lst (xs ++ [v]))) else .bad
      | _ => .bad
    | _ => .bad
  | .extend, [v] => match a, asList v S with
    | .loc l, some ys => match S[l]? with
      | some (.lst xs) => if xs.length + ys.length ≤ line then .ok .non (S.set l (.lst (xs ++ ys))) else .bad
      | _ => .bad
    | _, _ => .bad
  | .pop, [] => match a with
    | .loc l => match S[l]? with
      | some (.lst xs) => match xs[xs.length - 1]? with
        | some y => .ok y (S.set l (.lst xs.dropLast))
        | none => .bad
      | _ => .bad
    | _ => .bad
  | .popAt, [.int i] => match a with
    | .loc l => match S[l]? with
      | some (.lst xs) => match L2.ixN xs.length i with
        | some k => match xs[k]? with
          | some y => if xs.length ≤ line then .ok y (S.set l (.lst (xs.eraseIdx k))) else .bad
          | none => .bad
        | none => .bad
      | _ => .bad
    | _ => .bad
  | .index, [v] => match asList a S with
    | some xs => if scalM v && xs.all scalM then Res.of ((findM v xs 0).map fun n => .int (n : Nat)) S else
      match toD S 64 v, xs.mapM (toD S 63) with
      | some d, some ds => if PySem.SeqAt.shaped d && PySem.SeqAt.shaped (.list ds) then Res.of ((findD d ds 0).map fun n => .int (n : Nat)) S else .bad
      | _, _ => .bad
    | none => match a, v with
      | .tupB xs, .int k => (match intsOf xs with
        | some is => Res.of ((findI k is 0).map fun n => .int (n : Nat)) S
        | none => .bad)
      | _, _ => .bad
  | _, _ => .bad
inductive Tg where
  | name (i : Nat)
  | cell (i : Nat)
  | tup (ts : List Tg)
mutual
inductive ME where
  | var (i : Nat)
  | cvar (i : Nat)
  | cst (v : MV)
  | tup (es : List ME)
  | lst (k : Bool) (es : List ME)
  /-- keys and values by turns -/
  | dic (kvs : List ME)
  | bin (op : Bop) (a b : ME)
  | neg (a : ME)
  | cmp (op : Cop) (a b : ME)
  | chain (op op' : Cop) (a b c : ME)
  | notE (a : ME)
  | andV (a b : ME)
  | orV (a b : ME)
  | ifE (c : MT) (a b : ME)
  | call (f : Nat) (es : List ME)
  | make (c : Nat) (es : List ME)
  | callv (f : ME) (es : List ME)
  | attr (a : ME) (f : Str)
  | sub (a i : ME)
  | slice (k : Bool) (a : ME) (lo hi : List ME)
  | bi (b : Bi) (es : List ME)
  | biL (k : Bool) (b : BiL) (es : List ME)
  | rangeL (k : Bool) (es : List ME)
  | dictOf (e : ME)
  | isin (a : ME) (t : Ty)
  /-- an error as a value: made, its field, its class (none: ValueError) -/
  | mkX (c : Nat) (es : List ME)
  | attrX (a : ME) (f : Str)
  | isX (a : ME) (k : Option Nat)
  | meth (m : Mth) (a : ME) (es : List ME)
  | lam (l : Nat) (cs : List Nat)
  | comp (k : Bool) (own : List Nat) (t : Tg) (it : MI) (c : MT) (e : ME)
  | comp2 (k : Bool) (own : List Nat) (t : Tg) (it : MI) (c : MT) (own1 : List Nat) (t1 : Tg) (it1 : MI) (c1 : MT) (e : ME)
  | dcomp (own : List Nat) (t : Tg) (it : MI) (c : MT) (ke ve : ME)
  | dcomp2 (own : List Nat) (t : Tg) (it : MI) (c : MT) (own1 : List Nat) (t1 : Tg) (it1 : MI) (c1 : MT) (ke ve : ME)
inductive MT where
  | yes
  | val (e : ME)
  | cmp (op : Cop) (a b : ME)
  | chain (op op' : Cop) (a b c : ME)
  | and (a b : MT)
  | or (a b : MT)
  | not (a : MT)
inductive MI where
  | seq (e : ME)
  | nm (i : Nat)
  | range (es : List ME)
  | enum (e : ME)
  | zip (a b : ME)
end
/-- what a suite may reckon: the caught error's fields, repr -/
inductive XE where
  | cst (v : MV)
  | var (i : Nat)
  | att (f : Str)
  | rep (e : XE)
  | tup (es : List XE)
  | lst (es : List XE)
  | add (a b : XE)
inductive XS where
  | ret (e : XE)
  | asg (i : Nat) (e : XE)
  | raise (c : Nat) (es : List XE)
structure MH where
  c : Nat
  nm : Option Nat
  s : XS
inductive MStm where
  | expr (e : ME)
  | asg (t : Tg) (e : ME)
  | asgS (a i e : ME)
  | asgA (a : ME) (f : Str) (e : ME)
  | par (ts : List Tg) (es : List ME)
  | aug (i : Nat) (op : Bop) (e : ME)
  | ret (e : ME)
  | retN
  | ifS (c : MT) (a b : List MStm)
  | forS (t : Tg) (it : MI) (b : List MStm)
  | whileS (c : MT) (b : List MStm)
  | raise (c : Nat) (es : List ME)
  | tryS (b : List MStm) (hs : List MH)
  | brk
  | cont
  | pass
inductive Fl where
  | nx (ρ : Env)
  | rt (v : MV)
  | bk (ρ : Env)
  | ct (ρ : Env)
  /-- an error, the names as they stood -/
  | xc (c : Nat) (fs : Flds) (ρ : Env)
/-- a value that a statement asks for; an error goes into the flow -/
def Res.thn {α : Type} (r : Res α) (ρ : Env) (k : α → Store → Res Fl) : Res Fl :=
  match r with
  | .ok a S => k a S
  | .exc c fs S => .ok (.xc c fs ρ) S
  | .bad => .bad
/-- what raises nothing -/
def Res.calm {α : Type} (r : Res α) : Res α :=
  match r with
  | .ok a S => .ok a S
  | _ => .bad
structure FDef where
  np : Nat
  ns : Nat
  cells : List Nat
  body : List MStm
structure LDef where
  np : Nat
  nc : Nat
  ns : Nat
  body : ME
inductive CDef where
  | inst (init : Nat) (imm : Bool) (flds : List Str) (meths : List (Str × Nat))
  | exc (fields : List Str) (anc : List Nat)
structure Prog where
  funs : List FDef
  lams : List LDef
  clss : List CDef
def isInst (P : Prog) (c : Nat) : Bool :=
  match P.clss[c]? with
  | some (.inst _ _ _ _) => true
  | _ => false
def hasFld (P : Prog) (c : Nat) (f : Str) : Bool :=
  match P.clss[c]? with
  | some (.inst _ _ fs _) => fs.any (seqStr f)
  | _ => false
def tyOk (P : Prog) : Ty → Bool
  | .cls c => isInst P c
  | _ => true
def zipF : List Str → List MV → Option Flds
  | [], [] => some []
  | f :: r, v :: q => (zipF r q).map ((f, v) :: ·)
  | _, _ => none
def isAnc (P : Prog) (c k : Nat) : Bool :=
  match P.clss[c]? with
  | some (.exc _ anc) => c == k || anc.contains k
  | _ => false
def isExc (P : Prog) (c : Nat) : Bool :=
  match P.clss[c]? with
  | some (.exc _ _) => true
  | _ => false
/-- an error's fields, the last one first -/
def exnF (P : Prog) (c : Nat) (vs : List MV) : Option Flds :=
  match P.clss[c]? with
  | some (.exc names _) => (zipF names vs).map List.reverse
  | _ => none
/-- isinstance of one class -/
def isTy (P : Prog) (v : MV) (S : Store) (t : Ty) : Option Bool :=
  if tyOk P t then
  match v with
  | .non => some false
  | .bl _ => some (t = .bool || t = .int)
  | .int _ => some (t = .int)
  | .str _ => some (t = .str)
  | .tup _ => some (t = .tuple)
  | .tupL _ => some (t = .tuple)
  | .tupB _ => some (t = .tuple)
  | .fls _ => some (t = .list)
  | .scr _ => some (t = .list)
  | .obj c _ => if isInst P c then some (t = .cls c) else none
  | .exn _ _ => none
  | .loc l => match S[l]? with
    | some (.lst _) => some (t = .list)
    | some (.dK false _) => some (t = .dict)
    | some (.dT false _) => some (t = .dict)
    | some (.ins c _) => if isInst P c then some (t = .cls c) else none
    | _ => none
  else none
mutual
def assignG : Tg → MV → Env → Store → Res Env
  | .name i, v, ρ, S => if i < ρ.length then .ok (ρ.set i (some v)) S else .bad
  | .cell i, v, ρ, S => match ρ[i]? with
    | some (some (.loc k)) => match S[k]? with
      | some (.cell _) => .ok ρ (S.set k (.cell (some v)))
      | _ => .bad
    | _ => .bad
  | .tup ts, v, ρ, S => match asTup v with
    | some vs => assignGs ts vs ρ S
    | none => .bad
def assignGs : List Tg → List MV → Env → Store → Res Env
  | [], [], ρ, S => .ok ρ S
  | t :: ts, v :: vs, ρ, S => (assignG t v ρ S).bind fun ρ S => assignGs ts vs ρ S
  | _, _, _, _ => .bad
end
def wipe (ρ : Env) : List Nat → Env
  | [] => ρ
  | i :: r => (wipe ρ r).set i none
inductive Src where
  | fx (vs : List MV)
  | lv (l : Nat)
def srcAt (s : Src) (i : Nat) (S : Store) : Option (Option MV) :=
  match s with
  | .fx vs => some vs[i]?
  | .lv l => match S[l]? with
    | some (.lst vs) => some vs[i]?
    | _ => none
inductive Plan where
  | fx (vs : List MV)
  | lv (l : Nat)
  | en (s : Src)
  | zp (a b : Src)
  /-- a dict that is walked: its keys, then the dict again -/
  | dk (l : Nat) (vs : List MV)
def srcOf (v : MV) (S : Store) : Option Src :=
  match asTup v with
  | some vs => some (.fx vs)
  | none => match v with
    | .fls vs => some (.fx vs)
    | .scr vs => some (.fx vs)
    | .loc l => match S[l]? with
      | some (.lst _) => some (.lv l)
      | _ => none
    | _ => none
def srcPlan : Src → Plan
  | .fx vs => .fx vs
  | .lv l => .lv l
def seqPlan (v : MV) (S : Store) : Option Plan :=
  match v with
  | .str x => some (.fx (x.cps.toList.map fun c => .str ⟨#[c]⟩))
  | v => (srcOf v S).map srcPlan
/-- a dict's keys -/
def keyPlan (v : MV) (S : Store) : Option Plan :=
  match v with
  | .loc l => match S[l]? with
    | some (.dK false kvs) => some (.dk l (kvs.map fun kv => ofKey kv.1))
    | some (.dT false kvs) => some (.dk l (kvs.map fun kv => .tup (kv.1.map ofKey)))
    | _ => none
  | _ => none
def isTupM (v : MV) : Bool := (asTup v).isSome
def inR (i : Int) : Bool := decide (-4611686018427387904 ≤ i) && decide (i < 4611686018427387904)
def rangeM : List MV → Option (List MV)
  | [.int j] => if inR j then some ((List.range j.toNat).map fun (i : Nat) => .int i) else none
  | [.int i, .int j] => if inR i && inR j then some ((List.range (j - i).toNat).map fun (k : Nat) => .int (i + k)) else none
  | [.int i, .int j, .int c] =>
    if inR i && inR j && decide (c ≠ 0) && decide (c.natAbs < 1073741824) then
      some ((List.range (if 0 < c then ((j - i + c - 1) / c).toNat else ((i - j + (-c) - 1) / (-c)).toNat)).map fun (k : Nat) => .int (i + k * c)) else none
  | _ => none
/-- the dict that is walked, locked or free again -/
def lockS (b : Bool) (l : Nat) (S : Store) : Store :=
  match S[l]? with
  | some (.dK _ kvs) => S.set l (.dK b kvs)
  | some (.dT _ kvs) => S.set l (.dT b kvs)
  | _ => S
/-- the turns over items that are known -/
def loopFix (f : MV → Env → Store → Res Fl) : List MV → Env → Store → Res Fl
  | [], ρ, S => .ok (.nx ρ) S
  | v :: r, ρ, S => (f v ρ S).bind fun fl S => match fl with
    | .nx ρ => loopFix f r ρ S
    | .ct ρ => loopFix f r ρ S
    | .bk ρ => .ok (.nx ρ) S
    | fl => .ok fl S
def planAt (p : Plan) (i : Nat) (S : Store) : Option (Option MV) :=
  match p with
  | .lv l => srcAt (.lv l) i S
  | .en s => (srcAt s i S).map fun o => o.map fun v => mkTup [.int (i : Nat), v]
  | .zp a b => match srcAt a i S, srcAt b i S with
    | some (some x), some (some y) => some (some (mkTup [x, y]))
    | some none, some _ => some none
    | some (some _), some none => some none
    | _, _ => none
  | _ => none
def fuel : Nat := 1000000000
def loopLive (p : Plan) (f : MV → Env → Store → Res Fl) : Nat → Nat → Env → Store → Res Fl
  | 0, _, _, _ => .bad
  | n + 1, i, ρ, S => match planAt p i S with
    | none => .bad
    | some none => .ok (.nx ρ) S
    | some (some v) => (f v ρ S).bind fun fl S => match fl with
      | .nx ρ => loopLive p f n (i + 1) ρ S
      | .ct ρ => loopLive p f n (i + 1) ρ S
      | .bk ρ => .ok (.nx ρ) S
      | fl => .ok fl S
def loopPlan (p : Plan) (f : MV → Env → Store → Res Fl) (ρ : Env) (S : Store) : Res Fl :=
  match p with
  | .fx vs => loopFix f vs ρ S
  | .dk l vs => (loopFix f vs ρ (lockS true l S)).bind fun fl S => .ok fl (lockS false l S)
  | p => loopLive p f fuel 0 ρ S
def mapFix {α : Type} (f : MV → α → Store → Res α) : List MV → α → Store → Res α
  | [], a, S => .ok a S
  | v :: r, a, S => (f v a S).calm.bind fun a S => mapFix f r a S
def mapLive {α : Type} (p : Plan) (f : MV → α → Store → Res α) : Nat → Nat → α → Store → Res α
  | 0, _, _, _ => .bad
  | n + 1, i, a, S => match planAt p i S with
    | none => .bad
    | some none => .ok a S
    | some (some v) => (f v a S).calm.bind fun a S => mapLive p f n (i + 1) a S
def mapPlan {α : Type} (p : Plan) (f : MV → α → Store → Res α) (a : α) (S : Store) : Res α :=
  match p with
  | .fx vs => mapFix f vs a S
  | .dk l vs => (mapFix f vs a (lockS true l S)).bind fun a S => .ok a (lockS false l S)
  | p => mapLive p f fuel 0 a S
/-- the list that grows: how many, the items backwards -/
abbrev LA := Nat × List MV
def emitL (a : LA) (y : MV) (S : Store) : Res LA := if a.1 < line then .ok (a.1 + 1, y :: a.2) S else .bad
def emitD (o : MO) (x y : MV) (S : Store) : Res MO := Res.of (dPut o x y) S
/-- a clause: what goes at each turn, the target, the test -/
def clauseM {α : Type} (own : List Nat) (g : MV → Env → Store → Res Env) (c : Env → Store → Res Bool) (h : Env → α → Store → Res α) (ρ : Env) (v : MV) (a : α) (S : Store) : Res α :=
  (g v (wipe ρ own) S).bind fun ρ1 S => (c ρ1 S).bind fun b S => if b then h ρ1 a S else .ok a S
def whileM (c : Env → Store → Res Bool) (f : Env → Store → Res Fl) : Nat → Env → Store → Res Fl
  | 0, _, _ => .bad
  | n + 1, ρ, S => (c ρ S).thn ρ fun b S => if b then
      (f ρ S).bind fun fl S => match fl with
        | .nx ρ => whileM c f n ρ S
        | .ct ρ => whileM c f n ρ S
        | .bk ρ => .ok (.nx ρ) S
        | fl => .ok fl S
    else .ok (.nx ρ) S
abbrev CF := Nat → List MV → Store → Res MV
/-- a list of a callee's store that is read only from now on -/
def freeze (S : Store) : Nat → MV → Option MV
  | 0, _ => none
  | n + 1, .loc i => match S[i]? with
    | some (.lst vs) => (vs.mapM (freeze S n)).map .fls
    | _ => none
  | n + 1, .tupL vs => (vs.mapM (freeze S n)).map .tup
  | _ + 1, v => some v
def freezeF (S : Store) : Flds → Option Flds
  | [] => some []
  | (f, v) :: r => match freeze S 8 v, freezeF S r with
    | some v, some r => some ((f, v) :: r)
    | _, _ => none
/-- what a callee with a store of its own hands back: a list, a dict is the caller's from now on -/
def bring (S2 : Store) (v : MV) (S : Store) : Res MV :=
  match v with
  | .loc i => match S2[i]? with
    | some (.lst vs) => if vs.all pureV then .ok (.loc S.length) (S ++ [.lst vs]) else Res.of ((vs.mapM (freeze S2 8)).map .fls) S
    | some (.dK false kvs) => if kvs.all (fun kv => pureV kv.2) then .ok (.loc S.length) (S ++ [.dK false kvs]) else .bad
    | some (.dT false kvs) => if kvs.all (fun kv => pureV kv.2) then .ok (.loc S.length) (S ++ [.dT false kvs]) else .bad
    | _ => .bad
  | v => Res.of (freeze S2 8 v) S
/-- a call: where all arguments are pure the callee has a store of its own -/
def callI (cf : CF) (f : Nat) (vs : List MV) (S : Store) : Res MV :=
  if vs.all pureV then
    match cf f vs [] with
    | .ok v S2 => bring S2 v S
    | .exc c fs S2 => match freezeF S2 fs with
      | some fs => .exc c fs S
      | none => .bad
    | .bad => .bad
  else cf f vs S
def killS (n m : Nat) (S : Store) : Store :=
  match m with
  | 0 => S
  | m + 1 => killS (n + 1) m (S.set n .dead)
/-- a new instance: frozen at once if its class is so -/
def makeI (cf : CF) (init : Nat) (imm : Bool) (c : Nat) (vs : List MV) (S : Store) : Res MV :=
  match cf init (.loc S.length :: vs) (S ++ [.ins c []]) with
  | .ok .non S2 => match S2[S.length]? with
    | some (.ins c' fs) => if imm then (if fs.all (fun f => pureV f.2) then .ok (.obj c' fs) (S2.set S.length .dead) else .bad) else .ok (.loc S.length) S2
    | _ => .bad
  | .ok _ _ => .bad
  | .exc c fs S2 => .exc c fs S2
  | .bad => .bad
section
variable (P : Prog) (cf : CF)
def attrM (x : MV) (f : Str) (S : Store) : Option MV :=
  match x with
  | .obj c fs => if hasFld P c f then fGet fs f else none
  | .loc l => (match S[l]? with
    | some (.ins c fs) => if hasFld P c f then fGet fs f else none
    | _ => none)
  | _ => none
/-- what a field's store does -/
def setA (x : MV) (f : Str) (v : MV) (S : Store) : Option Store :=
  match x with
  | .loc l => (match S[l]? with
    | some (.ins c fs) => if hasFld P c f && decide (fs.length < 1000) then some (S.set l (.ins c (fPut fs f v))) else none
    | _ => none)
  | _ => none
def exnG (x : MV) (f : Str) : Option MV :=
  match x with
  | .exn c fs => if isExc P c then fGet fs f else none
  | _ => none
def exnIs (x : MV) (k : Option Nat) : Option Bool :=
  match x, k with
  | .exn c _, some k => if isExc P c then some (isAnc P c k) else none
  | .exn c _, none => if isExc P c then some true else none
  | _, _ => none
def getLoc (ρ : Env) (i : Nat) : Option Nat :=
  match ρ[i]? with
  | some (some (.loc k)) => some k
  | _ => none
def locsOf (ρ : Env) : List Nat → Option (List Nat)
  | [] => some []
  | i :: r => match getLoc ρ i, locsOf ρ r with
    | some k, some ks => some (k :: ks)
    | _, _ => none
def putAll (o : MO) : List (MV × MV) → Option MO
  | [] => some o
  | (k, v) :: r => match dPut o k v with
    | some o => putAll o r
    | none => none
def turns : List MV → Option (List (MV × MV))
  | [] => some []
  | k :: v :: r => (turns r).map ((k, v) :: ·)
  | _ => none
def keyed : List (MV × MV) → Option (List (Key × MV))
  | [] => some []
  | (k, v) :: r => match keyOf k, keyed r with
    | some k, some r => some ((k, v) :: r)
    | _, _ => none
def mergeM (acc : List (Key × MV)) : List (Key × MV) → List (Key × MV)
  | [] => acc
  | (k, v) :: r => mergeM (gPut kEq k v acc) r
def dicM (vs : List MV) (S : Store) : Res MV :=
  match (turns vs).bind keyed with
  | some ks => if ks.length ≤ 15 then .ok (.loc S.length) (S ++ [.dK false (mergeM [] ks)]) else .bad
  | none => .bad
def pairsOf : List MV → Option (List (MV × MV))
  | [] => some []
  | v :: r => match asTup v, pairsOf r with
    | some [k, x], some ps => some ((k, x) :: ps)
    | _, _ => none
mutual
def evE : ME → Env → Store → Res MV
  | .var i, ρ, S => match ρ[i]? with
    | some (some v) => .ok v S
    | _ => .bad
  | .cvar i, ρ, S => match getLoc ρ i with
    | some k => match S[k]? with
      | some (.cell (some v)) => .ok v S
      | _ => .bad
    | none => .bad
  | .cst v, _, S => .ok v S
  | .tup es, ρ, S => (evEs es ρ S).bind fun vs S => if vs.length ≤ line then .ok (mkTup vs) S else .bad
  | .lst k es, ρ, S => (evEs es ρ S).bind fun vs S => mkL k vs S
  | .dic kvs, ρ, S => (evEs kvs ρ S).bind fun vs S => dicM vs S
  | .bin op a b, ρ, S => (evE a ρ S).bind fun x S => (evE b ρ S).bind fun y S => binM op x y S
  | .neg a, ρ, S => (evE a ρ S).bind fun x S => match x with
    | .int i => .ok (.int (-i)) S
    | _ => .bad
  | .cmp op a b, ρ, S => (evE a ρ S).bind fun x S => (evE b ρ S).bind fun y S => Res.of ((cmpM op x y S).map .bl) S
  | .chain op op' a b c, ρ, S => (evE a ρ S).bind fun x S => (evE b ρ S).bind fun y S => match cmpM op x y S with
    | some true => (evE c ρ S).bind fun z S => Res.of ((cmpM op' y z S).map .bl) S
    | some false => .ok (.bl false) S
    | none => .bad
  | .notE a, ρ, S => (evE a ρ S).bind fun x S => Res.of ((truth x S).map fun b => .bl (!b)) S
  | .andV a b, ρ, S => (evE a ρ S).bind fun x S => match x with
    | .bl true => evE b ρ S
    | .bl false => .ok (.bl false) S
    | _ => .bad
  | .orV a b, ρ, S => (evE a ρ S).bind fun x S => match x with
    | .bl false => evE b ρ S
    | .bl true => .ok (.bl true) S
    | _ => .bad
  | .ifE c a b, ρ, S => (evT c ρ S).bind fun t S => if t then evE a ρ S else evE b ρ S
  | .call f es, ρ, S => (evEs es ρ S).bind fun vs S => callI cf f vs S
  | .make c es, ρ, S => match P.clss[c]? with
    | some (.inst init imm _ _) => (evEs es ρ S).bind fun vs S => makeI cf init imm c vs S
    | _ => .bad
  | .callv f es, ρ, S => (evE f ρ S).bind fun g S => match g with
    | .loc l => (match S[l]? with
      | some (.clo m cs) => (evEs es ρ S).bind fun vs S => cf (P.funs.length + m) (vs ++ cs.map .loc) S
      | _ => .bad)
    | _ => .bad
  | .attr a f, ρ, S => (evE a ρ S).bind fun x S => Res.of (attrM P x f S) S
  | .sub a i, ρ, S => (evE a ρ S).bind fun x S => (evE i ρ S).bind fun y S => Res.of (subM x y S) S
  | .slice k a lo hi, ρ, S => (evE a ρ S).bind fun x S => (evEs lo ρ S).bind fun l S => match optInt l.head? with
    | some l => (evEs hi ρ S).bind fun h S => match optInt h.head? with
      | some h => sliceM k x l h S
      | none => .bad
    | none => .bad
  | .bi b es, ρ, S => (evEs es ρ S).bind fun vs S => Res.of (biM b vs S) S
  | .biL k b es, ρ, S => (evEs es ρ S).bind fun vs S => match biLM b vs S with
    | some xs => mkL k xs S
    | none => .bad
  | .rangeL k es, ρ, S => (evEs es ρ S).bind fun vs S => match rangeM vs with
    | some xs => mkL k xs S
    | none => .bad
  | .dictOf e, ρ, S => (evE e ρ S).bind fun x S => match asList x S with
    | some vs => (match pairsOf vs with
      | some ps => (match putAll (.dK false []) ps with
        | some o => .ok (.loc S.length) (S ++ [o])
        | none => .bad)
      | none => .bad)
    | none => .bad
  | .isin a t, ρ, S => (evE a ρ S).bind fun x S => Res.of ((isTy P x S t).map .bl) S
  | .mkX c es, ρ, S => (evEs es ρ S).bind fun vs S => if vs.all pureV then Res.of ((exnF P c vs).map (.exn c)) S else .bad
  | .attrX a f, ρ, S => (evE a ρ S).bind fun x S => Res.of (exnG P x f) S
  | .isX a k, ρ, S => (evE a ρ S).bind fun x S => Res.of ((exnIs P x k).map .bl) S
  | .meth m a es, ρ, S => (evE a ρ S).bind fun x S => if recvOk m x S then (evEs es ρ S).bind fun vs S => methM m x vs S else .bad
  | .lam l cs, ρ, S => match locsOf ρ cs with
    | some ks => .ok (.loc S.length) (S ++ [.clo l ks])
    | none => .bad
  | .comp k own t it c e, ρ, S => (evI it ρ S).bind fun p S =>
    (mapPlan p (clauseM own (assignG t) (evT c) (fun ρ a S => (evE e ρ S).bind fun y S => emitL a y S) ρ) (0, []) S).bind fun a S => mkL k a.2.reverse S
  | .comp2 k own t it c own1 t1 it1 c1 e, ρ, S => (evI it ρ S).bind fun p S =>
    (mapPlan p (clauseM own (assignG t) (evT c) (fun ρ a S => (evI it1 ρ S).bind fun p1 S =>
      mapPlan p1 (clauseM own1 (assignG t1) (evT c1) (fun ρ a S => (evE e ρ S).bind fun y S => emitL a y S) ρ) a S) ρ) (0, []) S).bind fun a S => mkL k a.2.reverse S
  | .dcomp own t it c ke ve, ρ, S => (evI it ρ S).bind fun p S =>
    (mapPlan p (clauseM own (assignG t) (evT c) (fun ρ o S => (evE ke ρ S).bind fun x S => (evE ve ρ S).bind fun y S => emitD o x y S) ρ) (.dK false []) S).bind fun o S => .ok (.loc S.length) (S ++ [o])
  | .dcomp2 own t it c own1 t1 it1 c1 ke ve, ρ, S => (evI it ρ S).bind fun p S =>
    (mapPlan p (clauseM own (assignG t) (evT c) (fun ρ o S => (evI it1 ρ S).bind fun p1 S =>
      mapPlan p1 (clauseM own1 (assignG t1) (evT c1) (fun ρ o S => (evE ke ρ S).bind fun x S => (evE ve ρ S).bind fun y S => emitD o x y S) ρ) o S) ρ) (.dK false []) S).bind fun o S => .ok (.loc S.length) (S ++ [o])
def evEs : List ME → Env → Store → Res (List MV)
  | [], _, S => .ok [] S
  | e :: es, ρ, S => (evE e ρ S).bind fun v S => (evEs es ρ S).bind fun vs S => .ok (v :: vs) S
def evT : MT → Env → Store → Res Bool
  | .yes, _, S => .ok true S
  | .val e, ρ, S => (evE e ρ S).bind fun x S => Res.of (truth x S) S
  | .cmp op a b, ρ, S => (evE a ρ S).bind fun x S => (evE b ρ S).bind fun y S => Res.of (cmpM op x y S) S
  | .chain op op' a b c, ρ, S => (evE a ρ S).bind fun x S => (evE b ρ S).bind fun y S => match cmpM op x y S with
    | some true => (evE c ρ S).bind fun z S => Res.of (cmpM op' y z S) S
    | some false => .ok false S
    | none => .bad
  | .and a b, ρ, S => (evT a ρ S).bind fun t S => if t then evT b ρ S else .ok false S
  | .or a b, ρ, S => (evT a ρ S).bind fun t S => if t then .ok true S else evT b ρ S
  | .not a, ρ, S => (evT a ρ S).bind fun t S => .ok (!t) S
def evI : MI → Env → Store → Res Plan
  | .seq e, ρ, S => (evE e ρ S).bind fun x S => Res.of (seqPlan x S) S
  | .nm i, ρ, S => match ρ[i]? with
    | some (some v) => match keyPlan v S with
      | some p => .ok p S
      | none => Res.of (seqPlan v S) S
    | _ => .bad
  | .range es, ρ, S => (evEs es ρ S).bind fun vs S => Res.of ((rangeM vs).map .fx) S
  | .enum e, ρ, S => (evE e ρ S).bind fun x S => Res.of ((srcOf x S).map .en) S
  | .zip a b, ρ, S => (evE a ρ S).bind fun x S => (evE b ρ S).bind fun y S => match srcOf x S, srcOf y S with
    | some a, some b => if isTupM x == isTupM y then .ok (.zp a b) S else .bad
    | _, _ => .bad
end
mutual
def evX (fs : Flds) : XE → Env → Store → Res MV
  | .cst v, _, S => .ok v S
  | .var i, ρ, S => match ρ[i]? with
    | some (some v) => .ok v S
    | _ => .bad
  | .att f, _, S => Res.of (fGet fs f) S
  | .rep e, ρ, S => (evX fs e ρ S).bind fun x S => Res.of ((reprM x S).map .str) S
  | .tup es, ρ, S => (evXs fs es ρ S).bind fun vs S => if vs.length ≤ line then .ok (mkTup vs) S else .bad
  | .lst es, ρ, S => (evXs fs es ρ S).bind fun vs S => mkL true vs S
  | .add a b, ρ, S => (evX fs a ρ S).bind fun x S => (evX fs b ρ S).bind fun y S => binM .add x y S
def evXs (fs : Flds) : List XE → Env → Store → Res (List MV)
  | [], _, S => .ok [] S
  | e :: es, ρ, S => (evX fs e ρ S).bind fun v S => (evXs fs es ρ S).bind fun vs S => .ok (v :: vs) S
end
/-- an error is raised -/
def raiseM {α : Type} (c : Nat) (vs : List MV) (S : Store) : Res α :=
  match exnF P c vs with
  | some fs => .exc c fs S
  | none => .bad
def evXS (fs : Flds) (s : XS) (ρ : Env) (S : Store) : Res Fl :=
  match s with
  | .ret e => (evX fs e ρ S).bind fun v S => .ok (.rt v) S
  | .asg i e => (evX fs e ρ S).bind fun v S => if i < ρ.length then .ok (.nx (ρ.set i (some v))) S else .bad
  | .raise c es => (evXs fs es ρ S).bind fun vs S => (raiseM P c vs S : Res Unit).thn ρ fun _ _ => .bad
/-- the first clause that takes the error -/
def handle (c : Nat) (fs : Flds) (ρ : Env) (S : Store) : List MH → Res Fl
  | [] => .ok (.xc c fs ρ) S
  | h :: r => if isAnc P c h.c then
      (evXS P fs h.s ρ S).bind fun fl S => .ok (match h.nm, fl with
        | some i, .nx ρ => .nx (ρ.set i none)
        | _, fl => fl) S
    else handle c fs ρ S r
mutual
def exS : MStm → Env → Store → Res Fl
  | .expr e, ρ, S => (evE P cf e ρ S).thn ρ fun _ S => .ok (.nx ρ) S
  | .asg t e, ρ, S => (evE P cf e ρ S).thn ρ fun v S => (assignG t v ρ S).bind fun ρ S => .ok (.nx ρ) S
  | .asgS a i e, ρ, S => (evE P cf e ρ S).thn ρ fun v S => (evE P cf a ρ S).thn ρ fun x S => (evE P cf i ρ S).thn ρ fun y S => match setM x y v S with
    | some S => .ok (.nx ρ) S
    | none => .bad
  | .asgA a f e, ρ, S => (evE P cf e ρ S).thn ρ fun v S => (evE P cf a ρ S).thn ρ fun x S => match setA P x f v S with
    | some S => .ok (.nx ρ) S
    | none => .bad
  | .par ts es, ρ, S => (evEs P cf es ρ S).thn ρ fun vs S => (assignGs ts vs ρ S).bind fun ρ S => .ok (.nx ρ) S
  | .aug i op e, ρ, S => match ρ[i]? with
    | some (some (.int x)) => (evE P cf e ρ S).thn ρ fun y S => (match y with
      | .int y => (match augM op x y with
        | some z => .ok (.nx (ρ.set i (some (.int z)))) S
        | none => .bad)
      | _ => .bad)
    | _ => .bad
  | .ret e, ρ, S => (evE P cf e ρ S).thn ρ fun v S => .ok (.rt v) S
  | .retN, _, S => .ok (.rt .non) S
  | .ifS c a b, ρ, S => (evT P cf c ρ S).thn ρ fun t S => if t then exSs a ρ S else exSs b ρ S
  | .forS t it b, ρ, S => (evI P cf it ρ S).thn ρ fun p S => loopPlan p (fun v ρ S => (assignG t v ρ S).bind fun ρ S => exSs b ρ S) ρ S
  | .whileS c b, ρ, S => whileM (fun ρ S => evT P cf c ρ S) (fun ρ S => exSs b ρ S) fuel ρ S
  | .raise c es, ρ, S => (evEs P cf es ρ S).thn ρ fun vs S => (raiseM P c vs S : Res Unit).thn ρ fun _ _ => .bad
  | .tryS b hs, ρ, S => (exSs b ρ S).bind fun fl S => match fl with
    | .xc c fs ρ => handle P c fs ρ S hs
    | fl => .ok fl S
  | .brk, ρ, S => .ok (.bk ρ) S
  | .cont, ρ, S => .ok (.ct ρ) S
  | .pass, ρ, S => .ok (.nx ρ) S
def exSs : List MStm → Env → Store → Res Fl
  | [], ρ, S => .ok (.nx ρ) S
  | s :: r, ρ, S => (exS s ρ S).bind fun fl S => match fl with
    | .nx ρ => exSs r ρ S
    | fl => .ok fl S
end
/-- the cells of a def's captured names -/
def mkCells : List Nat → Env → Store → Env × Store
  | [], ρ, S => (ρ, S)
  | i :: r, ρ, S => mkCells r (ρ.set i (some (.loc S.length))) (S ++ [.cell ((ρ[i]?).bind id)])
def runF (fd : FDef) (vs : List MV) (S : Store) : Res MV :=
  if vs.length = fd.np then
    let r := mkCells fd.cells (vs.map some ++ List.replicate (fd.ns - fd.np) none) S
    match exSs P cf fd.body r.1 r.2 with
    | .ok (.rt v) S2 => .ok v (killS S.length fd.cells.length S2)
    | .ok (.nx _) S2 => .ok .non (killS S.length fd.cells.length S2)
    | .ok (.xc c fs _) S2 => .exc c fs (killS S.length fd.cells.length S2)
    | _ => .bad
  else .bad
def runL (ld : LDef) (vs : List MV) (S : Store) : Res MV :=
  if vs.length = ld.np + ld.nc then evE P cf ld.body (vs.map some ++ List.replicate (ld.ns - ld.np - ld.nc) none) S else .bad
end
/-- the functions, then the lambdas, by depth -/
def callAt (P : Prog) : Nat → CF
  | 0, _, _, _ => .bad
  | d + 1, f, vs, S => match P.funs[f]? with
    | some fd => runF P (callAt P d) fd vs S
    | none => match P.lams[f - P.funs.length]? with
      | some ld => runL P (callAt P d) ld vs S
      | none => .bad
end Mini
namespace Mini
open PySem PySem.Spec PyProof.Rows L2
structure LInfo where
  q : Str
  params : Arguments
  body : Expr
  scope : Scope
  ps : List Str
  fr : List Str
  N : List Str
structure Gm where
  K : PySem.W.Frag
  cad : Nat → Option Addr
  T : List (Addr × Str)
  ld : Nat → Option LInfo
/-- a lambda's object -/
def LnO (f : Addr) (L : LInfo) (cl : List (Str × Addr)) (c' : Addr) : HO :=
  .ext fun h => ∃ (pm ctv : Value) (od : Option Addr) (sl : Array (Option Value)), h.get? f = some (⟨.type "function", od, .func (PySem.W.kla_fn "<lambda>" L.q L.params L.body L.scope cl pm (.ref c') ctv), sl⟩ : Obj)
/-- banned addresses, the store's places, the cells' places, how many -/
structure Wd where
  B : Addr → Prop
  ν : Nat → Option Addr
  κ : Nat → Option Addr
  n : Nat
  /-- the cells that are not ours: they stand as they stood -/
  fz : Nat → Option (Option MV)
/-- nothing behind the end -/
def Wd.Fin (W : Wd) : Prop := (∀ i, W.n ≤ i → W.ν i = none) ∧ ∀ i, W.n ≤ i → W.κ i = none
def Wd.Av (W : Wd) (a : Addr) : Prop := ¬ W.B a ∧ ∀ i, W.ν i ≠ some a
/-- a tuple, plain or with an object that is known -/
def TupA (H : Hp) (a : Addr) (xs : List V) : Prop := H a = some (.tup xs) ∨ ∃ o, H a = some (.frz o (.tup xs)) ∧ o.dict = none
mutual
def RP (Γ : Gm) (Av : Addr → Prop) (H : Hp) : MV → V → Prop
  | .non, v => v = .non
  | .bl b, v => v = .bl b
  | .int i, v => v = .int i
  | .str x, v => v = .str x
  | .tup ms, v => ∃ a xs, v = .ref a ∧ H a = some (.tup xs) ∧ RPs Γ Av H ms xs
  | .tupL _, _ => False
  | .tupB ms, v => ∃ a xs, v = .ref a ∧ (∃ o, H a = some (.frz o (.tup xs)) ∧ o.dict = none) ∧ RPs Γ Av H ms xs
  | .fls ms, v => ∃ a xs, v = .ref a ∧ H a = some (.lst xs) ∧ Av a ∧ RPs Γ Av H ms xs
  | .scr ms, v => ∃ a xs, v = .ref a ∧ Rd H a (.lst xs) ∧ Av a ∧ RPs Γ Av H ms xs
  | .obj c fs, v => ∃ a C dx ws, v = .ref a ∧ Γ.cad c = some C ∧ H a = some (.ins C dx ws) ∧ Av a ∧ RPf Γ Av H fs ws
  | .exn c fs, v => (fs = [] ∧ ∃ a C, v = .ref a ∧ Γ.cad c = some C ∧ H a = some (ExO (.ref C) a) ∧ Av a) ∨
      ∃ a C d ws, v = .ref a ∧ Γ.cad c = some C ∧ H a = some (exo a C (some d)) ∧ H d = some (exd d ws) ∧ Av a ∧ Av d ∧ RPf Γ Av H fs ws
  | .loc _, _ => False
def RPs (Γ : Gm) (Av : Addr → Prop) (H : Hp) : List MV → List V → Prop
  | [], xs => xs = []
  | m :: ms, xs => ∃ v vs, xs = v :: vs ∧ RP Γ Av H m v ∧ RPs Γ Av H ms vs
def RPf (Γ : Gm) (Av : Addr → Prop) (H : Hp) : List (Str × MV) → List (Str × V) → Prop
  | [], xs => xs = []
  | (f, m) :: ms, xs => ∃ v vs, xs = (f, v) :: vs ∧ RP Γ Av H m v ∧ RPf Γ Av H ms vs
end
mutual
def RV (Γ : Gm) (W : Wd) (H : Hp) : MV → V → Prop
  | .loc i, v => ∃ a, v = .ref a ∧ i < W.n ∧ (W.ν i = none ∨ W.ν i = some a)
  | .tupL ms, v => ∃ a xs, v = .ref a ∧ H a = some (.tup xs) ∧ RVs Γ W H ms xs
  | .non, v => v = .non
  | .bl b, v => v = .bl b
  | .int i, v => v = .int i
  | .str x, v => v = .str x
  | .tup ms, v => RP Γ W.Av H (.tup ms) v
  | .tupB ms, v => RP Γ W.Av H (.tupB ms) v
  | .fls ms, v => RP Γ W.Av H (.fls ms) v
  | .scr ms, v => RP Γ W.Av H (.scr ms) v
  | .obj c fs, v => RP Γ W.Av H (.obj c fs) v
  | .exn c fs, v => RP Γ W.Av H (.exn c fs) v
def RVs (Γ : Gm) (W : Wd) (H : Hp) : List MV → List V → Prop
  | [], xs => xs = []
  | m :: ms, xs => ∃ v vs, xs = v :: vs ∧ RV Γ W H m v ∧ RVs Γ W H ms vs
end
def RVf (Γ : Gm) (W : Wd) (H : Hp) : List (Str × MV) → List (Str × V) → Prop
  | [], xs => xs = []
  | (f, m) :: ms, xs => ∃ v vs, xs = (f, v) :: vs ∧ RV Γ W H m v ∧ RVf Γ W H ms vs
def RKs {κ : Type} (Γ : Gm) (W : Wd) (H : Hp) : List (κ × MV) → List (κ × V) → Prop
  | [], xs => xs = []
  | (k, m) :: ms, xs => ∃ v vs, xs = (k, v) :: vs ∧ RV Γ W H m v ∧ RKs Γ W H ms vs
/-- free, or walked by a loop -/
def DO (lk : Bool) (H : Hp) (a : Addr) (u : HO) : Prop := if lk then ∃ o, H a = some (.frz o u) else H a = some u
/-- an object of the store -/
def RO (Γ : Gm) (W : Wd) (H : Hp) (o : MO) (a : Addr) : Prop :=
  match o with
  | .lst ms => ∃ xs, H a = some (.lst xs) ∧ RVs Γ W H ms xs
  | .dK lk kvs => (∃ ws, DO lk H a (.dK ws) ∧ RKs Γ W H kvs ws ∧ (kvs.map (·.1)).Nodup) ∨ (kvs = [] ∧ lk = false ∧ H a = some (.dT []))
  | .dT lk kvs => (∃ ws, DO lk H a (.dT ws) ∧ RKs Γ W H kvs ws ∧ (kvs.map (·.1)).Nodup) ∨ (kvs = [] ∧ lk = false ∧ H a = some (.dK []))
  | .ins c fs => ∃ C dx ws, Γ.cad c = some C ∧ H a = some (.ins C dx ws) ∧ RVf Γ W H fs ws
  | .clo l ks => ∃ L cl c', Γ.ld l = some L ∧ H a = some (LnO a L cl c') ∧ H c' = some (LamX.CodeO c' L.q) ∧ ks.length = L.fr.length ∧
      (∀ x y c, cl.lookup x = some c → cl.lookup y = some c → x = y) ∧ (∀ y c, cl.lookup y = some c → y ∈ L.fr) ∧
      ∀ (j : Nat) y k, L.fr[j]? = some y → ks[j]? = some k → ∃ c, cl.lookup y = some c ∧ k < W.n ∧ (W.κ k = none ∨ W.κ k = some c)
  | .cell _ => False
  | .dead => False
/-- the store -/
structure RS (Γ : Gm) (CRel : Addr → Option V → Prop) (W : Wd) (S : Store) (H : Hp) : Prop where
  n : W.n = S.length
  vnone : ∀ i, S.length ≤ i → W.ν i = none
  knone : ∀ i, S.length ≤ i → W.κ i = none
  obj : ∀ i o a, S[i]? = some o → W.ν i = some a → RO Γ W H o a
  live : ∀ i o, S[i]? = some o → W.ν i = none → o = .dead ∨ ∃ v, o = .cell v
  inj : ∀ i j a, W.ν i = some a → W.ν j = some a → i = j
  cel : ∀ i v, S[i]? = some (.cell v) → ∃ c ov, W.κ i = some c ∧ CRel c ov ∧ ∀ mv, v = some mv → ∃ x, ov = some x ∧ RV Γ W H mv x
  kdead : ∀ i c, W.κ i = some c → ∃ v, S[i]? = some (.cell v)
  kinj : ∀ i j c, W.κ i = some c → W.κ j = some c → i = j
  bd : ∀ a, W.B a → (∃ o, H a = some o ∧ ∀ ps, o ≠ .tbl ps) ∧ ∀ i, W.ν i ≠ some a
  tab : LamX.Tabs Γ.T H
  fz : ∀ i v, W.fz i = some v → S[i]? = some (.cell v)
/-- how the heap may have changed; nothing is said of the banned -/
structure Ev0 (Γ : Gm) (W : Wd) (H : Hp) (W' : Wd) (H' : Hp) : Prop where
  b2 : ∀ a, H a ≠ none → W'.B a → W.B a
  n : W.n ≤ W'.n
  old : ∀ i, i < W.n → W'.ν i = none ∨ W'.ν i = W.ν i
  oldk : ∀ i, i < W.n → W'.κ i = none ∨ W'.κ i = W.κ i
  new : ∀ i a, W.n ≤ i → W'.ν i = some a → H a = none ∨ W.B a
  kp : ∀ a o, H a = some o → ¬ W.B a → (∀ i, W.ν i ≠ some a) → (∀ ps, o ≠ .tbl ps) → H' a = some o
  tup : ∀ a xs, H a = some (.tup xs) → H' a = some (.tup xs)
  frt : ∀ a o xs, H a = some (.frz o (.tup xs)) → H' a = some (.frz o (.tup xs))
  sta : ∀ a o, H a = some o → H' a ≠ none
  newk : ∀ i, W.n ≤ i → W'.κ i = none
  fz : W'.fz = W.fz
/-- .. and the banned stay -/
structure Ev (Γ : Gm) (W : Wd) (H : Hp) (W' : Wd) (H' : Hp) : Prop extends Ev0 Γ W H W' H' where
  b : ∀ a, W.B a → W'.B a
  kb : ∀ a o, W.B a → H a = some o → (∀ ps, o ≠ .tbl ps) → H' a = some o
end Mini
namespace Mini
open PySem PySem.Spec PyProof.Rows L2
section
variable {Γ : Gm} {Av Av' : Addr → Prop} {H H' H'' : Hp} {W W' W'' : Wd}
mutual
theorem RP.mono (hT : ∀ a xs, H a = some (.tup xs) → H' a = some (.tup xs)) (hF : ∀ a o xs, H a = some (.frz o (.tup xs)) → H' a = some (.frz o (.tup xs))) (hA : ∀ a o, Av a → H a = some o → (∀ ps, o ≠ .tbl ps) → Av' a ∧ H' a = some o) : ∀ (m : MV) (v : V), RP Γ Av H m v → RP Γ Av' H' m v
  | .non, _, h => h
  | .bl _, _, h => h
  | .int _, _, h => h
  | .str _, _, h => h
  | .tup ms, v, h => by
    obtain ⟨a, xs, e, q, r⟩ := h
    exact ⟨a, xs, e, hT _ _ q, RPs.mono hT hF hA ms xs r⟩
  | .tupL _, _, h => h
  | .tupB ms, v, h => by
    obtain ⟨a, xs, e, ⟨o, q, hd⟩, r⟩ := h
    exact ⟨a, xs, e, ⟨o, hF _ _ _ q, hd⟩, RPs.mono hT hF hA ms xs r⟩
  | .fls ms, v, h => by
    obtain ⟨a, xs, e, q, ha, r⟩ := h
    obtain ⟨h1, h2⟩ := hA a _ ha q (fun ps z => by cases z)
    exact ⟨a, xs, e, h2, h1, RPs.mono hT hF hA ms xs r⟩
  | .scr ms, v, h => by
    obtain ⟨a, xs, e, q, ha, r⟩ := h
    have z : Av' a ∧ Rd H' a (.lst xs) := by
      rcases q with q | ⟨o, q⟩
      · obtain ⟨h1, h2⟩ := hA a _ ha q (fun ps z => by cases z)
        exact ⟨h1, .inl h2⟩
      · obtain ⟨h1, h2⟩ := hA a _ ha q (fun ps z => by cases z)
        exact ⟨h1, .inr ⟨o, h2⟩⟩
    exact ⟨a, xs, e, z.2, z.1, RPs.mono hT hF hA ms xs r⟩
  | .obj c fs, v, h => by
    obtain ⟨a, C, dx, ws, e, q1, q2, ha, r⟩ := h
    obtain ⟨h1, h2⟩ := hA a _ ha q2 (fun ps z => by cases z)
    exact ⟨a, C, dx, ws, e, q1, h2, h1, RPf.mono hT hF hA fs ws r⟩
  | .exn c fs, v, h => by
    rcases h with ⟨e0, a, C, e, q1, q2, ha⟩ | ⟨a, C, d, ws, e, q1, q2, q3, ha, hd, r⟩
    · obtain ⟨h1, h2⟩ := hA a _ ha q2 (fun ps z => by cases z)
      exact .inl ⟨e0, a, C, e, q1, h2, h1⟩
    · obtain ⟨h1, h2⟩ := hA a _ ha q2 (fun ps z => by cases z)
      obtain ⟨h3, h4⟩ := hA d _ hd q3 (fun ps z => by cases z)
      exact .inr ⟨a, C, d, ws, e, q1, h2, h4, h1, h3, RPf.mono hT hF hA fs ws r⟩
  | .loc _, _, h => h
theorem RPs.mono (hT : ∀ a xs, H a = some (.tup xs) → H' a = some (.tup xs)) (hF : ∀ a o xs, H a = some (.frz o (.tup xs)) → H' a = some (.frz o (.tup xs))) (hA : ∀ a o, Av a → H a = some o → (∀ ps, o ≠ .tbl ps) → Av' a ∧ H' a = some o) : ∀ (ms : List MV) (xs : List V), RPs Γ Av H ms xs → RPs Γ Av' H' ms xs
  | [], _, h => h
  | m :: ms, xs, h => by
    obtain ⟨v, vs, e, r1, r2⟩ := h
    exact ⟨v, vs, e, RP.mono hT hF hA m v r1, RPs.mono hT hF hA ms vs r2⟩
theorem RPf.mono (hT : ∀ a xs, H a = some (.tup xs) → H' a = some (.tup xs)) (hF : ∀ a o xs, H a = some (.frz o (.tup xs)) → H' a = some (.frz o (.tup xs))) (hA : ∀ a o, Av a → H a = some o → (∀ ps, o ≠ .tbl ps) → Av' a ∧ H' a = some o) : ∀ (ms : List (Str × MV)) (xs : List (Str × V)), RPf Γ Av H ms xs → RPf Γ Av' H' ms xs
  | [], _, h => h
  | (f, m) :: ms, xs, h => by
    obtain ⟨v, vs, e, r1, r2⟩ := h
    exact ⟨v, vs, e, RP.mono hT hF hA m v r1, RPf.mono hT hF hA ms vs r2⟩
end
theorem Ev0.av (e : Ev0 Γ W H W' H') (a : Addr) (o : HO) (ha : W.Av a) (h : H a = some o) (nt : ∀ ps, o ≠ .tbl ps) : W'.Av a ∧ H' a = some o := by
  refine ⟨⟨fun z => ha.1 (e.b2 a (by rw [h]; exact fun q => nomatch q) z), fun i hi => ?_⟩, e.kp a o h ha.1 ha.2 nt⟩
  by_cases hn : i < W.n
  · rcases e.old i hn with z | z
    · rw [z] at hi; cases hi
    · rw [z] at hi; exact ha.2 i hi
  · rcases e.new i a (by omega) hi with this | this
    · rw [h] at this; cases this
    · exact ha.1 this
theorem Ev0.rp (e : Ev0 Γ W H W' H') {m : MV} {v : V} (h : RP Γ W.Av H m v) : RP Γ W'.Av H' m v := RP.mono e.tup e.frt e.av m v h
theorem Ev0.rps (e : Ev0 Γ W H W' H') {m : List MV} {v : List V} (h : RPs Γ W.Av H m v) : RPs Γ W'.Av H' m v := RPs.mono e.tup e.frt e.av m v h
theorem Ev0.rpf (e : Ev0 Γ W H W' H') {m : List (Str × MV)} {v : List (Str × V)} (h : RPf Γ W.Av H m v) : RPf Γ W'.Av H' m v := RPf.mono e.tup e.frt e.av m v h
mutual
theorem Ev0.rv (e : Ev0 Γ W H W' H') : ∀ (m : MV) (v : V), RV Γ W H m v → RV Γ W' H' m v
  | .loc i, v, h => by
    obtain ⟨a, ev, hi, hv⟩ := h
    refine ⟨a, ev, Nat.lt_of_lt_of_le hi e.n, ?_⟩
    rcases e.old i hi with z | z
    · exact .inl z
    · rw [z]; exact hv
  | .tupL ms, v, h => by
    obtain ⟨a, xs, ev, q, r⟩ := h
    exact ⟨a, xs, ev, e.tup _ _ q, Ev0.rvs e ms xs r⟩
  | .non, _, h => h
  | .bl _, _, h => h
  | .int _, _, h => h
  | .str _, _, h => h
  | .tup ms, v, h => e.rp (m := .tup ms) h
  | .tupB ms, v, h => e.rp (m := .tupB ms) h
  | .fls ms, v, h => e.rp (m := .fls ms) h
  | .scr ms, v, h => e.rp (m := .scr ms) h
  | .obj c fs, v, h => e.rp (m := .obj c fs) h
  | .exn c fs, v, h => e.rp (m := .exn c fs) h
theorem Ev0.rvs (e : Ev0 Γ W H W' H') : ∀ (ms : List MV) (xs : List V), RVs Γ W H ms xs → RVs Γ W' H' ms xs
  | [], _, h => h
  | m :: ms, xs, h => by
    obtain ⟨v, vs, ev, r1, r2⟩ := h
    exact ⟨v, vs, ev, Ev0.rv e m v r1, Ev0.rvs e ms vs r2⟩
end
theorem Ev0.rvf (e : Ev0 Γ W H W' H') : ∀ (ms : List (Str × MV)) (xs : List (Str × V)), RVf Γ W H ms xs → RVf Γ W' H' ms xs
  | [], _, h => h
  | (f, m) :: ms, xs, h => by
    obtain ⟨v, vs, ev, r1, r2⟩ := h
    exact ⟨v, vs, ev, Ev0.rv e m v r1, Ev0.rvf e ms vs r2⟩
theorem Ev0.rks {κ : Type} (e : Ev0 Γ W H W' H') : ∀ (ms : List (κ × MV)) (xs : List (κ × V)), RKs Γ W H ms xs → RKs Γ W' H' ms xs
  | [], _, h => h
  | (k, m) :: ms, xs, h => by
    obtain ⟨v, vs, ev, r1, r2⟩ := h
    exact ⟨v, vs, ev, Ev0.rv e m v r1, Ev0.rks e ms vs r2⟩
theorem Ev.refl (hn : W.Fin) : Ev Γ W H W H :=
  ⟨⟨fun _ _ h => h, Nat.le_refl _, fun _ _ => .inr rfl, fun _ _ => .inr rfl, fun i a h1 h2 => (by rw [hn.1 i h1] at h2; cases h2), fun _ _ h _ _ _ => h, fun _ _ h => h, fun _ _ _ h => h, fun a o h z => (by rw [h] at z; cases z), hn.2, rfl⟩, fun _ h => h, fun _ _ _ h _ => h⟩
theorem Ev0.trans (e : Ev0 Γ W H W' H') (e' : Ev0 Γ W' H' W'' H'') : Ev0 Γ W H W'' H'' where
  b2 := fun a h h2 => by
    cases q : H a with
    | none => exact absurd q h
    | some o => exact e.b2 a h (e'.b2 a (e.sta a o q) h2)
  n := Nat.le_trans e.n e'.n
  old := fun i hi => by
    rcases e'.old i (Nat.lt_of_lt_of_le hi e.n) with z | z
    · exact .inl z
    · rw [z]; exact e.old i hi
  oldk := fun i hi => by
    rcases e'.oldk i (Nat.lt_of_lt_of_le hi e.n) with z | z
    · exact .inl z
    · rw [z]; exact e.oldk i hi
  new := fun i a h1 h2 => by
    by_cases hn : i < W'.n
    · rcases e'.old i hn with z | z
      · rw [z] at h2; cases h2
      · rw [z] at h2; exact e.new i a h1 h2
    · cases h : H a with
      | none => exact .inl rfl
      | some o =>
        rcases e'.new i a (by omega) h2 with q | q
        · exact absurd q (e.sta a o h)
        · exact .inr (e.b2 a (by rw [h]; exact fun z => nomatch z) q)
  kp := fun a o h h0 h1 h2 => by
    refine e'.kp a o (e.kp a o h h0 h1 h2) (fun z => h0 (e.b2 a (by rw [h]; exact fun q => nomatch q) z)) (fun i hi => ?_) h2
    by_cases hn : i < W.n
    · rcases e.old i hn with z | z
      · rw [z] at hi; cases hi
      · rw [z] at hi; exact h1 i hi
    · rcases e.new i a (by omega) hi with this | this
      · rw [h] at this; cases this
      · exact h0 this
  tup := fun a xs h => e'.tup a xs (e.tup a xs h)
  frt := fun a o xs h => e'.frt a o xs (e.frt a o xs h)
  sta := fun a o h => by
    cases q : H' a with
    | none => exact absurd q (e.sta a o h)
    | some o' => exact e'.sta a o' q
  newk := fun i hi => by
    by_cases hn : i < W'.n
    · rcases e'.oldk i hn with z | z
      · exact z
      · rw [z]; exact e.newk i hi
    · exact e'.newk i (by omega)
  fz := e'.fz.trans e.fz
theorem Ev.trans (e : Ev Γ W H W' H') (e' : Ev Γ W' H' W'' H'') : Ev Γ W H W'' H'' :=
  ⟨e.toEv0.trans e'.toEv0, fun a h => e'.b a (e.b a h), fun a o hb h nt => e'.kb a o (e.b a hb) (e.kb a o hb h nt) nt⟩
theorem Ev.keep (e : Ev Γ W H W' H') (a : Addr) (o : HO) (h : H a = some o) (hn : ∀ i, W.ν i ≠ some a) (nt : ∀ ps, o ≠ .tbl ps) : H' a = some o := by
  by_cases z : W.B a
  · exact e.kb a o z h nt
  · exact e.kp a o h z hn nt
theorem Ev.av (e : Ev Γ W H W' H') (a : Addr) (o : HO) (ha : W.Av a) (h : H a = some o) (nt : ∀ ps, o ≠ .tbl ps) : W'.Av a ∧ H' a = some o := e.toEv0.av a o ha h nt
theorem Ev.rp (e : Ev Γ W H W' H') {m : MV} {v : V} (h : RP Γ W.Av H m v) : RP Γ W'.Av H' m v := e.toEv0.rp h
theorem Ev.rps (e : Ev Γ W H W' H') {m : List MV} {v : List V} (h : RPs Γ W.Av H m v) : RPs Γ W'.Av H' m v := e.toEv0.rps h
theorem Ev.rpf (e : Ev Γ W H W' H') {m : List (Str × MV)} {v : List (Str × V)} (h : RPf Γ W.Av H m v) : RPf Γ W'.Av H' m v := e.toEv0.rpf h
theorem Ev.rv (e : Ev Γ W H W' H') (m : MV) (v : V) (h : RV Γ W H m v) : RV Γ W' H' m v := e.toEv0.rv m v h
theorem Ev.rvs (e : Ev Γ W H W' H') (ms : List MV) (xs : List V) (h : RVs Γ W H ms xs) : RVs Γ W' H' ms xs := e.toEv0.rvs ms xs h
theorem Ev.rvf (e : Ev Γ W H W' H') (ms : List (Str × MV)) (xs : List (Str × V)) (h : RVf Γ W H ms xs) : RVf Γ W' H' ms xs := e.toEv0.rvf ms xs h
theorem Ev.rks {κ : Type} (e : Ev Γ W H W' H') (ms : List (κ × MV)) (xs : List (κ × V)) (h : RKs Γ W H ms xs) : RKs Γ W' H' ms xs := e.toEv0.rks ms xs h
end
section
variable {Γ : Gm} {Av : Addr → Prop} {H : Hp} {W : Wd}
theorem RPs.len : ∀ {ms : List MV} {xs : List V}, RPs Γ Av H ms xs → xs.length = ms.length
  | [], _, h => by rw [show _ = [] from h]; rfl
  | m :: ms, _, h => by
    obtain ⟨v, vs, e, _, r⟩ := h
    rw [e, List.length_cons, List.length_cons, RPs.len r]
theorem RVs.len : ∀ {ms : List MV} {xs : List V}, RVs Γ W H ms xs → xs.length = ms.length
  | [], _, h => by rw [show _ = [] from h]; rfl
  | m :: ms, _, h => by
    obtain ⟨v, vs, e, _, r⟩ := h
    rw [e, List.length_cons, List.length_cons, RVs.len r]
theorem RPs.app : ∀ {ms : List MV} {xs : List V} {ns : List MV} {ys : List V}, RPs Γ Av H ms xs → RPs Γ Av H ns ys → RPs Γ Av H (ms ++ ns) (xs ++ ys)
  | [], _, _, _, h, h' => by rw [show _ = [] from h]; exact h'
  | m :: ms, _, _, _, h, h' => by
    obtain ⟨v, vs, e, r1, r⟩ := h
    rw [e]
    exact ⟨v, _, rfl, r1, RPs.app r h'⟩
theorem RVs.app : ∀ {ms : List MV} {xs : List V} {ns : List MV} {ys : List V}, RVs Γ W H ms xs → RVs Γ W H ns ys → RVs Γ W H (ms ++ ns) (xs ++ ys)
  | [], _, _, _, h, h' => by rw [show _ = [] from h]; exact h'
  | m :: ms, _, _, _, h, h' => by
    obtain ⟨v, vs, e, r1, r⟩ := h
    rw [e]
    exact ⟨v, _, rfl, r1, RVs.app r h'⟩
theorem RVs.get : ∀ {ms : List MV} {xs : List V} {i : Nat} {m : MV}, RVs Γ W H ms xs → ms[i]? = some m → ∃ v, xs[i]? = some v ∧ RV Γ W H m v
  | [], _, i, _, h, e => by simp at e
  | m :: ms, _, 0, _, h, e => by
    obtain ⟨v, vs, q, r1, r⟩ := h
    simp at e; subst e
    exact ⟨v, by rw [q]; rfl, r1⟩
  | m :: ms, _, i + 1, _, h, e => by
    obtain ⟨v, vs, q, r1, r⟩ := h
    obtain ⟨x, h1, h2⟩ := RVs.get (i := i) r (by simpa using e)
    exact ⟨x, by rw [q]; simpa using h1, h2⟩
theorem RVs.none_of {ms : List MV} {xs : List V} {i : Nat} (h : RVs Γ W H ms xs) (e : ms[i]? = none) : xs[i]? = none := by
  rw [List.getElem?_eq_none_iff] at e ⊢
  rw [h.len]; exact e
theorem RVs.set {m : MV} {v : V} (r : RV Γ W H m v) : ∀ {ms : List MV} {xs : List V} (i : Nat), RVs Γ W H ms xs → RVs Γ W H (ms.set i m) (xs.set i v)
  | [], _, _, h => by rw [show _ = [] from h]; rfl
  | _ :: _, _, 0, h => by
    obtain ⟨x, vs, q, r1, r2⟩ := h
    rw [q]; exact ⟨v, vs, rfl, r, r2⟩
  | _ :: _, _, i + 1, h => by
    obtain ⟨x, vs, q, r1, r2⟩ := h
    rw [q]; exact ⟨x, _, rfl, r1, RVs.set r i r2⟩
theorem RVs.take : ∀ {ms : List MV} {xs : List V} (n : Nat), RVs Γ W H ms xs → RVs Γ W H (ms.take n) (xs.take n)
  | _, _, 0, _ => by rw [List.take_zero, List.take_zero]; rfl
  | [], _, _ + 1, h => by rw [show _ = [] from h]; rfl
  | _ :: _, _, n + 1, h => by
    obtain ⟨x, vs, q, r1, r2⟩ := h
    rw [q]; exact ⟨x, _, rfl, r1, RVs.take n r2⟩
theorem RVs.drop : ∀ {ms : List MV} {xs : List V} (n : Nat), RVs Γ W H ms xs → RVs Γ W H (ms.drop n) (xs.drop n)
  | _, _, 0, h => h
  | [], _, _ + 1, h => by rw [show _ = [] from h]; rfl
  | _ :: _, _, n + 1, h => by
    obtain ⟨x, vs, q, r1, r2⟩ := h
    rw [q]; exact RVs.drop n r2
theorem RPs.of_pure : ∀ {ms : List MV} {xs : List V}, ms.all pureV = true → RVs Γ W H ms xs → RPs Γ W.Av H ms xs
  | [], _, _, h => h
  | m :: ms, _, hp, h => by
    obtain ⟨v, vs, q, r1, r2⟩ := h
    simp only [List.all_cons, Bool.and_eq_true] at hp
    refine ⟨v, vs, q, ?_, RPs.of_pure hp.2 r2⟩
    cases m with
    | loc i => simp [pureV] at hp
    | tupL i => simp [pureV] at hp
    | _ => exact r1
theorem RV.of_rp {m : MV} {v : V} (h : RP Γ W.Av H m v) : RV Γ W H m v := by
  cases m with
  | loc i => exact False.elim h
  | tupL i => exact False.elim h
  | _ => exact h
theorem RVs.of_rps : ∀ {ms : List MV} {xs : List V}, RPs Γ W.Av H ms xs → RVs Γ W H ms xs
  | [], _, h => h
  | m :: ms, _, h => by
    obtain ⟨v, vs, q, r1, r2⟩ := h
    exact ⟨v, vs, q, RV.of_rp r1, RVs.of_rps r2⟩
theorem RP.of_pure {m : MV} {v : V} (hp : pureV m = true) (h : RV Γ W H m v) : RP Γ W.Av H m v := by
  cases m with
  | loc i => simp [pureV] at hp
  | tupL i => simp [pureV] at hp
  | _ => exact h
/-- a tuple made of related values -/
theorem RV.mkTup {ms : List MV} {xs : List V} {a : Addr} (q : H a = some (.tup xs)) (r : RVs Γ W H ms xs) : RV Γ W H (mkTup ms) (.ref a) := by
  unfold Mini.mkTup
  by_cases hp : ms.all pureV = true
  · rw [if_pos hp]
    exact ⟨a, xs, rfl, q, RPs.of_pure hp r⟩
  · rw [if_neg hp]
    exact ⟨a, xs, rfl, q, r⟩
theorem TupA.rd {a : Addr} {xs : List V} (h : TupA H a xs) : Rd H a (.tup xs) := by
  rcases h with h | ⟨o, h, _⟩
  · exact .inl h
  · exact .inr ⟨o, h⟩
theorem TupA.sq {K : PySem.W.Frag} {a : Addr} {xs : List V} (h : TupA H a xs) : SqT K H a xs := .inl h.rd
/-- a tuple read -/
theorem RV.asTup {m : MV} {ms : List MV} {v : V} (e : Mini.asTup m = some ms) (h : RV Γ W H m v) : ∃ a xs, v = .ref a ∧ TupA H a xs ∧ RVs Γ W H ms xs := by
  cases m with
  | tup vs =>
    cases e
    obtain ⟨a, xs, e1, q, r⟩ := h
    exact ⟨a, xs, e1, .inl q, RVs.of_rps r⟩
  | tupB vs =>
    cases e
    obtain ⟨a, xs, e1, q, r⟩ := h
    exact ⟨a, xs, e1, .inr q, RVs.of_rps r⟩
  | tupL vs =>
    cases e
    obtain ⟨a, xs, e1, q, r⟩ := h
    exact ⟨a, xs, e1, .inl q, r⟩
  | _ => cases e
end
end Mini
namespace Mini
open PySem PySem.Spec PyProof.Rows L2
/-- a cell as a context knows it: of its own names, or as it stood at the entry -/
def CellX (X : Cx) (mcm : List (Nat × Nat)) (σ : L2.St) (c : Addr) (ov : Option V) : Prop :=
  (∃ i k y, (i, k) ∈ mcm ∧ X.N[i]? = some y ∧ X.env.cells.lookup y = some c ∧ c ∉ X.fs ∧ (X.env.scope.names.lookup y = some .cell ∨ X.env.scope.names.lookup y = some .free) ∧ ∀ v, ov = some v → σ[i]? = some (some v)) ∨
  (X.H_0 c = none ∧ c ∉ X.fs ∧ c ∉ X.ex ∧ ∃ ou, X.s_0.heap.IsCell c ou ∧ ∀ v, ov = some v → ∃ u, ou = some u ∧ RelV v u)
/-- a cell at a call -/
def CellO (s : Shared) (H : Hp) (outer : List PySem.Env) (c : Addr) (ov : Option V) : Prop :=
  H c = none ∧ c ∉ frs outer ∧ ∃ ou, s.heap.IsCell c ou ∧ ∀ v, ov = some v → ∃ u, ou = some u ∧ RelV v u
/-- the names -/
structure RE (Γ : Gm) (X : Cx) (mcm : List (Nat × Nat)) (ρ : Env) (σ : L2.St) (W : Wd) (S : Store) (H : Hp) : Prop where
  len : ρ.length = σ.length
  var : ∀ i mv, (∀ k, (i, k) ∉ mcm) → ρ[i]? = some (some mv) → ∃ v, σ[i]? = some (some v) ∧ RV Γ W H mv v
  cel : ∀ i k, (i, k) ∈ mcm → ρ[i]? = some (some (.loc k)) ∧ ∃ ov, S[k]? = some (.cell ov) ∧ (∀ y c, X.N[i]? = some y → X.env.cells.lookup y = some c → W.κ k = some c) ∧
    ∀ mv, ov = some mv → ∃ v, σ[i]? = some (some v) ∧ RV Γ W H mv v
  cfz : ∀ i k, (i, k) ∈ mcm → W.fz k = none
structure Rel (Γ : Gm) (X : Cx) (mcm : List (Nat × Nat)) (ρ : Env) (σ : L2.St) (W : Wd) (S : Store) (H : Hp) : Prop where
  rs : RS Γ (CellX X mcm σ) W S H
  re : RE Γ X mcm ρ σ W S H
/-- an error's fields -/
def XF (Γ : Gm) (W : Wd) (H : Hp) (fs : Flds) (d : Option Addr) : Prop :=
  (fs = [] ∧ d = none) ∨ ∃ dd ws, d = some dd ∧ H dd = some (.xd ws) ∧ RVf Γ W H fs ws
/-- what is wanted of a result -/
def Want {α : Type} (Γ : Gm) (R : Wd → Store → Hp → Prop) (W : Wd) (H : Hp) (r : Res α) (k : α → Store → Wd → Hp → Prop) (kx : Value → Option Addr → Hp → Prop) : Prop :=
  match r with
  | .ok a S' => ∀ W' H', Ev Γ W H W' H' → R W' S' H' → k a S' W' H'
  | .exc c fs S' => ∀ W' H' C d, Ev Γ W H W' H' → R W' S' H' → Γ.cad c = some C → XF Γ W' H' fs d → kx (.ref C) d H'
  | .bad => False
section
variable {Γ : Gm} {R : Wd → Store → Hp → Prop} {W W1 : Wd} {H H1 : Hp} {α β : Type} {r : Res α} {k k' : α → Store → Wd → Hp → Prop} {kx kx' : Value → Option Addr → Hp → Prop}
theorem Want.shift (h : Want Γ R W H r k kx) (e : Ev Γ W H W1 H1) : Want Γ R W1 H1 r k kx := by
  cases r with
  | ok a S => exact fun W' H' e' => h W' H' (e.trans e')
  | exc c fs S => exact fun W' H' C d e' => h W' H' C d (e.trans e')
  | bad => exact h
theorem Want.mono (h : Want Γ R W H r k kx) (hk : ∀ a S' W' H', r = .ok a S' → Ev Γ W H W' H' → R W' S' H' → k a S' W' H' → k' a S' W' H') (hx : ∀ C d H', kx C d H' → kx' C d H') : Want Γ R W H r k' kx' := by
  cases r with
  | ok a S => exact fun W' H' e r' => hk a S W' H' rfl e r' (h W' H' e r')
  | exc c fs S => exact fun W' H' C d e r' hc x => hx _ _ _ (h W' H' C d e r' hc x)
  | bad => exact h
theorem Want.bind {f : α → Store → Res β} {k : β → Store → Wd → Hp → Prop} (h : Want Γ R W H (r.bind f) k kx) : Want Γ R W H r (fun a S1 W1 H1 => Want Γ R W1 H1 (f a S1) k kx) kx := by
  cases r with
  | ok a S => exact fun W' H' e r' => Want.shift (r := f a S) h e
  | exc c fs S => exact h
  | bad => exact h
theorem Want.bind' {f : α → Store → Res β} {k : β → Store → Wd → Hp → Prop} (h : Want Γ R W H r (fun a S1 W1 H1 => Want Γ R W1 H1 (f a S1) k kx) kx)
    (hr : ∀ a S, r = .ok a S → ∃ W1 H1, Ev Γ W H W1 H1 ∧ R W1 S H1 ∧ W1 = W ∧ H1 = H) : Want Γ R W H (r.bind f) k kx := by
  cases r with
  | ok a S =>
    obtain ⟨W1, H1, e, r1, rfl, rfl⟩ := hr a S rfl
    exact h W1 H1 e r1
  | exc c fs S => exact h
  | bad => exact h
end
abbrev EvM := Env → Store → Res MV
section
variable (Γ : Gm) (X : Cx) (mcm : List (Nat × Nat)) (W0 : WX)
/-- what is wanted of an expression's run -/
abbrev WnE (ρ : Env) (σ : L2.St) (W : Wd) (H : Hp) (r : Res MV) (Q : VK) : Prop :=
  Want Γ (Rel Γ X mcm ρ σ) W H r (fun m _ W' H' => ∀ v, RV Γ W' H' m v → Q v H') fun C d H' => W0 C d σ H'
def tE (m : EvM) : TE := fun σ H Q => ∃ W ρ S, Rel Γ X mcm ρ σ W S H ∧ WnE Γ X mcm W0 ρ σ W H (m ρ S) Q
abbrev WnT (ρ : Env) (σ : L2.St) (W : Wd) (H : Hp) (r : Res Bool) (Q : Bool → Hp → Prop) : Prop :=
  Want Γ (Rel Γ X mcm ρ σ) W H r (fun m _ _ H' => Q m H') fun C d H' => W0 C d σ H'
def tT (m : Env → Store → Res Bool) : TT := fun σ H Q => ∃ W ρ S, Rel Γ X mcm ρ σ W S H ∧ WnT Γ X mcm W0 ρ σ W H (m ρ S) Q
abbrev WnA (ρ : Env) (σ : L2.St) (W : Wd) (H : Hp) (r : Res (List MV)) (Q : List V → Hp → Prop) : Prop :=
  Want Γ (Rel Γ X mcm ρ σ) W H r (fun m _ W' H' => ∀ v, RVs Γ W' H' m v → Q v H') fun C d H' => W0 C d σ H'
def tA (m : Env → Store → Res (List MV)) : TA := fun σ H Q => ∃ W ρ S, Rel Γ X mcm ρ σ W S H ∧ WnA Γ X mcm W0 ρ σ W H (m ρ S) Q
/-- what is wanted of a statement's run -/
def KFl (D : Ends) (fl : Fl) (S' : Store) (W' : Wd) (H' : Hp) : Prop :=
  match fl with
  | .nx ρ' => ∀ σ', Rel Γ X mcm ρ' σ' W' S' H' → D.nx σ' H'
  | .rt m => ∀ ρ' σ' v, Rel Γ X mcm ρ' σ' W' S' H' → RV Γ W' H' m v → D.rt v H'
  | .bk ρ' => ∀ σ', Rel Γ X mcm ρ' σ' W' S' H' → D.bk σ' H'
  | .ct ρ' => ∀ σ', Rel Γ X mcm ρ' σ' W' S' H' → D.ct σ' H'
  | .xc c fs ρ' => ∀ σ' C d, Rel Γ X mcm ρ' σ' W' S' H' → Γ.cad c = some C → XF Γ W' H' fs d → W0 (.ref C) d σ' H'
def WnS (W : Wd) (H : Hp) (r : Res Fl) (D : Ends) : Prop :=
  match r with
  | .ok fl S' => ∀ W' H', Ev Γ W H W' H' → KFl Γ X mcm W0 D fl S' W' H'
  | _ => False
def tS (m : Env → Store → Res Fl) : TS := fun D σ H => ∃ W ρ S, Rel Γ X mcm ρ σ W S H ∧ WnS Γ X mcm W0 W H (m ρ S) D
end
theorem RS.fin {Γ : Gm} {CRel : Addr → Option V → Prop} {W : Wd} {S : Store} {H : Hp} (h : RS Γ CRel W S H) : W.Fin :=
  ⟨fun i hi => h.vnone i (by rw [← h.n]; exact hi), fun i hi => h.knone i (by rw [← h.n]; exact hi)⟩
section
variable {Γ : Gm} {X : Cx} {mcm : List (Nat × Nat)} {W0 : WX} {σ : L2.St} {H : Hp} {ρ : Env} {W : Wd} {S : Store}
theorem Rel.evr (R : Rel Γ X mcm ρ σ W S H) : Ev Γ W H W H := Ev.refl R.rs.fin
theorem tE.mono {m : EvM} {Q Q' : VK} (h : tE Γ X mcm W0 m σ H Q) (hq : ∀ v H', Q v H' → Q' v H') : tE Γ X mcm W0 m σ H Q' := by
  obtain ⟨W, ρ, S, R, w⟩ := h
  exact ⟨W, ρ, S, R, w.mono (fun a S' W' H' _ _ _ q v r => hq _ _ (q v r)) fun _ _ _ z => z⟩
theorem tT.mono {m : Env → Store → Res Bool} {Q Q' : Bool → Hp → Prop} (h : tT Γ X mcm W0 m σ H Q) (hq : ∀ v H', Q v H' → Q' v H') : tT Γ X mcm W0 m σ H Q' := by
  obtain ⟨W, ρ, S, R, w⟩ := h
  exact ⟨W, ρ, S, R, w.mono (fun a S' W' H' _ _ _ q => hq _ _ q) fun _ _ _ z => z⟩
theorem tA.mono {m : Env → Store → Res (List MV)} {Q Q' : List V → Hp → Prop} (h : tA Γ X mcm W0 m σ H Q) (hq : ∀ v H', Q v H' → Q' v H') : tA Γ X mcm W0 m σ H Q' := by
  obtain ⟨W, ρ, S, R, w⟩ := h
  exact ⟨W, ρ, S, R, w.mono (fun a S' W' H' _ _ _ q v r => hq _ _ (q v r)) fun _ _ _ z => z⟩
/-- the first part of a run, then what is left of it -/
theorem stepE {β : Type} {m : EvM} {f : MV → Store → Res β} {k : β → Store → Wd → Hp → Prop} (R : Rel Γ X mcm ρ σ W S H)
    (h : Want Γ (Rel Γ X mcm ρ σ) W H ((m ρ S).bind f) k fun C d H' => W0 C d σ H') :
    tE Γ X mcm W0 m σ H fun x H1 => ∃ mv W1 S1, RV Γ W1 H1 mv x ∧ Ev Γ W H W1 H1 ∧ Rel Γ X mcm ρ σ W1 S1 H1 ∧ Want Γ (Rel Γ X mcm ρ σ) W1 H1 (f mv S1) k fun C d H' => W0 C d σ H' :=
  ⟨W, ρ, S, R, h.bind.mono (fun a S' W' H' _ e R' q v r => ⟨a, W', S', r, e, R', q⟩) fun _ _ _ z => z⟩
theorem stepT {β : Type} {m : Env → Store → Res Bool} {f : Bool → Store → Res β} {k : β → Store → Wd → Hp → Prop} (R : Rel Γ X mcm ρ σ W S H)
    (h : Want Γ (Rel Γ X mcm ρ σ) W H ((m ρ S).bind f) k fun C d H' => W0 C d σ H') :
    tT Γ X mcm W0 m σ H fun b H1 => ∃ W1 S1, Ev Γ W H W1 H1 ∧ Rel Γ X mcm ρ σ W1 S1 H1 ∧ Want Γ (Rel Γ X mcm ρ σ) W1 H1 (f b S1) k fun C d H' => W0 C d σ H' :=
  ⟨W, ρ, S, R, h.bind.mono (fun a S' W' H' _ e R' q => ⟨W', S', e, R', q⟩) fun _ _ _ z => z⟩
theorem stepA {β : Type} {m : Env → Store → Res (List MV)} {f : List MV → Store → Res β} {k : β → Store → Wd → Hp → Prop} (R : Rel Γ X mcm ρ σ W S H)
    (h : Want Γ (Rel Γ X mcm ρ σ) W H ((m ρ S).bind f) k fun C d H' => W0 C d σ H') :
    tA Γ X mcm W0 m σ H fun x H1 => ∃ mv W1 S1, RVs Γ W1 H1 mv x ∧ Ev Γ W H W1 H1 ∧ Rel Γ X mcm ρ σ W1 S1 H1 ∧ Want Γ (Rel Γ X mcm ρ σ) W1 H1 (f mv S1) k fun C d H' => W0 C d σ H' :=
  ⟨W, ρ, S, R, h.bind.mono (fun a S' W' H' _ e R' q v r => ⟨a, W', S', r, e, R', q⟩) fun _ _ _ z => z⟩
/-- a result as it stands -/
theorem WnE.here {m : MV} {Q : VK} {v : V} (R : Rel Γ X mcm ρ σ W S H) (h : WnE Γ X mcm W0 ρ σ W H (.ok m S) Q) (r : RV Γ W H m v) : Q v H := h W H R.evr R v r
theorem WnE.of {o : Option MV} {Q : VK} (R : Rel Γ X mcm ρ σ W S H) (h : WnE Γ X mcm W0 ρ σ W H (Res.of o S) Q) : ∃ m, o = some m ∧ ∀ v, RV Γ W H m v → Q v H := by
  cases o with
  | none => exact False.elim h
  | some m => exact ⟨m, rfl, fun v r => WnE.here R h r⟩
theorem PE.imp {e : Expr} {t t' : TE} (h : PE X e t) (hi : ∀ σ H Q, t' σ H Q → t σ H Q) : PE X e t' := ⟨fun pins s σ H Q I q => h.run pins s σ H Q I (hi σ H Q q)⟩
theorem PT.imp {e : Expr} {t t' : TT} (h : PT X e t) (hi : ∀ σ H Q, t' σ H Q → t σ H Q) : PT X e t' := ⟨fun pins s σ H Q I q => h.run pins s σ H Q I (hi σ H Q q)⟩
theorem PA.imp {e : List Expr} {t t' : TA} (h : PA X e t) (hi : ∀ σ H Q, t' σ H Q → t σ H Q) : PA X e t' := ⟨fun pos pins s σ H Q I q => h.run pos pins s σ H Q I (hi σ H Q q)⟩
theorem PS.imp {e : Stmt} {t t' : TS} (h : PS X e t) (hi : ∀ D σ H, t' D σ H → t D σ H) : PS X e t' := ⟨fun pins s σ H D I q => h.run pins s σ H D I (hi D σ H q)⟩
theorem PSs.imp {e : List Stmt} {t t' : TS} (h : PSs X e t) (hi : ∀ D σ H, t' D σ H → t D σ H) : PSs X e t' := ⟨fun pins s σ H D I q => h.run pins s σ H D I (hi D σ H q)⟩
end
section
variable {Γ : Gm} {H H' : Hp} {W : Wd}
theorem Ev.grow (hn : W.Fin) (h : ∀ a o, H a = some o → H' a = some o) : Ev Γ W H W H' :=
  ⟨⟨fun _ _ h => h, Nat.le_refl _, fun _ _ => .inr rfl, fun _ _ => .inr rfl, fun i a h1 h2 => (by rw [hn.1 i h1] at h2; cases h2), fun a o q _ _ _ => h a o q, fun _ _ q => h _ _ q, fun _ _ _ q => h _ _ q, fun a o q z => (by rw [h a o q] at z; cases z), hn.2, rfl⟩, fun _ h => h, fun a o _ q _ => h a o q⟩
theorem same_new {p : Addr} {o : HO} (hp : H p = none) : ∀ a u, H a = some u → upd H p o a = some u := fun a u e => by
  rw [upd_ne (ne_of_none e hp)]; exact e
/-- an object that stands as it stood, its parts carried over -/
theorem RO.mono0 {W' : Wd} (e : Ev0 Γ W H W' H') {o : MO} {a : Addr} (ha : H' a = H a) (hc : ∀ c u, H c = some u → (∀ ps, u ≠ .tbl ps) → H' c = some u) (h : RO Γ W H o a) : RO Γ W' H' o a := by
  cases o with
  | lst ms =>
    obtain ⟨xs, h1, h2⟩ := h
    exact ⟨xs, by rw [ha]; exact h1, e.rvs _ _ h2⟩
  | dK lk kvs =>
    rcases h with ⟨ws, h1, h2⟩ | ⟨h1, h2, h3⟩
    · exact .inl ⟨ws, by unfold DO at h1 ⊢; rw [ha]; exact h1, e.rks _ _ h2.1, h2.2⟩
    · exact .inr ⟨h1, h2, by rw [ha]; exact h3⟩
  | dT lk kvs =>
    rcases h with ⟨ws, h1, h2⟩ | ⟨h1, h2, h3⟩
    · exact .inl ⟨ws, by unfold DO at h1 ⊢; rw [ha]; exact h1, e.rks _ _ h2.1, h2.2⟩
    · exact .inr ⟨h1, h2, by rw [ha]; exact h3⟩
  | ins c fs =>
    obtain ⟨C, dx, ws, h1, h2, h3⟩ := h
    exact ⟨C, dx, ws, h1, by rw [ha]; exact h2, e.rvf _ _ h3⟩
  | clo l ks =>
    obtain ⟨L, cl, c', h1, h2, h3, h4, h5, h6, h7⟩ := h
    refine ⟨L, cl, c', h1, by rw [ha]; exact h2, hc c' _ h3 (fun ps => LamX.codeO_ne ps), h4, h5, h6, fun j y k e1 e2 => ?_⟩
    obtain ⟨c, q1, q2, q3⟩ := h7 j y k e1 e2
    refine ⟨c, q1, Nat.lt_of_lt_of_le q2 e.n, ?_⟩
    rcases e.oldk k q2 with z | z
    · exact .inl z
    · rw [z]; exact q3
  | cell v => exact h
  | dead => exact h
theorem RO.mono {W' : Wd} (e : Ev Γ W H W' H') {o : MO} {a : Addr} (ha : H' a = H a) (hc : ∀ c u, H c = some u → (∀ ps, u ≠ .tbl ps) → H' c = some u) (h : RO Γ W H o a) : RO Γ W' H' o a := RO.mono0 e.toEv0 ha hc h
theorem RS.grow {CRel : Addr → Option V → Prop} {S : Store} (h : RS Γ CRel W S H) (hs : ∀ a o, H a = some o → H' a = some o) : RS Γ CRel W S H' where
  n := h.n
  vnone := h.vnone
  knone := h.knone
  obj := fun i o a e1 e2 => by
    have q := h.obj i o a e1 e2
    have e : Ev Γ W H W H' := Ev.grow h.fin hs
    refine RO.mono e ?_ (fun c u hc _ => hs c u hc) q
    have : ∃ u, H a = some u := by
      cases o with
      | lst ms => obtain ⟨xs, q1, _⟩ := q; exact ⟨_, q1⟩
      | dK lk kvs =>
        rcases q with ⟨ws, q1, _⟩ | ⟨_, _, q1⟩
        · unfold DO at q1; split at q1
          · obtain ⟨_, q1⟩ := q1; exact ⟨_, q1⟩
          · exact ⟨_, q1⟩
        · exact ⟨_, q1⟩
      | dT lk kvs =>
        rcases q with ⟨ws, q1, _⟩ | ⟨_, _, q1⟩
        · unfold DO at q1; split at q1
          · obtain ⟨_, q1⟩ := q1; exact ⟨_, q1⟩
          · exact ⟨_, q1⟩
        · exact ⟨_, q1⟩
      | ins c fs => obtain ⟨_, _, _, _, q1, _⟩ := q; exact ⟨_, q1⟩
      | clo l ks => obtain ⟨_, _, _, _, q1, _⟩ := q; exact ⟨_, q1⟩
      | cell v => exact q.elim
      | dead => exact q.elim
    obtain ⟨u, hu⟩ := this
    rw [hu]; exact hs _ _ hu
  live := h.live
  inj := h.inj
  cel := fun i v e => by
    obtain ⟨c, ov, q1, q2, q3⟩ := h.cel i v e
    have e : Ev Γ W H W H' := Ev.grow h.fin hs
    exact ⟨c, ov, q1, q2, fun mv hm => let ⟨x, z1, z2⟩ := q3 mv hm; ⟨x, z1, e.rv _ _ z2⟩⟩
  kdead := h.kdead
  kinj := h.kinj
  bd := fun a ha => by
    obtain ⟨⟨o, q1, q2⟩, q3⟩ := h.bd a ha
    exact ⟨⟨o, hs _ _ q1, q2⟩, q3⟩
  tab := h.tab.ext hs
  fz := h.fz
end
section
variable {Γ : Gm} {X : Cx} {mcm : List (Nat × Nat)} {σ : L2.St} {H H' : Hp} {ρ : Env} {W W' : Wd} {S S' : Store}
theorem RE.mono0 (h : RE Γ X mcm ρ σ W S H) (e : Ev0 Γ W H W' H') (hn : W.n = S.length) (hc : ∀ i k ov, (i, k) ∈ mcm → S[k]? = some (.cell ov) → S'[k]? = some (.cell ov) ∧ W'.κ k = W.κ k) : RE Γ X mcm ρ σ W' S' H' where
  len := h.len
  var := fun i mv h1 h2 => let ⟨v, q1, q2⟩ := h.var i mv h1 h2; ⟨v, q1, e.rv _ _ q2⟩
  cel := fun i k hm => by
    obtain ⟨q1, ov, q2, q3, q4⟩ := h.cel i k hm
    obtain ⟨z1, z2⟩ := hc i k ov hm q2
    exact ⟨q1, ov, z1, fun y c a b => by rw [z2]; exact q3 y c a b, fun mv hm => let ⟨v, a, b⟩ := q4 mv hm; ⟨v, a, e.rv _ _ b⟩⟩
  cfz := fun i k hm => by rw [e.fz]; exact h.cfz i k hm
theorem RE.mono (h : RE Γ X mcm ρ σ W S H) (e : Ev Γ W H W' H') (hn : W.n = S.length) (hc : ∀ i k ov, (i, k) ∈ mcm → S[k]? = some (.cell ov) → S'[k]? = some (.cell ov) ∧ W'.κ k = W.κ k) : RE Γ X mcm ρ σ W' S' H' := RE.mono0 h e.toEv0 hn hc
theorem Rel.grow (R : Rel Γ X mcm ρ σ W S H) (hs : ∀ a o, H a = some o → H' a = some o) : Rel Γ X mcm ρ σ W S H' :=
  ⟨R.rs.grow hs, R.re.mono (Ev.grow R.rs.fin hs) R.rs.n fun _ _ _ _ q => ⟨q, rfl⟩⟩
end
end Mini
namespace Mini
open PySem PySem.Spec PyProof.Rows L2
/-- one more object -/
def Wd.add (W : Wd) (p : Addr) : Wd := { W with ν := fun i => if i = W.n then some p else W.ν i, n := W.n + 1 }
def isPl : HO → Bool
  | .lst _ => true
  | .dK _ => true
  | .dT _ => true
  | .ins _ _ _ => true
  | .frz _ (.dK _) => true
  | .frz _ (.dT _) => true
  | _ => false
section
variable {Γ : Gm} {CRel : Addr → Option V → Prop} {H : Hp} {W : Wd} {S : Store} {p : Addr} {u : HO}
theorem add_lt {i : Nat} (h : i < W.n) : (W.add p).ν i = W.ν i := by
  show (if i = W.n then some p else W.ν i) = W.ν i
  rw [if_neg (by omega)]
theorem add_at : (W.add p).ν W.n = some p := by
  show (if W.n = W.n then some p else W.ν W.n) = some p
  rw [if_pos rfl]
theorem add_gt {i : Nat} (h : W.n < i) : (W.add p).ν i = W.ν i := by
  show (if i = W.n then some p else W.ν i) = W.ν i
  rw [if_neg (by omega)]
theorem Ev.add (hn : W.Fin) (hp : H p = none) : Ev Γ W H (W.add p) (upd H p u) := by
  refine ⟨⟨fun _ _ h => h, Nat.le_succ _, fun i hi => .inr (add_lt hi), fun i hi => .inr rfl, fun i a h1 h2 => ?_, fun a o q _ _ _ => same_new hp a o q, fun _ _ q => same_new hp _ _ q, fun _ _ _ q => same_new hp _ _ q, fun a o q z => ?_, hn.2, rfl⟩, fun _ h => h, fun a o _ q _ => same_new hp a o q⟩
  · by_cases e : i = W.n
    · rw [e, add_at] at h2
      cases h2; exact .inl hp
    · rw [add_gt (by omega), hn.1 i h1] at h2; cases h2
  · rw [same_new hp a o q] at z; cases z
theorem RS.vlt (h : RS Γ CRel W S H) {i : Nat} {a : Addr} (e : W.ν i = some a) : i < W.n := by
  rw [h.n]
  by_cases q : i < S.length
  · exact q
  · rw [h.vnone i (by omega)] at e; cases e
theorem RS.tracked (h : RS Γ CRel W S H) {i : Nat} {a : Addr} (e : W.ν i = some a) : ∃ u, H a = some u := by
  have hi := h.vlt e
  rw [h.n] at hi
  obtain ⟨o, ho⟩ : ∃ o, S[i]? = some o := ⟨S[i], List.getElem?_eq_getElem hi⟩
  have q := h.obj i o a ho e
  cases o with
  | lst ms => obtain ⟨xs, q1, _⟩ := q; exact ⟨_, q1⟩
  | dK lk kvs =>
    rcases q with ⟨ws, q1, _⟩ | ⟨_, _, q1⟩
    · unfold DO at q1; split at q1
      · obtain ⟨_, q1⟩ := q1; exact ⟨_, q1⟩
      · exact ⟨_, q1⟩
    · exact ⟨_, q1⟩
  | dT lk kvs =>
    rcases q with ⟨ws, q1, _⟩ | ⟨_, _, q1⟩
    · unfold DO at q1; split at q1
      · obtain ⟨_, q1⟩ := q1; exact ⟨_, q1⟩
      · exact ⟨_, q1⟩
    · exact ⟨_, q1⟩
  | ins c fs => obtain ⟨_, _, _, _, q1, _⟩ := q; exact ⟨_, q1⟩
  | clo l ks => obtain ⟨_, _, _, _, q1, _⟩ := q; exact ⟨_, q1⟩
  | cell v => exact q.elim
  | dead => exact q.elim
theorem RS.alloc (h : RS Γ CRel W S H) (hp : H p = none) {o : MO} (ho : RO Γ (W.add p) (upd H p u) o p) : RS Γ CRel (W.add p) (S ++ [o]) (upd H p u) := by
  have hv : W.Fin := h.fin
  have e : Ev Γ W H (W.add p) (upd H p u) := Ev.add hv hp
  have nc : ∀ v, o ≠ .cell v := fun v z => by rw [z] at ho; exact ho
  have nd : o ≠ .dead := fun z => by rw [z] at ho; exact ho
  have hat : ∀ {i : Nat} {o' : MO}, (S ++ [o])[i]? = some o' → (i < W.n ∧ S[i]? = some o') ∨ (i = W.n ∧ o' = o) := fun {i o'} q => by
    by_cases hi : i < S.length
    · rw [List.getElem?_append_left hi] at q
      exact .inl ⟨by rw [h.n]; exact hi, q⟩
    · rw [List.getElem?_append_right (by omega)] at q
      cases z : i - S.length with
      | zero =>
        rw [z] at q
        exact .inr ⟨by rw [h.n]; omega, (Option.some.inj q).symm⟩
      | succ m => rw [z] at q; cases q
  refine ⟨?_, fun i hi => ?_, fun i hi => ?_, fun i o' a e1 e2 => ?_, fun i o' e1 e2 => ?_, fun i j a e1 e2 => ?_, fun i v e1 => ?_, fun i c e1 => ?_, h.kinj, fun a ha => ?_, h.tab.ext (same_new hp), fun i v e => by
    have q := h.fz i v e
    rw [List.getElem?_append_left (List.getElem?_eq_some_iff.mp q).1]; exact q⟩
  · show W.n + 1 = _
    rw [List.length_append, h.n]; rfl
  · rw [List.length_append] at hi
    have hi : S.length + 1 ≤ i := hi
    rw [add_gt (by rw [h.n]; omega)]
    exact h.vnone i (by omega)
  · rw [List.length_append] at hi
    have hi : S.length + 1 ≤ i := hi
    exact h.knone i (by omega)
  · rcases hat e1 with ⟨h1, h2⟩ | ⟨h1, h2⟩
    · rw [add_lt h1] at e2
      have nep : a ≠ p := fun z => by
        obtain ⟨u', hu⟩ := h.tracked e2
        rw [z, hp] at hu; cases hu
      exact RO.mono e (upd_ne nep) (fun c u hc _ => same_new hp c u hc) (h.obj i o' a h2 e2)
    · rw [h1, add_at] at e2
      cases e2
      rw [h2]; exact ho
  · rcases hat e1 with ⟨h1, h2⟩ | ⟨h1, h2⟩
    · rw [add_lt h1] at e2
      exact h.live i o' h2 e2
    · rw [h1, add_at] at e2; cases e2
  · by_cases hi : i = W.n
    · by_cases hj : j = W.n
      · rw [hi, hj]
      · rw [hi, add_at] at e1
        cases e1
        have e2' : W.ν j = some p := by
          rcases Nat.lt_or_gt_of_ne hj with q | q
          · rw [add_lt q] at e2; exact e2
          · rw [add_gt q] at e2; exact e2
        obtain ⟨u', hu⟩ := h.tracked e2'
        rw [hp] at hu; cases hu
    · have e1' : W.ν i = some a := by
        rcases Nat.lt_or_gt_of_ne hi with q | q
        · rw [add_lt q] at e1; exact e1
        · rw [add_gt q] at e1; exact e1
      by_cases hj : j = W.n
      · rw [hj, add_at] at e2
        cases e2
        obtain ⟨u', hu⟩ := h.tracked e1'
        rw [hp] at hu; cases hu
      · have e2' : W.ν j = some a := by
          rcases Nat.lt_or_gt_of_ne hj with q | q
          · rw [add_lt q] at e2; exact e2
          · rw [add_gt q] at e2; exact e2
        exact h.inj i j a e1' e2'
  · rcases hat e1 with ⟨h1, h2⟩ | ⟨h1, h2⟩
    · obtain ⟨c, ov, q1, q2, q3⟩ := h.cel i v h2
      exact ⟨c, ov, q1, q2, fun mv hm => let ⟨x, z1, z2⟩ := q3 mv hm; ⟨x, z1, e.rv _ _ z2⟩⟩
    · exact absurd h2.symm (nc v)
  · obtain ⟨v, hv'⟩ := h.kdead i c e1
    have hi : i < S.length := (List.getElem?_eq_some_iff.mp hv').1
    exact ⟨v, by rw [List.getElem?_append_left hi]; exact hv'⟩
  · obtain ⟨⟨o', q1, q2⟩, q3⟩ := h.bd a ha
    refine ⟨⟨o', same_new hp _ _ q1, q2⟩, fun i hi => ?_⟩
    by_cases z : i = W.n
    · rw [z, add_at] at hi
      cases hi
      rw [hp] at q1; cases q1
    · rcases Nat.lt_or_gt_of_ne z with q | q
      · rw [add_lt q] at hi; exact q3 i hi
      · rw [add_gt q] at hi; exact q3 i hi
/-- an object is changed -/
theorem RS.nb (h : RS Γ CRel W S H) {l : Nat} {a : Addr} (hl : W.ν l = some a) : ¬ W.B a := fun z => (h.bd a z).2 l hl
theorem Ev.set {l : Nat} {a : Addr} {u0 : HO} (h : RS Γ CRel W S H) (hl : W.ν l = some a) (h0 : H a = some u0) (hp : isPl u0 = true) : Ev Γ W H W (upd H a u) := by
  have hn : W.Fin := h.fin
  refine ⟨⟨fun _ _ h => h, Nat.le_refl _, fun _ _ => .inr rfl, fun _ _ => .inr rfl, fun i a h1 h2 => (by rw [hn.1 i h1] at h2; cases h2), fun b o q _ nb _ => ?_, fun b xs q => ?_, fun b o xs q => ?_, fun b o q z => ?_, hn.2, rfl⟩, fun _ h => h, fun b o q1 q2 _ => (by rw [upd_ne (fun z => h.nb hl (by rw [← z]; exact q1))]; exact q2)⟩
  · rw [upd_ne (fun z => nb l (by rw [hl, z]))]; exact q
  · rw [upd_ne (fun z => by rw [z, h0] at q; cases q; cases hp)]; exact q
  · rw [upd_ne (fun z => by rw [z, h0] at q; cases q; cases hp)]; exact q
  · by_cases e : b = a
    · rw [e, upd_same] at z; cases z
    · rw [upd_ne e, q] at z; cases z
theorem RS.set (h : RS Γ CRel W S H) {l : Nat} {a : Addr} {u0 : HO} {o o' : MO} (hS : S[l]? = some o) (hl : W.ν l = some a) (h0 : H a = some u0) (hp : isPl u0 = true) (ho : RO Γ W (upd H a u) o' a) : RS Γ CRel W (S.set l o') (upd H a u) := by
  have hv : W.Fin := h.fin
  have e : Ev Γ W H W (upd H a u) := Ev.set h hl h0 hp
  have hlt : l < S.length := (List.getElem?_eq_some_iff.mp hS).1
  have nc : ∀ v, o' ≠ .cell v := fun v z => by rw [z] at ho; exact ho
  have nx : ∀ c u', H c = some u' → isPl u' = false → upd H a u c = some u' := fun c u' q1 q2 => by
    rw [upd_ne (fun z => by rw [z, h0] at q1; cases q1; rw [hp] at q2; cases q2)]; exact q1
  refine ⟨by rw [List.length_set]; exact h.n, fun i hi => h.vnone i (by rw [List.length_set] at hi; exact hi), fun i hi => h.knone i (by rw [List.length_set] at hi; exact hi), fun i o1 b e1 e2 => ?_, fun i o1 e1 e2 => ?_, h.inj, fun i v e1 => ?_, fun i c e1 => ?_, h.kinj, fun b hb => ?_, fun t ht => ?_, fun i v e => by
    have q := h.fz i v e
    have z : i ≠ l := fun z => by
      have w := h.obj l o a hS hl
      rw [z, hS] at q
      cases q
      exact w
    rw [List.getElem?_set_ne (Ne.symm z)]; exact q⟩
  · by_cases z : i = l
    · subst z
      rw [List.getElem?_set_self hlt] at e1
      cases e1
      rw [hl] at e2; cases e2
      exact ho
    · rw [List.getElem?_set_ne (Ne.symm z)] at e1
      have nba : b ≠ a := fun q => z (h.inj i l b e2 (by rw [hl, q]))
      have q := h.obj i o1 b e1 e2
      cases o1 with
      | clo l' ks =>
        obtain ⟨L, cl, c', h1, h2, h3, h4, h5, h6, h7⟩ := q
        exact ⟨L, cl, c', h1, by rw [upd_ne nba]; exact h2, nx _ _ h3 rfl, h4, h5, h6, h7⟩
      | lst ms => obtain ⟨xs, h1, h2⟩ := q; exact ⟨xs, by rw [upd_ne nba]; exact h1, e.rvs _ _ h2⟩
      | dK lk kvs =>
        rcases q with ⟨ws, h1, h2⟩ | ⟨h1, h2, h3⟩
        · exact .inl ⟨ws, by unfold DO at h1 ⊢; rw [upd_ne nba]; exact h1, e.rks _ _ h2.1, h2.2⟩
        · exact .inr ⟨h1, h2, by rw [upd_ne nba]; exact h3⟩
      | dT lk kvs =>
        rcases q with ⟨ws, h1, h2⟩ | ⟨h1, h2, h3⟩
        · exact .inl ⟨ws, by unfold DO at h1 ⊢; rw [upd_ne nba]; exact h1, e.rks _ _ h2.1, h2.2⟩
        · exact .inr ⟨h1, h2, by rw [upd_ne nba]; exact h3⟩
      | ins c fs => obtain ⟨C, dx, ws, h1, h2, h3⟩ := q; exact ⟨C, dx, ws, h1, by rw [upd_ne nba]; exact h2, e.rvf _ _ h3⟩
      | cell v => exact q
      | dead => exact q
  · by_cases z : i = l
    · rw [z, hl] at e2; cases e2
    · rw [List.getElem?_set_ne (Ne.symm z)] at e1
      exact h.live i o1 e1 e2
  · by_cases z : i = l
    · rw [z, List.getElem?_set_self hlt] at e1
      exact absurd (Option.some.inj e1) (nc v)
    · rw [List.getElem?_set_ne (Ne.symm z)] at e1
      obtain ⟨c, ov, q1, q2, q3⟩ := h.cel i v e1
      exact ⟨c, ov, q1, q2, fun mv hm => let ⟨x, z1, z2⟩ := q3 mv hm; ⟨x, z1, e.rv _ _ z2⟩⟩
  · obtain ⟨v, hv'⟩ := h.kdead i c e1
    have z : i ≠ l := fun z => by
      have q := h.obj l o a hS hl
      rw [z, hS] at hv'
      cases hv'
      exact q
    exact ⟨v, by rw [List.getElem?_set_ne (Ne.symm z)]; exact hv'⟩
  · obtain ⟨⟨ob, q1, q2⟩, q3⟩ := h.bd b hb
    exact ⟨⟨ob, e.keep b ob q1 q3 q2, q2⟩, q3⟩
  · obtain ⟨ps, h1, h2, h3⟩ := h.tab t ht
    refine ⟨ps, nx _ _ h1 rfl, h2, fun pos cv hc => ?_⟩
    obtain ⟨c, e1, e2⟩ := h3 pos cv hc
    exact ⟨c, e1, nx _ _ e2 rfl⟩
end
section
variable {Γ : Gm} {X : Cx} {mcm : List (Nat × Nat)} {σ : L2.St} {H : Hp} {ρ : Env} {W : Wd} {S : Store} {p : Addr} {u : HO}
theorem Rel.hv (R : Rel Γ X mcm ρ σ W S H) : W.Fin := R.rs.fin
theorem Rel.alloc (R : Rel Γ X mcm ρ σ W S H) (hp : H p = none) {o : MO} (ho : RO Γ (W.add p) (upd H p u) o p) : Rel Γ X mcm ρ σ (W.add p) (S ++ [o]) (upd H p u) :=
  ⟨R.rs.alloc hp ho, R.re.mono (Ev.add R.hv hp) R.rs.n fun i k ov _ q => ⟨by
    rw [List.getElem?_append_left (List.getElem?_eq_some_iff.mp q).1]; exact q, rfl⟩⟩
theorem Rel.set (R : Rel Γ X mcm ρ σ W S H) {l : Nat} {a : Addr} {u0 : HO} {o o' : MO} (hS : S[l]? = some o) (hl : W.ν l = some a) (h0 : H a = some u0) (hp : isPl u0 = true) (ho : RO Γ W (upd H a u) o' a) : Rel Γ X mcm ρ σ W (S.set l o') (upd H a u) :=
  ⟨R.rs.set hS hl h0 hp ho, R.re.mono (Ev.set R.rs hl h0 hp) R.rs.n fun i k ov _ q => ⟨by
    have z : k ≠ l := fun z => by
      have qq := R.rs.obj l o a hS hl
      rw [z, hS] at q
      cases q
      exact qq
    rw [List.getElem?_set_ne (Ne.symm z)]; exact q, rfl⟩⟩
/-- a new list that is kept -/
theorem Rel.newL (R : Rel Γ X mcm ρ σ W S H) (hp : H p = none) {ms : List MV} {xs : List V} (r : RVs Γ W H ms xs) :
    Ev Γ W H (W.add p) (upd H p (.lst xs)) ∧ Rel Γ X mcm ρ σ (W.add p) (S ++ [.lst ms]) (upd H p (.lst xs)) ∧ RV Γ (W.add p) (upd H p (.lst xs)) (.loc S.length) (.ref p) := by
  have e : Ev Γ W H (W.add p) (upd H p (.lst xs)) := Ev.add R.hv hp
  refine ⟨e, R.alloc hp ⟨xs, upd_same, e.rvs _ _ r⟩, p, rfl, ?_, .inr ?_⟩
  · show _ < W.n + 1
    rw [R.rs.n]; exact Nat.lt_succ_self _
  · rw [← R.rs.n]; exact add_at
/-- a new list that is only read -/
theorem Rel.newF (R : Rel Γ X mcm ρ σ W S H) (hp : H p = none) {ms : List MV} {xs : List V} (hpure : ms.all pureV = true) (r : RVs Γ W H ms xs) :
    Ev Γ W H W (upd H p (.lst xs)) ∧ Rel Γ X mcm ρ σ W S (upd H p (.lst xs)) ∧ RV Γ W (upd H p (.lst xs)) (.fls ms) (.ref p) := by
  have e : Ev Γ W H W (upd H p (.lst xs)) := Ev.grow R.hv (same_new hp)
  refine ⟨e, R.grow (same_new hp), p, xs, rfl, upd_same, ⟨fun z => ?_, fun i hi => ?_⟩, e.rps (RPs.of_pure hpure r)⟩
  · obtain ⟨⟨o, q, _⟩, _⟩ := R.rs.bd p z
    rw [hp] at q; cases q
  · obtain ⟨o, q⟩ := R.rs.tracked hi
    rw [hp] at q; cases q
/-- a new tuple -/
theorem Rel.newT (R : Rel Γ X mcm ρ σ W S H) (hp : H p = none) {ms : List MV} {xs : List V} (r : RVs Γ W H ms xs) :
    Ev Γ W H W (upd H p (.tup xs)) ∧ Rel Γ X mcm ρ σ W S (upd H p (.tup xs)) ∧ RV Γ W (upd H p (.tup xs)) (mkTup ms) (.ref p) := by
  have e : Ev Γ W H W (upd H p (.tup xs)) := Ev.grow R.hv (same_new hp)
  exact ⟨e, R.grow (same_new hp), RV.mkTup upd_same (e.rvs _ _ r)⟩
/-- a new tuple whose object is known -/
theorem Rel.newB (R : Rel Γ X mcm ρ σ W S H) (hp : H p = none) {ms : List MV} {xs : List V} {o : Obj} (ho : o.dict = none) (hpure : ms.all pureV = true) (r : RVs Γ W H ms xs) :
    Ev Γ W H W (upd H p (.frz o (.tup xs))) ∧ Rel Γ X mcm ρ σ W S (upd H p (.frz o (.tup xs))) ∧ RV Γ W (upd H p (.frz o (.tup xs))) (.tupB ms) (.ref p) := by
  have e : Ev Γ W H W (upd H p (.frz o (.tup xs))) := Ev.grow R.hv (same_new hp)
  exact ⟨e, R.grow (same_new hp), p, xs, rfl, ⟨o, upd_same, ho⟩, e.rps (RPs.of_pure hpure r)⟩
/-- a list is made, as mkL has it -/
theorem mkL_ok {k : Bool} {ms : List MV} {xs : List V} {W0 : WX} {Q : VK} (R : Rel Γ X mcm ρ σ W S H) (r : RVs Γ W H ms xs) (h : WnE Γ X mcm W0 ρ σ W H (mkL k ms S) Q) :
    xs.length ≤ sizeLine ∧ ∀ p, H p = none → Q (.ref p) (upd H p (.lst xs)) := by
  unfold mkL at h
  by_cases hl : ms.length ≤ line
  · rw [if_pos hl] at h
    refine ⟨by rw [r.len, sizeLine_eq]; exact hl, fun p hp => ?_⟩
    by_cases hk : (k || !ms.all pureV) = true
    · rw [if_pos hk] at h
      obtain ⟨e, R', rv⟩ := R.newL hp r
      exact h _ _ e R' _ rv
    · rw [if_neg hk] at h
      have hpure : ms.all pureV = true := by
        cases z : ms.all pureV with
        | true => rfl
        | false => rw [z] at hk; simp at hk
      obtain ⟨e, R', rv⟩ := R.newF hp hpure r
      exact h _ _ e R' _ rv
  · rw [if_neg hl] at h
    exact False.elim h
/-- a list read -/
theorem asList_ok {m : MV} {ms : List MV} {v : V} (R : Rel Γ X mcm ρ σ W S H) (e : asList m S = some ms) (h : RV Γ W H m v) : ∃ a xs, v = .ref a ∧ H a = some (.lst xs) ∧ RVs Γ W H ms xs := by
  cases m with
  | fls vs =>
    cases e
    obtain ⟨a, xs, e1, q, _, r⟩ := h
    exact ⟨a, xs, e1, q, RVs.of_rps r⟩
  | loc i =>
    obtain ⟨a, e1, hi, hv⟩ := h
    unfold asList at e
    cases q : S[i]? with
    | none => simp [q] at e
    | some o =>
      simp only [q] at e
      cases o with
      | lst ws =>
        cases e
        rcases hv with z | z
        · rcases R.rs.live i _ q z with z | ⟨_, z⟩ <;> cases z
        · obtain ⟨xs, h1, h2⟩ := R.rs.obj i _ a q z
          exact ⟨a, xs, e1, h1, h2⟩
      | _ => cases e
  | _ => cases e
theorem asSeq_ok {m : MV} {ms : List MV} {v : V} (R : Rel Γ X mcm ρ σ W S H) (e : asSeq m S = some ms) (h : RV Γ W H m v) : ∃ a xs, v = .ref a ∧ (SqL Γ.K H a xs ∨ SqT Γ.K H a xs) ∧ RVs Γ W H ms xs := by
  unfold asSeq at e
  cases z : asTup m with
  | some vs =>
    rw [z] at e
    cases e
    obtain ⟨a, xs, e1, q, r⟩ := RV.asTup z h
    exact ⟨a, xs, e1, .inr q.sq, r⟩
  | none =>
    rw [z] at e
    cases m with
    | scr vs =>
      cases e
      obtain ⟨a, xs, e1, q, _, r⟩ := h
      exact ⟨a, xs, e1, .inl (.inl q), RVs.of_rps r⟩
    | fls vs =>
      obtain ⟨a, xs, e1, q, r⟩ := asList_ok R e h
      exact ⟨a, xs, e1, .inl (.inl (.inl q)), r⟩
    | loc i =>
      obtain ⟨a, xs, e1, q, r⟩ := asList_ok R e h
      exact ⟨a, xs, e1, .inl (.inl (.inl q)), r⟩
    | tup vs => cases z
    | tupL vs => cases z
    | tupB vs => cases z
    | _ => cases e
end
end Mini
namespace Mini
open PySem PySem.Spec PyProof.Rows L2
theorem OpR.or {X : Cx} {f : Value → Value → Sem Value} {r r' : R2} (h : OpR X f r) (h' : OpR X f r') : OpR X f (fun x y H Q => r x y H Q ∨ r' x y H Q) :=
  fun pins s σ H x y v u Q I rx ry q => q.elim (h pins s σ H x y v u Q I rx ry) (h' pins s σ H x y v u Q I rx ry)
theorem line_eq : line = sizeLine := by rw [sizeLine_eq]; rfl
theorem small_ok {i : Int} (h : small i = true) : -(2 ^ 64) < i ∧ i < 2 ^ 64 := by
  have := of_decide_eq_true h
  omega
def rAddM (K : PySem.W.Frag) : R2 := fun x y H Q => rI0 (fun i j => .int (i + j)) x y H Q ∨ (∃ i j, x = .str i ∧ y = .str j ∧ i.length + j.length ≤ sizeLine ∧ Q (.str (i ++ j)) H) ∨ rCatA K x y H Q ∨ rCat x y H Q
def rMulM (K : PySem.W.Frag) : R2 := fun x y H Q => rI CMul (fun i j => .int (i * j)) x y H Q ∨ rRepT K x y H Q ∨ rRep x y H Q
def rBin (K : PySem.W.Frag) : Bop → R2
  | .add => rAddM K
  | .sub => rI0 fun i j => .int (i - j)
  | .mul => rMulM K
  | .fdiv => rI CDivN fun i j => .int (i.fdiv j)
  | .mod => rI (fun _ j => j ≠ 0) fun i j => .int (i.fmod j)
  | .pow => rI CPow fun i j => .int (i ^ j.toNat)
  | .shl => rI CPow fun i j => .int (i * 2 ^ j.toNat)
  | .band => rI0 fun i j => .int (Builtin.bitAnd i j)
def bopOf : Bop → Operator
  | .add => .Add
  | .sub => .Sub
  | .mul => .Mult
  | .fdiv => .FloorDiv
  | .mod => .Mod
  | .pow => .Pow
  | .shl => .LShift
  | .band => .BitAnd
theorem op_binM {X : Cx} (op : Bop) : OpR X (binaryOp (bopOf op)) (rBin X.K op) := by
  cases op with
  | add => exact OpR.or op_add (OpR.or op_add_str (OpR.or op_catA op_cat))
  | sub => exact op_sub
  | mul => exact OpR.or op_mul (OpR.or op_repT op_rep)
  | fdiv => exact op_fdivN
  | mod => exact op_modN
  | pow => exact op_pow
  | shl => exact op_shl
  | band => exact op_and
section
variable {Γ : Gm} {X : Cx} {mcm : List (Nat × Nat)} {σ : L2.St} {H : Hp} {ρ : Env} {W : Wd} {S : Store} {W0 : WX} {Q : VK}
theorem mkL_true {ms : List MV} : mkL true ms S = if ms.length ≤ line then .ok (.loc S.length) (S ++ [.lst ms]) else .bad := by
  unfold mkL
  simp
theorem RVs.rep {ms : List MV} {xs : List V} (r : RVs Γ W H ms xs) : ∀ k : Nat, RVs Γ W H (List.replicate k ms).flatten (List.replicate k xs).flatten
  | 0 => rfl
  | k + 1 => by
    rw [List.replicate_succ, List.replicate_succ, List.flatten_cons, List.flatten_cons]
    exact r.app (RVs.rep r k)
theorem nil_of {ms : List MV} {xs : List V} (r : RVs Γ W H ms xs) : xs = [] ↔ ms = [] := by
  rw [← List.length_eq_zero_iff, ← List.length_eq_zero_iff, r.len]
theorem addS_ok {mv nv : MV} {x y : V} (hK : X.K = Γ.K) (R : Rel Γ X mcm ρ σ W S H) (rx : RV Γ W H mv x) (ry : RV Γ W H nv y)
    (h : WnE Γ X mcm W0 ρ σ W H (match asTup mv, asTup nv with
    | some xs, some ys => if decide (xs.length + ys.length ≤ line) then (if xs.isEmpty then .ok nv S else if ys.isEmpty then .ok mv S else .ok (mkTup (xs ++ ys)) S) else .bad
    | none, none =>
      match asList mv S, asList nv S with
      | some xs, some ys => if decide (xs.length + ys.length ≤ line) then mkL true (xs ++ ys) S else .bad
      | _, _ => .bad
    | _, _ => .bad) Q) : rAddM X.K x y H Q := by
  cases e1 : asTup mv with
  | some xs =>
    cases e2 : asTup nv with
    | none => rw [e1, e2] at h; exact h.elim
    | some ys =>
      rw [e1, e2] at h
      dsimp only at h
      split at h
      · rename_i hl
        have hl := of_decide_eq_true hl
        obtain ⟨a, vs, rfl, q1, r1⟩ := RV.asTup e1 rx
        obtain ⟨b, ws, rfl, q2, r2⟩ := RV.asTup e2 ry
        refine .inr (.inr (.inl ⟨a, b, vs, ws, rfl, rfl, q1.sq, q2.sq, by rw [r1.len, r2.len, ← line_eq]; exact hl, fun z => ?_, fun z1 z2 => ?_, fun z1 z2 p hp => ?_⟩))
        · rw [if_pos (by rw [(nil_of r1).mp z]; rfl)] at h
          exact WnE.here R h ry
        · rw [if_neg (by rw [List.isEmpty_iff]; exact fun z => z1 ((nil_of r1).mpr z)), if_pos (by rw [(nil_of r2).mp z2]; rfl)] at h
          exact WnE.here R h rx
        · rw [if_neg (by rw [List.isEmpty_iff]; exact fun z => z1 ((nil_of r1).mpr z)), if_neg (by rw [List.isEmpty_iff]; exact fun z => z2 ((nil_of r2).mpr z))] at h
          obtain ⟨e, R', rv⟩ := R.newT hp (r1.app r2)
          exact h _ _ e R' _ rv
      · exact h.elim
  | none =>
    cases e2 : asTup nv with
    | some xs => rw [e1, e2] at h; exact h.elim
    | none =>
      rw [e1, e2] at h
      dsimp only at h
      cases f1 : asList mv S with
      | none => rw [f1] at h; exact h.elim
      | some xs =>
        cases f2 : asList nv S with
        | none => rw [f1, f2] at h; exact h.elim
        | some ys =>
          rw [f1, f2] at h
          dsimp only at h
          split at h
          · rename_i hl
            have hl := of_decide_eq_true hl
            obtain ⟨a, vs, rfl, q1, r1⟩ := asList_ok R f1 rx
            obtain ⟨b, ws, rfl, q2, r2⟩ := asList_ok R f2 ry
            obtain ⟨_, k⟩ := mkL_ok R (r1.app r2) h
            exact .inr (.inr (.inr ⟨a, b, vs, ws, rfl, rfl, q1, q2, by rw [r1.len, r2.len, ← line_eq]; exact hl, k⟩))
          · exact h.elim
theorem mulS_ok {mv : MV} {k : Int} {x y : V} (hK : X.K = Γ.K) (R : Rel Γ X mcm ρ σ W S H) (rx : RV Γ W H mv x) (ry : y = .int k)
    (h : WnE Γ X mcm W0 ρ σ W H (match asTup mv with
    | some xs => if !xs.isEmpty && decide (2 ≤ k) && decide (k ≤ 1000) && decide (xs.length ≤ 1000) then .ok (mkTup (List.replicate k.toNat xs).flatten) S else .bad
    | none => match asList mv S with
      | some xs => if decide (0 ≤ k) && decide (k < 9223372036854775808) && decide (xs.length * k.toNat ≤ line) then mkL true ((List.replicate k.toNat xs).flatten) S else .bad
      | none => .bad) Q) : rMulM X.K x y H Q := by
  subst ry
  cases e1 : asTup mv with
  | some xs =>
    rw [e1] at h
    dsimp only at h
    split at h
    · rename_i hl
      simp only [Bool.and_eq_true, decide_eq_true_eq, Bool.not_eq_true', List.isEmpty_eq_false_iff] at hl
      obtain ⟨⟨⟨h1, h2⟩, h3⟩, h4⟩ := hl
      obtain ⟨a, vs, rfl, q1, r1⟩ := RV.asTup e1 rx
      refine .inr (.inl ⟨a, k, vs, rfl, rfl, q1.sq, fun z => h1 ((nil_of r1).mp z), h2, h3, by rw [r1.len]; exact h4, fun p hp => ?_⟩)
      obtain ⟨e, R', rv⟩ := R.newT hp (r1.rep k.toNat)
      exact h _ _ e R' _ rv
    · exact h.elim
  | none =>
    rw [e1] at h
    dsimp only at h
    cases f1 : asList mv S with
    | none => rw [f1] at h; exact h.elim
    | some xs =>
      rw [f1] at h
      dsimp only at h
      split at h
      · rename_i hl
        simp only [Bool.and_eq_true, decide_eq_true_eq] at hl
        obtain ⟨⟨h1, h2⟩, h3⟩ := hl
        obtain ⟨a, vs, rfl, q1, r1⟩ := asList_ok R f1 rx
        obtain ⟨_, kk⟩ := mkL_ok R (r1.rep k.toNat) h
        exact .inr (.inr ⟨a, k, vs, rfl, rfl, q1, by omega, by omega, by rw [r1.len, ← line_eq]; exact h3, kk⟩)
      · exact h.elim
theorem bin_ok {op : Bop} {mv nv : MV} {x y : V} (hK : X.K = Γ.K) (R : Rel Γ X mcm ρ σ W S H) (rx : RV Γ W H mv x) (ry : RV Γ W H nv y) (h : WnE Γ X mcm W0 ρ σ W H (binM op mv nv S) Q) : rBin X.K op x y H Q := by
  unfold binM at h
  split at h
  · rw [show x = _ from rx, show y = _ from ry]
    exact .inl ⟨_, _, rfl, rfl, WnE.here R h rfl⟩
  · rw [show x = _ from rx, show y = _ from ry]
    split at h
    · exact .inr (.inl ⟨_, _, rfl, rfl, by rw [← line_eq]; assumption, WnE.here R h rfl⟩)
    · exact h.elim
  · rw [show x = _ from rx, show y = _ from ry]
    exact ⟨_, _, rfl, rfl, WnE.here R h rfl⟩
  · rw [show x = _ from rx, show y = _ from ry]
    split at h
    · rename_i q
      refine .inl ⟨_, _, rfl, rfl, ?_, WnE.here R h rfl⟩
      rcases Bool.or_eq_true_iff.mp q with q | q
      · exact .inl (small_ok q)
      · exact .inr (small_ok q)
    · exact h.elim
  · rw [show x = _ from rx, show y = _ from ry]
    split at h
    · rename_i q
      simp only [Bool.and_eq_true, decide_eq_true_eq, bne_iff_ne] at q
      exact ⟨_, _, rfl, rfl, ⟨q.1, q.2⟩, WnE.here R h rfl⟩
    · exact h.elim
  · rw [show x = _ from rx, show y = _ from ry]
    split at h
    · rename_i q
      simp only [bne_iff_ne] at q
      exact ⟨_, _, rfl, rfl, q, WnE.here R h rfl⟩
    · exact h.elim
  · rw [show x = _ from rx, show y = _ from ry]
    split at h
    · rename_i q
      simp only [Bool.and_eq_true, decide_eq_true_eq] at q
      exact ⟨_, _, rfl, rfl, ⟨q.1.1, q.1.2, by have := of_decide_eq_true q.2; omega⟩, WnE.here R h rfl⟩
    · exact h.elim
  · rw [show x = _ from rx, show y = _ from ry]
    split at h
    · rename_i q
      simp only [Bool.and_eq_true, decide_eq_true_eq] at q
      exact ⟨_, _, rfl, rfl, ⟨q.1.1, q.1.2, by have := of_decide_eq_true q.2; omega⟩, WnE.here R h rfl⟩
    · exact h.elim
  · rw [show x = _ from rx, show y = _ from ry]
    exact ⟨_, _, rfl, rfl, WnE.here R h rfl⟩
  · exact addS_ok hK R rx ry h
  · exact mulS_ok hK R rx ry h
  · exact h.elim
/-- a op b -/
theorem snd_bin {a b : Expr} {pos : Pos} {ma mb : EvM} (op : Bop) (hK : X.K = Γ.K) (ha : PE X a (tE Γ X mcm W0 ma)) (hb : PE X b (tE Γ X mcm W0 mb)) :
    PE X (.BinOp a (bopOf op) b pos) (tE Γ X mcm W0 fun ρ S => (ma ρ S).bind fun x S => (mb ρ S).bind fun y S => binM op x y S) := by
  refine PE.imp (pe_op (op_binM op) ha hb) fun σ H Q h => ?_
  obtain ⟨W, ρ, S, R, h⟩ := h
  refine tE.mono (stepE R h) ?_
  rintro x H1 ⟨mv, W1, S1, rx, e1, R1, h1⟩
  refine tE.mono (stepE R1 h1) ?_
  rintro y H2 ⟨nv, W2, S2, ry, e2, R2, h2⟩
  exact bin_ok hK R2 (e2.rv _ _ rx) ry h2
theorem un_neg' : UnR X (unaryOp .USub) (rU fun i => .int (-i)) := un_neg
theorem snd_neg {a : Expr} {pos : Pos} {ma : EvM} (ha : PE X a (tE Γ X mcm W0 ma)) :
    PE X (.UnaryOp .USub a pos) (tE Γ X mcm W0 fun ρ S => (ma ρ S).bind fun x S => match x with
      | .int i => .ok (.int (-i)) S
      | _ => .bad) := by
  refine PE.imp (pe_un un_neg ha) fun σ H Q h => ?_
  obtain ⟨W, ρ, S, R, h⟩ := h
  refine tE.mono (stepE R h) ?_
  rintro x H1 ⟨mv, W1, S1, rx, e1, R1, h1⟩
  cases mv with
  | int i => exact ⟨i, rx, WnE.here R1 h1 rfl⟩
  | _ => exact h1.elim
end
end Mini
namespace Mini
open PySem PySem.Spec PyProof.Rows L2
theorem Inv.retype {X : Cx} {pins : List (Addr × Obj)} {σ : L2.St} {H : Hp} {s : Shared} {a : Addr} {o : HO} (I : Inv X pins σ H s) (mu : Mut (H a)) (hex : ∃ u, s.heap.get? a = some u) (new : ObjOk X.prog X.w (upd H a o) s.heap a o) : Inv X pins σ (upd H a o) s := by
  obtain ⟨ob, hob⟩ := hex
  have na : ∀ b, H b = none → b ≠ a := fun b h z => by rw [z] at h; rw [h] at mu; exact mu
  refine ⟨I.ok, I.os, I.bare, I.base.trans (Un.write mu (.inl rfl) (fun _ _ _ h => h) ⟨ob, hob⟩), I.loc, I.cell, ?_, fun x c e => ?_, fun p hp => ?_, I.hok.write mu (.inl rfl) (fun _ _ _ h => h) ⟨ob, hob⟩ new, I.len⟩
  · rw [upd_ne (na _ I.free)]; exact I.free
  · rw [upd_ne (na _ (I.freeC x c e))]; exact I.freeC x c e
  · obtain ⟨h1, h2, h3⟩ := I.pin p hp
    exact ⟨h1, by rw [upd_ne (na _ h2)]; exact h2, h3⟩
theorem dT_of_dK {P : Program} {w : World} {H : Hp} {h : Heap} {a : Addr} (q : ObjOk P w H h a (.dK [])) (H' : Hp) : ObjOk P w H' h a (.dT []) := by
  obtain ⟨z, y, vs, r, d⟩ := q
  cases r
  obtain ⟨o, es, ep, h1, h2, h3, h4, h5, h6⟩ := d
  have e : es.toList = [] := by
    cases z : es.toList with
    | nil => rfl
    | cons a b => rw [z] at h5; cases h5
  exact ⟨z, y, [], .nil, o, es, ep, h1, h2, h3, e, List.nodup_nil⟩
theorem dK_of_dT {P : Program} {w : World} {H : Hp} {h : Heap} {a : Addr} (q : ObjOk P w H h a (.dT [])) (H' : Hp) : ObjOk P w H' h a (.dK []) := by
  obtain ⟨z, y, xs, r, o, es, ep, h1, h2, h3, h4, _⟩ := q
  cases r
  have e : es.toList = [] := h4
  refine ⟨z, y, [], .nil, o, es, ep, h1, h2, h3, ?_, ?_, List.nodup_nil⟩
  · intro en hj
    have hj : en ∈ es.toList := Array.mem_toList_iff.mpr hj
    rw [e] at hj
    cases hj
  · rw [e]; constructor
end Mini
namespace Mini
open PySem PySem.Spec PyProof.Rows L2
theorem seqStr_eq (a b : Str) : seqStr a b = decide (a = b) := by
  unfold seqStr
  by_cases h : a = b
  · subst h; simp
  · have : a.cps.toList ≠ b.cps.toList := fun z => h (by
      cases a; cases b
      simp only [Str.mk.injEq]
      exact Array.toList_inj.mp z)
    rw [decide_eq_false h]
    exact beq_eq_false_iff_ne.mpr this
theorem kEq_eq (a b : Key) : kEq a b = decide (a = b) := by
  cases a with
  | inl i =>
    cases b with
    | inl j => exact (key_ll i j).symm
    | inr y => exact (key_lr i y).symm
  | inr x =>
    cases b with
    | inl j => exact (key_rl x j).symm
    | inr y => rw [key_rr]; exact seqStr_eq x y
theorem tkEq_eq : ∀ a b : List Key, tkEq a b = decide (a = b)
  | [], [] => by simp [tkEq]
  | [], _ :: _ => by simp [tkEq]
  | _ :: _, [] => by simp [tkEq]
  | x :: xs, y :: ys => by
    unfold tkEq
    rw [kEq_eq, tkEq_eq xs ys]
    by_cases h1 : x = y
    · by_cases h2 : xs = ys
      · subst h1; subst h2; simp
      · simp [h1, h2]
    · simp [h1]
section
variable {Γ : Gm} {W : Wd} {H : Hp} {κ : Type} [DecidableEq κ] {eq : κ → κ → Bool}
theorem RKs.get (he : ∀ a b, eq a b = decide (a = b)) {k : κ} : ∀ {ms : List (κ × MV)} {xs : List (κ × V)}, RKs Γ W H ms xs → match gGet eq k ms with
    | none => valV xs k = none
    | some m => ∃ v, valV xs k = some v ∧ RV Γ W H m v
  | [], _, h => by
    rw [show _ = [] from h]
    rfl
  | (k0, m) :: ms, _, h => by
    obtain ⟨v, vs, e, r1, r2⟩ := h
    rw [e]
    unfold gGet
    rw [he]
    by_cases q : k0 = k
    · rw [decide_eq_true q, if_pos rfl]
      exact ⟨v, valV_pos q, r1⟩
    · rw [decide_eq_false q, if_neg (by decide), valV_neg q]
      exact RKs.get he r2
theorem RKs.len : ∀ {ms : List (κ × MV)} {xs : List (κ × V)}, RKs Γ W H ms xs → xs.length = ms.length
  | [], _, h => by rw [show _ = [] from h]; rfl
  | (k, m) :: ms, _, h => by
    obtain ⟨v, vs, e, _, r⟩ := h
    rw [e, List.length_cons, List.length_cons, RKs.len r]
theorem RKs.keys : ∀ {ms : List (κ × MV)} {xs : List (κ × V)}, RKs Γ W H ms xs → xs.map (·.1) = ms.map (·.1)
  | [], _, h => by rw [show _ = [] from h]; rfl
  | (k, m) :: ms, _, h => by
    obtain ⟨v, vs, e, _, r⟩ := h
    rw [e, List.map_cons, List.map_cons, RKs.keys r]
theorem RKs.app : ∀ {ms ns : List (κ × MV)} {xs ys : List (κ × V)}, RKs Γ W H ms xs → RKs Γ W H ns ys → RKs Γ W H (ms ++ ns) (xs ++ ys)
  | [], _, _, _, h, h' => by rw [show _ = [] from h]; exact h'
  | (k, m) :: ms, _, _, _, h, h' => by
    obtain ⟨v, vs, e, r1, r⟩ := h
    rw [e]
    exact ⟨v, _, rfl, r1, RKs.app r h'⟩
theorem putK_cons_eq {k : κ} {v v0 : V} {r : List (κ × V)} (hnd : ((k, v0) :: r).map (·.1) |>.Nodup) : putK ((k, v0) :: r) k v = (k, v) :: r := by
  unfold putK
  have h1 : (((k, v0) :: r).any fun kv => decide (kv.1 = k)) = true := by simp
  rw [if_pos h1, List.map_cons, if_pos rfl]
  congr 1
  have hn : ∀ p ∈ r, p.1 ≠ k := fun p hp z => by
    rw [List.map_cons, List.nodup_cons] at hnd
    exact hnd.1 (List.mem_map.mpr ⟨p, hp, z⟩)
  conv => rhs; rw [← List.map_id r]
  exact List.map_congr_left fun p hp => by rw [if_neg (hn p hp)]; rfl
theorem putK_cons_ne {k k0 : κ} {v v0 : V} {r : List (κ × V)} (h : ¬ k0 = k) : putK ((k0, v0) :: r) k v = (k0, v0) :: putK r k v := by
  unfold putK
  have e : (((k0, v0) :: r).any fun kv => decide (kv.1 = k)) = (r.any fun kv => decide (kv.1 = k)) := by
    rw [List.any_cons, decide_eq_false h, Bool.false_or]
  rw [e]
  by_cases q : (r.any fun kv => decide (kv.1 = k)) = true
  · rw [if_pos q, if_pos q, List.map_cons, if_neg h]
  · rw [if_neg q, if_neg q, List.cons_append]
theorem RKs.put (he : ∀ a b, eq a b = decide (a = b)) {k : κ} {m : MV} {v : V} (rv : RV Γ W H m v) : ∀ {ms : List (κ × MV)} {xs : List (κ × V)}, (xs.map (·.1)).Nodup → RKs Γ W H ms xs → RKs Γ W H (gPut eq k m ms) (putK xs k v)
  | [], _, _, h => by
    rw [show _ = [] from h]
    exact ⟨v, [], rfl, rv, rfl⟩
  | (k0, m0) :: ms, _, nd, h => by
    obtain ⟨v0, vs, e, r1, r2⟩ := h
    rw [e] at nd ⊢
    unfold gPut
    rw [he]
    by_cases q : k0 = k
    · rw [decide_eq_true q, if_pos rfl]
      subst q
      rw [putK_cons_eq nd]
      exact ⟨v, vs, rfl, rv, r2⟩
    · rw [decide_eq_false q, if_neg (by decide), putK_cons_ne q]
      exact ⟨v0, _, rfl, r1, RKs.put he rv (by rw [List.map_cons, List.nodup_cons] at nd; exact nd.2) r2⟩
end
theorem keyOf_ok {Γ : Gm} {W : Wd} {H : Hp} {m : MV} {k : Key} {y : V} (e : keyOf m = some k) (r : RV Γ W H m y) : y = kV k := by
  cases m with
  | int i => cases e; exact r
  | str x => cases e; exact r
  | _ => cases e
theorem keysOf_ok {Γ : Gm} {Av : Addr → Prop} {H : Hp} : ∀ {ms : List MV} {ks : List Key} {xs : List V}, keysOf ms = some ks → RPs Γ Av H ms xs → xs = ks.map kV
  | [], ks, xs, e, r => by
    cases e
    rw [show xs = [] from r]; rfl
  | m :: ms, ks, xs, e, r => by
    obtain ⟨v, vs, q, r1, r2⟩ := r
    unfold keysOf at e
    cases h1 : keyOf m with
    | none => simp [h1] at e
    | some k =>
      cases h2 : keysOf ms with
      | none => simp [h1, h2] at e
      | some ks' =>
        simp [h1, h2] at e
        subst e
        rw [q, keysOf_ok h2 r2, List.map_cons]
        congr 1
        cases m with
        | int i => cases h1; exact r1
        | str x => cases h1; exact r1
        | _ => cases h1
theorem tkeyOf_ok {Γ : Gm} {W : Wd} {H : Hp} {m : MV} {k : List Key} {y : V} (e : tkeyOf m = some k) (r : RV Γ W H m y) : ∃ b, y = .ref b ∧ H b = some (.tup (k.map kV)) := by
  cases m with
  | tup vs =>
    obtain ⟨a, xs, e1, q, rr⟩ := r
    exact ⟨a, e1, by rw [q, keysOf_ok e rr]⟩
  | _ => cases e
def Rt (H : Hp) (a : Addr) (H' : Hp) : Prop := H' = H ∨ (H a = some (.dK []) ∧ H' = upd H a (.dT [])) ∨ (H a = some (.dT []) ∧ H' = upd H a (.dK []))
theorem inv_rt {X : Cx} {pins : List (Addr × Obj)} {σ : L2.St} {H H' : Hp} {s : Shared} {a : Addr} (I : Inv X pins σ H s) (h : Rt H a H') : Inv X pins σ H' s := by
  rcases h with rfl | ⟨h, rfl⟩ | ⟨h, rfl⟩
  · exact I
  · have q := I.hok a _ h
    refine Inv.retype I (by rw [h]; trivial) ?_ (dT_of_dK q _)
    obtain ⟨_, _, _, _, o, _, _, e, _⟩ := q
    exact ⟨o, e⟩
  · have q := I.hok a _ h
    refine Inv.retype I (by rw [h]; trivial) ?_ (dK_of_dT q _)
    obtain ⟨_, _, _, _, o, _, _, e, _⟩ := q
    exact ⟨o, e⟩
section
variable {Γ : Gm} {X : Cx} {mcm : List (Nat × Nat)} {σ : L2.St} {H H' : Hp} {ρ : Env} {W : Wd} {S : Store} {l : Nat} {a : Addr} {o : MO}
theorem set_self {α : Type} : ∀ {xs : List α} {i : Nat} {x : α}, xs[i]? = some x → xs.set i x = xs
  | [], _, _, h => by simp at h
  | _ :: _, 0, _, h => by simp at h; rw [List.set_cons_zero, h]
  | y :: ys, i + 1, x, h => by
    rw [List.set_cons_succ, set_self (by simpa using h)]
theorem Rel.rt (R : Rel Γ X mcm ρ σ W S H) (hS : S[l]? = some o) (hl : W.ν l = some a) (ho : o = .dK false [] ∨ o = .dT false []) (h : Rt H a H') : Ev Γ W H W H' ∧ Rel Γ X mcm ρ σ W S H' := by
  rcases h with rfl | ⟨h, rfl⟩ | ⟨h, rfl⟩
  · exact ⟨R.evr, R⟩
  · refine ⟨Ev.set R.rs hl h rfl, ?_⟩
    have q := R.set (o' := o) (u := .dT []) hS hl h rfl (by
      rcases ho with rfl | rfl
      · exact .inr ⟨rfl, rfl, upd_same⟩
      · exact .inl ⟨[], upd_same, rfl, List.nodup_nil⟩)
    rw [set_self hS] at q
    exact q
  · refine ⟨Ev.set R.rs hl h rfl, ?_⟩
    have q := R.set (o' := o) (u := .dK []) hS hl h rfl (by
      rcases ho with rfl | rfl
      · exact .inl ⟨[], upd_same, rfl, List.nodup_nil⟩
      · exact .inr ⟨rfl, rfl, upd_same⟩)
    rw [set_self hS] at q
    exact q
theorem DO.rd {lk : Bool} {u : HO} (h : DO lk H a u) : Rd H a u := by
  unfold DO at h
  split at h
  · obtain ⟨o, h⟩ := h; exact .inr ⟨o, h⟩
  · exact .inl h
/-- d[k], k in d: what is found -/
def DFind (Γ : Gm) (W : Wd) (H : Hp) (a : Addr) (y : V) (r : Option MV) : Prop := match r with
  | none => DGet H a y none
  | some m => ∃ v, DGet H a y (some v) ∧ RV Γ W H m v
theorem dGet_ok {k : MV} {y : V} {r : Option MV} (R : Rel Γ X mcm ρ σ W S H) (hS : S[l]? = some o) (hl : W.ν l = some a) (e : dGet o k = some r) (ry : RV Γ W H k y) :
    ∃ H', Rt H a H' ∧ Ev Γ W H W H' ∧ Rel Γ X mcm ρ σ W S H' ∧ DFind Γ W H' a y r := by
  have ob := R.rs.obj l o a hS hl
  cases o with
  | dK lk kvs =>
    cases h1 : keyOf k with
    | some kk =>
      have e : some (gGet kEq kk kvs) = some r := by
        unfold dGet at e
        rw [h1] at e
        cases kvs <;> exact e
      have e9 := Option.some.inj e
      have ey := keyOf_ok h1 ry
      rcases ob with ⟨ws, q1, q2⟩ | ⟨q1, q2, q3⟩
      · have g := RKs.get (κ := Key) kEq_eq (k := kk) q2.1
        refine ⟨H, .inl rfl, R.evr, R, ?_⟩
        rw [e9] at g
        cases r with
        | none => exact .inl ⟨ws, kk, q1.rd, ey, g.symm⟩
        | some m =>
          obtain ⟨v, g1, g2⟩ := g
          exact ⟨v, .inl ⟨ws, kk, q1.rd, ey, g1.symm⟩, g2⟩
      · subst q1 q2
        have rt : Rt H a (upd H a (.dK [])) := .inr (.inr ⟨q3, rfl⟩)
        obtain ⟨e1, R'⟩ := R.rt hS hl (.inl rfl) rt
        refine ⟨_, rt, e1, R', ?_⟩
        subst e9
        exact .inl ⟨[], kk, .inl upd_same, ey, rfl⟩
    | none =>
      cases h2 : tkeyOf k with
      | none =>
        unfold dGet at e
        rw [h1, h2] at e
        cases kvs <;> cases lk <;> cases e
      | some tk =>
        cases kvs with
        | cons p q => unfold dGet at e; rw [h1, h2] at e; cases lk <;> cases e
        | nil =>
          cases lk with
          | true => unfold dGet at e; rw [h1, h2] at e; cases e
          | false =>
          have e : some none = some r := by
            unfold dGet at e
            rw [h1, h2] at e
            exact e
          cases e
          obtain ⟨b, eb, hb⟩ := tkeyOf_ok h2 ry
          rcases ob with ⟨ws, q1, q2⟩ | ⟨q1, q2, q3⟩
          · have ew : ws = [] := q2.1
            subst ew
            have rt : Rt H a (upd H a (.dT [])) := .inr (.inl ⟨q1, rfl⟩)
            obtain ⟨e1, R'⟩ := R.rt hS hl (.inl rfl) rt
            exact ⟨_, rt, e1, R', .inr ⟨[], tk, b, .inl upd_same, eb, e1.tup _ _ hb, rfl⟩⟩
          · exact ⟨H, .inl rfl, R.evr, R, .inr ⟨[], tk, b, .inl q3, eb, hb, rfl⟩⟩
  | dT lk kvs =>
    cases h1 : keyOf k with
    | some kk =>
      cases kvs with
      | cons p q => unfold dGet at e; rw [h1] at e; cases lk <;> cases e
      | nil =>
        cases lk with
        | true => unfold dGet at e; rw [h1] at e; cases e
        | false =>
        have e : some none = some r := by
          unfold dGet at e
          rw [h1] at e
          exact e
        cases e
        have ey := keyOf_ok h1 ry
        rcases ob with ⟨ws, q1, q2⟩ | ⟨q1, q2, q3⟩
        · have ew : ws = [] := q2.1
          subst ew
          have rt : Rt H a (upd H a (.dK [])) := .inr (.inr ⟨q1, rfl⟩)
          obtain ⟨e1, R'⟩ := R.rt hS hl (.inr rfl) rt
          exact ⟨_, rt, e1, R', .inl ⟨[], kk, .inl upd_same, ey, rfl⟩⟩
        · exact ⟨H, .inl rfl, R.evr, R, .inl ⟨[], kk, .inl q3, ey, rfl⟩⟩
    | none =>
      cases h2 : tkeyOf k with
      | none =>
        unfold dGet at e
        rw [h1, h2] at e
        cases kvs <;> cases lk <;> cases e
      | some tk =>
        have e : some (gGet tkEq tk kvs) = some r := by
          unfold dGet at e
          rw [h1, h2] at e
          cases kvs <;> exact e
        have e9 := Option.some.inj e
        obtain ⟨b, eb, hb⟩ := tkeyOf_ok h2 ry
        rcases ob with ⟨ws, q1, q2⟩ | ⟨q1, q2, q3⟩
        · have g := RKs.get (κ := List Key) tkEq_eq (k := tk) q2.1
          refine ⟨H, .inl rfl, R.evr, R, ?_⟩
          rw [e9] at g
          cases r with
          | none => exact .inr ⟨ws, tk, b, q1.rd, eb, hb, g.symm⟩
          | some m =>
            obtain ⟨v, g1, g2⟩ := g
            exact ⟨v, .inr ⟨ws, tk, b, q1.rd, eb, hb, g1.symm⟩, g2⟩
        · subst q1 q2
          have rt : Rt H a (upd H a (.dT [])) := .inr (.inl ⟨q3, rfl⟩)
          obtain ⟨e1, R'⟩ := R.rt hS hl (.inr rfl) rt
          refine ⟨_, rt, e1, R', ?_⟩
          subst e9
          exact .inr ⟨[], tk, b, .inl upd_same, eb, e1.tup _ _ hb, rfl⟩
  | _ => unfold dGet at e; cases e
end
end Mini
namespace Mini
open PySem PySem.Spec PyProof.Rows L2
theorem star_ok {e : Expr} {es : List Expr} {env : PySem.Env} (h : PySem.W.isStarred e = false) : starEach (e :: es) env = (false, eval e env) :: starEach es env := by
  cases e <;> first | rfl | (simp [PySem.W.isStarred] at h)
section
variable {Γ : Gm} {X : Cx} {mcm : List (Nat × Nat)} {W0 : WX}
theorem snd_cst {e : Expr} {m : MV} {v : V} (h : PE X e (tC v)) (hm : ∀ W H, RV Γ W H m v) : PE X e (tE Γ X mcm W0 fun _ S => .ok m S) := by
  refine PE.imp h fun σ H Q q => ?_
  obtain ⟨W, ρ, S, R, w⟩ := q
  exact WnE.here R w (hm _ _)
theorem snd_var {i : Nat} {x : Str} {pos : Pos} (hN : X.N[i]? = some x) (hv : Vis X.env.scope x) (hm : ∀ k, (i, k) ∉ mcm) (hd : (x == ("__debug__" : Str)) = false) (hcd : (x == ("__classdict__" : Str)) = false) :
    PE X (.Name x pos) (tE Γ X mcm W0 fun ρ S => match ρ[i]? with
      | some (some v) => .ok v S
      | _ => .bad) := by
  refine PE.imp (pe_var (i := i) hN hv hd hcd) fun σ H Q q => ?_
  obtain ⟨W, ρ, S, R, w⟩ := q
  dsimp only at w
  cases e : ρ[i]? with
  | none => rw [e] at w; exact w.elim
  | some o =>
    cases o with
    | none => rw [e] at w; exact w.elim
    | some m =>
      rw [e] at w
      obtain ⟨v, q1, q2⟩ := R.re.var i m hm e
      exact ⟨v, q1, WnE.here R w q2⟩
theorem snd_cvar {i : Nat} {x : Str} {pos : Pos} (hN : X.N[i]? = some x) (hv : Vis X.env.scope x) (hm : ∃ k, (i, k) ∈ mcm) (hd : (x == ("__debug__" : Str)) = false) (hcd : (x == ("__classdict__" : Str)) = false) :
    PE X (.Name x pos) (tE Γ X mcm W0 fun ρ S => match getLoc ρ i with
      | some k => match S[k]? with
        | some (.cell (some v)) => .ok v S
        | _ => .bad
      | none => .bad) := by
  refine PE.imp (pe_var (i := i) hN hv hd hcd) fun σ H Q q => ?_
  obtain ⟨W, ρ, S, R, w⟩ := q
  obtain ⟨k, hk⟩ := hm
  obtain ⟨h1, ov, h2, h3, h4⟩ := R.re.cel i k hk
  have e : getLoc ρ i = some k := by
    unfold getLoc
    rw [h1]
  dsimp only at w
  rw [e] at w
  dsimp only at w
  rw [h2] at w
  cases ov with
  | none => exact w.elim
  | some m =>
    obtain ⟨v, q1, q2⟩ := h4 m rfl
    exact ⟨v, q1, WnE.here R w q2⟩
theorem snd_nil : PA X [] (tA Γ X mcm W0 fun _ S => .ok [] S) := by
  refine PA.imp pa_nil fun σ H Q q => ?_
  obtain ⟨W, ρ, S, R, w⟩ := q
  exact w W H R.evr R [] rfl
theorem snd_cons {e : Expr} {es : List Expr} {m : EvM} {ms : Env → Store → Res (List MV)} (hs : PySem.W.isStarred e = false) (he : PE X e (tE Γ X mcm W0 m)) (hes : PA X es (tA Γ X mcm W0 ms)) :
    PA X (e :: es) (tA Γ X mcm W0 fun ρ S => (m ρ S).bind fun v S => (ms ρ S).bind fun vs S => .ok (v :: vs) S) := by
  refine PA.imp (pa_cons he hes (star_ok hs)) fun σ H Q q => ?_
  obtain ⟨W, ρ, S, R, h⟩ := q
  refine tE.mono (stepE R h) ?_
  rintro x H1 ⟨mv, W1, S1, rx, e1, R1, h1⟩
  refine tA.mono (stepA R1 h1) ?_
  rintro y H2 ⟨nv, W2, S2, ry, e2, R2, h2⟩
  exact h2 W2 H2 R2.evr R2 _ ⟨x, y, rfl, e2.rv _ _ rx, ry⟩
theorem WnE.if_of {c : Prop} [Decidable c] {ρ : Env} {σ : L2.St} {W : Wd} {H : Hp} {r : Res MV} {Q : VK} (h : WnE Γ X mcm W0 ρ σ W H (if c then r else .bad) Q) : c ∧ WnE Γ X mcm W0 ρ σ W H r Q := by
  by_cases hc : c
  · rw [if_pos hc] at h; exact ⟨hc, h⟩
  · rw [if_neg hc] at h; exact h.elim
theorem snd_tup {es : List Expr} {k : Nat} {pos : Pos} {ms : Env → Store → Res (List MV)} (hes : PA X es (tA Γ X mcm W0 ms)) :
    PE X (.Tuple es k pos) (tE Γ X mcm W0 fun ρ S => (ms ρ S).bind fun vs S => if vs.length ≤ line then .ok (mkTup vs) S else .bad) := by
  refine PE.imp (pe_tup hes) fun σ H Q q => ?_
  obtain ⟨W, ρ, S, R, h⟩ := q
  refine tA.mono (stepA R h) ?_
  rintro x H1 ⟨mv, W1, S1, rx, e1, R1, h1⟩
  obtain ⟨hl, h1⟩ := WnE.if_of h1
  refine ⟨by rw [rx.len, ← line_eq]; exact hl, fun p hp => ?_⟩
  obtain ⟨e, R', rv⟩ := R1.newT hp rx
  exact h1 _ _ e R' _ rv
theorem snd_lst {es : List Expr} {k : Bool} {pos : Pos} {ms : Env → Store → Res (List MV)} (hes : PA X es (tA Γ X mcm W0 ms)) :
    PE X (.List es pos) (tE Γ X mcm W0 fun ρ S => (ms ρ S).bind fun vs S => mkL k vs S) := by
  refine PE.imp (pe_lst hes) fun σ H Q q => ?_
  obtain ⟨W, ρ, S, R, h⟩ := q
  refine tA.mono (stepA R h) ?_
  rintro x H1 ⟨mv, W1, S1, rx, e1, R1, h1⟩
  exact mkL_ok R1 rx h1
theorem mapM_cons_some {α β : Type} {f : α → Option β} {x : α} {xs : List α} {ys : List β} (h : (x :: xs).mapM f = some ys) : ∃ y r, f x = some y ∧ xs.mapM f = some r ∧ ys = y :: r := by
  rw [List.mapM_cons] at h
  cases h1 : f x with
  | none => rw [h1] at h; cases h
  | some y =>
    cases h2 : xs.mapM f with
    | none => rw [h1, h2] at h; cases h
    | some r =>
      rw [h1, h2] at h
      cases h
      exact ⟨y, r, rfl, rfl, rfl⟩
section
variable {ρ : Env} {σ : L2.St} {W : Wd} {H : Hp} {S : Store} {Q : VK}
theorem asList_loc {i : Nat} {ms : List MV} (h : S[i]? = some (.lst ms)) : asList (.loc i) S = some ms := by
  show (match S[i]? with
    | some (.lst vs) => some vs
    | _ => none) = some ms
  rw [h]
theorem toDs_ok {f : MV → Option PyData} (hf : ∀ m v d, f m = some d → RV Γ W H m v → Dp Γ.K H v d) : ∀ {ms : List MV} {vs : List V} {ds : List PyData}, ms.mapM f = some ds → RVs Γ W H ms vs → DpAll Γ.K H vs ds
  | [], vs, ds, e, r => by
    cases e
    rw [show vs = [] from r]
    exact .nil
  | m :: ms, vs, ds, e, r => by
    obtain ⟨v, vs', ev, r1, r2⟩ := r
    obtain ⟨y, ys, h1, h2, h3⟩ := mapM_cons_some e
    rw [ev, h3]
    exact .cons (hf _ _ _ h1 r1) (toDs_ok hf h2 r2)
theorem toD_ok (R : Rel Γ X mcm ρ σ W S H) : ∀ (n : Nat) (m : MV) (v : V) (d : PyData), toD S n m = some d → RV Γ W H m v → Dp Γ.K H v d
  | 0, _, _, _, e, _ => by cases e
  | n + 1, .non, v, d, e, r => by cases e; rw [show v = _ from r]; exact .non
  | n + 1, .bl b, v, d, e, r => by cases e; rw [show v = _ from r]; exact .bl b
  | n + 1, .int i, v, d, e, r => by cases e; rw [show v = _ from r]; exact .int i
  | n + 1, .str x, v, d, e, r => by cases e; rw [show v = _ from r]; exact .str x
  | n + 1, .tup ms, v, d, e, r => by
    obtain ⟨a, xs, e1, q, rr⟩ := r
    have e : (ms.mapM (toD S n)).map PyData.tuple = some d := e
    cases h : ms.mapM (toD S n) with
    | none => rw [h] at e; cases e
    | some ds =>
      rw [h] at e; cases e
      rw [e1]
      exact .tup (SqT.of q) (toDs_ok (toD_ok R n) h (RVs.of_rps rr))
  | n + 1, .tupL ms, v, d, e, r => by
    obtain ⟨a, xs, e1, q, rr⟩ := r
    have e : (ms.mapM (toD S n)).map PyData.tuple = some d := e
    cases h : ms.mapM (toD S n) with
    | none => rw [h] at e; cases e
    | some ds =>
      rw [h] at e; cases e
      rw [e1]
      exact .tup (SqT.of q) (toDs_ok (toD_ok R n) h rr)
  | n + 1, .tupB ms, v, d, e, r => by
    obtain ⟨a, xs, e1, ⟨o, q, _⟩, rr⟩ := r
    have e : (ms.mapM (toD S n)).map PyData.tuple = some d := e
    cases h : ms.mapM (toD S n) with
    | none => rw [h] at e; cases e
    | some ds =>
      rw [h] at e; cases e
      rw [e1]
      exact .tup (.inl (.inr ⟨o, q⟩)) (toDs_ok (toD_ok R n) h (RVs.of_rps rr))
  | n + 1, .fls ms, v, d, e, r => by
    obtain ⟨a, xs, e1, q, _, rr⟩ := r
    have e : (ms.mapM (toD S n)).map PyData.list = some d := e
    cases h : ms.mapM (toD S n) with
    | none => rw [h] at e; cases e
    | some ds =>
      rw [h] at e; cases e
      rw [e1]
      exact .lst (SqL.of q) (toDs_ok (toD_ok R n) h (RVs.of_rps rr))
  | n + 1, .loc i, v, d, e, r => by
    have e : (match S[i]? with
      | some (.lst vs) => (vs.mapM (toD S n)).map PyData.list
      | _ => none) = some d := e
    cases hS : S[i]? with
    | none => rw [hS] at e; cases e
    | some o =>
      rw [hS] at e
      cases o with
      | lst ms =>
        have e : (ms.mapM (toD S n)).map PyData.list = some d := e
        obtain ⟨a, xs, e1, q, rr⟩ := asList_ok R (m := .loc i) (ms := ms) (asList_loc hS) r
        cases h : ms.mapM (toD S n) with
        | none => rw [h] at e; cases e
        | some ds =>
          rw [h] at e; cases e
          rw [e1]
          exact .lst (SqL.of q) (toDs_ok (toD_ok R n) h rr)
      | _ => cases e
  | n + 1, .obj _ _, _, _, e, _ => by cases e
  | n + 1, .scr _, _, _, e, _ => by cases e
end
end
end Mini
namespace Mini
open PySem PySem.Spec PyProof.Rows L2
/-- k in d -/
def rDIn (neg : Bool) : R2 := fun x y H Q => ∃ a o H', y = .ref a ∧ Rt H a H' ∧ DGet H' a x o ∧ Q (.bl (if neg then !o.isSome else o.isSome)) H'
theorem op_dIn {X : Cx} (hu : X.A.units + 1 < cLine) : OpR X (compareOp .In) (rDIn false) := by
  intro pins s σ H x y v u Q I rx ry h
  obtain ⟨a, o, H', rfl, rt, g, q⟩ := h
  cases ry
  exact d_in hu (inv_rt I rt) g rx fun s3 I3 => ⟨.bl o.isSome, H', I3, rfl, q⟩
theorem op_dNotIn {X : Cx} (hu : X.A.units + 1 < cLine) : OpR X (compareOp .NotIn) (rDIn true) := by
  intro pins s σ H x y v u Q I rx ry h
  obtain ⟨a, o, H', rfl, rt, g, q⟩ := h
  cases ry
  exact d_notIn hu (inv_rt I rt) g rx fun s3 I3 => ⟨.bl (!o.isSome), H', I3, rfl, q⟩
def rSign (neg : Bool) : R2 := fun x y H Q => ∃ (c : Nat) (z : Str), x = .str ⟨#[c]⟩ ∧ y = .str z ∧ Q (.bl (if neg then !decide (c ∈ z.cps.toList) else decide (c ∈ z.cps.toList))) H
def rInM (K : PySem.W.Frag) (neg : Bool) : R2 := fun x y H Q => rSign neg x y H Q ∨ rIn K neg x y H Q ∨ (if neg then rNotInD K else rInD K) x y H Q ∨ rDIn neg x y H Q
def rIsN (neg : Bool) : R2 := fun x y H Q => y = .non ∧ Q (.bl (if neg then !decide (x = .non) else decide (x = .non))) H
def rCmp (K : PySem.W.Frag) : Cop → R2
  | .eq => fun x y H Q => rEq x y H Q ∨ rEqD K x y H Q
  | .ne => fun x y H Q => rNe x y H Q ∨ rNeD K x y H Q
  | .is => fun x y H Q => rIsB x y H Q ∨ rIsN false x y H Q
  | .isNot => fun x y H Q => rNotB x y H Q ∨ rIsN true x y H Q
  | .isin => rInM K false
  | .notIn => rInM K true
  | .lt => fun x y H Q => rI0 (fun i j => .bl (decide (i < j))) x y H Q ∨ rLtT K x y H Q
  | .le => rI0 fun i j => .bl (decide (i ≤ j))
  | .gt => rI0 fun i j => .bl (decide (j < i))
  | .ge => rI0 fun i j => .bl (decide (j ≤ i))
def copOf : Cop → CmpOp
  | .eq => .Eq
  | .ne => .NotEq
  | .is => .Is
  | .isNot => .IsNot
  | .isin => .In
  | .notIn => .NotIn
  | .lt => .Lt
  | .le => .LtE
  | .gt => .Gt
  | .ge => .GtE
theorem op_cmpM {X : Cx} (hu : X.A.units + 65 < cLine) (op : Cop) : OpR X (compareOp (copOf op)) (rCmp X.K op) := by
  cases op with
  | eq => exact OpR.or op_eq (op_eqD (by omega))
  | ne => exact OpR.or op_ne (op_neD (by omega))
  | is => exact OpR.or op_isBl op_isN
  | isNot => exact OpR.or op_notBl op_notN
  | isin => exact OpR.or op_in_sign (OpR.or op_in_seq (OpR.or (op_inD hu) (op_dIn (by omega))))
  | notIn => exact OpR.or op_notIn_sign (OpR.or op_notIn_seq (OpR.or (op_notInD hu) (op_dNotIn (by omega))))
  | lt => exact OpR.or op_lt (op_ltT (by omega))
  | le => exact op_le
  | gt => exact op_gt
  | ge => exact op_ge
section
variable {Γ : Gm} {X : Cx} {mcm : List (Nat × Nat)} {σ : L2.St} {H : Hp} {ρ : Env} {W : Wd} {S : Store} {Q : VK}
/-- what follows a comparison -/
abbrev After (Γ : Gm) (X : Cx) (mcm : List (Nat × Nat)) (ρ : Env) (σ : L2.St) (W : Wd) (S : Store) (H : Hp) (b : Bool) (Q : VK) : Prop := ∀ H', Ev Γ W H W H' → Rel Γ X mcm ρ σ W S H' → Q (.bl b) H'
theorem beq_bool (a b : Bool) : (a == b) = decide (a = b) := by cases a <;> cases b <;> rfl
theorem eqS_eqv {m n : MV} {x y : V} (hm : scalM m = true) (hn : scalM n = true) (rx : RV Γ W H m x) (ry : RV Γ W H n y) :
    (scal x y = true ∧ decide (x = y) = eqS m n) ∨ ∃ d e, Dp Γ.K H x d ∧ Dp Γ.K H y e ∧ SeqAt.shaped d = true ∧ SeqAt.shaped e = true ∧ PyData.eqv d e = eqS m n := by
  cases m with
  | non =>
    cases n with
    | non => rw [show x = _ from rx, show y = _ from ry]; exact .inl ⟨rfl, rfl⟩
    | bl b => rw [show x = _ from rx, show y = _ from ry]; exact .inl ⟨rfl, rfl⟩
    | int b => rw [show x = _ from rx, show y = _ from ry]; exact .inl ⟨rfl, rfl⟩
    | str b => rw [show x = _ from rx, show y = _ from ry]; exact .inl ⟨rfl, rfl⟩
    | _ => cases hn
  | bl a =>
    cases n with
    | non => rw [show x = _ from rx, show y = _ from ry]; exact .inl ⟨rfl, rfl⟩
    | bl b => rw [show x = _ from rx, show y = _ from ry]; exact .inl ⟨rfl, by cases a <;> cases b <;> rfl⟩
    | int b => rw [show x = _ from rx, show y = _ from ry]; exact .inr ⟨_, _, .bl a, .int b, rfl, rfl, rfl⟩
    | str b => rw [show x = _ from rx, show y = _ from ry]; exact .inl ⟨rfl, rfl⟩
    | _ => cases hn
  | int a =>
    cases n with
    | non => rw [show x = _ from rx, show y = _ from ry]; exact .inl ⟨rfl, rfl⟩
    | bl b => rw [show x = _ from rx, show y = _ from ry]; exact .inr ⟨_, _, .int a, .bl b, rfl, rfl, rfl⟩
    | int b => rw [show x = _ from rx, show y = _ from ry]; exact .inl ⟨rfl, dec_int⟩
    | str b => rw [show x = _ from rx, show y = _ from ry]; exact .inl ⟨rfl, rfl⟩
    | _ => cases hn
  | str a =>
    cases n with
    | non => rw [show x = _ from rx, show y = _ from ry]; exact .inl ⟨rfl, rfl⟩
    | bl b => rw [show x = _ from rx, show y = _ from ry]; exact .inl ⟨rfl, rfl⟩
    | int b => rw [show x = _ from rx, show y = _ from ry]; exact .inl ⟨rfl, rfl⟩
    | str b =>
      rw [show x = _ from rx, show y = _ from ry]
      refine .inl ⟨rfl, ?_⟩
      show decide (V.str a = V.str b) = seqStr a b
      rw [seqStr_eq]
      by_cases h : a = b
      · subst h; simp
      · rw [decide_eq_false h, decide_eq_false (fun z => h (V.str.inj z))]
    | _ => cases hn
  | _ => cases hm
theorem eqM_ok {m n : MV} {x y : V} {b : Bool} (R : Rel Γ X mcm ρ σ W S H) (rx : RV Γ W H m x) (ry : RV Γ W H n y) (e : eqM m n S = some b) :
    (scal x y = true ∧ decide (x = y) = b) ∨ ∃ d e, Dp Γ.K H x d ∧ Dp Γ.K H y e ∧ SeqAt.shaped d = true ∧ SeqAt.shaped e = true ∧ PyData.eqv d e = b := by
  unfold eqM at e
  split at e
  · rename_i h
    obtain ⟨h1, h2⟩ := Bool.and_eq_true_iff.mp h
    cases e
    exact eqS_eqv h1 h2 rx ry
  · cases h1 : toD S 64 m with
    | none => rw [h1] at e; cases e
    | some d =>
      cases h2 : toD S 64 n with
      | none => rw [h1, h2] at e; cases e
      | some d' =>
        rw [h1, h2] at e
        dsimp only at e
        split at e
        · rename_i h
          obtain ⟨s1, s2⟩ := Bool.and_eq_true_iff.mp h
          cases e
          exact .inr ⟨d, d', toD_ok R 64 m x d h1 rx, toD_ok R 64 n y d' h2 ry, s1, s2, rfl⟩
        · cases e
theorem intsOf_ok {Av : Addr → Prop} : ∀ {ms : List MV} {is : List Int} {xs : List V}, intsOf ms = some is → RPs Γ Av H ms xs → xs = is.map V.int
  | [], is, xs, e, r => by cases e; exact r
  | m :: ms, is, xs, e, r => by
    obtain ⟨v, vs, q, r1, r2⟩ := r
    cases m with
    | int i =>
      cases h : intsOf ms with
      | none => simp [intsOf, h] at e
      | some js =>
        simp [intsOf, h] at e
        rw [q, intsOf_ok h r2, ← e, show v = _ from r1]
        rfl
    | _ => cases e
theorem scal_flat {m : MV} {x : V} (h : scalM m = true) (r : RV Γ W H m x) : flatV x = true := by
  cases m with
  | non => rw [show x = _ from r]; rfl
  | bl b => rw [show x = _ from r]; rfl
  | int b => rw [show x = _ from r]; rfl
  | str b => rw [show x = _ from r]; rfl
  | _ => cases h
theorem scal_flats : ∀ {ms : List MV} {xs : List V}, ms.all scalM = true → RVs Γ W H ms xs → xs.all flatV = true
  | [], xs, _, r => by rw [show xs = [] from r]; rfl
  | m :: ms, xs, h, r => by
    obtain ⟨v, vs, q, r1, r2⟩ := r
    simp only [List.all_cons, Bool.and_eq_true] at h
    rw [q, List.all_cons, scal_flat h.1 r1, scal_flats h.2 r2]; rfl
theorem eqS_eqV {m n : MV} {x y : V} (hm : scalM m = true) (hn : scalM n = true) (rx : RV Γ W H m x) (ry : RV Γ W H n y) : eqV x y = eqS m n := by
  cases m with
  | non => cases n <;> first | (rw [show x = _ from rx, show y = _ from ry]; rfl) | cases hn
  | bl a => cases n <;> first | (rw [show x = _ from rx, show y = _ from ry]; rfl) | cases hn
  | int a => cases n <;> first | (rw [show x = _ from rx, show y = _ from ry]; rfl) | cases hn
  | str a =>
    cases n with
    | str b =>
      rw [show x = _ from rx, show y = _ from ry]
      show (a == b) = seqStr a b
      rw [seqStr_eq]
      by_cases h : a = b
      · subst h; simp
      · rw [decide_eq_false h]; exact beq_eq_false_iff_ne.mpr h
    | _ => first | (rw [show x = _ from rx, show y = _ from ry]; rfl) | cases hn
  | _ => cases hm
theorem inV_any {m : MV} {x : V} (hm : scalM m = true) (rx : RV Γ W H m x) : ∀ {ms : List MV} {xs : List V}, ms.all scalM = true → RVs Γ W H ms xs → inV x xs = ms.any fun y => eqS y m
  | [], xs, _, r => by rw [show xs = [] from r]; rfl
  | n :: ms, xs, h, r => by
    obtain ⟨v, vs, q, r1, r2⟩ := r
    simp only [List.all_cons, Bool.and_eq_true] at h
    rw [q]
    show (eqV v x || vs.any fun y => eqV y x) = (eqS n m || _)
    rw [eqS_eqV h.1 hm r1 rx]
    rw [show (vs.any fun y => eqV y x) = inV x vs from rfl, inV_any hm rx h.2 r2]
theorem inM_ok {m n : MV} {x y : V} {b neg : Bool} (hK : X.K = Γ.K) (R : Rel Γ X mcm ρ σ W S H) (rx : RV Γ W H m x) (ry : RV Γ W H n y) (e : inM m n S = some b) (k : After Γ X mcm ρ σ W S H (if neg then !b else b) Q) : rInM X.K neg x y H Q := by
  have k0 : Q (.bl (if neg then !b else b)) H := k H R.evr R
  unfold inM at e
  split at e
  · rename_i a z
    split at e
    · rename_i hl
      cases e
      obtain ⟨c, hc⟩ : ∃ c, a = ⟨#[c]⟩ := by
        cases a with
        | mk cps =>
          obtain ⟨l⟩ := cps
          match l, hl with
          | [c], _ => exact ⟨c, rfl⟩
      subst hc
      have ez : (z.cps.toList.contains ([c].headD 0)) = decide (c ∈ z.cps.toList) := by
        show z.cps.toList.contains c = _
        rw [Bool.eq_iff_iff]
        simp
      refine .inl ⟨c, z, rx, ry, ?_⟩
      have k1 : Q (.bl (if neg then !(z.cps.toList.contains ([c].headD 0)) else (z.cps.toList.contains ([c].headD 0)))) H := k0
      rw [ez] at k1
      exact k1
    · cases e
  · cases hs : asSeq n S with
    | some ms =>
      rw [hs] at e
      dsimp only at e
      obtain ⟨a, xs, rfl, q, rr⟩ := asSeq_ok R hs ry
      split at e
      · rename_i hf
        obtain ⟨f1, f2⟩ := Bool.and_eq_true_iff.mp hf
        cases e
        refine .inr (.inl ⟨a, xs, rfl, by rw [hK]; exact q, scal_flat f1 rx, scal_flats f2 rr, ?_⟩)
        rw [inV_any f1 rx f2 rr]
        exact k0
      · cases h1 : toD S 64 m with
        | none => rw [h1] at e; cases e
        | some d =>
          cases h2 : asList n S with
          | none => rw [h1, h2] at e; cases e
          | some ys =>
            rw [h1, h2] at e
            dsimp only [Option.bind] at e
            cases h3 : ys.mapM (toD S 63) with
            | none => rw [h3] at e; cases e
            | some ds =>
              rw [h3] at e
              dsimp only at e
              split at e
              · rename_i hh
                obtain ⟨s1, s2⟩ := Bool.and_eq_true_iff.mp hh
                cases e
                obtain ⟨a', xs', e1, q2, rr2⟩ := asList_ok R h2 ry
                have hd1 : Dp X.K H x d := by rw [hK]; exact toD_ok R 64 m x d h1 rx
                have hd2 : Dp X.K H (.ref a') (.list ds) := .lst (SqL.of q2) (by rw [hK]; exact toDs_ok (toD_ok R 63) h3 rr2)
                rw [e1]
                refine .inr (.inr (.inl ?_))
                cases neg with
                | true => exact ⟨d, ds, hd1, hd2, s1, s2, k0⟩
                | false => exact ⟨d, ds, hd1, hd2, s1, s2, k0⟩
              · cases e
    | none =>
      rw [hs] at e
      dsimp only at e
      cases n with
      | loc l =>
        obtain ⟨a, rfl, hi, hv⟩ := ry
        dsimp only at e
        cases hS : S[l]? with
        | none => rw [hS] at e; cases e
        | some o =>
          rw [hS] at e
          dsimp only at e
          cases hg : dGet o m with
          | none => rw [hg] at e; cases e
          | some r =>
            rw [hg] at e
            cases e
            rcases hv with z | z
            · rcases R.rs.live l _ hS z with z | ⟨_, z⟩ <;> (rw [z] at hg; cases hg)
            · obtain ⟨H', rt, e1, R', df⟩ := dGet_ok R hS z hg rx
              have k1 := k H' e1 R'
              cases r with
              | none => exact .inr (.inr (.inr ⟨a, none, H', rfl, rt, df, k1⟩))
              | some m' =>
                obtain ⟨v, g, _⟩ := df
                exact .inr (.inr (.inr ⟨a, some v, H', rfl, rt, g, k1⟩))
      | _ => cases e
theorem cmp_ok {op : Cop} {m n : MV} {x y : V} {b : Bool} (hK : X.K = Γ.K) (R : Rel Γ X mcm ρ σ W S H) (rx : RV Γ W H m x) (ry : RV Γ W H n y) (e : cmpM op m n S = some b) (k : After Γ X mcm ρ σ W S H b Q) : rCmp X.K op x y H Q := by
  have k0 : Q (.bl b) H := k H R.evr R
  unfold cmpM at e
  cases op with
  | eq =>
    rcases eqM_ok R rx ry e with ⟨h1, h2⟩ | ⟨d, d', h1, h2, h3, h4, h5⟩
    · exact .inl ⟨h1, by rw [h2]; exact k0⟩
    · exact .inr ⟨d, d', by rw [hK]; exact h1, by rw [hK]; exact h2, h3, h4, by rw [h5]; exact k0⟩
  | ne =>
    cases e1 : eqM m n S with
    | none => rw [e1] at e; cases e
    | some b' =>
      rw [e1] at e
      cases e
      rcases eqM_ok R rx ry e1 with ⟨h1, h2⟩ | ⟨d, d', h1, h2, h3, h4, h5⟩
      · exact .inl ⟨h1, by rw [h2]; exact k0⟩
      · exact .inr ⟨d, d', by rw [hK]; exact h1, by rw [hK]; exact h2, h3, h4, by rw [h5]; exact k0⟩
  | is =>
    dsimp only at e
    split at e
    · cases e
      rename_i a b
      exact .inl ⟨a, b, rx, ry, by rw [← beq_bool]; exact k0⟩
    · cases e
      exact .inr ⟨ry, by rw [show x = _ from rx]; exact k0⟩
    · rename_i h1
      cases e
      refine .inr ⟨ry, ?_⟩
      have hx : x ≠ .non := fun z => by
        subst z
        cases m with
        | non => exact h1 rfl
        | bl b => cases (show V.non = _ from rx)
        | int b => cases (show V.non = _ from rx)
        | str b => cases (show V.non = _ from rx)
        | tup b => obtain ⟨_, _, z, _⟩ := rx; cases z
        | tupL b => obtain ⟨_, _, z, _⟩ := rx; cases z
        | tupB b => obtain ⟨_, _, z, _⟩ := rx; cases z
        | fls b => obtain ⟨_, _, z, _⟩ := rx; cases z
        | scr b => obtain ⟨_, _, z, _⟩ := rx; cases z
        | obj c b => obtain ⟨_, _, _, _, z, _⟩ := rx; cases z
        | exn c b => rcases rx with ⟨_, _, _, z, _⟩ | ⟨_, _, _, _, z, _⟩ <;> cases z
        | loc b => obtain ⟨_, z, _⟩ := rx; cases z
      rw [decide_eq_false hx]
      exact k0
    · cases e
  | isNot =>
    dsimp only at e
    split at e
    · cases e
      rename_i a b
      exact .inl ⟨a, b, rx, ry, by rw [← beq_bool]; exact k0⟩
    · cases e
      exact .inr ⟨ry, by rw [show x = _ from rx]; exact k0⟩
    · rename_i h1
      cases e
      refine .inr ⟨ry, ?_⟩
      have hx : x ≠ .non := fun z => by
        subst z
        cases m with
        | non => exact h1 rfl
        | bl b => cases (show V.non = _ from rx)
        | int b => cases (show V.non = _ from rx)
        | str b => cases (show V.non = _ from rx)
        | tup b => obtain ⟨_, _, z, _⟩ := rx; cases z
        | tupL b => obtain ⟨_, _, z, _⟩ := rx; cases z
        | tupB b => obtain ⟨_, _, z, _⟩ := rx; cases z
        | fls b => obtain ⟨_, _, z, _⟩ := rx; cases z
        | scr b => obtain ⟨_, _, z, _⟩ := rx; cases z
        | obj c b => obtain ⟨_, _, _, _, z, _⟩ := rx; cases z
        | exn c b => rcases rx with ⟨_, _, _, z, _⟩ | ⟨_, _, _, _, z, _⟩ <;> cases z
        | loc b => obtain ⟨_, z, _⟩ := rx; cases z
      rw [decide_eq_false hx]
      exact k0
    · cases e
  | isin => exact inM_ok (neg := false) hK R rx ry e k
  | notIn =>
    cases e1 : inM m n S with
    | none => rw [e1] at e; cases e
    | some b' =>
      rw [e1] at e
      cases e
      exact inM_ok (neg := true) hK R rx ry e1 k
  | lt =>
    dsimp only at e
    split at e
    · cases e
      exact .inl ⟨_, _, rx, ry, k0⟩
    · rename_i xs ys
      cases h1 : intsOf xs with
      | none => rw [h1] at e; cases e
      | some is =>
        cases h2 : intsOf ys with
        | none => rw [h1, h2] at e; cases e
        | some js =>
          rw [h1, h2] at e
          cases e
          obtain ⟨a, vs, e1, q1, r1⟩ := rx
          obtain ⟨b, ws, e2, q2, r2⟩ := ry
          rw [intsOf_ok h1 r1] at q1
          rw [intsOf_ok h2 r2] at q2
          exact .inr ⟨a, b, is, js, e1, e2, SqT.of q1, SqT.of q2, k0⟩
    · cases e
  | le =>
    dsimp only at e
    split at e
    · cases e
      exact ⟨_, _, rx, ry, k0⟩
    · cases e
  | gt =>
    dsimp only at e
    split at e
    · cases e
      exact ⟨_, _, rx, ry, k0⟩
    · cases e
  | ge =>
    dsimp only at e
    split at e
    · cases e
      exact ⟨_, _, rx, ry, k0⟩
    · cases e
end
section
variable {Γ : Gm} {X : Cx} {mcm : List (Nat × Nat)} {W0 : WX} {a b c : Expr} {pos : Pos} {ma mb mc : EvM}
theorem marks_ok {op : CmpOp} {b : Expr} (h : ∀ es k p, b ≠ .Set es k p) : behindInMarks op b = false := by
  cases b <;> first | rfl | exact absurd rfl (h _ _ _)
/-- a op b, as a value -/
theorem snd_cmp (op : Cop) (hK : X.K = Γ.K) (hu : X.A.units + 65 < cLine) (ha : PE X a (tE Γ X mcm W0 ma)) (hb : PE X b (tE Γ X mcm W0 mb)) (hm : behindInMarks (copOf op) b = false) :
    PE X (.Compare a [copOf op] [b] pos) (tE Γ X mcm W0 fun ρ S => (ma ρ S).bind fun x S => (mb ρ S).bind fun y S => Res.of ((cmpM op x y S).map .bl) S) := by
  refine PE.imp (pe_cmpR (op_cmpM hu op) ha hb hm) fun σ H Q h => ?_
  obtain ⟨W, ρ, S, R, h⟩ := h
  refine tE.mono (stepE R h) ?_
  rintro x H1 ⟨mv, W1, S1, rx, e1, R1, h1⟩
  refine tE.mono (stepE R1 h1) ?_
  rintro y H2 ⟨nv, W2, S2, ry, e2, R2, h2⟩
  cases hc : cmpM op mv nv S2 with
  | none => rw [hc] at h2; exact h2.elim
  | some k =>
    rw [hc] at h2
    exact cmp_ok hK R2 (e2.rv _ _ rx) ry hc fun H' e' R' => h2 W2 H' e' R' _ rfl
/-- .. as a test -/
theorem snd_cmpT (op : Cop) (hK : X.K = Γ.K) (hu : X.A.units + 65 < cLine) (ha : PE X a (tE Γ X mcm W0 ma)) (hb : PE X b (tE Γ X mcm W0 mb)) (hm : behindInMarks (copOf op) b = false) :
    PT X (.Compare a [copOf op] [b] pos) (tT Γ X mcm W0 fun ρ S => (ma ρ S).bind fun x S => (mb ρ S).bind fun y S => Res.of (cmpM op x y S) S) := by
  refine PT.imp (pt_cmpR (op_cmpM hu op) ha hb hm) fun σ H Q h => ?_
  obtain ⟨W, ρ, S, R, h⟩ := h
  show tE Γ X mcm W0 ma σ H _
  refine tE.mono (stepE R h) ?_
  rintro x H1 ⟨mv, W1, S1, rx, e1, R1, h1⟩
  refine tE.mono (stepE R1 h1) ?_
  rintro y H2 ⟨nv, W2, S2, ry, e2, R2, h2⟩
  cases hc : cmpM op mv nv S2 with
  | none => rw [hc] at h2; exact h2.elim
  | some k =>
    rw [hc] at h2
    exact cmp_ok hK R2 (e2.rv _ _ rx) ry hc fun H' e' R' => ⟨k, rfl, h2 W2 H' e' R'⟩
end
end Mini
namespace Mini
open PySem PySem.Spec PyProof.Rows L2
section
variable {Γ : Gm} {X : Cx} {mcm : List (Nat × Nat)} {σ : L2.St} {H : Hp} {ρ : Env} {W : Wd} {S : Store} {Q : VK} {W0 : WX}
theorem truth_ok {m : MV} {x : V} {b : Bool} (hK : X.K = Γ.K) (R : Rel Γ X mcm ρ σ W S H) (rx : RV Γ W H m x) (e : truth m S = some b) : TruV X.K x H b := by
  have emp : ∀ {ms : List MV} {xs : List V}, RVs Γ W H ms xs → (!ms.isEmpty) = !xs.isEmpty := fun {ms xs} r => by
    cases ms with
    | nil => rw [show xs = [] from r]; rfl
    | cons m ms => obtain ⟨v, vs, q, _⟩ := r; rw [q]; rfl
  cases m with
  | non => cases e; rw [show x = _ from rx]; rfl
  | bl b => cases e; rw [show x = _ from rx]; rfl
  | int i => cases e; rw [show x = _ from rx]; rfl
  | str z =>
    dsimp only [truth] at e
    split at e
    · rename_i h
      cases e
      rw [show x = _ from rx]
      exact ⟨by rw [← line_eq]; exact h, rfl⟩
    · cases e
  | tup ms =>
    cases e
    obtain ⟨a, xs, rfl, q, r⟩ := rx
    exact .inr (.inl ⟨xs, SqT.of q, emp (RVs.of_rps r)⟩)
  | tupL ms =>
    cases e
    obtain ⟨a, xs, rfl, q, r⟩ := rx
    exact .inr (.inl ⟨xs, SqT.of q, emp r⟩)
  | tupB ms =>
    cases e
    obtain ⟨a, xs, rfl, ⟨o, q, _⟩, r⟩ := rx
    exact .inr (.inl ⟨xs, .inl (.inr ⟨o, q⟩), emp (RVs.of_rps r)⟩)
  | fls ms =>
    cases e
    obtain ⟨a, xs, rfl, q, _, r⟩ := rx
    exact .inl ⟨xs, SqL.of q, emp (RVs.of_rps r)⟩
  | scr ms => cases e
  | obj c fs => cases e
  | exn c fs => cases e
  | loc i =>
    dsimp only [truth] at e
    obtain ⟨a, rfl, hi, hv⟩ := rx
    cases hS : S[i]? with
    | none => rw [hS] at e; cases e
    | some o =>
      rw [hS] at e
      have hν : o ≠ .dead → (∀ v, o ≠ .cell v) → W.ν i = some a := fun h1 h2 => by
        rcases hv with z | z
        · rcases R.rs.live i _ hS z with z | ⟨v, z⟩
          · exact absurd z h1
          · exact absurd z (h2 v)
        · exact z
      cases o with
      | lst ms =>
        cases e
        obtain ⟨xs, h1, h2⟩ := R.rs.obj i _ a hS (hν (fun z => by cases z) (fun v z => by cases z))
        exact .inl ⟨xs, SqL.of h1, emp h2⟩
      | dK lk kvs =>
        cases lk with
        | true => cases e
        | false =>
          cases kvs with
          | nil => cases e
          | cons p r =>
            cases e
            rcases R.rs.obj i _ a hS (hν (fun z => by cases z) (fun v z => by cases z)) with ⟨ws, h1, h2, _⟩ | ⟨z, _⟩
            · obtain ⟨k, m⟩ := p
              obtain ⟨v, vs, q, _⟩ := h2
              exact .inr (.inr ⟨ws, h1, by rw [q]; rfl⟩)
            · cases z
      | _ => cases e
end
/-- a test that is its value's truth -/
def plainT : Expr → Bool
  | .UnaryOp .Not _ _ => false
  | .BoolOp _ _ _ => false
  | .IfExp _ _ _ _ => false
  | .Compare _ _ _ _ => false
  | _ => true
theorem plainT_ok {e : Expr} {env : PySem.Env} (h : plainT e = true) (whole : Sem Value) : isTrue e env whole = (do let v ← whole; standAt e.pos; holding [v] (truthy v)) := by
  cases e with
  | UnaryOp op x p => cases op <;> first | rfl | cases h
  | BoolOp => cases h
  | IfExp => cases h
  | Compare => cases h
  | _ => rfl
section
variable {Γ : Gm} {X : Cx} {mcm : List (Nat × Nat)} {W0 : WX} {a b c : Expr} {pos : Pos} {ma mb mc : EvM} {ta tb : Env → Store → Res Bool}
theorem snd_val (hK : X.K = Γ.K) (ha : PE X a (tE Γ X mcm W0 ma)) (hp : plainT a = true) : PT X a (tT Γ X mcm W0 fun ρ S => (ma ρ S).bind fun x S => Res.of (truth x S) S) := by
  refine PT.imp (pt_truth ha fun w => plainT_ok hp w) fun σ H Q h => ?_
  obtain ⟨W, ρ, S, R, h⟩ := h
  refine tE.mono (stepE R h) ?_
  rintro x H1 ⟨mv, W1, S1, rx, e1, R1, h1⟩
  cases ht : truth mv S1 with
  | none => rw [ht] at h1; exact h1.elim
  | some k =>
    rw [ht] at h1
    exact ⟨k, truth_ok hK R1 rx ht, h1 W1 H1 R1.evr R1⟩
theorem snd_not (ha : PT X a (tT Γ X mcm W0 ta)) : PT X (.UnaryOp .Not a pos) (tT Γ X mcm W0 fun ρ S => (ta ρ S).bind fun t S => .ok (!t) S) := by
  refine PT.imp (pt_not ha) fun σ H Q h => ?_
  obtain ⟨W, ρ, S, R, h⟩ := h
  refine tT.mono (stepT R h) ?_
  rintro t H1 ⟨W1, S1, e1, R1, h1⟩
  exact h1 W1 H1 R1.evr R1
theorem PW.imp {e : Expr} {t t' : TT} (h : PW X e t) (hi : ∀ σ H Q, t' σ H Q → t σ H Q) : PW X e t' := ⟨fun w pins s σ H Q I q => h.run w pins s σ H Q I (hi σ H Q q)⟩
theorem snd_and {rest : List Expr} (ha : PT X a (tT Γ X mcm W0 ta)) (hb : PW X (.BoolOp .And (b :: rest) pos) (tT Γ X mcm W0 tb)) :
    PW X (.BoolOp .And (a :: b :: rest) pos) (tT Γ X mcm W0 fun ρ S => (ta ρ S).bind fun t S => if t then tb ρ S else .ok false S) := by
  refine PW.imp (pw_and ha hb) fun σ H Q h => ?_
  obtain ⟨W, ρ, S, R, h⟩ := h
  refine tT.mono (stepT R h) ?_
  rintro t H1 ⟨W1, S1, e1, R1, h1⟩
  cases t with
  | true => exact ⟨W1, ρ, S1, R1, h1⟩
  | false => exact h1 W1 H1 R1.evr R1
theorem snd_or {rest : List Expr} (ha : PT X a (tT Γ X mcm W0 ta)) (hb : PW X (.BoolOp .Or (b :: rest) pos) (tT Γ X mcm W0 tb)) :
    PW X (.BoolOp .Or (a :: b :: rest) pos) (tT Γ X mcm W0 fun ρ S => (ta ρ S).bind fun t S => if t then .ok true S else tb ρ S) := by
  refine PW.imp (pw_or ha hb) fun σ H Q h => ?_
  obtain ⟨W, ρ, S, R, h⟩ := h
  refine tT.mono (stepT R h) ?_
  rintro t H1 ⟨W1, S1, e1, R1, h1⟩
  cases t with
  | true => exact h1 W1 H1 R1.evr R1
  | false => exact ⟨W1, ρ, S1, R1, h1⟩
theorem snd_ifE (hc : PT X c (tT Γ X mcm W0 ta)) (ha : PE X a (tE Γ X mcm W0 ma)) (hb : PE X b (tE Γ X mcm W0 mb)) :
    PE X (.IfExp c a b pos) (tE Γ X mcm W0 fun ρ S => (ta ρ S).bind fun t S => if t then ma ρ S else mb ρ S) := by
  refine PE.imp (pe_ifExp hc ha hb) fun σ H Q h => ?_
  obtain ⟨W, ρ, S, R, h⟩ := h
  refine tT.mono (stepT R h) ?_
  rintro t H1 ⟨W1, S1, e1, R1, h1⟩
  cases t with
  | true => exact ⟨W1, ρ, S1, R1, h1⟩
  | false => exact ⟨W1, ρ, S1, R1, h1⟩
theorem snd_andV {rest : List Expr} (ha : PE X a (tE Γ X mcm W0 ma)) (hb : PE X (.BoolOp .And (b :: rest) pos) (tE Γ X mcm W0 mb)) :
    PE X (.BoolOp .And (a :: b :: rest) pos) (tE Γ X mcm W0 fun ρ S => (ma ρ S).bind fun x S => match x with
      | .bl true => mb ρ S
      | .bl false => .ok (.bl false) S
      | _ => .bad) := by
  refine PE.imp (pe_and ha hb) fun σ H Q h => ?_
  obtain ⟨W, ρ, S, R, h⟩ := h
  refine tE.mono (stepE R h) ?_
  rintro x H1 ⟨mv, W1, S1, rx, e1, R1, h1⟩
  cases mv with
  | bl t =>
    cases t with
    | true => exact ⟨true, rx, W1, ρ, S1, R1, h1⟩
    | false => exact ⟨false, rx, h1 W1 H1 R1.evr R1 _ rfl⟩
  | _ => exact h1.elim
theorem snd_orV {rest : List Expr} (ha : PE X a (tE Γ X mcm W0 ma)) (hb : PE X (.BoolOp .Or (b :: rest) pos) (tE Γ X mcm W0 mb)) :
    PE X (.BoolOp .Or (a :: b :: rest) pos) (tE Γ X mcm W0 fun ρ S => (ma ρ S).bind fun x S => match x with
      | .bl false => mb ρ S
      | .bl true => .ok (.bl true) S
      | _ => .bad) := by
  refine PE.imp (pe_or ha hb) fun σ H Q h => ?_
  obtain ⟨W, ρ, S, R, h⟩ := h
  refine tE.mono (stepE R h) ?_
  rintro x H1 ⟨mv, W1, S1, rx, e1, R1, h1⟩
  cases mv with
  | bl t =>
    cases t with
    | false => exact ⟨false, rx, W1, ρ, S1, R1, h1⟩
    | true => exact ⟨true, rx, h1 W1 H1 R1.evr R1 _ rfl⟩
  | _ => exact h1.elim
theorem snd_notE (hK : X.K = Γ.K) (ha : PE X a (tE Γ X mcm W0 ma)) :
    PE X (.UnaryOp .Not a pos) (tE Γ X mcm W0 fun ρ S => (ma ρ S).bind fun x S => Res.of ((truth x S).map fun b => .bl (!b)) S) := by
  refine PE.imp (L2.pe_notT ha) fun σ H Q h => ?_
  obtain ⟨W, ρ, S, R, h⟩ := h
  refine tE.mono (stepE R h) ?_
  rintro x H1 ⟨mv, W1, S1, rx, e1, R1, h1⟩
  cases ht : truth mv S1 with
  | none => rw [ht] at h1; exact h1.elim
  | some k =>
    rw [ht] at h1
    exact ⟨k, truth_ok hK R1 rx ht, h1 W1 H1 R1.evr R1 _ rfl⟩
theorem snd_chain (op op' : Cop) (hK : X.K = Γ.K) (hu : X.A.units + 65 < cLine) (ha : PE X a (tE Γ X mcm W0 ma)) (hb : PE X b (tE Γ X mcm W0 mb)) (hc : PE X c (tE Γ X mcm W0 mc)) (hm : behindInMarks (copOf op') c = false) :
    PE X (.Compare a [copOf op, copOf op'] [b, c] pos) (tE Γ X mcm W0 fun ρ S => (ma ρ S).bind fun x S => (mb ρ S).bind fun y S => match cmpM op x y S with
      | some true => (mc ρ S).bind fun z S => Res.of ((cmpM op' y z S).map .bl) S
      | some false => .ok (.bl false) S
      | none => .bad) := by
  refine PE.imp (pe_chain (op_cmpM hu op) (op_cmpM hu op') ha hb hc hm) fun σ H Q h => ?_
  obtain ⟨W, ρ, S, R, h⟩ := h
  refine tE.mono (stepE R h) ?_
  rintro x H1 ⟨mv, W1, S1, rx, e1, R1, h1⟩
  refine tE.mono (stepE R1 h1) ?_
  rintro y H2 ⟨nv, W2, S2, ry, e2, R2, h2⟩
  cases hc : cmpM op mv nv S2 with
  | none => rw [hc] at h2; exact h2.elim
  | some k =>
    rw [hc] at h2
    refine cmp_ok hK R2 (e2.rv _ _ rx) ry hc fun H' e' R' => ⟨k, rfl, ?_⟩
    cases k with
    | false => exact h2 W2 H' e' R' _ rfl
    | true =>
      show tE Γ X mcm W0 mc σ H' _
      refine tE.mono (stepE R' (Want.shift h2 e')) ?_
      rintro z H3 ⟨ov, W3, S3, rz, e3, R3, h3⟩
      cases hc2 : cmpM op' nv ov S3 with
      | none => rw [hc2] at h3; exact h3.elim
      | some k2 =>
        rw [hc2] at h3
        exact cmp_ok hK R3 (e3.rv _ _ (e'.rv _ _ ry)) rz hc2 fun H' e' R' => h3 W3 H' e' R' _ rfl
theorem snd_chainT (op op' : Cop) (hK : X.K = Γ.K) (hu : X.A.units + 65 < cLine) (ha : PE X a (tE Γ X mcm W0 ma)) (hb : PE X b (tE Γ X mcm W0 mb)) (hc : PE X c (tE Γ X mcm W0 mc)) (hm : behindInMarks (copOf op') c = false) :
    PT X (.Compare a [copOf op, copOf op'] [b, c] pos) (tT Γ X mcm W0 fun ρ S => (ma ρ S).bind fun x S => (mb ρ S).bind fun y S => match cmpM op x y S with
      | some true => (mc ρ S).bind fun z S => Res.of (cmpM op' y z S) S
      | some false => .ok false S
      | none => .bad) := by
  refine PT.imp (pt_chain (op_cmpM hu op) (op_cmpM hu op') ha hb hc hm) fun σ H Q h => ?_
  obtain ⟨W, ρ, S, R, h⟩ := h
  show tE Γ X mcm W0 ma σ H _
  refine tE.mono (stepE R h) ?_
  rintro x H1 ⟨mv, W1, S1, rx, e1, R1, h1⟩
  refine tE.mono (stepE R1 h1) ?_
  rintro y H2 ⟨nv, W2, S2, ry, e2, R2, h2⟩
  cases hc : cmpM op mv nv S2 with
  | none => rw [hc] at h2; exact h2.elim
  | some k =>
    rw [hc] at h2
    refine cmp_ok hK R2 (e2.rv _ _ rx) ry hc fun H' e' R' => ⟨k, rfl, ?_⟩
    cases k with
    | false => exact ⟨false, rfl, h2 W2 H' e' R'⟩
    | true =>
      show tE Γ X mcm W0 mc σ H' _
      refine tE.mono (stepE R' (Want.shift h2 e')) ?_
      rintro z H3 ⟨ov, W3, S3, rz, e3, R3, h3⟩
      cases hc2 : cmpM op' nv ov S3 with
      | none => rw [hc2] at h3; exact h3.elim
      | some k2 =>
        rw [hc2] at h3
        exact cmp_ok hK R3 (e3.rv _ _ (e'.rv _ _ ry)) rz hc2 fun H' e' R' => ⟨k2, rfl, h3 W3 H' e' R'⟩
end
end Mini
namespace Mini
open PySem PySem.Spec PyProof.Rows L2
/-- d[k], k there -/
def rIxDict : R2 := fun x y H Q => ∃ a v H', x = .ref a ∧ Rt H a H' ∧ DGet H' a y (some v) ∧ Q v H'
theorem ix_dictR {X : Cx} (hu : X.A.units + 1 < cLine) : IxR X rIxDict := by
  intro value slice pins s σ H x y v u Q I rx ry h hs
  obtain ⟨a, z, H', rfl, rt, g, q⟩ := h
  cases rx
  have I' := inv_rt I rt
  exact tail_any (dict_typeIs I' g) PySem.F.slot_dict_getitem.lookup (d_getItem hu I' g ry fun w' s3 I3 rw' => ⟨z, H', I3, rw', q⟩) hs
def rSubM (K : PySem.W.Frag) : R2 := fun x y H Q => rIx K x y H Q ∨ rIxDict x y H Q
theorem ix_subM {X : Cx} (hu : X.A.units + 1 < cLine) : IxR X (rSubM X.K) := ix_seq.or (ix_dictR hu)
section
variable {Γ : Gm} {X : Cx} {mcm : List (Nat × Nat)} {σ : L2.St} {H : Hp} {ρ : Env} {W : Wd} {S : Store} {Q : VK} {W0 : WX}
theorem RVs.atI {ms : List MV} {xs : List V} {i : Int} {m : MV} (r : RVs Γ W H ms xs) (e : L2.atI ms i = some m) : ∃ v, L2.atI xs i = some v ∧ RV Γ W H m v := by
  unfold L2.atI at e ⊢
  rw [r.len]
  cases h : L2.ixN ms.length i with
  | none => rw [h] at e; cases e
  | some k =>
    rw [h] at e
    exact r.get e
theorem sub_ok {m n : MV} {x y : V} {r : MV} (hK : X.K = Γ.K) (R : Rel Γ X mcm ρ σ W S H) (rx : RV Γ W H m x) (ry : RV Γ W H n y) (e : subM m n S = some r)
    (k : ∀ H', Ev Γ W H W H' → Rel Γ X mcm ρ σ W S H' → ∀ v, RV Γ W H' r v → Q v H') : rSubM X.K x y H Q := by
  unfold subM at e
  split at e
  · rename_i z i
    split at e
    · rename_i hl
      cases h : L2.atI z.cps.toList i with
      | none => rw [h] at e; cases e
      | some c =>
        rw [h] at e
        cases e
        exact .inl (.inr (.inr ⟨z, i, c, rx, ry, by rw [← line_eq]; exact hl, h, k H R.evr R _ rfl⟩))
    · cases e
  · cases hs : asSeq m S with
    | some xs =>
      rw [hs] at e
      cases n with
      | int i =>
        obtain ⟨a, vs, rfl, q, r1⟩ := asSeq_ok R hs rx
        obtain ⟨v, h1, h2⟩ := RVs.atI r1 e
        rw [hK]
        rcases q with q | q
        · exact .inl (.inl ⟨a, vs, i, v, rfl, ry, q, h1, k H R.evr R v h2⟩)
        · exact .inl (.inr (.inl ⟨a, vs, i, v, rfl, ry, q, h1, k H R.evr R v h2⟩))
      | _ => cases e
    | none =>
      rw [hs] at e
      cases m with
      | loc l =>
        dsimp only at e
        cases hS : S[l]? with
        | none => rw [hS] at e; cases e
        | some o =>
          rw [hS] at e
          dsimp only at e
          cases hd : dGet o n with
          | none => rw [hd] at e; cases e
          | some ov =>
            rw [hd] at e
            cases ov with
            | none => cases e
            | some m' =>
              cases e
              obtain ⟨a, rfl, hi, hv⟩ := rx
              rcases hv with z | z
              · rcases R.rs.live l _ hS z with q | ⟨_, q⟩ <;> (rw [q] at hd; unfold dGet at hd; cases hd)
              · obtain ⟨H', rt, e1, R', v, g1, g2⟩ := dGet_ok R hS z hd ry
                exact .inr ⟨a, v, H', rfl, rt, g1, k H' e1 R' v g2⟩
      | _ => cases e
/-- a[i] -/
theorem snd_sub {a b : Expr} {pos : Pos} {ma mb : EvM} (hK : X.K = Γ.K) (hu : X.A.units + 1 < cLine) (ha : PE X a (tE Γ X mcm W0 ma)) (hb : PE X b (tE Γ X mcm W0 mb)) (hp : PlainIx b) :
    PE X (.Subscript a b pos) (tE Γ X mcm W0 fun ρ S => (ma ρ S).bind fun x S => (mb ρ S).bind fun y S => Res.of (subM x y S) S) := by
  refine PE.imp (pe_ix (ix_subM hu) ha hb hp) fun σ H Q h => ?_
  obtain ⟨W, ρ, S, R, h⟩ := h
  refine tE.mono (stepE R h) ?_
  rintro x H1 ⟨mv, W1, S1, rx, e1, R1, h1⟩
  refine tE.mono (stepE R1 h1) ?_
  rintro y H2 ⟨nv, W2, S2, ry, e2, R2, h2⟩
  cases hc : subM mv nv S2 with
  | none => rw [hc] at h2; exact h2.elim
  | some k =>
    rw [hc] at h2
    exact sub_ok hK R2 (e2.rv _ _ rx) ry hc fun H' e' R' v rv => h2 W2 H' e' R' v rv
def rSlM (K : PySem.W.Frag) : V → Option Int → Option Int → Hp → VK → Prop := fun x lo hi H Q => rSlL K x lo hi H Q ∨ rSlA K x lo hi H Q ∨ rSlS x lo hi H Q
theorem sl_M : SlR X (rSlM X.K) := sl_list.or (sl_tupA.or sl_str)
theorem RVs.cut {ms : List MV} {xs : List V} (r : RVs Γ W H ms xs) (lo hi : Option Int) : RVs Γ W H (cutM ms lo hi) (cutV xs lo hi) := by
  unfold cutM cutV
  rw [r.len]
  exact (r.drop _).take _
theorem cut_all {α : Type} {xs : List α} {lo hi : Option Int} (h : HT.sIx xs.length 0 lo = 0 ∧ HT.sIx xs.length xs.length hi = xs.length) : cutM xs lo hi = xs := by
  unfold cutM
  rw [h.1, h.2, List.drop_zero, Nat.sub_zero, List.take_length]
theorem slice_ok {k : Bool} {m : MV} {x : V} {l h' : Option Int} (hK : X.K = Γ.K) (R : Rel Γ X mcm ρ σ W S H) (rx : RV Γ W H m x)
    (w : WnE Γ X mcm W0 ρ σ W H (sliceM k m l h' S) Q) : rSlM X.K x l h' H Q := by
  unfold sliceM at w
  split at w
  · rename_i z
    split at w
    · rename_i hl
      refine .inr (.inr ⟨z, rx, by rw [← line_eq]; exact hl, ?_⟩)
      have e : cutS z l h' = ⟨(cutM z.cps.toList l h').toArray⟩ := by
        unfold cutS cutM
        simp [Str.length]
      rw [e]
      exact WnE.here R w rfl
    · exact w.elim
  · cases e1 : asTup m with
    | some xs =>
      rw [e1] at w
      dsimp only at w
      obtain ⟨a, vs, rfl, q, r⟩ := RV.asTup e1 rx
      refine .inr (.inl ⟨a, vs, rfl, q.sq, fun z => ?_, fun z p hp => ?_⟩)
      · rw [r.len] at z
        rw [if_pos z] at w
        exact WnE.here R w rx
      · rename_i z
        rw [r.len] at z
        rw [if_neg z] at w
        obtain ⟨e, R', rv⟩ := R.newT hp (r.cut l h')
        exact w _ _ e R' _ rv
    | none =>
      rw [e1] at w
      dsimp only at w
      cases e2 : asList m S with
      | none => rw [e2] at w; exact w.elim
      | some xs =>
        rw [e2] at w
        obtain ⟨a, vs, rfl, q, r⟩ := asList_ok R e2 rx
        exact .inl ⟨a, vs, rfl, SqL.of q, (mkL_ok R (r.cut l h') w).2⟩
/-- a slice's part as the interpreter has it -/
inductive Part (Γ : Gm) (X : Cx) (mcm : List (Nat × Nat)) (W0 : WX) : Option Expr → (Env → Store → Res (List MV)) → Prop
  | none : Part Γ X mcm W0 none fun _ S => .ok [] S
  | some {e : Expr} {m : EvM} (h : PE X e (tE Γ X mcm W0 m)) : Part Γ X mcm W0 (some e) fun ρ S => (m ρ S).bind fun v S => (Res.ok [] S).bind fun vs S => .ok (v :: vs) S
def tPt (Γ : Gm) (X : Cx) (mcm : List (Nat × Nat)) (W0 : WX) (ms : Env → Store → Res (List MV)) : TO := fun σ H Q => ∃ W ρ S, Rel Γ X mcm ρ σ W S H ∧
  Want Γ (Rel Γ X mcm ρ σ) W H (ms ρ S) (fun l _ W' H' => ∃ o, optInt l.head? = some o ∧ Q o H') fun C d H' => W0 C d σ H'
theorem PO.imp {e : Option Expr} {t t' : TO} (h : PO X e t) (hi : ∀ σ H Q, t' σ H Q → t σ H Q) : PO X e t' := ⟨fun pins s σ H Q I q => h.run pins s σ H Q I (hi σ H Q q)⟩
theorem Part.po {e : Option Expr} {ms : Env → Store → Res (List MV)} (h : Part Γ X mcm W0 e ms) : PO X e (tPt Γ X mcm W0 ms) := by
  cases h with
  | none =>
    refine PO.imp po_none fun σ H Q q => ?_
    obtain ⟨W, ρ, S, R, w⟩ := q
    obtain ⟨o, eo, q⟩ := w W H R.evr R
    cases eo
    exact q
  | some h =>
    refine PO.imp (po_some h) fun σ H Q q => ?_
    obtain ⟨W, ρ, S, R, w⟩ := q
    refine tE.mono (stepE R w) ?_
    rintro x H1 ⟨mv, W1, S1, rx, e1, R1, h1⟩
    obtain ⟨o, eo, q⟩ := h1 W1 H1 R1.evr R1
    cases mv with
    | int i => cases eo; exact ⟨i, rx, q⟩
    | _ => cases eo
/-- a[lo:hi] -/
theorem snd_slice {a : Expr} {lo hi : Option Expr} {pos p2 : Pos} {ma : EvM} {ml mh : Env → Store → Res (List MV)} (k : Bool) (hK : X.K = Γ.K) (ha : PE X a (tE Γ X mcm W0 ma)) (hl : Part Γ X mcm W0 lo ml) (hh : Part Γ X mcm W0 hi mh) :
    PE X (.Subscript a (.Slice lo hi none p2) pos) (tE Γ X mcm W0 fun ρ S => (ma ρ S).bind fun x S => (ml ρ S).bind fun l S => match optInt l.head? with
      | some l => (mh ρ S).bind fun h S => match optInt h.head? with
        | some h => sliceM k x l h S
        | none => .bad
      | none => .bad) := by
  refine PE.imp (pe_slice sl_M ha hl.po hh.po) fun σ H Q h => ?_
  obtain ⟨W, ρ, S, R, h⟩ := h
  refine tE.mono (stepE R h) ?_
  rintro x H1 ⟨mv, W1, S1, rx, e1, R1, h1⟩
  refine ⟨W1, ρ, S1, R1, h1.bind.mono (fun l S2 W2 H2 _ e2 R2 h2 => ?_) fun _ _ _ z => z⟩
  cases el : optInt l.head? with
  | none => simp only [el] at h2; exact h2.elim
  | some lo' =>
    simp only [el] at h2
    refine ⟨lo', rfl, W2, ρ, S2, R2, h2.bind.mono (fun u S3 W3 H3 _ e3 R3 h3 => ?_) fun _ _ _ z => z⟩
    cases eu : optInt u.head? with
    | none => simp only [eu] at h3; exact h3.elim
    | some hi' =>
      simp only [eu] at h3
      exact ⟨hi', rfl, slice_ok hK R3 ((e2.trans e3).rv _ _ rx) h3⟩
end
end Mini
namespace Mini
open PySem PySem.Spec PyProof.Rows L2
theorem CallR.or {X : Cx} {f : Value} {r r' : List V → Hp → VK → Prop} (h : CallR X f r) (h' : CallR X f r') : CallR X f (fun x H Q => r x H Q ∨ r' x H Q) :=
  fun pins s σ H xs us Q I rx q => q.elim (h pins s σ H xs us Q I rx) (h' pins s σ H xs us Q I rx)
/-- repr of data -/
def rReprM (K : PySem.W.Frag) : List V → Hp → VK → Prop := fun xs H Q => ∃ x d, xs = [x] ∧ Dp K H x d ∧ d.showable = true ∧ d.hasDict = false ∧ d.shown.length ≤ sizeLine ∧ d.depth ≤ 64 ∧ Q (.str d.shown) H
theorem call_reprM {X : Cx} (hg : X.A.guards = some []) (hu : X.A.units + 66 < cLine) : CallR X (.builtin "repr") (rReprM X.K) := by
  intro pins s σ H xs us Q I r h
  obtain ⟨x, d, rfl, hd, hs, hh, hz, hp, q⟩ := h
  obtain ⟨u, rfl, rx⟩ := vals1 r
  obtain ⟨as, rd⟩ := Dp.reads I d x u hd rx
  have fin : ∀ h' u tk, (∀ b o, s.heap.get? b = some o → h'.get? b = some o) → EP X pins σ Q (.str d.shown u) { s with heap := h', toks := tk } := fun h' u tk hk => ⟨.str d.shown, H, I.kept hk, ⟨u, rfl⟩, q⟩
  have fin0 : ∀ u tk, EP X pins σ Q (.str d.shown u) { s with toks := tk } := fun u tk => ⟨.str d.shown, H, I.tok _, ⟨u, rfl⟩, q⟩
  cases hd with
  | non =>
    cases rx
    have e : PyData.shown .none = "None" := by simp only [PyData.shown]
    rw [e] at fin0
    exact P.repr_of_none (fin0 _ _)
  | bl b =>
    cases rx
    have e : PyData.shown (.bool b) = (if b then ("True" : Str) else "False") := by cases b <;> simp only [PyData.shown] <;> rfl
    rw [e] at fin0
    exact P.repr_of_bool (fin0 _ _)
  | int i =>
    obtain ⟨t, rfl⟩ := rx
    have e : PyData.shown (.int i) = toString i := by simp only [PyData.shown]
    rw [e] at fin0
    exact P.repr_of_int (by simpa [PyData.showable] using hs) (fin0 _ _)
  | str y =>
    obtain ⟨t, rfl⟩ := rx
    have e : PyData.shown (.str y) = reprText y := by simp only [PyData.shown]
    rw [e] at fin0 hz
    exact P.repr_of_str (fin0 _ _) hz
  | lst h1 h2 =>
    cases rx
    exact repr_of_reads' rd hs (fun z => by rw [hh] at z; cases z) hg (by omega) (fun _ _ e => e) fin hz
  | tup h1 h2 =>
    cases rx
    exact repr_of_reads' rd hs (fun z => by rw [hh] at z; cases z) hg (by omega) (fun _ _ e => e) fin hz
/-- tuple(xs), a list: the new tuple's object is known -/
def rTupB (K : PySem.W.Frag) : List V → Hp → VK → Prop := fun xs H Q => ∃ p ys, xs = [.ref p] ∧ ((SqL K H p ys ∧ ∀ (l : Addr) (o : Obj), o.dict = none → H l = none → Q (.ref l) (upd H l (.frz o (.tup ys)))) ∨ (SqT K H p ys ∧ Q (.ref p) H))
theorem call_tupB {X : Cx} : CallR X (.type "tuple") (rTupB X.K) := by
  intro pins s σ H xs us Q I r h
  obtain ⟨p, ys, rfl, h⟩ := h
  obtain ⟨u, rfl, rx⟩ := vals1 r
  cases rx
  rcases h with ⟨hq, q⟩ | ⟨hq, q⟩
  · obtain ⟨its, r', pl, hz⟩ := I.list hq
    have hlen := r'.length
    refine call_tuple_list pl.isList (fun h' kp => ?_) (by simp only [List.size_toArray] <;> omega)
    have I1 : L2.Inv X pins σ H { s with heap := h' } := I.kept (t' := s.toks) kp
    have I2 : L2.Inv X pins σ (upd H h'.objs.size (.frz { cls := .type "tuple", data := .seq its.toArray } (.tup ys))) { s with heap := h'.push { cls := .type "tuple", data := .seq its.toArray } } :=
      I1.laid (t' := s.toks) (fun b o e => Heap.get?_push_of_some _ e) (Nat.le_refl _) (show ObjOk X.prog X.w _ _ _ (.frz _ (.tup ys)) from ⟨Heap.get?_push_size _ rfl, hz, its, r', IsTup.new _ _⟩)
    exact ⟨.ref h'.objs.size, _, I2, rfl, q _ _ rfl (I1.hok.fresh (Nat.le_refl _))⟩
  · obtain ⟨its, r', pl, hz⟩ := I.tuple hq
    exact call_tuple_same pl ⟨.ref p, H, I, rfl, q⟩
/-- what a built-in answers -/
def rBi (K : PySem.W.Frag) : Bi → List V → Hp → VK → Prop
  | .len => fun xs H Q => (∃ x n, xs = [x] ∧ LenV K x H n ∧ Q (.int n) H) ∨ (∃ a kvs, xs = [V.ref a] ∧ H a = some (.dK kvs) ∧ Q (.int kvs.length) H) ∨ rLenT xs H Q
  | .abs => fun xs H Q => ∃ i, xs = [.int i] ∧ Q (.int (if i < 0 then -i else i)) H
  | .int => fun xs H Q => ((∃ i, xs = [.int i] ∧ Q (.int i) H) ∨ ∃ k, xs = [.bl k] ∧ Q (.int (if k then 1 else 0)) H) ∨ ∃ a n, xs = [.str a] ∧ PySem.intText? a = some n ∧ a.length ≤ 640 ∧ Q (.int n) H
  | .max2 => fun xs H Q => ∃ i j, xs = [.int i, .int j] ∧ Q (.int (if j > i then j else i)) H
  | .min2 => fun xs H Q => ∃ i j, xs = [.int i, .int j] ∧ Q (.int (if j < i then j else i)) H
  | .sum => rSum K
  | .maxL => rMax K
  | .minL => rMin K
  | .all => rAll K
  | .any => rAny K
  | .repr => rReprM K
  | .tuple => fun xs H Q => ∃ p ys, xs = [.ref p] ∧ ((SqL K H p ys ∧ ∀ l, H l = none → Q (.ref l) (upd H l (.tup ys))) ∨ (SqT K H p ys ∧ Q (.ref p) H))
  | .tupleB => rTupB K
  | .str => fun xs H Q => (∃ i, xs = [.int i] ∧ i.natAbs.log2 < 1920 ∧ Q (.str (toString i)) H) ∨ ∃ a, xs = [.str a] ∧ Q (.str a) H
/-- the built-in's value -/
def biF : Bi → Value
  | .len => .builtin "len"
  | .abs => .builtin "abs"
  | .int => .type "int"
  | .max2 => .builtin "max"
  | .min2 => .builtin "min"
  | .sum => .builtin "sum"
  | .maxL => .builtin "max"
  | .minL => .builtin "min"
  | .all => .builtin "all"
  | .any => .builtin "any"
  | .repr => .builtin "repr"
  | .tuple => .type "tuple"
  | .tupleB => .type "tuple"
  | .str => .type "str"
theorem bi_call {X : Cx} (b : Bi) (hc : X.calm = true) (hg : X.A.guards = some []) (hu : X.A.units + 66 < cLine) : CallR X (biF b) (rBi X.K b) := by
  cases b with
  | len => exact CallR.or call_len (CallR.or call_lenD call_len_dT)
  | abs => exact call_abs
  | int => exact CallR.or call_int1 call_int_str
  | max2 => exact call_max2 hc
  | min2 => exact call_min2 hc
  | sum => exact cr_sum hc
  | maxL => exact cr_max hc
  | minL => exact cr_min hc
  | all => exact cr_all hc
  | any => exact cr_any hc
  | repr => exact call_reprM hg hu
  | tuple => exact call_tuple_of
  | tupleB => exact call_tupB
  | str => exact CallR.or call_str_int SkE.call_str_str
theorem maxI_mem : ∀ (r : List Int) (m : Int), (maxI m r ∈ m :: r) ∧ ∀ y ∈ m :: r, y ≤ maxI m r
  | [], m => ⟨List.mem_cons_self, fun y hy => by
    rcases List.mem_cons.mp hy with e | e
    · rw [e]; exact Int.le_refl _
    · cases e⟩
  | i :: r, m => by
    unfold maxI
    by_cases h : m < i
    · rw [if_pos h]
      obtain ⟨h1, h2⟩ := maxI_mem r i
      exact ⟨List.mem_cons_of_mem _ h1, fun y hy => by
        rcases List.mem_cons.mp hy with e | e
        · have := h2 i List.mem_cons_self
          omega
        · exact h2 y e⟩
    · rw [if_neg h]
      obtain ⟨h1, h2⟩ := maxI_mem r m
      refine ⟨?_, fun y hy => ?_⟩
      · rcases List.mem_cons.mp h1 with e | e
        · rw [e]; exact List.mem_cons_self
        · exact List.mem_cons_of_mem _ (List.mem_cons_of_mem _ e)
      · rcases List.mem_cons.mp hy with e | e
        · rw [e]; exact h2 m List.mem_cons_self
        · rcases List.mem_cons.mp e with e | e
          · have := h2 m List.mem_cons_self
            omega
          · exact h2 y (List.mem_cons_of_mem _ e)
theorem minI_mem : ∀ (r : List Int) (m : Int), (minI m r ∈ m :: r) ∧ ∀ y ∈ m :: r, minI m r ≤ y
  | [], m => ⟨List.mem_cons_self, fun y hy => by
    rcases List.mem_cons.mp hy with e | e
    · rw [e]; exact Int.le_refl _
    · cases e⟩
  | i :: r, m => by
    unfold minI
    by_cases h : i < m
    · rw [if_pos h]
      obtain ⟨h1, h2⟩ := minI_mem r i
      exact ⟨List.mem_cons_of_mem _ h1, fun y hy => by
        rcases List.mem_cons.mp hy with e | e
        · have := h2 i List.mem_cons_self
          omega
        · exact h2 y e⟩
    · rw [if_neg h]
      obtain ⟨h1, h2⟩ := minI_mem r m
      refine ⟨?_, fun y hy => ?_⟩
      · rcases List.mem_cons.mp h1 with e | e
        · rw [e]; exact List.mem_cons_self
        · exact List.mem_cons_of_mem _ (List.mem_cons_of_mem _ e)
      · rcases List.mem_cons.mp hy with e | e
        · rw [e]; exact h2 m List.mem_cons_self
        · rcases List.mem_cons.mp e with e | e
          · have := h2 m List.mem_cons_self
            omega
          · exact h2 y (List.mem_cons_of_mem _ e)
section
variable {Γ : Gm} {X : Cx} {mcm : List (Nat × Nat)} {σ : L2.St} {H : Hp} {ρ : Env} {W : Wd} {S : Store} {Q : VK} {W0 : WX}
theorem intsV_ok : ∀ {ms : List MV} {is : List Int} {xs : List V}, intsOf ms = some is → RVs Γ W H ms xs → xs = is.map V.int
  | [], is, xs, e, r => by cases e; exact r
  | m :: ms, is, xs, e, r => by
    obtain ⟨v, vs, q, r1, r2⟩ := r
    cases m with
    | int i =>
      cases h : intsOf ms with
      | none => simp [intsOf, h] at e
      | some js =>
        simp [intsOf, h] at e
        rw [q, intsV_ok h r2, ← e, show v = _ from r1]
        rfl
    | _ => cases e
theorem blsV_ok : ∀ {ms : List MV} {is : List Bool} {xs : List V}, blsOf ms = some is → RVs Γ W H ms xs → xs = is.map V.bl
  | [], is, xs, e, r => by cases e; exact r
  | m :: ms, is, xs, e, r => by
    obtain ⟨v, vs, q, r1, r2⟩ := r
    cases m with
    | bl i =>
      cases h : blsOf ms with
      | none => simp [blsOf, h] at e
      | some js =>
        simp [blsOf, h] at e
        rw [q, blsV_ok h r2, ← e, show v = _ from r1]
        rfl
    | _ => cases e
theorem vals_one {m : MV} {xs : List V} (r : RVs Γ W H [m] xs) : ∃ x, xs = [x] ∧ RV Γ W H m x := by
  obtain ⟨v, vs, q, r1, r2⟩ := r
  rw [show vs = [] from r2] at q
  exact ⟨v, q, r1⟩
theorem vals_two {m n : MV} {xs : List V} (r : RVs Γ W H [m, n] xs) : ∃ x y, xs = [x, y] ∧ RV Γ W H m x ∧ RV Γ W H n y := by
  obtain ⟨v, vs, q, r1, r2⟩ := r
  obtain ⟨y, h, r3⟩ := vals_one r2
  rw [h] at q
  exact ⟨v, y, q, r1, r3⟩
theorem len_ok {v : MV} {x : V} {n : Nat} (hK : X.K = Γ.K) (R : Rel Γ X mcm ρ σ W S H) (r : RV Γ W H v x) (e : lenM v S = some n) (k : Q (.int (n : Nat)) H) : rBi X.K .len [x] H Q := by
  unfold lenM at e
  split at e
  · rename_i y
    split at e
    · rename_i hl
      cases e
      rw [show x = _ from r]
      exact .inl ⟨_, _, rfl, ⟨by rw [← line_eq]; exact hl, rfl⟩, k⟩
    · cases e
  · cases hs : asSeq v S with
    | some xs =>
      rw [hs] at e
      cases e
      obtain ⟨a, vs, rfl, q, r1⟩ := asSeq_ok R hs r
      rw [← r1.len] at k
      rw [hK]
      refine .inl ⟨_, _, rfl, ?_, k⟩
      rcases q with q | q
      · exact .inl ⟨vs, q, rfl⟩
      · exact .inr ⟨vs, q, rfl⟩
    | none =>
      rw [hs] at e
      cases v with
      | loc l =>
        dsimp only at e
        obtain ⟨a, rfl, hi, hv⟩ := r
        split at e
        · rename_i kvs hS
          cases e
          rcases hv with z | z
          · rcases R.rs.live l _ hS z with q | ⟨_, q⟩ <;> cases q
          · rcases R.rs.obj l _ a hS z with ⟨ws, q1, q2⟩ | ⟨q1, q2, q3⟩
            · rw [← q2.1.len] at k
              exact .inr (.inl ⟨a, ws, rfl, q1, k⟩)
            · subst q1
              exact .inr (.inr ⟨a, [], rfl, q3, k⟩)
        · rename_i kvs hS
          cases e
          rcases hv with z | z
          · rcases R.rs.live l _ hS z with q | ⟨_, q⟩ <;> cases q
          · rcases R.rs.obj l _ a hS z with ⟨ws, q1, q2⟩ | ⟨q1, q2, q3⟩
            · rw [← q2.1.len] at k
              exact .inr (.inr ⟨a, ws, rfl, q1, k⟩)
            · subst q1
              exact .inr (.inl ⟨a, [], rfl, q3, k⟩)
        · cases e
      | _ => cases e
theorem bi_ok {b : Bi} {vs : List MV} {xs : List V} {m : MV} (hK : X.K = Γ.K) (R : Rel Γ X mcm ρ σ W S H) (r : RVs Γ W H vs xs) (e : biM b vs S = some m)
    (k : ∀ W' H', Ev Γ W H W' H' → Rel Γ X mcm ρ σ W' S H' → ∀ v, RV Γ W' H' m v → Q v H') : rBi X.K b xs H Q := by
  have k0 : ∀ v, RV Γ W H m v → Q v H := k W H R.evr R
  unfold biM at e
  split at e
  · obtain ⟨x, rfl, r1⟩ := vals_one r
    rename_i v
    cases h : lenM v S with
    | none => rw [h] at e; cases e
    | some n =>
      rw [h] at e
      cases e
      exact len_ok hK R r1 h (k0 _ rfl)
  · obtain ⟨x, rfl, r1⟩ := vals_one r
    cases e
    rw [show x = _ from r1]
    exact ⟨_, rfl, k0 _ rfl⟩
  · obtain ⟨x, rfl, r1⟩ := vals_one r
    cases e
    rw [show x = _ from r1]
    exact .inl (.inl ⟨_, rfl, k0 _ rfl⟩)
  · obtain ⟨x, rfl, r1⟩ := vals_one r
    cases e
    rw [show x = _ from r1]
    exact .inl (.inr ⟨_, rfl, k0 _ rfl⟩)
  · obtain ⟨x, rfl, r1⟩ := vals_one r
    split at e
    · rename_i n hn
      split at e
      · rename_i hl
        cases e
        rw [show x = _ from r1]
        exact .inr ⟨_, _, rfl, hn, hl, k0 _ rfl⟩
      · cases e
    · cases e
  · obtain ⟨x, y, rfl, r1, r2⟩ := vals_two r
    cases e
    rw [show x = _ from r1, show y = _ from r2]
    exact ⟨_, _, rfl, k0 _ rfl⟩
  · obtain ⟨x, y, rfl, r1, r2⟩ := vals_two r
    cases e
    rw [show x = _ from r1, show y = _ from r2]
    exact ⟨_, _, rfl, k0 _ rfl⟩
  · obtain ⟨x, rfl, r1⟩ := vals_one r
    split at e
    · rename_i ys hy
      cases h : intsOf ys with
      | none => rw [h] at e; cases e
      | some is =>
        rw [h] at e
        cases e
        obtain ⟨a, ws, rfl, q, r2⟩ := asList_ok R hy r1
        rw [intsV_ok h r2] at q
        exact ⟨a, is, rfl, SqL.of q, k0 _ rfl⟩
    · cases e
  · obtain ⟨x, rfl, r1⟩ := vals_one r
    split at e
    · rename_i i ys hy
      cases h : intsOf ys with
      | none => rw [h] at e; cases e
      | some is =>
        rw [h] at e
        cases e
        obtain ⟨a, ws, rfl, q, r2⟩ := asList_ok R hy r1
        rw [intsV_ok (is := i :: is) (by simp [intsOf, h]) r2] at q
        obtain ⟨h1, h2⟩ := maxI_mem is i
        refine ⟨a, i :: is, rfl, SqL.of q, Nat.succ_pos _, fun m hm hmx => ?_⟩
        have : m = maxI i is := Int.le_antisymm (h2 m hm) (hmx _ h1)
        rw [this]
        exact k0 _ rfl
    · cases e
  · obtain ⟨x, rfl, r1⟩ := vals_one r
    split at e
    · rename_i i ys hy
      cases h : intsOf ys with
      | none => rw [h] at e; cases e
      | some is =>
        rw [h] at e
        cases e
        obtain ⟨a, ws, rfl, q, r2⟩ := asList_ok R hy r1
        rw [intsV_ok (is := i :: is) (by simp [intsOf, h]) r2] at q
        obtain ⟨h1, h2⟩ := minI_mem is i
        refine ⟨a, i :: is, rfl, SqL.of q, Nat.succ_pos _, fun m hm hmx => ?_⟩
        have : m = minI i is := Int.le_antisymm (hmx _ h1) (h2 m hm)
        rw [this]
        exact k0 _ rfl
    · cases e
  · obtain ⟨x, rfl, r1⟩ := vals_one r
    split at e
    · rename_i ys hy
      cases h : blsOf ys with
      | none => rw [h] at e; cases e
      | some is =>
        rw [h] at e
        cases e
        obtain ⟨a, ws, rfl, q, r2⟩ := asList_ok R hy r1
        rw [blsV_ok h r2] at q
        exact ⟨a, is, rfl, SqL.of q, k0 _ rfl⟩
    · cases e
  · obtain ⟨x, rfl, r1⟩ := vals_one r
    split at e
    · rename_i ys hy
      cases h : blsOf ys with
      | none => rw [h] at e; cases e
      | some is =>
        rw [h] at e
        cases e
        obtain ⟨a, ws, rfl, q, r2⟩ := asList_ok R hy r1
        rw [blsV_ok h r2] at q
        exact ⟨a, is, rfl, SqL.of q, k0 _ rfl⟩
    · cases e
  · obtain ⟨x, rfl, r1⟩ := vals_one r
    rename_i v
    cases h : reprM v S with
    | none => rw [h] at e; cases e
    | some n =>
      rw [h] at e
      cases e
      unfold reprM at h
      split at h
      · rename_i d hd
        split at h
        · rename_i hc
          cases h
          simp only [Bool.and_eq_true, decide_eq_true_eq, Bool.not_eq_true'] at hc
          obtain ⟨⟨⟨c1, c2⟩, c3⟩, c4⟩ := hc
          rw [hK]
          exact ⟨x, d, rfl, toD_ok R 64 v x d hd r1, c1, c2, by rw [← line_eq]; exact c3, c4, k0 _ rfl⟩
        · cases h
      · cases h
  · obtain ⟨x, rfl, r1⟩ := vals_one r
    rename_i v
    split at e
    · rename_i ys hy
      cases e
      obtain ⟨a, ws, e1, q, r2⟩ := RV.asTup hy r1
      rw [e1] at r1 ⊢
      exact ⟨a, ws, rfl, .inr ⟨q.sq, k0 _ r1⟩⟩
    · cases h : asList v S with
      | none => rw [h] at e; cases e
      | some ys =>
        rw [h] at e
        cases e
        obtain ⟨a, ws, rfl, q, r2⟩ := asList_ok R h r1
        refine ⟨a, ws, rfl, .inl ⟨SqL.of q, fun p hp => ?_⟩⟩
        obtain ⟨e, R', rv⟩ := R.newT hp r2
        exact k _ _ e R' _ rv
  · obtain ⟨x, rfl, r1⟩ := vals_one r
    rename_i v
    split at e
    · rename_i ys hy
      cases e
      obtain ⟨a, ws, e1, q, r2⟩ := RV.asTup hy r1
      rw [e1] at r1 ⊢
      exact ⟨a, ws, rfl, .inr ⟨q.sq, k0 _ r1⟩⟩
    · split at e
      · rename_i ys h
        split at e
        · rename_i hpure
          cases e
          obtain ⟨a, ws, rfl, q, r2⟩ := asList_ok R h r1
          refine ⟨a, ws, rfl, .inl ⟨SqL.of q, fun p o ho hp => ?_⟩⟩
          obtain ⟨e, R', rv⟩ := R.newB hp ho hpure r2
          exact k _ _ e R' _ rv
        · cases e
      · cases e
  · obtain ⟨x, rfl, r1⟩ := vals_one r
    split at e
    · rename_i hl
      cases e
      rw [show x = _ from r1]
      exact .inl ⟨_, rfl, hl, k0 _ rfl⟩
    · cases e
  · obtain ⟨x, rfl, r1⟩ := vals_one r
    cases e
    rw [show x = _ from r1]
    exact .inr ⟨_, rfl, k0 _ rfl⟩
  · cases e
theorem tCB_imp {r : List V → Hp → VK → Prop} {ms : Env → Store → Res (List MV)} {f : List MV → Store → Res MV} (h : ∀ ρ σ W H S vs xs Q, Rel Γ X mcm ρ σ W S H → RVs Γ W H vs xs → WnE Γ X mcm W0 ρ σ W H (f vs S) Q → r xs H Q) :
    ∀ σ H Q, tE Γ X mcm W0 (fun ρ S => (ms ρ S).bind f) σ H Q → tCB r (tA Γ X mcm W0 ms) σ H Q := by
  intro σ H Q q
  obtain ⟨W, ρ, S, R, w⟩ := q
  refine tA.mono (stepA R w) ?_
  rintro x H1 ⟨mv, W1, S1, rx, e1, R1, h1⟩
  exact h _ _ _ _ _ _ _ _ R1 rx h1
end
section
variable {Γ : Gm} {X : Cx} {mcm : List (Nat × Nat)} {W0 : WX} {e : Expr} {es : List Expr} {x : Str} {p pos : Pos} {ms : Env → Store → Res (List MV)}
theorem bi_want {b : Bi} (hK : X.K = Γ.K) : ∀ ρ σ W H S vs xs Q, Rel Γ X mcm ρ σ W S H → RVs Γ W H vs xs → WnE Γ X mcm W0 ρ σ W H (Res.of (biM b vs S) S) Q → rBi X.K b xs H Q := by
  intro ρ σ W H S vs xs Q R r w
  cases h : biM b vs S with
  | none => rw [h] at w; exact w.elim
  | some m =>
    rw [h] at w
    exact bi_ok hK R r h fun W' H' e' R' v rv => w W' H' e' R' v rv
/-- f(e, ..), f a built-in -/
theorem snd_bi (b : Bi) (hK : X.K = Γ.K) (hc : X.calm = true) (hgd : X.A.guards = some []) (hu : X.A.units + 66 < cLine) (hg : Gl X x) (hm : X.mg x = none) (hv : bootBuiltins x = some (biF b))
    (ha : PA X (e :: es) (tA Γ X mcm W0 ms)) (hn : x ≠ "__name__") (hdb : (x == ("__debug__" : Str)) = false) (hs : PySem.W.isStarred e = false) (hpl : (backTo pos (starEach es X.env)).any (·.1) = false) :
    PE X (.Call (.Name x p) (e :: es) [] pos) (tE Γ X mcm W0 fun ρ S => (ms ρ S).bind fun vs S => Res.of (biM b vs S) S) := by
  have hq := bi_call b hc hgd hu
  have key : PE X (.Call (.Name x p) (e :: es) [] pos) (tCB (rBi X.K b) (tA Γ X mcm W0 ms)) := by
    cases b with
    | int => exact pe_callTy hq hg hm hv ha hn hdb (star_ok hs) hpl
    | tuple => exact pe_callTy hq hg hm hv ha hn hdb (star_ok hs) hpl
    | tupleB => exact pe_callTy hq hg hm hv ha hn hdb (star_ok hs) hpl
    | str => exact pe_callTy hq hg hm hv ha hn hdb (star_ok hs) hpl
    | _ => exact pe_callB hq hg hm hv ha hn hdb (star_ok hs) hpl
  exact PE.imp key (tCB_imp (bi_want hK))
end
end Mini
namespace Mini
open PySem PySem.Spec PyProof.Rows L2
def tyN : Ty → String
  | .int => "int"
  | .bool => "bool"
  | .str => "str"
  | .tuple => "tuple"
  | .list => "list"
  | .dict => "dict"
  | .cls _ => ""
/-- what the written part says of the classes -/
structure ClsF (Γ : Gm) (P : Prog) (K : PySem.W.Frag) : Prop where
  cls : ∀ c C, Γ.cad c = some C → isInst P c = true → Cls K C
  no : ∀ c C f, Γ.cad c = some C → hasFld P c f = true → NoAttr K C f
  ha : ∀ c C, Γ.cad c = some C → isInst P c = true → PySem.W.findIn K (.ref C) "__class__" = some (some (.builtin "object.__class__"))
  hn : PySem.W.specialIn K (.builtin "object.__class__") "__get__" = some (some (.builtin "getset_descriptor.__get__"))
  htk : PySem.W.takesIn K (.builtin "object.__class__") = some true
  hm : ∀ c C, Γ.cad c = some C → isInst P c = true → PySem.W.mroIn K C (.type "object") = some true
  inj : ∀ c c' C, Γ.cad c = some C → Γ.cad c' = some C → c = c'
  kCC : ∀ c C c' C', Γ.cad c = some C → Γ.cad c' = some C' → isInst P c = true → isInst P c' = true → PySem.W.kitOne K (.ref C) (.ref C') = some (decide (c = c'))
  kCT : ∀ c C t, Γ.cad c = some C → isInst P c = true → (∀ k, t ≠ .cls k) → PySem.W.kitOne K (.ref C) (.type (tyN t)) = some false
  kTC : ∀ c C n, Γ.cad c = some C → isInst P c = true → n ∈ ["NoneType", "int", "bool", "str", "tuple", "list", "dict"] → PySem.W.kitOne K (.type n) (.ref C) = some false
section
variable {Γ : Gm} {X : Cx} {mcm : List (Nat × Nat)} {σ : L2.St} {H : Hp} {ρ : Env} {W : Wd} {S : Store} {Q : VK} {W0 : WX} {P : Prog}
theorem hasFld_inst {c : Nat} {f : Str} (h : hasFld P c f = true) : isInst P c = true := by
  unfold hasFld at h
  unfold isInst
  split at h
  · rfl
  · cases h
theorem fget_p {Av : Addr → Prop} {f : Str} : ∀ {fs : Flds} {ws : List (Str × V)} {m : MV}, RPf Γ Av H fs ws → fGet fs f = some m → ∃ v, ws.lookup f = some v ∧ RP Γ Av H m v
  | [], _, _, _, e => by cases e
  | (g, n) :: fs, ws, m, r, e => by
    obtain ⟨v, vs, q, r1, r2⟩ := r
    unfold fGet at e
    rw [seqStr_eq] at e
    rw [q]
    by_cases h : g = f
    · rw [if_pos (by rw [decide_eq_true h])] at e
      cases e
      exact ⟨v, by rw [List.lookup_cons, beq_iff_eq.mpr h.symm], r1⟩
    · rw [if_neg (by rw [decide_eq_false h]; exact Bool.false_ne_true)] at e
      obtain ⟨v', h1, h2⟩ := fget_p r2 e
      exact ⟨v', by rw [List.lookup_cons, beq_eq_false_iff_ne.mpr (Ne.symm h)]; exact h1, h2⟩
theorem fget_v {f : Str} : ∀ {fs : Flds} {ws : List (Str × V)} {m : MV}, RVf Γ W H fs ws → fGet fs f = some m → ∃ v, ws.lookup f = some v ∧ RV Γ W H m v
  | [], _, _, _, e => by cases e
  | (g, n) :: fs, ws, m, r, e => by
    obtain ⟨v, vs, q, r1, r2⟩ := r
    unfold fGet at e
    rw [seqStr_eq] at e
    rw [q]
    by_cases h : g = f
    · rw [if_pos (by rw [decide_eq_true h])] at e
      cases e
      exact ⟨v, by rw [List.lookup_cons, beq_iff_eq.mpr h.symm], r1⟩
    · rw [if_neg (by rw [decide_eq_false h]; exact Bool.false_ne_true)] at e
      obtain ⟨v', h1, h2⟩ := fget_v r2 e
      exact ⟨v', by rw [List.lookup_cons, beq_eq_false_iff_ne.mpr (Ne.symm h)]; exact h1, h2⟩
/-- a.f -/
theorem snd_attr {a : Expr} {f : Str} {pos : Pos} {ma : EvM} (hK : X.K = Γ.K) (hC : ClsF Γ P Γ.K) (ha : PE X a (tE Γ X mcm W0 ma)) (hb : attributeBase a f X.env (eval a X.env) = eval a X.env) :
    PE X (.Attribute a f pos) (tE Γ X mcm W0 fun ρ S => (ma ρ S).bind fun x S => Res.of (attrM P x f S) S) := by
  refine PE.imp (pe_fld ha hb) fun σ H Q h => ?_
  obtain ⟨W, ρ, S, R, h⟩ := h
  refine tE.mono (stepE R h) ?_
  rintro x H1 ⟨mv, W1, S1, rx, e1, R1, h1⟩
  obtain ⟨m, e, k⟩ := WnE.of R1 h1
  unfold attrM at e
  cases mv with
  | obj c fs =>
    obtain ⟨a, C, dx, ws, rfl, q1, q2, q3, q4⟩ := rx
    dsimp only at e
    split at e
    · rename_i hf
      obtain ⟨v, z1, z2⟩ := fget_p q4 e
      rw [hK]
      exact ⟨a, C, dx, ws, v, rfl, q2, hC.cls c C q1 (hasFld_inst hf), hC.no c C f q1 hf, z1, k v (RV.of_rp z2)⟩
    · cases e
  | loc l =>
    dsimp only at e
    obtain ⟨a, rfl, hi, hv⟩ := rx
    cases hS : S1[l]? with
    | none => rw [hS] at e; cases e
    | some o =>
      rw [hS] at e
      cases o with
      | ins c fs =>
        dsimp only at e
        rcases hv with z | z
        · rcases R1.rs.live l _ hS z with q | ⟨_, q⟩ <;> cases q
        · obtain ⟨C, dx, ws, q1, q2, q4⟩ := R1.rs.obj l _ a hS z
          split at e
          · rename_i hf
            obtain ⟨v, z1, z2⟩ := fget_v q4 e
            rw [hK]
            exact ⟨a, C, dx, ws, v, rfl, q2, hC.cls c C q1 (hasFld_inst hf), hC.no c C f q1 hf, z1, k v z2⟩
          · cases e
      | _ => cases e
  | _ => cases e
def clsV (Γ : Gm) : Ty → V → Value → Prop
  | .cls c, v, u => ∃ C, Γ.cad c = some C ∧ v = .ref C ∧ u = .ref C
  | t, v, u => v = .ty (tyN t) ∧ u = .type (tyN t)
/-- a built-in type's answer -/
def tyA (t : Ty) (n : String) : Bool :=
  match t with
  | .cls _ => false
  | .int => decide (n = "int") || decide (n = "bool")
  | t => decide (n = tyN t)
theorem kTT (t : Ty) (n : String) (h : n ∈ ["NoneType", "int", "bool", "str", "tuple", "list", "dict"]) (ht : ∀ k, t ≠ .cls k) {K : PySem.W.Frag} :
    PySem.W.kitOne K (.type n) (.type (tyN t)) = some (tyA t n) := by
  simp only [List.mem_cons, List.not_mem_nil, or_false] at h
  cases t with
  | cls k => exact absurd rfl (ht k)
  | _ => rcases h with h | h | h | h | h | h | h <;> subst h <;> exact kit_ty (by decide +kernel)
theorem isTy_ok {m : MV} {x : V} {t : Ty} {b : Bool} {cv : V} {cu : Value} (hC : ClsF Γ P Γ.K) (R : Rel Γ X mcm ρ σ W S H) (rx : RV Γ W H m x) (hc : clsV Γ t cv cu) (e : isTy P m S t = some b) :
    ∃ tv, TyX Γ.K H x tv ∧ PySem.W.kitOne Γ.K tv cu = some b := by
  unfold isTy at e
  split at e
  · rename_i hg
    -- a built-in type
    have bt : ∀ n : String, n ∈ ["NoneType", "int", "bool", "str", "tuple", "list", "dict"] → PySem.W.kitOne Γ.K (.type n) cu = some (tyA t n) := fun n hn => by
      cases t with
      | cls c =>
        obtain ⟨C, h1, h2, h3⟩ := hc
        rw [h3, hC.kTC c C n h1 hg hn]
        rfl
      | _ =>
        obtain ⟨h2, h3⟩ := hc
        rw [h3, kTT _ n hn (fun k z => by cases z)]
    have own : ∀ c C, Γ.cad c = some C → isInst P c = true → PySem.W.kitOne Γ.K (.ref C) cu = some (decide (t = .cls c)) := fun c C h1 h2 => by
      cases t with
      | cls c' =>
        obtain ⟨C', h3, h4, h5⟩ := hc
        rw [h5, hC.kCC c C c' C' h1 h3 h2 hg]
        congr 1
        by_cases z : c = c'
        · subst z; rw [decide_eq_true rfl, decide_eq_true rfl]
        · rw [decide_eq_false z, decide_eq_false (fun y => z (by cases y; rfl))]
      | _ =>
        obtain ⟨h3, h4⟩ := hc
        rw [h4, hC.kCT c C _ h1 h2 (fun k z => by cases z)]
        congr 1
    have fin : ∀ n : String, n ∈ ["NoneType", "int", "bool", "str", "tuple", "list", "dict"] → TyX Γ.K H x (.type n) → tyA t n = b → ∃ tv, TyX Γ.K H x tv ∧ PySem.W.kitOne Γ.K tv cu = some b :=
      fun n hn ty hb => ⟨_, ty, by rw [bt n hn, hb]⟩
    split at e
    · cases e
      have ex : x = _ := rx
      refine fin "NoneType" (by simp) (by rw [ex]; exact .base .non) ?_
      cases t <;> first | decide | rfl
    · cases e
      have ex : x = _ := rx
      refine fin "bool" (by simp) (by rw [ex]; exact .base (.bl _)) ?_
      cases t <;> first | decide | rfl
    · cases e
      have ex : x = _ := rx
      refine fin "int" (by simp) (by rw [ex]; exact .base (.int _)) ?_
      cases t <;> first | decide | rfl
    · cases e
      have ex : x = _ := rx
      refine fin "str" (by simp) (by rw [ex]; exact .base (.str _)) ?_
      cases t <;> first | decide | rfl
    · cases e
      obtain ⟨a, xs, rfl, q, r⟩ := rx
      refine fin "tuple" (by simp) (.base (.tup q)) ?_
      cases t <;> first | decide | rfl
    · cases e
      obtain ⟨a, xs, rfl, q, r⟩ := rx
      refine fin "tuple" (by simp) (.base (.tup q)) ?_
      cases t <;> first | decide | rfl
    · cases e
      obtain ⟨a, xs, rfl, ⟨o, q, _⟩, r⟩ := rx
      refine fin "tuple" (by simp) (.fTuple q) ?_
      cases t <;> first | decide | rfl
    · cases e
      obtain ⟨a, xs, rfl, q, _, r⟩ := rx
      refine fin "list" (by simp) (.base (.lst q)) ?_
      cases t <;> first | decide | rfl
    · cases e
      obtain ⟨a, xs, rfl, q, _, r⟩ := rx
      refine fin "list" (by simp) ?_ ?_
      · rcases q with q | ⟨o, q⟩
        · exact .base (.lst q)
        · exact .base (.frz q)
      · cases t <;> first | decide | rfl
    · split at e
      · rename_i c fs hi
        cases e
        obtain ⟨a, C, dx, ws, rfl, q1, q2, q3, q4⟩ := rx
        exact ⟨.ref C, .base (.ins q2 (hC.cls c C q1 hi) (hC.ha c C q1 hi) hC.hn hC.htk (hC.hm c C q1 hi)), own c C q1 hi⟩
      · cases e
    · cases e
    · rename_i l
      obtain ⟨a, rfl, hi, hv⟩ := rx
      split at e
      · rename_i hS
        cases e
        rcases hv with z | z
        · rcases R.rs.live l _ hS z with q | ⟨_, q⟩ <;> cases q
        · obtain ⟨xs, q, _⟩ := R.rs.obj l _ a hS z
          refine fin "list" (by simp) (.base (.lst q)) ?_
          cases t <;> first | decide | rfl
      · rename_i kvs hS
        cases e
        rcases hv with z | z
        · rcases R.rs.live l _ hS z with q | ⟨_, q⟩ <;> cases q
        · have ty : TyX Γ.K H (.ref a) (.type "dict") := by
            rcases R.rs.obj l _ a hS z with ⟨ws, q1, q2⟩ | ⟨q1, q2, q3⟩
            · exact .base (.dK q1)
            · exact .base (.dT q3)
          refine fin "dict" (by simp) ty ?_
          cases t <;> first | decide | rfl
      · rename_i kvs hS
        cases e
        rcases hv with z | z
        · rcases R.rs.live l _ hS z with q | ⟨_, q⟩ <;> cases q
        · have ty : TyX Γ.K H (.ref a) (.type "dict") := by
            rcases R.rs.obj l _ a hS z with ⟨ws, q1, q2⟩ | ⟨q1, q2, q3⟩
            · exact .base (.dT q1)
            · exact .base (.dK q3)
          refine fin "dict" (by simp) ty ?_
          cases t <;> first | decide | rfl
      · rename_i c fs hS
        split at e
        · rename_i hi
          cases e
          rcases hv with z | z
          · rcases R.rs.live l _ hS z with q | ⟨_, q⟩ <;> cases q
          · obtain ⟨C, dx, ws, q1, q2, q4⟩ := R.rs.obj l _ a hS z
            exact ⟨.ref C, .base (.ins q2 (hC.cls c C q1 hi) (hC.ha c C q1 hi) hC.hn hC.htk (hC.hm c C q1 hi)), own c C q1 hi⟩
        · cases e
      · cases e
  · cases e
/-- isinstance(a, c) -/
theorem snd_isin {a c : Expr} {p pos : Pos} {ma : EvM} {t : Ty} {cv : V} {cu : Value} (hK : X.K = Γ.K) (hC : ClsF Γ P Γ.K) (hg : Gl X "isinstance") (hm : X.mg "isinstance" = none) (ha : PE X a (tE Γ X mcm W0 ma)) (hc : PE X c (tC cv)) (hcv : clsV Γ t cv cu)
    (hs1 : PySem.W.isStarred a = false) (hs2 : PySem.W.isStarred c = false) (hpl : (backTo pos (starEach [c] X.env)).any (·.1) = false) :
    PE X (.Call (.Name "isinstance" p) [a, c] [] pos) (tE Γ X mcm W0 fun ρ S => (ma ρ S).bind fun x S => Res.of ((isTy P x S t).map .bl) S) := by
  refine PE.imp (pe_callB call_isi hg hm (by decide +kernel) (pa_cons ha (pa_cons hc pa_nil (star_ok hs2)) (star_ok hs1)) (by decide) (by decide) (star_ok hs1) hpl) fun σ H Q h => ?_
  obtain ⟨W, ρ, S, R, h⟩ := h
  refine tE.mono (stepE R h) ?_
  rintro x H1 ⟨mv, W1, S1, rx, e1, R1, h1⟩
  obtain ⟨m, e, k⟩ := WnE.of R1 h1
  cases he : isTy P mv S1 t with
  | none => rw [he] at e; cases e
  | some b =>
    rw [he] at e
    cases e
    obtain ⟨tv, z1, z2⟩ := isTy_ok hC R1 rx hcv he
    have kv : ClsV cv cu := by
      cases t with
      | cls c =>
        obtain ⟨C, _, h2, h3⟩ := hcv
        rw [h2, h3]; exact .own C
      | _ =>
        obtain ⟨h2, h3⟩ := hcv
        rw [h2, h3]; exact .ty _
    rw [hK]
    exact ⟨x, cv, tv, cu, b, rfl, kv, z1, z2, k _ rfl⟩
end
end Mini
namespace Mini
open PySem PySem.Spec PyProof.Rows L2
/-- the receiver's type -/
def tyM (K : PySem.W.Frag) (T : String) (x : V) (H : Hp) : Prop := tyV K T x H ∨ (T = "tuple" ∧ ∃ (p : Addr) (o : Obj) (xs : List V), x = .ref p ∧ H p = some (.frz o (.tup xs)) ∧ o.dict = none)
theorem tyM_is {X : Cx} {pins : List (Addr × Obj)} {σ : L2.St} {H : Hp} {s : Shared} {T : String} {x : V} {v : Value} (I : L2.Inv X pins σ H s) (r : RelV x v) (ty : tyM X.K T x H) :
    s.TypeIs v T ∧ ∀ a, v = .ref a → ∃ ob, s.heap.get? a = some ob ∧ ob.dict = none := by
  rcases ty with ty | ⟨rfl, p, o, xs, rfl, h, hd⟩
  · exact tyV_is I r ty
  · cases r
    obtain ⟨h1, _, its, _, o', h2, h3, _⟩ := (show ObjOk X.prog X.w H s.heap p (.frz o (.tup xs)) from I.hok p _ h)
    rw [h1] at h2
    cases h2
    refine ⟨⟨o, h1, h3⟩, fun a e => ?_⟩
    cases e
    exact ⟨o, h1, hd⟩
/-- a road: the type, the method, what it does -/
structure Road (X : Cx) (name : Str) where
  T : String
  id : String
  r : V → List V → Hp → VK → Prop
  pa : PlainAttrs T
  slot : Slot T name id
  ty : typeOf (.builtin id) = pure (.type "method_descriptor")
  mt : MtR X id r
def tMeth {X : Cx} {name : Str} (rs : List (Road X name)) (to : TE) (t : TA) : TE := fun σ H Q => to σ H fun x H1 => ∃ d ∈ rs, tyM X.K d.T x H1 ∧ t σ H1 fun xs H2 => d.r x xs H2 Q
theorem pe_meth0 {X : Cx} {o : Expr} {name : Str} {apos cpos : Pos} {to : TE} (rs : List (Road X name)) (ho : PE X o to)
    (hbase : attributeBase o name X.env (eval o X.env) = eval o X.env) (hline : (apos.endLine == cpos.line) = true) :
    PE X (.Call (.Attribute o name apos) [] [] cpos) (tMeth rs to tNil) := by
  refine ⟨fun pins s σ H Q I h => ?_⟩
  refine wpAny_Call_method0_late hbase hline (thn (ho.run pins s σ H _ I h) fun v s1 ⟨x, H1, I1, r1, d, _, ty, q1⟩ => ?_)
  obtain ⟨h1, h2⟩ := tyM_is I1 r1 ty
  exact ⟨d.T, d.id, d.pa, d.slot, d.ty, h1, h2, Calls.callWith_builtin rfl (PySem.evalArgs_none (d.mt pins s1 σ H1 x [] v [] Q I1 r1 .nil q1))⟩
theorem pe_meth {X : Cx} {o e : Expr} {es : List Expr} {name : Str} {apos cpos : Pos} {to : TE} {t : TA} (rs : List (Road X name)) (ho : PE X o to) (ha : PA X (e :: es) t)
    (hbase : attributeBase o name X.env (eval o X.env) = eval o X.env)
    (hfew : ((backTo cpos (starEach (e :: es) X.env)).all (fun x => !x.1) && (backToKw cpos (keywordEach [] X.env)).all (fun x => x.1.isSome)
      && decide ((e :: es).length + ([] : List Keyword).length + (if ([] : List Keyword).isEmpty then 0 else 1) < 30)) = true)
    (hline : (apos.endLine == cpos.line) = true) (hs : PySem.W.isStarred e = false) (hplain : (backTo cpos (starEach es X.env)).any (·.1) = false) :
    PE X (.Call (.Attribute o name apos) (e :: es) [] cpos) (tMeth rs to t) := by
  refine ⟨fun pins s σ H Q I h => ?_⟩
  refine wpAny_Call_method_late hbase hfew hline rfl (thn (ho.run pins s σ H _ I h) fun v s1 ⟨x, H1, I1, r1, d, _, ty, q1⟩ => ?_)
  obtain ⟨h1, h2⟩ := tyM_is I1 r1 ty
  refine ⟨d.T, d.id, d.pa, d.slot, d.ty, h1, h2, ?_⟩
  have hA := ha.run cpos pins s1 σ H1 _ I1 q1
  rw [star_ok hs] at hA ⊢
  refine Calls.callWith_builtin (by show (false || (backTo cpos (starEach es X.env)).any (·.1)) = false; rw [hplain] <;> rfl) (Calls.evalArgs_plain ?_)
  exact thn hA fun us s2 ⟨vs, H2, I2, r2, q2⟩ => d.mt pins s2 σ H2 x vs v us Q I2 r1 r2 q2
def rTupIx : V → List V → Hp → VK → Prop := fun x xs H Q => ∃ (p : Addr) (o : Obj) (ns : List Int) (k : Int), x = .ref p ∧ xs = [.int k] ∧ H p = some (.frz o (.tup (ns.map V.int))) ∧ k ∈ ns ∧ Q (.int (ns.idxOf k : Nat)) H
theorem mt_tupIx {X : Cx} : MtR X "tuple.index" rTupIx := by
  intro pins s σ H x xs v us Q I rx rxs h
  obtain ⟨p, o, ns, k, rfl, rfl, hp, hk, q⟩ := h
  cases rx
  obtain ⟨u, rfl, ru⟩ := rxs.one
  obtain ⟨t, rfl⟩ := ru
  obtain ⟨its, rv, pl, hz⟩ := I.tuple (show SqT X.K H p (ns.map V.int) from .inl (.inr ⟨o, hp⟩))
  exact SeqAt.tuple_index_ints (vs := its) pl rv.ints hk ⟨.int (ns.idxOf k : Nat), H, I.tok _, ⟨_, rfl⟩, q⟩
def rIndexM (K : PySem.W.Frag) : V → List V → Hp → VK → Prop := fun x xs H Q => rIndex K x xs H Q ∨ rIndexD K x xs H Q
def mName : Mth → Str
  | .append => "append"
  | .pop => "pop"
  | .popAt => "pop"
  | .index => "index"
  | .extend => "extend"
def roads (X : Cx) (hu : X.A.units + 65 < cLine) : (m : Mth) → List (Road X (mName m))
  | .append => [⟨"list", "list.append", rAppend, F.plainAttrs_list, F.slot_list_append, F.type_list_append, mt_append⟩]
  | .pop => [⟨"list", "list.pop", rPop, F.plainAttrs_list, F.slot_list_pop, F.type_list_pop, mt_pop⟩]
  | .popAt => [⟨"list", "list.pop", rPopAt, F.plainAttrs_list, F.slot_list_pop, F.type_list_pop, mt_popAt⟩]
  | .extend => [⟨"list", "list.extend", rExtend, F.plainAttrs_list, F.slot_list_extend, F.type_list_extend, mt_extend⟩]
  | .index => [⟨"list", "list.index", rIndexM X.K, F.plainAttrs_list, F.slot_list_index, F.type_list_index, MtR.or mt_index (mt_indexD hu)⟩,
      ⟨"tuple", "tuple.index", rTupIx, F.plainAttrs_tuple, F.slot_tuple_index, F.type_tuple_index, mt_tupIx⟩]
section
variable {Γ : Gm} {X : Cx} {mcm : List (Nat × Nat)} {σ : L2.St} {H : Hp} {ρ : Env} {W : Wd} {S : Store} {Q : VK} {W0 : WX} {P : Prog}
theorem findM_ok {x : MV} {y : V} (hx : scalM x = true) (ry : RV Γ W H x y) : ∀ {ms : List MV} {xs : List V} {n k : Nat}, ms.all scalM = true → RVs Γ W H ms xs → findM x ms n = some k →
    ∃ j z, k = n + j ∧ xs[j]? = some z ∧ eqV z y = true ∧ ∀ (i : Nat) z', i < j → xs[i]? = some z' → eqV z' y = false
  | [], _, _, _, _, _, e => by cases e
  | m :: ms, _, n, k, hs, r, e => by
    obtain ⟨v, vs, rfl, r1, r2⟩ := r
    simp only [List.all_cons, Bool.and_eq_true] at hs
    have he : eqV v y = eqS m x := eqS_eqV hs.1 hx r1 ry
    unfold findM at e
    by_cases h : eqS m x = true
    · rw [if_pos h] at e
      cases e
      exact ⟨0, v, rfl, rfl, by rw [he]; exact h, fun i z' hi => absurd hi (Nat.not_lt_zero _)⟩
    · rw [if_neg h] at e
      obtain ⟨j, z, h1, h2, h3, h4⟩ := findM_ok hx ry hs.2 r2 e
      refine ⟨j + 1, z, by omega, h2, h3, fun i z' hi hz => ?_⟩
      cases i with
      | zero =>
        cases hz
        rw [he]; exact Bool.eq_false_iff.mpr h
      | succ i => exact h4 i z' (by omega) hz
theorem findD_ok {d : PyData} : ∀ {ds : List PyData} {n k : Nat}, findD d ds n = some k →
    ∃ j z, k = n + j ∧ ds[j]? = some z ∧ PyData.eqv z d = true ∧ ∀ (i : Nat) z', i < j → ds[i]? = some z' → PyData.eqv z' d = false
  | [], _, _, e => by cases e
  | m :: ms, n, k, e => by
    unfold findD at e
    by_cases h : PyData.eqv m d = true
    · rw [if_pos h] at e
      cases e
      exact ⟨0, m, rfl, rfl, h, fun i z' hi => absurd hi (Nat.not_lt_zero _)⟩
    · rw [if_neg h] at e
      obtain ⟨j, z, h1, h2, h3, h4⟩ := findD_ok e
      refine ⟨j + 1, z, by omega, h2, h3, fun i z' hi hz => ?_⟩
      cases i with
      | zero => cases hz; exact Bool.eq_false_iff.mpr h
      | succ i => exact h4 i z' (by omega) hz
theorem findI_ok {x : Int} : ∀ {ns : List Int} {n k : Nat}, findI x ns n = some k → x ∈ ns ∧ k = n + ns.idxOf x
  | [], _, _, e => by cases e
  | m :: ms, n, k, e => by
    unfold findI at e
    by_cases h : (m == x) = true
    · rw [if_pos h] at e
      cases e
      rw [eq_of_beq h]
      exact ⟨List.mem_cons_self, by simp⟩
    · rw [if_neg h] at e
      obtain ⟨h1, h2⟩ := findI_ok e
      refine ⟨List.mem_cons_of_mem _ h1, ?_⟩
      rw [List.idxOf_cons, h2]
      have : (m == x) = false := Bool.eq_false_iff.mpr h
      rw [this]
      simp only [cond_false]
      omega
theorem RVs.dropLast : ∀ {ms : List MV} {xs : List V}, RVs Γ W H ms xs → RVs Γ W H ms.dropLast xs.dropLast := fun {ms xs} r => by
  rw [List.dropLast_eq_take, List.dropLast_eq_take, r.len]
  exact r.take _
theorem RVs.erase : ∀ {ms : List MV} {xs : List V} (k : Nat), RVs Γ W H ms xs → RVs Γ W H (ms.eraseIdx k) (xs.eraseIdx k)
  | [], _, _, h => by rw [show _ = [] from h]; rfl
  | _ :: _, _, 0, h => by
    obtain ⟨v, vs, rfl, _, r⟩ := h
    exact r
  | _ :: _, _, k + 1, h => by
    obtain ⟨v, vs, rfl, r1, r⟩ := h
    exact ⟨v, _, rfl, r1, RVs.erase k r⟩
/-- a list of the store, for its change -/
theorem loc_lst {l : Nat} {x : V} {ms : List MV} (R : Rel Γ X mcm ρ σ W S H) (rx : RV Γ W H (.loc l) x) (hS : S[l]? = some (.lst ms)) : ∃ a xs, x = .ref a ∧ W.ν l = some a ∧ H a = some (.lst xs) ∧ RVs Γ W H ms xs := by
  obtain ⟨a, rfl, hi, hv⟩ := rx
  rcases hv with z | z
  · rcases R.rs.live l _ hS z with q | ⟨_, q⟩ <;> cases q
  · obtain ⟨xs, q1, q2⟩ := R.rs.obj l _ a hS z
    exact ⟨a, xs, rfl, z, q1, q2⟩
theorem Rel.setL {l : Nat} {a : Addr} {ms ns : List MV} {xs ys : List V} (R : Rel Γ X mcm ρ σ W S H) (hS : S[l]? = some (.lst ms)) (hl : W.ν l = some a) (h0 : H a = some (.lst xs)) (r : RVs Γ W H ns ys) :
    Ev Γ W H W (upd H a (.lst ys)) ∧ Rel Γ X mcm ρ σ W (S.set l (.lst ns)) (upd H a (.lst ys)) := by
  have e : Ev Γ W H W (upd H a (.lst ys)) := Ev.set R.rs hl h0 rfl
  exact ⟨e, R.set hS hl h0 rfl ⟨ys, upd_same, e.rvs _ _ r⟩⟩
/-- the receiver is a list -/
theorem methL_ok {m : Mth} {mx : MV} {vs : List MV} {x : V} {xs : List V} (hK : X.K = Γ.K) (hu : X.A.units + 65 < cLine) (R : Rel Γ X mcm ρ σ W S H) (rx : RV Γ W H mx x) (ra : RVs Γ W H vs xs) (hT : isTupB mx = false)
    (h : WnE Γ X mcm W0 ρ σ W H (methM m mx vs S) Q) : ∀ d, (roads X hu m).head? = some d → d.r x xs H Q := by
  intro d hd
  unfold methM at h
  split at h
  · cases hd
    obtain ⟨y, rfl, ry⟩ := vals_one ra
    split at h
    · rename_i l
      split at h
      · rename_i ms hS
        split at h
        · rename_i hlen
          obtain ⟨a, ws, rfl, hv, h0, r⟩ := loc_lst R rx hS
          obtain ⟨e, R'⟩ := R.setL hS hv h0 (r.app (ns := [_]) (ys := [y]) ⟨y, [], rfl, ry, rfl⟩)
          exact ⟨a, ws, y, rfl, rfl, h0, by rw [r.len, ← line_eq]; exact hlen, h _ _ e R' _ rfl⟩
        · exact h.elim
      · exact h.elim
    · exact h.elim
  · cases hd
    obtain ⟨y, rfl, ry⟩ := vals_one ra
    split at h
    · rename_i l ys hy
      split at h
      · rename_i ms hS
        split at h
        · rename_i hlen
          obtain ⟨a, ws, rfl, hv, h0, r⟩ := loc_lst R rx hS
          obtain ⟨b, zs, rfl, hb, rb⟩ := asList_ok R hy ry
          obtain ⟨e, R'⟩ := R.setL hS hv h0 (r.app rb)
          exact ⟨a, b, ws, zs, rfl, rfl, h0, hb, by rw [r.len, rb.len, ← line_eq]; exact hlen, h _ _ e R' _ rfl⟩
        · exact h.elim
      · exact h.elim
    · exact h.elim
  · cases hd
    rw [show xs = [] from ra]
    split at h
    · rename_i l
      split at h
      · rename_i ms hS
        split at h
        · rename_i y hy
          obtain ⟨a, ws, rfl, hv, h0, r⟩ := loc_lst R rx hS
          obtain ⟨z, hz, rz⟩ := r.get hy
          obtain ⟨e, R'⟩ := R.setL hS hv h0 r.dropLast
          exact ⟨a, ws, z, rfl, rfl, h0, by rw [r.len]; exact hz, h _ _ e R' _ (e.rv _ _ rz)⟩
        · exact h.elim
      · exact h.elim
    · exact h.elim
  · cases hd
    obtain ⟨y, rfl, ry⟩ := vals_one ra
    rw [show y = _ from ry]
    rename_i i
    split at h
    · rename_i l
      split at h
      · rename_i ms hS
        split at h
        · rename_i k hk
          split at h
          · rename_i z0 hz0
            obtain ⟨a, ws, rfl, hv, h0, r⟩ := loc_lst R rx hS
            obtain ⟨z, hz, rz⟩ := r.get hz0
            obtain ⟨e, R'⟩ := R.setL hS hv h0 (r.erase k)
            obtain ⟨k1, k2, k3, k4⟩ := ixN_seq hk
            split at h
            · rename_i hlen
              have hlen : ms.length ≤ 16777216 := hlen
              exact ⟨a, ws, i, k, z, rfl, rfl, h0, by omega, by omega, by rw [r.len]; exact k1, hz, h _ _ e R' _ (e.rv _ _ rz)⟩
            · exact h.elim
          · exact h.elim
        · exact h.elim
      · exact h.elim
    · exact h.elim
  · cases hd
    obtain ⟨y, rfl, ry⟩ := vals_one ra
    rename_i v
    split at h
    · rename_i ms hms
      obtain ⟨a, ws, rfl, q, r⟩ := asList_ok R hms rx
      split at h
      · rename_i hs
        obtain ⟨s1, s2⟩ := Bool.and_eq_true_iff.mp hs
        obtain ⟨m', e, k⟩ := WnE.of R h
        cases hf : findM v ms 0 with
        | none => rw [hf] at e; cases e
        | some n =>
          rw [hf] at e
          cases e
          obtain ⟨j, z, h1, h2, h3, h4⟩ := findM_ok s1 ry s2 r hf
          rw [Nat.zero_add] at h1
          subst h1
          exact .inl ⟨a, ws, y, n, z, rfl, rfl, SqL.of q, scal_flat s1 ry, scal_flats s2 r, h2, h3, fun i z' hi => h4 i z' hi, k _ rfl⟩
      · split at h
        · rename_i d ds hd hds
          split at h
          · rename_i hs
            obtain ⟨s1, s2⟩ := Bool.and_eq_true_iff.mp hs
            obtain ⟨m', e, k⟩ := WnE.of R h
            cases hf : findD d ds 0 with
            | none => rw [hf] at e; cases e
            | some n =>
              rw [hf] at e
              cases e
              obtain ⟨j, z, h1, h2, h3, h4⟩ := findD_ok hf
              rw [Nat.zero_add] at h1
              subst h1
              show rIndexM X.K _ _ _ _
              rw [hK]
              exact .inr ⟨a, y, d, ds, n, z, rfl, rfl, .lst (SqL.of q) (toDs_ok (toD_ok R 63) hds r), toD_ok R 64 v y d hd ry, s2, s1, h2, h3, fun i z' hi => h4 i z' hi, k _ rfl⟩
          · exact h.elim
        · exact h.elim
    · split at h
      · cases hT
      · exact h.elim
  · exact h.elim
/-- the receiver is a tuple -/
theorem methT_ok {vs : List MV} {ts : List MV} {x : V} {xs : List V} (R : Rel Γ X mcm ρ σ W S H) (rx : RV Γ W H (.tupB ts) x) (ra : RVs Γ W H vs xs)
    (h : WnE Γ X mcm W0 ρ σ W H (methM .index (.tupB ts) vs S) Q) : rTupIx x xs H Q := by
  unfold methM at h
  split at h
  · rename_i e; cases e
  · rename_i e; cases e
  · rename_i e; cases e
  · rename_i e; cases e
  · obtain ⟨y, rfl, ry⟩ := vals_one ra
    dsimp only [asList] at h
    split at h
    · rename_i ms k heq
      cases heq
      split at h
      · rename_i is his
        obtain ⟨m', e, kk⟩ := WnE.of R h
        cases hf : findI k is 0 with
        | none => rw [hf] at e; cases e
        | some n =>
          rw [hf] at e
          cases e
          obtain ⟨h1, h2⟩ := findI_ok hf
          rw [Nat.zero_add] at h2
          subst h2
          obtain ⟨a, ws, rfl, ⟨o, q, ho⟩, r⟩ := rx
          rw [intsOf_ok his r] at q
          exact ⟨a, o, is, k, rfl, by rw [show y = _ from ry], q, h1, kk _ rfl⟩
      · exact h.elim
    · exact h.elim
  · exact h.elim
theorem tupB_of {mx : MV} (h : isTupB mx = true) : ∃ ts, mx = .tupB ts := by
  cases mx with
  | tupB ts => exact ⟨ts, rfl⟩
  | _ => cases h
theorem tMeth_of {m : Mth} {ma : EvM} {ms : Env → Store → Res (List MV)} {t : TA} (hK : X.K = Γ.K) (hu : X.A.units + 65 < cLine) (ht : ∀ σ H Q, tA Γ X mcm W0 ms σ H Q → t σ H Q) : ∀ σ H Q, tE Γ X mcm W0 (fun ρ S => (ma ρ S).bind fun x S => if recvOk m x S then (ms ρ S).bind fun vs S => methM m x vs S else .bad) σ H Q →
    tMeth (roads X hu m) (tE Γ X mcm W0 ma) t σ H Q := by
  intro σ H Q h
  obtain ⟨W, ρ, S, R, h⟩ := h
  refine tE.mono (stepE R h) ?_
  rintro x H1 ⟨mv, W1, S1, rx, e1, R1, h1⟩
  obtain ⟨hr, h1⟩ := WnE.if_of h1
  cases hT : isTupB mv with
  | false =>
    unfold recvOk at hr
    rw [hT, Bool.and_false, Bool.or_false] at hr
    obtain ⟨xs, hxs⟩ := Option.isSome_iff_exists.mp hr
    obtain ⟨a, ws, rfl, q, r⟩ := asList_ok R1 hxs rx
    have hd : ∃ d, (roads X hu m).head? = some d ∧ d.T = "list" := by cases m <;> exact ⟨_, rfl, rfl⟩
    obtain ⟨d, h2, h3⟩ := hd
    refine ⟨d, List.mem_of_mem_head? h2, .inl (by rw [h3]; exact .inl ⟨rfl, ws, SqL.of q⟩), ht _ _ _ ?_⟩
    refine tA.mono (stepA R1 h1) ?_
    rintro y H2 ⟨nv, W2, S2, ry, e2, R2, h4⟩
    exact methL_ok hK hu R2 (e2.rv _ _ rx) ry hT h4 d h2
  | true =>
    obtain ⟨ts, rfl⟩ := tupB_of hT
    have hm : m = .index := by
      unfold recvOk at hr
      have : (asList (.tupB ts) S1).isSome = false := rfl
      rw [this, Bool.false_or] at hr
      exact of_decide_eq_true (Bool.and_eq_true_iff.mp hr).1
    subst hm
    have rx' := rx
    obtain ⟨a, ws, rfl, ⟨o, q, ho⟩, r⟩ := rx'
    refine ⟨_, List.mem_cons_of_mem _ List.mem_cons_self, .inr ⟨rfl, a, o, ws, rfl, q, ho⟩, ht _ _ _ ?_⟩
    refine tA.mono (stepA R1 h1) ?_
    rintro y H2 ⟨nv, W2, S2, ry, e2, R2, h4⟩
    exact methT_ok R2 (e2.rv _ _ rx) ry h4
theorem tA_nil : ∀ σ H Q, tA Γ X mcm W0 (fun _ S => .ok [] S) σ H Q → tNil σ H Q := by
  intro σ H Q q
  obtain ⟨W, ρ, S, R, w⟩ := q
  exact w W H R.evr R [] rfl
/-- a.m() -/
theorem snd_meth0 {a : Expr} {apos cpos : Pos} {ma : EvM} (m : Mth) (hK : X.K = Γ.K) (hu : X.A.units + 65 < cLine) (ha : PE X a (tE Γ X mcm W0 ma)) (hb : attributeBase a (mName m) X.env (eval a X.env) = eval a X.env) (hline : (apos.endLine == cpos.line) = true) :
    PE X (.Call (.Attribute a (mName m) apos) [] [] cpos) (tE Γ X mcm W0 fun ρ S => (ma ρ S).bind fun x S => if recvOk m x S then (Res.ok [] S).bind fun vs S => methM m x vs S else .bad) :=
  PE.imp (pe_meth0 (roads X hu m) ha hb hline) (tMeth_of (ms := fun _ S => .ok [] S) hK hu tA_nil)
/-- a.m(e, ..) -/
theorem snd_meth {a e : Expr} {es : List Expr} {apos cpos : Pos} {ma : EvM} {ms : Env → Store → Res (List MV)} (m : Mth) (hK : X.K = Γ.K) (hu : X.A.units + 65 < cLine) (ha : PE X a (tE Γ X mcm W0 ma)) (hes : PA X (e :: es) (tA Γ X mcm W0 ms))
    (hb : attributeBase a (mName m) X.env (eval a X.env) = eval a X.env) 
    (hfew : ((backTo cpos (starEach (e :: es) X.env)).all (fun x => !x.1) && (backToKw cpos (keywordEach [] X.env)).all (fun x => x.1.isSome)
      && decide ((e :: es).length + ([] : List Keyword).length + (if ([] : List Keyword).isEmpty then 0 else 1) < 30)) = true)
    (hline : (apos.endLine == cpos.line) = true) (hs : PySem.W.isStarred e = false) (hplain : (backTo cpos (starEach es X.env)).any (·.1) = false) :
    PE X (.Call (.Attribute a (mName m) apos) (e :: es) [] cpos) (tE Γ X mcm W0 fun ρ S => (ma ρ S).bind fun x S => if recvOk m x S then (ms ρ S).bind fun vs S => methM m x vs S else .bad) :=
  PE.imp (pe_meth (roads X hu m) ha hes hb hfew hline hs hplain) (tMeth_of hK hu fun _ _ _ q => q)
end
end Mini
namespace Mini
open PySem PySem.Spec PyProof.Rows L2
/-- what a context says of its Mini-cells -/
structure McOk (X : Cx) (mcm : List (Nat × Nat)) : Prop where
  own : ∀ i k, (i, k) ∈ mcm → ∃ y c, X.N[i]? = some y ∧ X.env.cells.lookup y = some c ∧ c ∉ X.fs ∧ (X.env.scope.names.lookup y = some .cell ∨ X.env.scope.names.lookup y = some .free)
  inj : ∀ x y c, X.env.cells.lookup x = some c → X.env.cells.lookup y = some c → x = y
  nd : X.N.Nodup
theorem nodup_at {α : Type} : ∀ {l : List α} {i j : Nat} {x : α}, l.Nodup → l[i]? = some x → l[j]? = some x → i = j
  | [], _, _, _, _, h, _ => by simp at h
  | y :: r, 0, 0, _, _, _, _ => rfl
  | y :: r, 0, j + 1, x, hn, h1, h2 => by
    simp at h1 h2
    rw [h1] at hn
    exact absurd (List.mem_of_getElem? h2) (List.nodup_cons.mp hn).1
  | y :: r, i + 1, 0, x, hn, h1, h2 => by
    simp at h1 h2
    rw [h2] at hn
    exact absurd (List.mem_of_getElem? h1) (List.nodup_cons.mp hn).1
  | y :: r, i + 1, j + 1, x, hn, h1, h2 => by
    simp at h1 h2
    rw [nodup_at (List.nodup_cons.mp hn).2 h1 h2]
section
variable {Γ : Gm} {X : Cx} {mcm : List (Nat × Nat)} {σ : L2.St} {H : Hp} {ρ : Env} {W : Wd} {S : Store} {W0 : WX} {P : Prog}
/-- another cell relation for the same store -/
theorem RS.crel {C1 C2 : Addr → Option V → Prop} (h : RS Γ C1 W S H) (hc : ∀ k v c ov, S[k]? = some (.cell v) → W.κ k = some c → C1 c ov → C2 c ov) : RS Γ C2 W S H :=
  ⟨h.n, h.vnone, h.knone, h.obj, h.live, h.inj, fun i v e => let ⟨c, ov, q1, q2, q3⟩ := h.cel i v e; ⟨c, ov, q1, hc i v c ov e q1 q2, q3⟩, h.kdead, h.kinj, h.bd, h.tab, h.fz⟩
/-- a plain name is stored -/
theorem Rel.name {i : Nat} {mv : MV} {v : V} (R : Rel Γ X mcm ρ σ W S H) (hm : ∀ k, (i, k) ∉ mcm) (r : RV Γ W H mv v) : Rel Γ X mcm (ρ.set i (some mv)) (σ.set i (some v)) W S H := by
  refine ⟨R.rs.crel fun k v' c ov _ _ q => ?_, ?_⟩
  · rcases q with ⟨j, k', y, h1, h2, h3, h4, h5, h6⟩ | q
    · refine .inl ⟨j, k', y, h1, h2, h3, h4, h5, fun u hu => ?_⟩
      rw [List.getElem?_set_ne (fun z => hm k' (by rw [z]; exact h1))]
      exact h6 u hu
    · exact .inr q
  · refine ⟨by rw [List.length_set, List.length_set]; exact R.re.len, fun j m h1 h2 => ?_, fun j k h1 => ?_, R.re.cfz⟩
    · by_cases z : i = j
      · subst z
        have hl : i < ρ.length := by
          have := (List.getElem?_eq_some_iff.mp h2).1
          rw [List.length_set] at this; exact this
        rw [List.getElem?_set_self hl] at h2
        cases h2
        exact ⟨v, List.getElem?_set_self (by rw [← R.re.len]; exact hl), r⟩
      · rw [List.getElem?_set_ne z] at h2 ⊢
        exact R.re.var j m h1 h2
    · have z : i ≠ j := fun z => hm k (by rw [z]; exact h1)
      obtain ⟨q1, ov, q2, q3, q4⟩ := R.re.cel j k h1
      exact ⟨by rw [List.getElem?_set_ne z]; exact q1, ov, q2, q3, fun mv' hmv => let ⟨w, a, b⟩ := q4 mv' hmv; ⟨w, by rw [List.getElem?_set_ne z]; exact a, b⟩⟩
/-- a name goes -/
theorem Rel.unname {i : Nat} (R : Rel Γ X mcm ρ σ W S H) (hm : ∀ k, (i, k) ∉ mcm) : Rel Γ X mcm (ρ.set i none) σ W S H := by
  refine ⟨R.rs, ⟨by rw [List.length_set]; exact R.re.len, fun j m h1 h2 => ?_, fun j k h1 => ?_, R.re.cfz⟩⟩
  · by_cases z : i = j
    · subst z
      have hl : i < ρ.length := by
        have := (List.getElem?_eq_some_iff.mp h2).1
        rw [List.length_set] at this; exact this
      rw [List.getElem?_set_self hl] at h2
      cases h2
    · rw [List.getElem?_set_ne z] at h2
      exact R.re.var j m h1 h2
  · have z : i ≠ j := fun z => hm k (by rw [z]; exact h1)
    obtain ⟨q1, q⟩ := R.re.cel j k h1
    exact ⟨by rw [List.getElem?_set_ne z]; exact q1, q⟩
/-- a Mini-cell is stored -/
theorem Rel.cellv {i k : Nat} {mv : MV} {v : V} (hmc : McOk X mcm) (R : Rel Γ X mcm ρ σ W S H) (hik : (i, k) ∈ mcm) (r : RV Γ W H mv v) : Rel Γ X mcm ρ (σ.set i (some v)) W (S.set k (.cell (some mv))) H := by
  obtain ⟨y, c, hN, hc, hfs, hk⟩ := hmc.own i k hik
  obtain ⟨q1, ov, q2, q3, q4⟩ := R.re.cel i k hik
  have hκ : W.κ k = some c := q3 y c hN hc
  have hlt : k < S.length := (List.getElem?_eq_some_iff.mp q2).1
  have hiσ : i < σ.length := by
    rw [← R.re.len]; exact (List.getElem?_eq_some_iff.mp q1).1
  have oth : ∀ j k', (j, k') ∈ mcm → j ≠ i → k' ≠ k := fun j k' h1 h2 z => by
    obtain ⟨y', c', hN', hc', _⟩ := hmc.own j k' h1
    obtain ⟨_, _, _, q3', _⟩ := R.re.cel j k' h1
    have hκ' := q3' y' c' hN' hc'
    rw [z, hκ] at hκ'
    cases hκ'
    have := hmc.inj y y' c hc hc'
    subst this
    exact h2 (nodup_at hmc.nd hN' hN)
  have up : ∀ {k' : Nat} {o : MO}, k' ≠ k → (S.set k (.cell (some mv)))[k']? = some o → S[k']? = some o := fun {k' o} z q => by
    rw [List.getElem?_set_ne (Ne.symm z)] at q; exact q
  refine ⟨⟨by rw [List.length_set]; exact R.rs.n, fun j hj => R.rs.vnone j (by rw [List.length_set] at hj; exact hj), fun j hj => R.rs.knone j (by rw [List.length_set] at hj; exact hj), fun j o a e1 e2 => ?_, fun j o e1 e2 => ?_, R.rs.inj, fun j w e1 => ?_, fun j c' e1 => ?_, R.rs.kinj, R.rs.bd, R.rs.tab, fun j w e => by
    have q := R.rs.fz j w e
    have z : j ≠ k := fun z => by rw [z, R.re.cfz i k hik] at e; cases e
    rw [List.getElem?_set_ne (Ne.symm z)]; exact q⟩, ?_⟩
  · by_cases z : j = k
    · rw [z] at e2
      have := R.rs.obj k _ a q2 e2
      exact this.elim
    · exact R.rs.obj j o a (up z e1) e2
  · by_cases z : j = k
    · rw [z, List.getElem?_set_self hlt] at e1
      cases e1
      exact .inr ⟨_, rfl⟩
    · exact R.rs.live j o (up z e1) e2
  · by_cases z : j = k
    · rw [z, List.getElem?_set_self hlt] at e1
      cases e1
      refine ⟨c, some v, by rw [z]; exact hκ, .inl ⟨i, k, y, hik, hN, hc, hfs, hk, fun u hu => ?_⟩, fun m hm => ?_⟩
      · cases hu
        exact List.getElem?_set_self hiσ
      · cases hm
        exact ⟨v, rfl, r⟩
    · obtain ⟨c2, ov2, z1, z2, z3⟩ := R.rs.cel j w (up z e1)
      refine ⟨c2, ov2, z1, ?_, z3⟩
      rcases z2 with ⟨i2, k2, y2, h1, h2, h3, h4, h5, h6⟩ | h
      · refine .inl ⟨i2, k2, y2, h1, h2, h3, h4, h5, fun u hu => ?_⟩
        have ni : i ≠ i2 := fun zi => by
          subst zi
          rw [hN] at h2
          cases h2
          rw [hc] at h3
          cases h3
          exact z (R.rs.kinj j k c z1 hκ)
        rw [List.getElem?_set_ne ni]
        exact h6 u hu
      · exact .inr h
  · by_cases z : j = k
    · exact ⟨_, by rw [z]; exact List.getElem?_set_self hlt⟩
    · obtain ⟨w, hw⟩ := R.rs.kdead j c' e1
      exact ⟨w, by rw [List.getElem?_set_ne (Ne.symm z)]; exact hw⟩
  · refine ⟨by rw [List.length_set]; exact R.re.len, fun j m h1 h2 => ?_, fun j k' h1 => ?_, R.re.cfz⟩
    · have z : i ≠ j := fun z => h1 k (by rw [← z]; exact hik)
      rw [List.getElem?_set_ne z]
      exact R.re.var j m h1 h2
    · by_cases z : i = j
      · subst z
        obtain ⟨p1, ov', p2, p3, p4⟩ := R.re.cel i k' h1
        have ek : k' = k := R.rs.kinj k' k c (p3 y c hN hc) hκ
        subst ek
        exact ⟨p1, _, List.getElem?_set_self hlt, p3, fun m hm => by cases hm; exact ⟨v, List.getElem?_set_self hiσ, r⟩⟩
      · obtain ⟨p1, ov', p2, p3, p4⟩ := R.re.cel j k' h1
        have nk := oth j k' h1 (Ne.symm z)
        refine ⟨p1, ov', by rw [List.getElem?_set_ne (Ne.symm nk)]; exact p2, p3, fun m hm => ?_⟩
        obtain ⟨w, a, b⟩ := p4 m hm
        exact ⟨w, by rw [List.getElem?_set_ne z]; exact a, b⟩
/-- what is wanted of a store into names -/
def SlotsBut (ts : List Nat) (σ σ' : L2.St) : Prop := σ'.length = σ.length ∧ ∀ j, j ∉ ts → σ'[j]? = σ[j]?
theorem SlotsBut.refl {ts : List Nat} {σ : L2.St} : SlotsBut ts σ σ := ⟨rfl, fun _ _ => rfl⟩
theorem SlotsBut.trans {ts ts' : List Nat} {σ σ' σ'' : L2.St} (h : SlotsBut ts σ σ') (h' : SlotsBut ts' σ' σ'') : SlotsBut (ts ++ ts') σ σ'' :=
  ⟨h'.1.trans h.1, fun j hj => by rw [List.mem_append, not_or] at hj; exact (h'.2 j hj.2).trans (h.2 j hj.1)⟩
theorem SlotsBut.set {i : Nat} {σ : L2.St} {v : Option V} : SlotsBut [i] σ (σ.set i v) :=
  ⟨List.length_set, fun j hj => List.getElem?_set_ne (fun z => hj (by rw [z]; exact List.mem_singleton.mpr rfl))⟩
mutual
/-- the slots of a target -/
def tgS : Tg → List Nat
  | .name i => [i]
  | .cell i => [i]
  | .tup ts => tgSs ts
def tgSs : List Tg → List Nat
  | [] => []
  | t :: ts => tgS t ++ tgSs ts
end
def WnG (Γ : Gm) (X : Cx) (mcm : List (Nat × Nat)) (ts : List Nat) (σ : L2.St) (W : Wd) (H : Hp) (r : Res Env) (Q : L2.St → Hp → Prop) : Prop :=
  match r with
  | .ok ρ' S' => ∀ σ' W' H', Ev Γ W H W' H' → Rel Γ X mcm ρ' σ' W' S' H' → SlotsBut ts σ σ' → Q σ' H'
  | _ => False
def tG (Γ : Gm) (X : Cx) (mcm : List (Nat × Nat)) (ts : List Nat) (f : MV → Env → Store → Res Env) : TG := fun v σ H Q => ∃ W ρ S m, Rel Γ X mcm ρ σ W S H ∧ RV Γ W H m v ∧ WnG Γ X mcm ts σ W H (f m ρ S) Q
def tGs (Γ : Gm) (X : Cx) (mcm : List (Nat × Nat)) (ts : List Nat) (f : List MV → Env → Store → Res Env) : TGs := fun v σ H Q => ∃ W ρ S m, Rel Γ X mcm ρ σ W S H ∧ RVs Γ W H m v ∧ WnG Γ X mcm ts σ W H (f m ρ S) Q
theorem PG.imp {e : Expr} {t t' : TG} (h : PG X e t) (hi : ∀ v σ H Q, t' v σ H Q → t v σ H Q) : PG X e t' := ⟨fun pins s σ H v u Q I r q => h.run pins s σ H v u Q I r (hi v σ H Q q)⟩
theorem PGs.imp {e : List Expr} {t t' : TGs} (h : PGs X e t) (hi : ∀ v σ H Q, t' v σ H Q → t v σ H Q) : PGs X e t' := ⟨fun pins s σ H v u Q I r q => h.run pins s σ H v u Q I r (hi v σ H Q q)⟩
theorem WnG.shift {W1 : Wd} {H1 : Hp} {r : Res Env} {ts : List Nat} {Q : L2.St → Hp → Prop} (h : WnG Γ X mcm ts σ W H r Q) (e : Ev Γ W H W1 H1) : WnG Γ X mcm ts σ W1 H1 r Q := by
  cases r with
  | ok ρ' S' => exact fun σ' W' H' e' => h σ' W' H' (e.trans e')
  | exc c fs S => exact h
  | bad => exact h
theorem assignGs_len : ∀ {ts : List Tg} {vs : List MV} {ρ : Env} {S : Store} {ρ' : Env} {S' : Store}, assignGs ts vs ρ S = .ok ρ' S' → vs.length = ts.length
  | [], [], _, _, _, _, _ => rfl
  | [], _ :: _, _, _, _, _, h => by unfold assignGs at h; cases h
  | _ :: _, [], _, _, _, _, h => by unfold assignGs at h; cases h
  | t :: ts, v :: vs, ρ, S, ρ', S', h => by
    have h : (assignG t v ρ S).bind (fun ρ S => assignGs ts vs ρ S) = .ok ρ' S' := h
    cases e : assignG t v ρ S with
    | ok ρ1 S1 =>
      rw [e] at h
      rw [List.length_cons, List.length_cons, assignGs_len (ts := ts) h]
    | exc c fs S1 => rw [e] at h; cases h
    | bad => rw [e] at h; cases h
theorem WnG.ok {r : Res Env} {ts : List Nat} {Q : L2.St → Hp → Prop} (h : WnG Γ X mcm ts σ W H r Q) : ∃ ρ' S', r = .ok ρ' S' := by
  cases r with
  | ok ρ' S' => exact ⟨_, _, rfl⟩
  | exc c fs S => exact h.elim
  | bad => exact h.elim
theorem pg_nm {i : Nat} {x : Str} {pos : Pos} (hN : X.N.Nodup) (hi : X.N[i]? = some x) (hx : Loc X.env.scope x) (hf : X.fn x = true ∨ X.env.scope.names.lookup x = some .local) (hm : ∀ k, (i, k) ∉ mcm) :
    PG X (.Name x pos) (tG Γ X mcm [i] (assignG (.name i))) := by
  refine PG.imp (pg_name hN hi hx hf) fun v σ H Q h => ?_
  obtain ⟨W, ρ, S, m, R, r, w⟩ := h
  unfold assignG at w
  split at w
  · exact w _ W H R.evr (R.name hm r) .set
  · exact w.elim
theorem pg_cel {i : Nat} {x : Str} {pos : Pos} (hN : X.N.Nodup) (hi : X.N[i]? = some x) (hx : Loc X.env.scope x) (hf : X.fn x = true ∨ X.env.scope.names.lookup x = some .local) (hmc : McOk X mcm) (hm : ∃ k, (i, k) ∈ mcm) :
    PG X (.Name x pos) (tG Γ X mcm [i] (assignG (.cell i))) := by
  refine PG.imp (pg_name hN hi hx hf) fun v σ H Q h => ?_
  obtain ⟨W, ρ, S, m, R, r, w⟩ := h
  obtain ⟨k, hk⟩ := hm
  obtain ⟨h1, ov, h2, _, _⟩ := R.re.cel i k hk
  unfold assignG at w
  rw [h1] at w
  dsimp only at w
  rw [h2] at w
  exact w _ W H R.evr (R.cellv hmc hk r) .set
theorem pgs_n : PGs X [] (tGs Γ X mcm [] (assignGs [])) := by
  refine PGs.imp pgs_nil fun v σ H Q h => ?_
  obtain ⟨W, ρ, S, m, R, r, w⟩ := h
  cases m with
  | nil => exact ⟨r, w _ W H R.evr R .refl⟩
  | cons a b => exact w.elim
theorem pgs_c {e : Expr} {es : List Expr} {t : Tg} {ts : List Tg} (he : PG X e (tG Γ X mcm (tgS t) (assignG t))) (hes : PGs X es (tGs Γ X mcm (tgSs ts) (assignGs ts)))
    (hs : (assignEach (e :: es) X.env).map (·.2) = assign e X.env :: (assignEach es X.env).map (·.2)) : PGs X (e :: es) (tGs Γ X mcm (tgSs (t :: ts)) (assignGs (t :: ts))) := by
  refine PGs.imp (pgs_cons he hes hs) fun v σ H Q h => ?_
  obtain ⟨W, ρ, S, m, R, r, w⟩ := h
  cases m with
  | nil => exact w.elim
  | cons a b =>
    obtain ⟨x, xs, rfl, r1, r2⟩ := r
    have w : WnG Γ X mcm (tgSs (t :: ts)) σ W H ((assignG t a ρ S).bind fun ρ S => assignGs ts b ρ S) Q := w
    refine ⟨x, xs, rfl, W, ρ, S, a, R, r1, ?_⟩
    cases hr : assignG t a ρ S with
    | ok ρ' S' =>
      rw [hr] at w
      refine fun σ' W' H' e' R' sb => ⟨W', ρ', S', b, R', e'.rvs _ _ r2, ?_⟩
      cases hr2 : assignGs ts b ρ' S' with
      | ok ρ2 S2 =>
        have w : WnG Γ X mcm (tgSs (t :: ts)) σ W H (assignGs ts b ρ' S') Q := w
        rw [hr2] at w
        exact fun σ2 W2 H2 e2 R2 sb2 => w σ2 W2 H2 (e'.trans e2) R2 (sb.trans sb2)
      | exc c fs S2 =>
        have w : WnG Γ X mcm (tgSs (t :: ts)) σ W H (assignGs ts b ρ' S') Q := w
        rw [hr2] at w
        exact w.elim
      | bad =>
        have w : WnG Γ X mcm (tgSs (t :: ts)) σ W H (assignGs ts b ρ' S') Q := w
        rw [hr2] at w
        exact w.elim
    | exc c fs S' => rw [hr] at w; exact w.elim
    | bad => rw [hr] at w; exact w.elim
theorem pg_tp {es : List Expr} {k : Nat} {pos : Pos} {ts : List Tg} (hc : X.calm = true) (hK : X.K = Γ.K) (h : PGs X es (tGs Γ X mcm (tgSs ts) (assignGs ts))) (hn : (assignEach es X.env).length = ts.length) (hst : (assignEach es X.env).findIdx? (·.1) = none) :
    PG X (.Tuple es k pos) (tG Γ X mcm (tgSs ts) (assignG (.tup ts))) := by
  refine PG.imp (pg_tup (n := ts.length) hc h hn hst) fun v σ H Q hw => ?_
  obtain ⟨W, ρ, S, m, R, r, w⟩ := hw
  unfold assignG at w
  split at w
  · rename_i vs hvs
    obtain ⟨a, xs, rfl, q, r1⟩ := RV.asTup hvs r
    obtain ⟨ρ', S', e⟩ := w.ok
    exact ⟨a, xs, rfl, by rw [hK]; exact q.sq, by rw [r1.len, assignGs_len e], W, ρ, S, vs, R, r1, w⟩
  · exact w.elim
end
end Mini
namespace Mini
open PySem PySem.Spec PyProof.Rows L2
section
variable {κ : Type} [DecidableEq κ] {eq : κ → κ → Bool} {β : Type}
theorem gPut_mem (he : ∀ a b, eq a b = decide (a = b)) {k : κ} {v : β} : ∀ {ms : List (κ × β)} {x : κ}, x ∈ (gPut eq k v ms).map (·.1) → x ∈ ms.map (·.1) ∨ x = k
  | [], x, h => by
    simp [gPut] at h
    exact .inr h
  | (k0, v0) :: r, x, h => by
    unfold gPut at h
    by_cases q : eq k0 k = true
    · rw [if_pos q] at h
      exact .inl h
    · rw [if_neg q, List.map_cons] at h
      rcases List.mem_cons.mp h with e | h
      · exact .inl (by rw [e, List.map_cons]; exact List.mem_cons_self)
      · rcases gPut_mem he h with h | h
        · exact .inl (by rw [List.map_cons]; exact List.mem_cons_of_mem _ h)
        · exact .inr h
theorem gPut_nodup (he : ∀ a b, eq a b = decide (a = b)) {k : κ} {v : β} : ∀ {ms : List (κ × β)}, (ms.map (·.1)).Nodup → ((gPut eq k v ms).map (·.1)).Nodup
  | [], _ => by simp [gPut]
  | (k0, v0) :: r, h => by
    unfold gPut
    by_cases q : eq k0 k = true
    · rw [if_pos q]
      exact h
    · rw [if_neg q]
      rw [List.map_cons, List.nodup_cons] at h ⊢
      refine ⟨fun z => ?_, gPut_nodup he h.2⟩
      rcases gPut_mem he z with z | z
      · exact h.1 z
      · exact q (by rw [he, decide_eq_true z])
end
section
variable {Γ : Gm} {X : Cx} {mcm : List (Nat × Nat)} {σ : L2.St} {H : Hp} {ρ : Env} {W : Wd} {S : Store} {W0 : WX} {P : Prog}
theorem DO.free {u : HO} {a : Addr} (h : DO false H a u) : H a = some u := h
/-- the dict in the store, of a kind that fits -/
theorem dput_go {l : Nat} {a : Addr} {o o' : MO} {y v : V} {H1 H2 : Hp} {u1 u2 : HO} (R : Rel Γ X mcm ρ σ W S H) (hS : S[l]? = some o) (hl : W.ν l = some a) (rt : Rt H a H1) (e1 : Ev Γ W H W H1) (R1 : Rel Γ X mcm ρ σ W S H1)
    (h1 : H1 a = some u1) (hp : isPl u1 = true) (h2 : H2 = upd H1 a u2) (ho : RO Γ W H2 o' a) : Ev Γ W H W H2 ∧ Rel Γ X mcm ρ σ W (S.set l o') H2 := by
  subst h2
  exact ⟨e1.trans (Ev.set R1.rs hl h1 hp), R1.set hS hl h1 hp ho⟩
theorem dPut_ok {l : Nat} {a : Addr} {o o' : MO} {k mv : MV} {y v : V} (R : Rel Γ X mcm ρ σ W S H) (hS : S[l]? = some o) (hl : W.ν l = some a) (e : dPut o k mv = some o') (ry : RV Γ W H k y) (rv : RV Γ W H mv v) :
    ∃ H1 H2, Rt H a H1 ∧ DPut H1 a y v H2 ∧ Ev Γ W H W H2 ∧ Rel Γ X mcm ρ σ W (S.set l o') H2 := by
  have ob := R.rs.obj l o a hS hl
  -- a dict of keys, whatever it was called
  have goK : ∀ (kk : Key) (kvs : List (Key × MV)) (ws : List (Key × V)) (H1 : Hp), y = kV kk → Rt H a H1 → Ev Γ W H W H1 → Rel Γ X mcm ρ σ W S H1 → H1 a = some (.dK ws) → RKs Γ W H1 kvs ws → (kvs.map (·.1)).Nodup → kvs.length < line → o' = .dK false (gPut kEq kk mv kvs) →
      ∃ H1 H2, Rt H a H1 ∧ DPut H1 a y v H2 ∧ Ev Γ W H W H2 ∧ Rel Γ X mcm ρ σ W (S.set l o') H2 := fun kk kvs ws H1 ey rt e1 R1 h1 rk nd hz eo => by
    have nd' : (ws.map (·.1)).Nodup := by rw [rk.keys]; exact nd
    have h3 : DPut H1 a y v (upd H1 a (.dK (putK ws kk v))) := by
      rw [ey]
      exact DPut.k h1 (by rw [rk.len, ← line_eq]; exact hz)
    have e2 : Ev Γ W H1 W (upd H1 a (.dK (putK ws kk v))) := Ev.set R1.rs hl h1 rfl
    obtain ⟨q1, q2⟩ := dput_go (y := y) (v := v) R hS hl rt e1 R1 h1 rfl rfl (o' := o') (by
      rw [eo]
      exact .inl ⟨_, upd_same, e2.rks _ _ (RKs.put kEq_eq (e1.rv _ _ rv) nd' rk), gPut_nodup kEq_eq nd⟩)
    exact ⟨_, _, rt, h3, q1, q2⟩
  have goT : ∀ (kk : List Key) (kvs : List (List Key × MV)) (ws : List (List Key × V)) (H1 : Hp), (∃ b, y = .ref b ∧ H b = some (.tup (kk.map kV))) → Rt H a H1 → Ev Γ W H W H1 → Rel Γ X mcm ρ σ W S H1 → H1 a = some (.dT ws) → RKs Γ W H1 kvs ws → (kvs.map (·.1)).Nodup → kvs.length < line → o' = .dT false (gPut tkEq kk mv kvs) →
      ∃ H1 H2, Rt H a H1 ∧ DPut H1 a y v H2 ∧ Ev Γ W H W H2 ∧ Rel Γ X mcm ρ σ W (S.set l o') H2 := fun kk kvs ws H1 ey rt e1 R1 h1 rk nd hz eo => by
    obtain ⟨b, eb, hb⟩ := ey
    have nd' : (ws.map (·.1)).Nodup := by rw [rk.keys]; exact nd
    have h3 : DPut H1 a y v (upd H1 a (.dT (putK ws kk v))) := by
      rw [eb]
      exact DPut.t h1 (e1.tup _ _ hb) (by rw [rk.len, ← line_eq]; exact hz)
    have e2 : Ev Γ W H1 W (upd H1 a (.dT (putK ws kk v))) := Ev.set R1.rs hl h1 rfl
    obtain ⟨q1, q2⟩ := dput_go (y := y) (v := v) R hS hl rt e1 R1 h1 rfl rfl (o' := o') (by
      rw [eo]
      exact .inl ⟨_, upd_same, e2.rks _ _ (RKs.put tkEq_eq (e1.rv _ _ rv) nd' rk), gPut_nodup tkEq_eq nd⟩)
    exact ⟨_, _, rt, h3, q1, q2⟩
  have toT : H a = some (.dK []) → (o = .dK false [] ∨ o = .dT false []) → Rt H a (upd H a (.dT [])) ∧ Ev Γ W H W (upd H a (.dT [])) ∧ Rel Γ X mcm ρ σ W S (upd H a (.dT [])) := fun h ho => by
    have rt : Rt H a (upd H a (.dT [])) := .inr (.inl ⟨h, rfl⟩)
    obtain ⟨z1, z2⟩ := R.rt hS hl ho rt
    exact ⟨rt, z1, z2⟩
  have toK : H a = some (.dT []) → (o = .dK false [] ∨ o = .dT false []) → Rt H a (upd H a (.dK [])) ∧ Ev Γ W H W (upd H a (.dK [])) ∧ Rel Γ X mcm ρ σ W S (upd H a (.dK [])) := fun h ho => by
    have rt : Rt H a (upd H a (.dK [])) := .inr (.inr ⟨h, rfl⟩)
    obtain ⟨z1, z2⟩ := R.rt hS hl ho rt
    exact ⟨rt, z1, z2⟩
  have one : 0 < line := by decide
  unfold dPut at e
  split at e
  · rename_i kvs kk hk
    split at e
    · rename_i hz
      cases e
      have ey := keyOf_ok hk ry
      rcases ob with ⟨ws, q1, q2, q3⟩ | ⟨q1, q2, q3⟩
      · exact goK kk kvs ws H ey (.inl rfl) R.evr R q1 q2 q3 hz rfl
      · subst q1
        obtain ⟨z1, z2, z3⟩ := toK q3 (.inl rfl)
        exact goK kk [] [] _ ey z1 z2 z3 upd_same rfl List.nodup_nil one rfl
    · cases e
  · rename_i kk hk ht
    cases e
    have ey := tkeyOf_ok ht ry
    rcases ob with ⟨ws, q1, q2, q3⟩ | ⟨q1, q2, q3⟩
    · have ew : ws = [] := q2
      subst ew
      obtain ⟨z1, z2, z3⟩ := toT q1 (.inl rfl)
      exact goT kk [] [] _ ey z1 z2 z3 upd_same rfl List.nodup_nil one rfl
    · exact goT kk [] [] H ey (.inl rfl) R.evr R q3 rfl List.nodup_nil one rfl
  · rename_i kvs kk hk ht
    split at e
    · rename_i hz
      cases e
      have ey := tkeyOf_ok ht ry
      rcases ob with ⟨ws, q1, q2, q3⟩ | ⟨q1, q2, q3⟩
      · exact goT kk kvs ws H ey (.inl rfl) R.evr R q1 q2 q3 hz rfl
      · subst q1
        obtain ⟨z1, z2, z3⟩ := toT q3 (.inr rfl)
        exact goT kk [] [] _ ey z1 z2 z3 upd_same rfl List.nodup_nil one rfl
    · cases e
  · rename_i kk hk
    cases e
    have ey := keyOf_ok hk ry
    rcases ob with ⟨ws, q1, q2, q3⟩ | ⟨q1, q2, q3⟩
    · have ew : ws = [] := q2
      subst ew
      obtain ⟨z1, z2, z3⟩ := toK q1 (.inr rfl)
      exact goK kk [] [] _ ey z1 z2 z3 upd_same rfl List.nodup_nil one rfl
    · exact goK kk [] [] H ey (.inl rfl) R.evr R q3 rfl List.nodup_nil one rfl
  · cases e
end
/-- o[i] = v: a list, a dict -/
def rSetM : TSet := fun o i v H Q => rSetL o i v H Q ∨ ∃ a H1 H2, o = .ref a ∧ Rt H a H1 ∧ DPut H1 a i v H2 ∧ Q H2
theorem set_M {X : Cx} (hu : X.A.units + 1 < cLine) : PSet X rSetM := by
  intro pins s σ H o i v ov iv u Q I ro ri rv h
  rcases h with h | ⟨a, H1, H2, rfl, rt, g, q⟩
  · exact set_list pins s σ H o i v ov iv u Q I ro ri rv h
  · cases ro
    exact d_setItem hu (inv_rt I rt) g ri rv fun s4 I4 => ⟨H2, I4, q⟩
end Mini
namespace Mini
open PySem PySem.Spec PyProof.Rows L2
section
variable {Γ : Gm} {X : Cx} {mcm : List (Nat × Nat)} {σ : L2.St} {H H1 : Hp} {ρ : Env} {W W1 : Wd} {S : Store} {W0 : WX} {P : Prog} {D D' : Ends}
theorem WnS.shift {r : Res Fl} (h : WnS Γ X mcm W0 W H r D) (e : Ev Γ W H W1 H1) : WnS Γ X mcm W0 W1 H1 r D := by
  cases r with
  | ok fl S => exact fun W' H' e' => h W' H' (e.trans e')
  | exc c fs S => exact h
  | bad => exact h
/-- a value that a statement asks for -/
theorem WnS.thn {α : Type} {r : Res α} {k : α → Store → Res Fl} (R : Rel Γ X mcm ρ σ W S H) (h : WnS Γ X mcm W0 W H (r.thn ρ k) D) :
    Want Γ (Rel Γ X mcm ρ σ) W H r (fun a S1 W1 H1 => WnS Γ X mcm W0 W1 H1 (k a S1) D) fun C d H' => W0 C d σ H' := by
  cases r with
  | ok a S => exact fun W' H' e R' => WnS.shift (r := k a S) h e
  | exc c fs S => exact fun W' H' C d e R' hc x => h W' H' e σ C d R' hc x
  | bad => exact h
theorem stepS {m : EvM} {k : MV → Store → Res Fl} (R : Rel Γ X mcm ρ σ W S H) (h : WnS Γ X mcm W0 W H ((m ρ S).thn ρ k) D) :
    tE Γ X mcm W0 m σ H fun x H1 => ∃ mv W1 S1, RV Γ W1 H1 mv x ∧ Ev Γ W H W1 H1 ∧ Rel Γ X mcm ρ σ W1 S1 H1 ∧ WnS Γ X mcm W0 W1 H1 (k mv S1) D :=
  ⟨W, ρ, S, R, (WnS.thn R h).mono (fun a S' W' H' _ e R' q v r => ⟨a, W', S', r, e, R', q⟩) fun _ _ _ z => z⟩
theorem stepST {m : Env → Store → Res Bool} {k : Bool → Store → Res Fl} (R : Rel Γ X mcm ρ σ W S H) (h : WnS Γ X mcm W0 W H ((m ρ S).thn ρ k) D) :
    tT Γ X mcm W0 m σ H fun b H1 => ∃ W1 S1, Ev Γ W H W1 H1 ∧ Rel Γ X mcm ρ σ W1 S1 H1 ∧ WnS Γ X mcm W0 W1 H1 (k b S1) D :=
  ⟨W, ρ, S, R, (WnS.thn R h).mono (fun a S' W' H' _ e R' q => ⟨W', S', e, R', q⟩) fun _ _ _ z => z⟩
theorem stepSA {m : Env → Store → Res (List MV)} {k : List MV → Store → Res Fl} (R : Rel Γ X mcm ρ σ W S H) (h : WnS Γ X mcm W0 W H ((m ρ S).thn ρ k) D) :
    tA Γ X mcm W0 m σ H fun x H1 => ∃ mv W1 S1, RVs Γ W1 H1 mv x ∧ Ev Γ W H W1 H1 ∧ Rel Γ X mcm ρ σ W1 S1 H1 ∧ WnS Γ X mcm W0 W1 H1 (k mv S1) D :=
  ⟨W, ρ, S, R, (WnS.thn R h).mono (fun a S' W' H' _ e R' q v r => ⟨a, W', S', r, e, R', q⟩) fun _ _ _ z => z⟩
/-- a result as it stands -/
theorem WnS.here {fl : Fl} (R : Rel Γ X mcm ρ σ W S H) {S' : Store} (h : WnS Γ X mcm W0 W H (.ok fl S') D) : KFl Γ X mcm W0 D fl S' W H := h W H R.evr
/-- a flow, then what follows it -/
theorem WnS.bind {r : Res Fl} {k : Env → Store → Res Fl} (h : WnS Γ X mcm W0 W H (r.bind fun fl S => match fl with
    | .nx ρ => k ρ S
    | fl => .ok fl S) D) : WnS Γ X mcm W0 W H r { D with nx := tS Γ X mcm W0 k D } := by
  cases r with
  | ok fl S =>
    intro W' H' e
    cases fl with
    | nx ρ' => exact fun σ' R' => ⟨W', ρ', S, R', WnS.shift (r := k ρ' S) h e⟩
    | rt m => exact h W' H' e
    | bk ρ' => exact h W' H' e
    | ct ρ' => exact h W' H' e
    | xc c fs ρ' => exact h W' H' e
  | exc c fs S => exact h
  | bad => exact h
theorem WnS.store {ts : List Nat} {f : MV → Env → Store → Res Env} {m : MV} (h : WnS Γ X mcm W0 W H ((f m ρ S).bind fun ρ S => .ok (.nx ρ) S) D) : WnG Γ X mcm ts σ W H (f m ρ S) D.nx := by
  cases hr : f m ρ S with
  | ok ρ' S' => rw [hr] at h; exact fun σ' W' H' e' R' _ => h W' H' e' σ' R'
  | exc c fs S' => rw [hr] at h; exact h.elim
  | bad => rw [hr] at h; exact h.elim
theorem WnS.stores {ts : List Nat} {f : List MV → Env → Store → Res Env} {m : List MV} (h : WnS Γ X mcm W0 W H ((f m ρ S).bind fun ρ S => .ok (.nx ρ) S) D) : WnG Γ X mcm ts σ W H (f m ρ S) D.nx := by
  cases hr : f m ρ S with
  | ok ρ' S' => rw [hr] at h; exact fun σ' W' H' e' R' _ => h W' H' e' σ' R'
  | exc c fs S' => rw [hr] at h; exact h.elim
  | bad => rw [hr] at h; exact h.elim
end
section
variable {Γ : Gm} {X : Cx} {mcm : List (Nat × Nat)} {W0 : WX} {P : Prog} {cf : CF} {e a i tg : Expr} {pos : Pos} {ms : EvM}
theorem sns_nil : PSs X [] (tS Γ X mcm W0 fun ρ S => .ok (.nx ρ) S) := by
  refine PSs.imp pss_nil fun D σ H h => ?_
  obtain ⟨W, ρ, S, R, w⟩ := h
  exact WnS.here R w σ R
theorem sns_cons {st : Stmt} {rest : List Stmt} {m : Env → Store → Res Fl} {k : Env → Store → Res Fl} (h1 : PS X st (tS Γ X mcm W0 m)) (h2 : PSs X rest (tS Γ X mcm W0 k)) :
    PSs X (st :: rest) (tS Γ X mcm W0 fun ρ S => (m ρ S).bind fun fl S => match fl with
      | .nx ρ => k ρ S
      | fl => .ok fl S) := by
  refine PSs.imp (pss_cons h1 h2) fun D σ H h => ?_
  obtain ⟨W, ρ, S, R, w⟩ := h
  exact ⟨W, ρ, S, R, WnS.bind w⟩
theorem sn_pass : PS X (.Pass pos) (tS Γ X mcm W0 fun ρ S => .ok (.nx ρ) S) := by
  refine PS.imp ps_pass fun D σ H h => ?_
  obtain ⟨W, ρ, S, R, w⟩ := h
  exact WnS.here R w σ R
theorem sn_brk : PS X (.Break pos) (tS Γ X mcm W0 fun ρ S => .ok (.bk ρ) S) := by
  refine PS.imp ps_break fun D σ H h => ?_
  obtain ⟨W, ρ, S, R, w⟩ := h
  exact WnS.here R w σ R
theorem sn_cont : PS X (.Continue pos) (tS Γ X mcm W0 fun ρ S => .ok (.ct ρ) S) := by
  refine PS.imp ps_continue fun D σ H h => ?_
  obtain ⟨W, ρ, S, R, w⟩ := h
  exact WnS.here R w σ R
theorem sn_expr (he : PE X e (tE Γ X mcm W0 ms)) (hs : swapsWith e none pos.line X.env = pure false) : PS X (.Expr e pos) (tS Γ X mcm W0 fun ρ S => (ms ρ S).thn ρ fun _ S => .ok (.nx ρ) S) := by
  refine PS.imp (ps_expr he hs) fun D σ H h => ?_
  obtain ⟨W, ρ, S, R, w⟩ := h
  refine tE.mono (stepS R w) ?_
  rintro x H1 ⟨mv, W1, S1, rx, e1, R1, h1⟩
  exact WnS.here R1 h1 σ R1
theorem sn_doc {x j pos pos'} : PS X (.Expr (.Constant (.str x) j pos) pos') (tS Γ X mcm W0 fun ρ S => .ok (.nx ρ) S) := by
  refine PS.imp ps_doc fun D σ H h => ?_
  obtain ⟨W, ρ, S, R, w⟩ := h
  exact WnS.here R w σ R
theorem sn_ret (he : PE X e (tE Γ X mcm W0 ms)) : PS X (.Return (some e) pos) (tS Γ X mcm W0 fun ρ S => (ms ρ S).thn ρ fun v S => .ok (.rt v) S) := by
  refine PS.imp (ps_ret he) fun D σ H h => ?_
  obtain ⟨W, ρ, S, R, w⟩ := h
  refine tE.mono (stepS R w) ?_
  rintro x H1 ⟨mv, W1, S1, rx, e1, R1, h1⟩
  exact WnS.here R1 h1 ρ σ x R1 rx
theorem sn_retN : PS X (.Return none pos) (tS Γ X mcm W0 fun _ S => .ok (.rt .non) S) := by
  refine PS.imp ps_retN fun D σ H h => ?_
  obtain ⟨W, ρ, S, R, w⟩ := h
  exact WnS.here R w ρ σ .non R rfl
theorem sn_if {c : Expr} {p q : List Stmt} {mc : Env → Store → Res Bool} {mp mq : Env → Store → Res Fl} (hc : PT X c (tT Γ X mcm W0 mc)) (hp : PSs X p (tS Γ X mcm W0 mp)) (hq : PSs X q (tS Γ X mcm W0 mq)) :
    PS X (.If c p q pos) (tS Γ X mcm W0 fun ρ S => (mc ρ S).thn ρ fun t S => if t then mp ρ S else mq ρ S) := by
  refine PS.imp (ps_if hc hp hq) fun D σ H h => ?_
  obtain ⟨W, ρ, S, R, w⟩ := h
  refine tT.mono (stepST R w) ?_
  rintro b H1 ⟨W1, S1, e1, R1, h1⟩
  cases b with
  | true => exact ⟨W1, ρ, S1, R1, h1⟩
  | false => exact ⟨W1, ρ, S1, R1, h1⟩
theorem sn_asg {ts : List Nat} {f : MV → Env → Store → Res Env} (he : PE X e (tE Γ X mcm W0 ms)) (hg : PG X tg (tG Γ X mcm ts f)) (hs : swapsWithSole [tg] e pos.line X.env = pure false) (hw : swappedStores [tg] e X.env = pure none)
    (h1 : (assignEach [tg] X.env).map (·.2) = [assign tg X.env]) : PS X (.Assign [tg] e pos) (tS Γ X mcm W0 fun ρ S => (ms ρ S).thn ρ fun v S => (f v ρ S).bind fun ρ S => .ok (.nx ρ) S) := by
  refine PS.imp (ps_asg he hg hs hw h1) fun D σ H h => ?_
  obtain ⟨W, ρ, S, R, w⟩ := h
  refine tE.mono (stepS R w) ?_
  rintro x H1 ⟨mv, W1, S1, rx, e1, R1, h1⟩
  exact ⟨W1, ρ, S1, mv, R1, rx, WnS.store h1⟩
/-- a, b = x, y of plain local names -/
theorem sn_par {i j : Nat} {x y : Str} {a b : Expr} {px py pt : Pos} {kt k2 : Nat} {pt2 : Pos} {ma : Env → Store → Res (List MV)} (hc : X.calm = true) (hN : X.N.Nodup) (hi : X.N[i]? = some x) (hj : X.N[j]? = some y) (hij : i ≠ j)
    (hx : X.env.scope.names.lookup x = some .local) (hy : X.env.scope.names.lookup y = some .local) (mi : ∀ k, (i, k) ∉ mcm) (mj : ∀ k, (j, k) ∉ mcm) (ha : PA X [a, b] (tA Γ X mcm W0 ma))
    (hw : swappedStores [.Tuple [.Name x px, .Name y py] kt pt] (.Tuple [a, b] k2 pt2) X.env = pure (some [x, y]))
    (hs : swapsWithSole [.Tuple [.Name x px, .Name y py] kt pt] (.Tuple [a, b] k2 pt2) pos.line X.env = pure false) :
    PS X (.Assign [.Tuple [.Name x px, .Name y py] kt pt] (.Tuple [a, b] k2 pt2) pos) (tS Γ X mcm W0 fun ρ S => (ma ρ S).thn ρ fun vs S => (assignGs [.name i, .name j] vs ρ S).bind fun ρ S => .ok (.nx ρ) S) := by
  refine PS.imp (ps_par hc hN hi hj hij hx hy ha hw hs) fun D σ H h => ?_
  obtain ⟨W, ρ, S, R, w⟩ := h
  refine tA.mono (stepSA R w) ?_
  rintro x H1 ⟨mv, W1, S1, rx, e1, R1, h1⟩
  match mv, rx, h1 with
  | [], _, h1 => exact h1.elim
  | [_], _, h1 =>
    have h1 : WnS Γ X mcm W0 W1 H1 (((assignG (.name i) _ ρ S1).bind fun ρ S => assignGs [.name j] [] ρ S).bind fun ρ S => .ok (.nx ρ) S) D := h1
    cases hr : assignG (.name i) _ ρ S1 with
    | ok ρ' S' => rw [hr] at h1; exact h1.elim
    | exc c fs S' => rw [hr] at h1; exact h1.elim
    | bad => rw [hr] at h1; exact h1.elim
  | [m, n], rx, h1 =>
    obtain ⟨v, u, rfl, r1, r2⟩ := vals_two rx
    refine ⟨v, u, rfl, ?_⟩
    by_cases li : i < ρ.length
    · by_cases lj : j < ρ.length
      · have h2 : WnS Γ X mcm W0 W1 H1 (.ok (.nx ((ρ.set i (some m)).set j (some n))) S1) D := by
          have e1 : assignGs [.name i, .name j] [m, n] ρ S1 = .ok ((ρ.set i (some m)).set j (some n)) S1 := by
            simp [assignGs, assignG, Res.bind, li, lj]
          rw [e1] at h1
          exact h1
        exact WnS.here R1 h2 _ ((R1.name mi r1).name mj r2)
      · have e1 : assignGs [.name i, .name j] [m, n] ρ S1 = .bad := by simp [assignGs, assignG, Res.bind, li, lj]
        rw [e1] at h1
        exact h1.elim
    · have e1 : assignGs [.name i, .name j] [m, n] ρ S1 = .bad := by simp [assignGs, assignG, Res.bind, li]
      rw [e1] at h1
      exact h1.elim
  | m :: n :: r :: q, rx, h1 =>
    have : assignGs [.name i, .name j] (m :: n :: r :: q) ρ S1 = .bad := by
      by_cases li : i < ρ.length
      · by_cases lj : j < ρ.length
        · simp [assignGs, assignG, Res.bind, li, lj]
        · simp [assignGs, assignG, Res.bind, li, lj]
      · simp [assignGs, assignG, Res.bind, li]
    rw [this] at h1
    exact h1.elim
theorem setM_ok {σ : L2.St} {H : Hp} {ρ : Env} {W : Wd} {S S' : Store} {x y v : MV} {xv yv vv : V} {Q : Hp → Prop} (R : Rel Γ X mcm ρ σ W S H) (rx : RV Γ W H x xv) (ry : RV Γ W H y yv) (rv : RV Γ W H v vv) (e : setM x y v S = some S')
    (k : ∀ H', Ev Γ W H W H' → Rel Γ X mcm ρ σ W S' H' → Q H') : rSetM xv yv vv H Q := by
  unfold setM at e
  split at e
  · rename_i l
    split at e
    · rename_i ms hS
      split at e
      · rename_i kk
        cases h : L2.ixN ms.length kk with
        | none => rw [h] at e; cases e
        | some j =>
          rw [h] at e
          cases e
          obtain ⟨a, ws, rfl, hv, h0, r⟩ := loc_lst R rx hS
          obtain ⟨e', R'⟩ := R.setL hS hv h0 (r.set rv j)
          exact .inl ⟨a, ws, kk, j, rfl, ry, h0, by rw [r.len]; exact h, k _ e' R'⟩
      · cases e
    · rename_i o _ hS
      cases h : dPut o y v with
      | none => rw [h] at e; cases e
      | some o' =>
        rw [h] at e
        cases e
        obtain ⟨a, rfl, hi, hv⟩ := rx
        rcases hv with z | z
        · rcases R.rs.live l _ hS z with q | ⟨_, q⟩ <;> (rw [q] at h; unfold dPut at h; cases h)
        · obtain ⟨H1, H2, rt, g, e', R'⟩ := dPut_ok R hS z h ry rv
          exact .inr ⟨a, H1, H2, rfl, rt, g, k _ e' R'⟩
    · cases e
  · cases e
/-- a[i] = e -/
theorem sn_asgS {ma mi : EvM} {p' : Pos} (hu : X.A.units + 1 < cLine) (he : PE X e (tE Γ X mcm W0 ms)) (ha : PE X a (tE Γ X mcm W0 ma)) (hi : PE X i (tE Γ X mcm W0 mi))
    (hs : swapsWithSole [.Subscript a i p'] e pos.line X.env = pure false) (hw : swappedStores [.Subscript a i p'] e X.env = pure none)
    (h1 : (assignEach [.Subscript a i p'] X.env).map (·.2) = [assign (.Subscript a i p') X.env])
    (hg : ∀ v, assign (.Subscript a i p') X.env v = (do
      let ov ← holding [v] (eval a X.env)
      let iv ← holding [v, ov] (eval i X.env)
      standAt p'
      holding [v, ov, iv] (setItem ov iv v)
      release [v, ov, iv] [])) :
    PS X (.Assign [.Subscript a i p'] e pos) (tS Γ X mcm W0 fun ρ S => (ms ρ S).thn ρ fun v S => (ma ρ S).thn ρ fun x S => (mi ρ S).thn ρ fun y S => match setM x y v S with
      | some S => .ok (.nx ρ) S
      | none => .bad) := by
  refine PS.imp (ps_asg he (pg_sub ha hi (set_M hu) hg) hs hw h1) fun D σ H h => ?_
  obtain ⟨W, ρ, S, R, w⟩ := h
  refine tE.mono (stepS R w) ?_
  rintro v H1 ⟨mv, W1, S1, rv, e1, R1, h1⟩
  refine tE.mono (stepS R1 h1) ?_
  rintro x H2 ⟨mx, W2, S2, rx, e2, R2, h2⟩
  refine tE.mono (stepS R2 h2) ?_
  rintro y H3 ⟨my, W3, S3, ry, e3, R3, h3⟩
  cases hq : setM mx my mv S3 with
  | none => rw [hq] at h3; exact h3.elim
  | some S4 =>
    rw [hq] at h3
    exact setM_ok R3 (e3.rv _ _ rx) ry ((e2.trans e3).rv _ _ rv) hq fun H' e' R' => h3 W3 H' e' σ R'
end
end Mini
namespace Mini
open PySem PySem.Spec PyProof.Rows L2
section
variable {Γ : Gm} {X : Cx} {mcm : List (Nat × Nat)} {W0 : WX} {P : Prog} {cf : CF} {e a i tg : Expr} {pos : Pos} {ms : EvM}
section
variable {σ : L2.St} {H : Hp} {ρ : Env} {W : Wd} {S : Store}
theorem fput_v {f : Str} {mv : MV} {v : V} (r : RV Γ W H mv v) : ∀ {fs : Flds} {ws : List (Str × V)}, RVf Γ W H fs ws → RVf Γ W H (fPut fs f mv) (putF f v ws)
  | [], ws, h => by
    rw [show ws = [] from h]
    exact ⟨v, [], rfl, r, rfl⟩
  | (g, n) :: fs, ws, h => by
    obtain ⟨w, vs, rfl, r1, r2⟩ := h
    unfold fPut putF
    rw [seqStr_eq]
    by_cases q : g = f
    · rw [decide_eq_true q, if_pos rfl, if_pos q]
      exact ⟨v, vs, rfl, r, r2⟩
    · rw [decide_eq_false q, if_neg (by decide), if_neg q]
      exact ⟨w, _, rfl, r1, fput_v r r2⟩
theorem fld_len : ∀ {fs : Flds} {ws : List (Str × V)}, RVf Γ W H fs ws → ws.length = fs.length
  | [], ws, h => by rw [show ws = [] from h]; rfl
  | (g, n) :: fs, ws, h => by
    obtain ⟨w, vs, rfl, r1, r2⟩ := h
    rw [List.length_cons, List.length_cons, fld_len r2]
end
/-- a.f = e -/
theorem sn_asgA {ma : EvM} {f : Str} {p' : Pos} (hK : X.K = Γ.K) (hC : ClsF Γ P Γ.K) (he : PE X e (tE Γ X mcm W0 ms)) (ha : PE X a (tE Γ X mcm W0 ma))
    (hs : swapsWith e (some (.Attribute a f p')) pos.line X.env = pure false) :
    PS X (.Assign [.Attribute a f p'] e pos) (tS Γ X mcm W0 fun ρ S => (ms ρ S).thn ρ fun v S => (ma ρ S).thn ρ fun x S => match setA P x f v S with
      | some S => .ok (.nx ρ) S
      | none => .bad) := by
  refine PS.imp (ps_fld ha he hs) fun D σ H h => ?_
  obtain ⟨W, ρ, S, R, w⟩ := h
  refine tE.mono (stepS R w) ?_
  rintro v H1 ⟨mv, W1, S1, rv, e1, R1, h1⟩
  refine tE.mono (stepS R1 h1) ?_
  rintro x H2 ⟨mx, W2, S2, rx, e2, R2, h2⟩
  cases hq : setA P mx f mv S2 with
  | none => rw [hq] at h2; exact h2.elim
  | some S4 =>
    rw [hq] at h2
    unfold setA at hq
    split at hq
    · rename_i l
      split at hq
      · rename_i c fs hS
        split at hq
        · rename_i hg
          cases hq
          obtain ⟨g1, g2⟩ := Bool.and_eq_true_iff.mp hg
          obtain ⟨a, rfl, hi, hv⟩ := rx
          rcases hv with z | z
          · rcases R2.rs.live l _ hS z with q | ⟨_, q⟩ <;> cases q
          · obtain ⟨C, dx, ws, q1, q2, q4⟩ := R2.rs.obj l _ a hS z
            have ev : Ev Γ W2 H2 W2 (upd H2 a (.ins C dx (putF f v ws))) := Ev.set R2.rs z q2 rfl
            rw [hK]
            refine ⟨a, C, dx, ws, rfl, q2, hC.cls c C q1 (hasFld_inst g1), hC.no c C f q1 g1, by rw [fld_len q4]; exact of_decide_eq_true g2, ?_⟩
            exact h2 W2 _ ev σ (R2.set hS z q2 rfl ⟨C, dx, putF f v ws, q1, upd_same, ev.rvf _ _ (fput_v (e2.rv _ _ rv) q4)⟩)
        · cases hq
      · cases hq
    · cases hq
theorem sn_augA {i : Nat} {x : Str} {pos' : Pos} (op : Bop) (hop : op = .add ∨ op = .sub) (hN : X.N.Nodup) (hi : X.N[i]? = some x) (hx : Loc X.env.scope x) (hf : X.fn x = true ∨ X.env.scope.names.lookup x = some .local) (hm : ∀ k, (i, k) ∉ mcm) (he : PE X e (tE Γ X mcm W0 ms)) :
    PS X (.AugAssign (.Name x pos') (bopOf op) e pos) (tS Γ X mcm W0 fun ρ S => match ρ[i]? with
    | some (some (.int x)) => (ms ρ S).thn ρ fun y S => (match y with
      | .int y => (match augM op x y with
        | some z => .ok (.nx (ρ.set i (some (.int z)))) S
        | none => .bad)
      | _ => .bad)
    | _ => .bad) := by
  have key : ∃ f : Int → Int → Int, PIp X (bopOf op) (ipI f) ∧ ∀ x y, augM op x y = some (f x y) := by
    rcases hop with h | h
    · subst h; exact ⟨_, ip_add, fun _ _ => rfl⟩
    · subst h; exact ⟨_, ip_sub, fun _ _ => rfl⟩
  obtain ⟨f, hp, hf'⟩ := key
  refine PS.imp (ps_aug hN hi hx he hp hf) fun D σ H h => ?_
  obtain ⟨W, ρ, S, R, w⟩ := h
  dsimp only at w
  split at w
  · rename_i x hx
    obtain ⟨v, q1, q2⟩ := R.re.var i _ hm hx
    refine ⟨v, q1, ?_⟩
    refine tE.mono (stepS R w) ?_
    rintro y H1 ⟨my, W1, S1, ry, e1, R1, h1⟩
    split at h1
    · rename_i y'
      rw [hf'] at h1
      exact ⟨x, y', q2, ry, WnS.here R1 h1 _ (R1.name (mv := .int (f x y')) hm rfl)⟩
    · exact h1.elim
  · exact w.elim
theorem sn_while {c : Expr} {b : List Stmt} {mc : Env → Store → Res Bool} {mb : Env → Store → Res Fl} (hp : PassesOwn (model X.prog X.w) X.A X.env X.xe) (hc : PT X c (tT Γ X mcm W0 mc)) (hb : PSs X b (tS Γ X mcm W0 mb)) :
    PS X (.While c b [] pos) (tS Γ X mcm W0 fun ρ S => whileM mc mb fuel ρ S) := by
  refine PS.imp (ps_while hp hc hb) fun D σ H h => ?_
  obtain ⟨W, ρ, S, R, w⟩ := h
  refine ⟨fun m σ H => ∃ W ρ S, Rel Γ X mcm ρ σ W S H ∧ WnS Γ X mcm W0 W H (whileM mc mb m ρ S) D, ⟨fuel, W, ρ, S, R, w⟩, ?_⟩
  rintro m σ H ⟨W, ρ, S, R, w⟩
  cases m with
  | zero => exact w.elim
  | succ n =>
    refine tT.mono (stepST R w) ?_
    rintro t H1 ⟨W1, S1, e1, R1, h1⟩
    cases t with
    | true =>
      rw [if_pos rfl]
      refine ⟨fun σ' H' => ∃ W ρ S, Rel Γ X mcm ρ σ' W S H' ∧ WnS Γ X mcm W0 W H' (whileM mc mb n ρ S) D, fun σ' H' z => ⟨n, Nat.lt_succ_self _, z⟩, W1, ρ, S1, R1, ?_⟩
      have h1 : WnS Γ X mcm W0 W1 H1 ((mb ρ S1).bind fun fl S => match fl with
        | .nx ρ => whileM mc mb n ρ S
        | .ct ρ => whileM mc mb n ρ S
        | .bk ρ => .ok (.nx ρ) S
        | fl => .ok fl S) D := h1
      cases hr : mb ρ S1 with
      | ok fl S2 =>
        rw [hr] at h1
        intro W' H' e'
        cases fl with
        | nx ρ' => exact fun σ' R' => ⟨W', ρ', S2, R', WnS.shift (r := whileM mc mb n ρ' S2) h1 e'⟩
        | ct ρ' => exact fun σ' R' => ⟨W', ρ', S2, R', WnS.shift (r := whileM mc mb n ρ' S2) h1 e'⟩
        | bk ρ' => exact h1 W' H' e'
        | rt m => exact h1 W' H' e'
        | xc c fs ρ' => exact h1 W' H' e'
      | exc c fs S2 => rw [hr] at h1; exact h1.elim
      | bad => rw [hr] at h1; exact h1.elim
    | false =>
      rw [if_neg Bool.false_ne_true]
      exact WnS.here R1 h1 σ R1
/-- the item at a turn -/
def pAt (p : Plan) (i : Nat) (S : Store) : Option (Option MV) :=
  match p with
  | .fx vs => some vs[i]?
  | p => planAt p i S
/-- the walk J does as the plan p says, from some state on -/
def notDk : Plan → Prop
  | .dk _ _ => False
  | _ => True
def PlanR (Γ : Gm) (p : Plan) (J : It) (W : Wd) (H : Hp) : Prop :=
  notDk p ∧ ∀ X mcm ρ σ W' S' H' (i : Nat), Ev0 Γ W H W' H' → Rel Γ X mcm ρ σ W' S' H' → match pAt p i S' with
    | some (some m) => J.go i H' ∧ ∀ x H'', J.yld i H' x H'' → Ev Γ W' H' W' H'' ∧ Rel Γ X mcm ρ σ W' S' H'' ∧ RV Γ W' H'' m x
    | some none => J.stop i H'
    | none => True
/-- the turns, one by one -/
def turnsM (p : Plan) (f : MV → Env → Store → Res Fl) : Nat → Nat → Env → Store → Res Fl
  | 0, _, _, _ => .bad
  | n + 1, i, ρ, S => match pAt p i S with
    | none => .bad
    | some none => .ok (.nx ρ) S
    | some (some v) => (f v ρ S).bind fun fl S => match fl with
      | .nx ρ => turnsM p f n (i + 1) ρ S
      | .ct ρ => turnsM p f n (i + 1) ρ S
      | .bk ρ => .ok (.nx ρ) S
      | fl => .ok fl S
theorem turns_fix {f : MV → Env → Store → Res Fl} {vs : List MV} : ∀ (r : List MV) (i : Nat) (ρ : Env) (S : Store), vs.drop i = r → loopFix f r ρ S = turnsM (.fx vs) f (r.length + 1) i ρ S
  | [], i, ρ, S, h => by
    have hi : vs[i]? = none := by
      rw [List.getElem?_eq_none_iff]
      have := congrArg List.length h
      simp at this
      omega
    unfold loopFix turnsM
    unfold pAt
    dsimp only
    rw [hi]
  | v :: r, i, ρ, S, h => by
    have hi : vs[i]? = some v := by
      have q : (vs.drop i)[0]? = some v := by rw [h]; rfl
      rw [List.getElem?_drop] at q
      simpa using q
    have hr : vs.drop (i + 1) = r := by
      rw [← List.drop_drop, h]; rfl
    rw [List.length_cons]
    unfold loopFix turnsM
    unfold pAt
    dsimp only
    rw [hi]
    dsimp only
    congr 1
    funext fl S'
    cases fl with
    | nx ρ' => exact turns_fix r (i + 1) ρ' S' hr
    | ct ρ' => exact turns_fix r (i + 1) ρ' S' hr
    | _ => rfl
theorem turns_live {p : Plan} {f : MV → Env → Store → Res Fl} (hp : ∀ vs, p ≠ .fx vs) : ∀ (n i : Nat) (ρ : Env) (S : Store), loopLive p f n i ρ S = turnsM p f n i ρ S
  | 0, _, _, _ => rfl
  | n + 1, i, ρ, S => by
    unfold loopLive turnsM
    have e : pAt p i S = planAt p i S := by
      cases p with
      | fx vs => exact absurd rfl (hp vs)
      | _ => rfl
    rw [e]
    cases planAt p i S with
    | none => rfl
    | some o =>
      cases o with
      | none => rfl
      | some v =>
        dsimp only
        congr 1
        funext fl S'
        cases fl with
        | nx ρ' => exact turns_live hp n (i + 1) ρ' S'
        | ct ρ' => exact turns_live hp n (i + 1) ρ' S'
        | _ => rfl
/-- the plan, then what follows it -/
def tI (Γ : Gm) (X : Cx) (mcm : List (Nat × Nat)) (W0 : WX) (m : Env → Store → Res Plan) : TI := fun σ H R => ∃ W ρ S, Rel Γ X mcm ρ σ W S H ∧
  Want Γ (Rel Γ X mcm ρ σ) W H (m ρ S) (fun p S' W' H' => Rel Γ X mcm ρ σ W' S' H' → ∀ J, PlanR Γ p J W' H' → R J H') fun C d H' => W0 C d σ H'
theorem PI.imp {t e : Expr} {w w' : TI} (h : PI X t e w) (hi : ∀ σ H R, w' σ H R → w σ H R) : PI X t e w' := ⟨fun pins s σ H R I q => h.run pins s σ H R I (hi σ H R q)⟩
theorem stepI {σ : L2.St} {H : Hp} {ρ : Env} {W : Wd} {S : Store} {D : Ends} {m : Env → Store → Res Plan} {k : Plan → Store → Res Fl} (R : Rel Γ X mcm ρ σ W S H) (h : WnS Γ X mcm W0 W H ((m ρ S).thn ρ k) D) :
    tI Γ X mcm W0 m σ H fun J H1 => ∃ p W1 S1, PlanR Γ p J W1 H1 ∧ Ev Γ W H W1 H1 ∧ Rel Γ X mcm ρ σ W1 S1 H1 ∧ WnS Γ X mcm W0 W1 H1 (k p S1) D :=
  ⟨W, ρ, S, R, (WnS.thn R h).mono (fun p S' W' H' _ e R' q _ J hp => ⟨p, W', S', hp, e, R', q⟩) fun _ _ _ z => z⟩
/-- the turns of a for -/
theorem turns_ok {ts : List Nat} {σ : L2.St} {H : Hp} {ρ : Env} {W : Wd} {S : Store} {D : Ends} {f : MV → Env → Store → Res Env} {mb : Env → Store → Res Fl} {p : Plan} {J : It} {n : Nat} (R : Rel Γ X mcm ρ σ W S H) (hp : PlanR Γ p J W H)
    (w : WnS Γ X mcm W0 W H (turnsM p (fun v ρ S => (f v ρ S).bind fun ρ S => mb ρ S) n 0 ρ S) D) :
    ∃ Wv : Nat → Nat → L2.St → Hp → Prop, (∃ m, Wv 0 m σ H) ∧ ∀ i m σ H, Wv i m σ H →
      (J.stop i H ∧ D.nx σ H) ∨ (J.go i H ∧ ∃ N : L2.St → Hp → Prop, (∀ σ' H', N σ' H' → ∃ m', m' < m ∧ Wv (i + 1) m' σ' H') ∧ ∀ x H', J.yld i H x H' → tG Γ X mcm ts f x σ H' fun σ2 H2 => tS Γ X mcm W0 mb { D with nx := N, ct := N, bk := D.nx } σ2 H2) := by
  refine ⟨fun i m σ H' => ∃ W' ρ S, Ev Γ W H W' H' ∧ Rel Γ X mcm ρ σ W' S H' ∧ WnS Γ X mcm W0 W' H' (turnsM p (fun v ρ S => (f v ρ S).bind fun ρ S => mb ρ S) m i ρ S) D, ⟨n, W, ρ, S, R.evr, R, w⟩, ?_⟩
  rintro i m σ H' ⟨W', ρ, S, e, R, w⟩
  cases m with
  | zero => exact w.elim
  | succ m =>
    have q := hp.2 X mcm ρ σ W' S H' i e.toEv0 R
    unfold turnsM at w
    cases h : pAt p i S with
    | none => rw [h] at w; exact w.elim
    | some o =>
      rw [h] at w q
      cases o with
      | none => exact .inl ⟨q, WnS.here R w σ R⟩
      | some v =>
        obtain ⟨q1, q2⟩ := q
        refine .inr ⟨q1, fun σ' H'' => ∃ W'' ρ S, Ev Γ W H W'' H'' ∧ Rel Γ X mcm ρ σ' W'' S H'' ∧ WnS Γ X mcm W0 W'' H'' (turnsM p (fun v ρ S => (f v ρ S).bind fun ρ S => mb ρ S) m (i + 1) ρ S) D, fun σ' H'' z => ⟨m, Nat.lt_succ_self _, z⟩, fun x H'' hx => ?_⟩
        obtain ⟨e2, R2, rx⟩ := q2 x H'' hx
        refine ⟨W', ρ, S, v, R2, rx, ?_⟩
        have w : WnS Γ X mcm W0 W' H' (((f v ρ S).bind fun ρ S => mb ρ S).bind fun fl S => match fl with
          | .nx ρ => turnsM p (fun v ρ S => (f v ρ S).bind fun ρ S => mb ρ S) m (i + 1) ρ S
          | .ct ρ => turnsM p (fun v ρ S => (f v ρ S).bind fun ρ S => mb ρ S) m (i + 1) ρ S
          | .bk ρ => .ok (.nx ρ) S
          | fl => .ok fl S) D := w
        cases hr : f v ρ S with
        | ok ρ1 S1 =>
          rw [hr] at w
          intro σ1 W1 H1 e3 R3 _
          refine ⟨W1, ρ1, S1, R3, ?_⟩
          have w : WnS Γ X mcm W0 W' H' ((mb ρ1 S1).bind fun fl S => match fl with
            | .nx ρ => turnsM p (fun v ρ S => (f v ρ S).bind fun ρ S => mb ρ S) m (i + 1) ρ S
            | .ct ρ => turnsM p (fun v ρ S => (f v ρ S).bind fun ρ S => mb ρ S) m (i + 1) ρ S
            | .bk ρ => .ok (.nx ρ) S
            | fl => .ok fl S) D := w
          cases hb : mb ρ1 S1 with
          | ok fl S2 =>
            rw [hb] at w
            intro W2 H2 e4
            have ea : Ev Γ W' H' W2 H2 := e2.trans (e3.trans e4)
            cases fl with
            | nx ρ2 => exact fun σ' R' => ⟨W2, ρ2, S2, e.trans ea, R', WnS.shift w ea⟩
            | ct ρ2 => exact fun σ' R' => ⟨W2, ρ2, S2, e.trans ea, R', WnS.shift w ea⟩
            | bk ρ2 => exact w W2 H2 ea
            | rt mm => exact w W2 H2 ea
            | xc c fs ρ2 => exact w W2 H2 ea
          | exc c fs S2 => rw [hb] at w; exact w.elim
          | bad => rw [hb] at w; exact w.elim
        | exc c fs S1 => rw [hr] at w; exact w.elim
        | bad => rw [hr] at w; exact w.elim
/-- for .. in .., but for a dict -/
theorem sn_for {ts : List Nat} {it : Expr} {b : List Stmt} {f : MV → Env → Store → Res Env} {mi : Env → Store → Res Plan} {mb : Env → Store → Res Fl} (hp : PassesOwn (model X.prog X.w) X.A X.env X.xe) (hc : X.calm = true) (hi : PI X tg it (tI Γ X mcm W0 mi)) (hg : PG X tg (tG Γ X mcm ts f)) (hb : PSs X b (tS Γ X mcm W0 mb))
    (hs : ∀ x, foldedSetIterable it X.env x = pure x) :
    PS X (.For tg it b [] pos) (tS Γ X mcm W0 fun ρ S => (mi ρ S).thn ρ fun p S => loopPlan p (fun v ρ S => (f v ρ S).bind fun ρ S => mb ρ S) ρ S) := by
  refine PS.imp (ps_for hp hc hi hg hb hs) fun D σ H h => ?_
  obtain ⟨W, ρ, S, R, w⟩ := h
  show tI Γ X mcm W0 mi σ H _
  obtain ⟨W', ρ', S', R', w'⟩ := stepI R w
  refine ⟨W', ρ', S', R', w'.mono (fun p S1 W1 H1 _ e1 R1 q Rq J hJ => ?_) fun _ _ _ z => z⟩
  obtain ⟨p2, W2, S2, hJ2, e2, R2, w2⟩ := q Rq J hJ
  cases p2 with
  | dk l vs => exact hJ2.1.elim
  | fx vs =>
    have w2 : WnS Γ X mcm W0 W2 H1 (loopFix (fun v ρ S => (f v ρ S).bind fun ρ S => mb ρ S) vs ρ S2) D := w2
    rw [turns_fix (vs := vs) vs 0 ρ S2 rfl] at w2
    exact turns_ok R2 hJ2 w2
  | lv l =>
    have w2 : WnS Γ X mcm W0 W2 H1 (loopLive (.lv l) (fun v ρ S => (f v ρ S).bind fun ρ S => mb ρ S) fuel 0 ρ S2) D := w2
    rw [turns_live (fun vs z => by cases z)] at w2
    exact turns_ok R2 hJ2 w2
  | en s =>
    have w2 : WnS Γ X mcm W0 W2 H1 (loopLive (.en s) (fun v ρ S => (f v ρ S).bind fun ρ S => mb ρ S) fuel 0 ρ S2) D := w2
    rw [turns_live (fun vs z => by cases z)] at w2
    exact turns_ok R2 hJ2 w2
  | zp s t =>
    have w2 : WnS Γ X mcm W0 W2 H1 (loopLive (.zp s t) (fun v ρ S => (f v ρ S).bind fun ρ S => mb ρ S) fuel 0 ρ S2) D := w2
    rw [turns_live (fun vs z => by cases z)] at w2
    exact turns_ok R2 hJ2 w2
end
end Mini
namespace Mini
open PySem PySem.Spec PyProof.Rows L2
section
variable {prog : Program} {w : World} {A : Around} {E : Value → Shared → Prop} {s : Shared}
set_option maxHeartbeats 1000000 in
theorem meets_enum1 {v : Value} {o : Obj} {H : Heap → Prop} (B : Begins v o H) :
    Meets (Builtin.«enumerate.__new__» ⟨[.type "enumerate", v], []⟩) (fun _ R s => H s.heap ∧
      R (.ok (.ret (.ref (s.heap.push o).objs.size))) { s with heap := (s.heap.push o).push { cls := .type "enumerate", data := .fields #[.none, .bool false, .ref s.heap.objs.size, rawInt 0, .none, .none] } }) :=
  .of_wp fun prog w A R s h => by
    obtain ⟨hp, g, d, tk, os⟩ := s; obtain ⟨h1, h⟩ := h
    have hsub := sub_enumerate
    have q1 : ∀ {A' : Around} {E : Value → Shared → Prop} {Q : Value → Shared → Prop}, Q (.ref hp.objs.size) ⟨hp.push o, g, d, tk, os⟩ → wpAny (model prog w) A' (pyIter v) Q E ⟨hp, g, d, tk, os⟩ :=
      fun q => B.iter prog w _ _ ⟨hp, g, d, tk, os⟩ _ h1 q
    wp_walk using q1
    refine wpAny_stack_any fun st => wpAny_pure ?_
    split
    · rename_i c _ _ _ _ _
      cases (c == Value.type "enumerate")
      · wp_walk using q1
        exact ⟨_, rfl, h⟩
      · wp_walk using q1
        exact ⟨_, rfl, h⟩
    · wp_walk using q1
      exact ⟨_, rfl, h⟩
theorem enum1 {v : Value} {o : Obj} {H : Heap → Prop} {Q : Value → Shared → Prop} (B : Begins v o H) (h1 : H s.heap)
    (h : ∀ h', IsEnum h' (s.heap.objs.size + 1) s.heap.objs.size 0 .none → h'.get? s.heap.objs.size = some o → h'.objs.size = s.heap.objs.size + 2 →
      (∀ b o, s.heap.get? b = some o → h'.get? b = some o) → Q (.ref (s.heap.objs.size + 1)) { s with heap := h' }) :
    wpAny (model prog w) A (call (.type "enumerate") [v]) Q E s := by
  refine callType_new F.called_enumerate (by decide) (F.typeCall_enumerate_1 _) (F.newCall_enumerate_1 _) (fun obj => F.args_object_init_2 obj _) F.entry_enumerate_new
    (meets_enum1 B) ⟨h1, ?_⟩
  have hz : (s.heap.push o).objs.size = s.heap.objs.size + 1 := Heap.size_push ..
  show _ ∧ _
  rw [hz]
  have he : IsEnum ((s.heap.push o).push { cls := .type "enumerate", data := .fields #[.none, .bool false, .ref s.heap.objs.size, rawInt 0, .none, .none] }) (s.heap.objs.size + 1) s.heap.objs.size 0 .none := by
    have := Heap.get?_push_size (s.heap.push o) (o := { cls := .type "enumerate", data := .fields #[.none, .bool false, .ref s.heap.objs.size, rawInt 0, .none, .none] }) rfl
    rw [hz] at this; exact this
  refine ⟨⟨_, he, rfl⟩, h _ he (Heap.get?_push_of_some _ (Heap.get?_push_size _ B.free)) (by rw [Heap.size_push, hz]) fun b o x => Heap.get?_push_of_some _ (Heap.get?_push_of_some _ x)⟩
end
section
variable {prog : Program} {w : World} {A : Around} {E : Value → Shared → Prop} {s : Shared}
theorem enum_endT {e it l : Addr} {i : Nat} {items : Array Value} {old : Value} {Q : Option Value → Shared → Prop} (hh : A.handled = none)
    (he : IsEnum s.heap e it i old) (hit : s.heap.IsTupleIter it l i) (hl : s.heap.IsTuple l items) (hx : items[i]? = none)
    (hQ : ∀ h', Heap.ExtBut it s.heap h' → Q none { s with heap := h' }) : wpAny (model prog w) A (pyNext (.ref e)) Q E s := by
  have hT : s.TypeIs (.ref e) "enumerate" := ⟨_, he, rfl⟩
  unfold pyNext
  refine wpAny_bind (wpAny_attempt (wpAny_callSpecial?_slot (name := Str.ofString "__next__") hT F.slot_enumerate_next
    (wpAny_call_entry F.slot_enumerate_next hT F.entry_enumerate_next ?_ (F.args_enumerate_next_1 _))))
  show wpAny _ _ (field (.ref e) 2 >>= _) _ _ _
  refine wpAny_bind (wpAny_field he rfl (x := .ref it) rfl ?_)
  refine wpAny_bind (wpAny_nextOf_tuple_end (show A.in1.handled = none from hh) hit hl hx fun h' x he' hx' => ?_)
  obtain ⟨o, ho, hc⟩ := hx'
  refine wpAny_bind (wpAny_isInstance (T := "StopIteration") (b := true) ⟨o, ho, hc⟩ isSubtype_stop ?_)
  exact wpAny_pure (hQ _ he')
end
def IteT (K : PySem.W.Frag) (a : Addr) : It :=
  ⟨fun i H => ∃ (xs : List V) (x : V), SqT K H a xs ∧ xs[i]? = some x, fun i H v H' => ∃ T x, v = .ref T ∧ H T = none ∧ H' = upd H T (.tup [.int (i : Nat), x]) ∧ ∀ xs, SqT K H a xs → xs[i]? = some x, fun i H => ∃ xs : List V, SqT K H a xs ∧ xs.length ≤ i⟩
theorem turn_enumT {P : Program} {w : World} {K : PySem.W.Frag} {elts : List Expr} {kk : Nat} {tpos : Pos} (a e it : Addr) :
    Turn P w K (.Tuple elts kk tpos) (IteT K a) [e, it] e (fun i h => (∃ old, IsEnum h e it ((i : Nat) : Int) old) ∧ h.IsTupleIter it a i ∧ e ≠ it ∧ a ≠ it ∧ a ≠ e) where
  mem := by simp
  obj := fun i h st b hb => by
    obtain ⟨⟨old, he⟩, ⟨o, ho, hc, hd⟩, _⟩ := st
    have e' : b = e ∨ b = it := by simpa using hb
    rcases e' with z | z
    · rw [z]; exact ⟨_, he, fun v q => nomatch q⟩
    · rw [z]; exact ⟨o, ho, fun v q => by rw [hd] at q; cases q⟩
  keep := fun i h h' st k => let ⟨⟨old, he⟩, hi, hne⟩ := st; ⟨⟨old, k e (by simp) _ he⟩, hi.at fun o q => k it (by simp) o q, hne⟩
  item := by
    intro X hP hw hK hc i pins s σ H E I hf st hg
    subst hP hw hK
    obtain ⟨⟨old, he⟩, hit, hne, hai, hae⟩ := st
    obtain ⟨xs, x, hq, hx⟩ := hg
    obtain ⟨its, rv, p, hz⟩ := I.tuple hq
    obtain ⟨u, hu, ru⟩ := rv.get hx
    have hel : e < s.heap.objs.size := Heap.lt_size he
    have hil : it < s.heap.objs.size := by obtain ⟨_, q, _⟩ := hit; exact Heap.lt_size q
    have hul : its.toArray[i]? = some u := by simpa using hu
    have hin : i < its.toArray.size := (Array.getElem?_eq_some_iff.mp hul).1
    refine wpAny_pyNext_enum_itemD (Draws.tuple (prog := X.prog) (w := X.w) (A := X.A.in1) (I.ok.hd hc) it a hai its.toArray) he ⟨hit, p⟩ hin hne (by simp [hne, Ne.symm hae]) fun u' h' tk hP ho hst hT hsz hk => ?_
    have hP : its.toArray[i]? = some u' := hP
    rw [hul] at hP
    cases hP
    refine ⟨_, rfl, wpAny_letOwnedTupleGo_enum (s := { s with heap := h', toks := tk + 1 }) ho fun h'' he' sb => ?_⟩
    have hT2 : h''.get? s.heap.objs.size = some { cls := .type "tuple", data := .seq #[.int i tk, u] } := (sb.2 _ (Nat.ne_of_gt hel)).trans hT
    have new : ObjOk X.prog X.w (upd H s.heap.objs.size (.tup [.int (i : Nat), x])) h'' s.heap.objs.size (.tup [.int (i : Nat), x]) :=
      ⟨by show 2 ≤ sizeLine; decide, [.int i tk, u], .cons ⟨_, rfl⟩ (.cons ru .nil), ⟨_, hT2, rfl, _, rfl⟩⟩
    have I1 : L2.Inv X pins σ (upd H s.heap.objs.size (.tup [.int (i : Nat), x])) { s with heap := h'', toks := tk + 1 } :=
      I.turnedNew (ch := [e, it]) (fun b ob hb q => (sb.2 b (fun z => hb (by simp [z]))).trans (hk b ob (fun z => hb (by simp [z])) (fun z => hb (by simp [z])) q)) hf (Nat.le_refl _) new
    refine ⟨.ref s.heap.objs.size, _, I1, rfl, ⟨_, x, rfl, I.hok.fresh (Nat.le_refl _), rfl, fun ys hy => by rw [I.tuple_inj hy hq]; exact hx⟩, ⟨⟨u, ?_⟩, hst.1.at fun o q => (sb.2 it (Ne.symm hne)).trans q, hne, hai, hae⟩, fun b hb => ?_⟩
    · have e1 : ((i + 1 : Nat) : Int) = (i : Int) + 1 := by omega
      rw [e1]; exact he'
    · have hb' : b < s.heap.objs.size := by
        have e' : b = e ∨ b = it := by simpa using hb
        rcases e' with z | z
        · rw [z]; exact hel
        · rw [z]; exact hil
      rw [upd_ne (Nat.ne_of_lt hb')]
      exact (hf b hb).1
  done := by
    intro X hP hw hK hc i pins s σ H E I hf st hg
    subst hP hw hK
    obtain ⟨⟨old, he⟩, hit, hne, hai, hae⟩ := st
    obtain ⟨xs, hq, hx⟩ := hg
    obtain ⟨its, rv, p, hz⟩ := I.tuple hq
    obtain ⟨f0, f1, f2, f3, f4, f5⟩ := hf it (by simp)
    have hl := rv.length
    exact enum_endT (I.ok.hd hc) he hit p (by simp; omega) fun h' eb => ⟨rfl, I.turned (t' := s.toks) (fun b o hb q => eb b o hb q) f0 f1 f3 f4 f5⟩
  self := fun A i s Q E st h => let ⟨⟨_, he⟩, _⟩ := st; wpAny_pyIter_enum he h
section
variable {Γ : Gm} {X : Cx} {mcm : List (Nat × Nat)} {W0 : WX} {P : Prog} {cf : CF} {tg e e2 : Expr} {pos p : Pos} {ms ms2 : EvM} {te : TE}
/-- a list, a tuple, a text -/
def iSeqM (K : PySem.W.Frag) (te : TE) : TI := fun σ H R => te σ H fun x H1 => (∃ a, x = .ref a ∧ (∃ xs, SqL K H1 a xs) ∧ R (Itl K a) H1) ∨ (∃ a, x = .ref a ∧ (∃ xs, SqT K H1 a xs) ∧ R (Itt K a) H1) ∨ ∃ z, x = .str z ∧ R (Its z) H1
theorem pi_seqM (he : PE X e te) : PI X tg e (iSeqM X.K te) := by
  refine ⟨fun pins s σ H R I h => ?_⟩
  refine thn (he.run pins s σ H _ I h) fun v s1 ⟨x, H1, I1, r1, q1⟩ => ?_
  rcases q1 with ⟨a, rfl, ⟨xs, hq⟩, q⟩ | ⟨a, rfl, ⟨xs, hq⟩, q⟩ | ⟨z, rfl, q⟩
  · cases r1
    obtain ⟨its, rv, p, hz⟩ := I1.list hq
    exact wpAny_pyIter_list p.isList (pi_one (tk := s1.toks) I1 _ (turn_list a _) ⟨_, Heap.get?_push_size _ rfl, rfl, rfl⟩ q)
  · cases r1
    obtain ⟨its, rv, p, hz⟩ := I1.tuple hq
    exact wpAny_pyIter_tuple (show s1.heap.IsTuple a its.toArray from p) (pi_one (tk := s1.toks) I1 _ (turn_tuple a _) ⟨_, Heap.get?_push_size _ rfl, rfl, rfl⟩ q)
  · obtain ⟨t, rfl⟩ := r1
    cases ha : z.cps.all (· < 128)
    · exact wpAny_pyIter_wide ha (pi_one (tk := s1.toks) I1 _ (turn_str _ z t "str_iterator" (.inr rfl)) ⟨_, Heap.get?_push_size _ rfl, rfl, rfl⟩ q)
    · exact wpAny_pyIter_ascii ha (pi_one (tk := s1.toks) I1 _ (turn_str _ z t "str_ascii_iterator" (.inl rfl)) ⟨_, Heap.get?_push_size _ rfl, rfl, rfl⟩ q)
def iEnumM (K : PySem.W.Frag) (ta : TA) : TI := fun σ H R => ta σ H fun vs H1 => ∃ a xs, vs = [.ref a] ∧ ((SqL K H1 a xs ∧ R (Ite K a) H1) ∨ (SqT K H1 a xs ∧ R (IteT K a) H1))
theorem pi_enumM {ta : TA} {tpos : Pos} {elts : List Expr} {kk : Nat} (hg : Gl X "enumerate") (hm : X.mg "enumerate" = none) (ha : PA X [e] ta) (hs : starEach [e] X.env = [(false, eval e X.env)]) :
    PI X (.Tuple elts kk tpos) (.Call (.Name "enumerate" p) [e] [] pos) (iEnumM X.K ta) := by
  refine ⟨fun pins s σ H R I h => ?_⟩
  refine Call_ (ld_blt I hg hm boot_enumerate (PyProof.Rows.callWith_type1 (thn (ha.run pos pins s σ H _ I h) fun us s1 ⟨vs, H1, I1, r1, q1⟩ => ?_) hs rfl))
  obtain ⟨a, xs, ex, q1⟩ := q1
  subst ex
  cases r1 with
  | cons r rr =>
    cases rr
    cases r
    have fp2 : ∀ b ∈ [s1.heap.objs.size + 1, s1.heap.objs.size], FpOk X pins H1 b := fun b hb => by
      have e' : b = s1.heap.objs.size + 1 ∨ b = s1.heap.objs.size := by simpa using hb
      have hle : s1.heap.objs.size ≤ b := by
        rcases e' with z | z
        · rw [z]; exact Nat.le_add_right _ _
        · rw [z]; exact Nat.le_refl _
      exact I1.fpOk hle (I1.hok.fresh hle)
    rcases q1 with ⟨hq, q⟩ | ⟨hq, q⟩
    · obtain ⟨its, rv, p', hz⟩ := I1.list hq
      refine call_enumerate_list p'.isList fun h' he hit hsz hk => wpAny_pyIter_enum he ?_
      have I2 : L2.Inv X pins σ H1 { s1 with heap := h' } := I1.kept (t' := s1.toks) hk
      exact ⟨s1.heap.objs.size + 1, [s1.heap.objs.size + 1, s1.heap.objs.size], _, _, H1, rfl, I2, turn_enum a (s1.heap.objs.size + 1) s1.heap.objs.size, ⟨⟨.none, he⟩, hit, Nat.succ_ne_self _⟩, fp2, q⟩
    · obtain ⟨its, rv, p', hz⟩ := I1.tuple hq
      refine enum1 (begins_tuple a its.toArray) p' fun h' he hit hsz hk => wpAny_pyIter_enum he ?_
      have I2 : L2.Inv X pins σ H1 { s1 with heap := h' } := I1.kept (t' := s1.toks) hk
      have hal : a < s1.heap.objs.size := by obtain ⟨o, ho, _⟩ := p'; exact Heap.lt_size ho
      exact ⟨s1.heap.objs.size + 1, [s1.heap.objs.size + 1, s1.heap.objs.size], _, _, H1, rfl, I2, turn_enumT a (s1.heap.objs.size + 1) s1.heap.objs.size, ⟨⟨.none, he⟩, ⟨_, hit, rfl, rfl⟩, Nat.succ_ne_self _, Nat.ne_of_lt hal, Nat.ne_of_lt (Nat.lt_succ_of_lt hal)⟩, fp2, q⟩
end
end Mini
namespace Mini
open PySem PySem.Spec PyProof.Rows L2
section
variable {Γ : Gm} {X : Cx} {mcm : List (Nat × Nat)} {W0 : WX} {P : Prog} {cf : CF} {tg e e2 : Expr} {pos p : Pos} {ms ms2 : EvM} {H : Hp} {W : Wd} {σ : L2.St} {ρ : Env} {S : Store}
theorem SqL.of_scr {K : PySem.W.Frag} {a : Addr} {xs : List V} (h : Rd H a (.lst xs)) : SqL K H a xs := .inl h
/-- one walk over a source: a list by the heap, a list that is known, a tuple -/
inductive SrcA (Γ : Gm) (W : Wd) (H : Hp) : Src → Addr → Bool → Prop
  | lv {l : Nat} {a : Addr} (r : RV Γ W H (.loc l) (.ref a)) : SrcA Γ W H (.lv l) a true
  | fls {vs : List MV} {a : Addr} (r : RV Γ W H (.fls vs) (.ref a)) : SrcA Γ W H (.fx vs) a true
  | scr {vs : List MV} {a : Addr} (r : RV Γ W H (.scr vs) (.ref a)) : SrcA Γ W H (.fx vs) a true
  | tup {m : MV} {vs : List MV} {a : Addr} (e : asTup m = some vs) (r : RV Γ W H m (.ref a)) : SrcA Γ W H (.fx vs) a false
theorem SrcA.ev {W' : Wd} {H' : Hp} {s : Src} {a : Addr} {b : Bool} (h : SrcA Γ W H s a b) (e : Ev0 Γ W H W' H') : SrcA Γ W' H' s a b := by
  cases h with
  | lv r => exact .lv (e.rv _ _ r)
  | fls r => exact .fls (e.rv _ _ r)
  | scr r => exact .scr (e.rv _ _ r)
  | tup h r => exact .tup h (e.rv _ _ r)
def SqB (K : PySem.W.Frag) (b : Bool) (H : Hp) (a : Addr) (xs : List V) : Prop := if b then SqL K H a xs else SqT K H a xs
theorem SrcA.at {s : Src} {a : Addr} {b : Bool} (h : SrcA Γ W H s a b) (R : Rel Γ X mcm ρ σ W S H) {i : Nat} {o : Option MV} (e : srcAt s i S = some o) :
    ∃ ms xs, o = ms[i]? ∧ SqB Γ.K b H a xs ∧ RVs Γ W H ms xs := by
  cases h with
  | lv r =>
    rename_i l
    unfold srcAt at e
    dsimp only at e
    split at e
    · rename_i vs hS
      cases e
      obtain ⟨a', xs, e1, _, q, rr⟩ := loc_lst R r hS
      cases e1
      exact ⟨vs, xs, rfl, SqL.of q, rr⟩
    · cases e
  | fls r =>
    cases e
    obtain ⟨a', xs, e1, q, _, rr⟩ := r
    cases e1
    exact ⟨_, xs, rfl, SqL.of q, RVs.of_rps rr⟩
  | scr r =>
    cases e
    obtain ⟨a', xs, e1, q, _, rr⟩ := r
    cases e1
    exact ⟨_, xs, rfl, SqL.of_scr q, RVs.of_rps rr⟩
  | tup h r =>
    cases e
    obtain ⟨a', xs, e1, q, rr⟩ := RV.asTup h r
    cases e1
    exact ⟨_, xs, rfl, q.sq, rr⟩
theorem srcOf_ok {m : MV} {x : V} {s : Src} (R : Rel Γ X mcm ρ σ W S H) (r : RV Γ W H m x) (e : srcOf m S = some s) : ∃ a b, x = .ref a ∧ SrcA Γ W H s a b ∧ (∃ xs, SqB Γ.K b H a xs) ∧ b = !isTupM m := by
  unfold srcOf at e
  split at e
  · rename_i vs h
    cases e
    obtain ⟨a, xs, rfl, q, rr⟩ := RV.asTup h r
    exact ⟨a, false, rfl, .tup h r, ⟨xs, q.sq⟩, by unfold isTupM; rw [h]; rfl⟩
  · split at e
    · cases e
      have r' := r
      obtain ⟨a, xs, rfl, q, _, rr⟩ := r'
      exact ⟨a, true, rfl, .fls r, ⟨xs, SqL.of q⟩, rfl⟩
    · cases e
      have r' := r
      obtain ⟨a, xs, rfl, q, _, rr⟩ := r'
      exact ⟨a, true, rfl, .scr r, ⟨xs, SqL.of_scr q⟩, rfl⟩
    · rename_i l _
      split at e
      · rename_i vs hS
        cases e
        obtain ⟨a, xs, rfl, _, q, rr⟩ := loc_lst R r hS
        exact ⟨a, true, rfl, .lv r, ⟨xs, SqL.of q⟩, rfl⟩
      · cases e
    · cases e
theorem pAt_src {s : Src} {i : Nat} : pAt (srcPlan s) i S = srcAt s i S := by
  cases s with
  | fx vs => rfl
  | lv l => rfl
theorem planR_seq {s : Src} {a : Addr} {b : Bool} (h : SrcA Γ W H s a b) : PlanR Γ (srcPlan s) (if b then Itl Γ.K a else Itt Γ.K a) W H := by
  refine ⟨by cases s <;> trivial, fun X mcm ρ σ W' S' H' i e R => ?_⟩
  rw [pAt_src]
  cases hs : srcAt s i S' with
  | none => trivial
  | some o =>
    obtain ⟨ms, xs, ho, hq, r⟩ := (h.ev e).at R hs
    cases o with
    | some m =>
      obtain ⟨v, h1, h2⟩ := r.get ho.symm
      cases b with
      | true =>
        refine ⟨⟨xs, v, hq, h1⟩, fun x H'' hx => ?_⟩
        obtain ⟨e1, hx⟩ := hx
        subst e1
        have := hx xs hq
        rw [h1] at this
        cases this
        exact ⟨R.evr, R, h2⟩
      | false =>
        refine ⟨⟨xs, v, hq, h1⟩, fun x H'' hx => ?_⟩
        obtain ⟨e1, hx⟩ := hx
        subst e1
        have := hx xs hq
        rw [h1] at this
        cases this
        exact ⟨R.evr, R, h2⟩
    | none =>
      have hl : xs.length ≤ i := List.getElem?_eq_none_iff.mp (r.none_of ho.symm)
      cases b with
      | true => exact ⟨xs, hq, hl⟩
      | false => exact ⟨xs, hq, hl⟩
theorem pair_new {m n : MV} {x y : V} {T : Addr} (R : Rel Γ X mcm ρ σ W S H) (hT : H T = none) (rx : RV Γ W H m x) (ry : RV Γ W H n y) :
    Ev Γ W H W (upd H T (.tup [x, y])) ∧ Rel Γ X mcm ρ σ W S (upd H T (.tup [x, y])) ∧ RV Γ W (upd H T (.tup [x, y])) (mkTup [m, n]) (.ref T) :=
  R.newT hT (ms := [m, n]) (xs := [x, y]) ⟨x, [y], rfl, rx, y, [], rfl, ry, rfl⟩
theorem planR_enum {s : Src} {a : Addr} {b : Bool} (h : SrcA Γ W H s a b) : PlanR Γ (.en s) (if b then Ite Γ.K a else IteT Γ.K a) W H := by
  refine ⟨trivial, fun X mcm ρ σ W' S' H' i e R => ?_⟩
  show match (srcAt s i S').map fun o => o.map fun v => mkTup [.int (i : Nat), v] with
    | some (some m) => _
    | some none => _
    | none => True
  cases hs : srcAt s i S' with
  | none => trivial
  | some o =>
    obtain ⟨ms, xs, ho, hq, r⟩ := (h.ev e).at R hs
    cases o with
    | some m =>
      obtain ⟨v, h1, h2⟩ := r.get ho.symm
      cases b with
      | true =>
        refine ⟨⟨xs, v, hq, h1⟩, fun x H'' hx => ?_⟩
        obtain ⟨T, y, e0, hT, e1, hx⟩ := hx
        subst e0 e1
        have := hx xs hq
        rw [h1] at this
        cases this
        exact pair_new R hT (m := .int (i : Nat)) rfl h2
      | false =>
        refine ⟨⟨xs, v, hq, h1⟩, fun x H'' hx => ?_⟩
        obtain ⟨T, y, e0, hT, e1, hx⟩ := hx
        subst e0 e1
        have := hx xs hq
        rw [h1] at this
        cases this
        exact pair_new R hT (m := .int (i : Nat)) rfl h2
    | none =>
      have hl : xs.length ≤ i := List.getElem?_eq_none_iff.mp (r.none_of ho.symm)
      cases b with
      | true => exact ⟨xs, hq, hl⟩
      | false => exact ⟨xs, hq, hl⟩
theorem planR_zip {s t : Src} {a c : Addr} {b : Bool} (h : SrcA Γ W H s a b) (h' : SrcA Γ W H t c b) : PlanR Γ (.zp s t) (if b then Itz Γ.K a c else RZ.ItzT Γ.K a c) W H := by
  refine ⟨trivial, fun X mcm ρ σ W' S' H' i e R => ?_⟩
  show match (match srcAt s i S', srcAt t i S' with
    | some (some x), some (some y) => some (some (mkTup [x, y]))
    | some none, some _ => some none
    | some (some _), some none => some none
    | _, _ => none) with
    | some (some m) => _
    | some none => _
    | none => True
  cases hs : srcAt s i S' with
  | none => trivial
  | some o =>
    cases ht : srcAt t i S' with
    | none => cases o <;> trivial
    | some o' =>
      obtain ⟨ms, xs, ho, hq, r⟩ := (h.ev e).at R hs
      obtain ⟨ns, ys, ho', hq', r'⟩ := (h'.ev e).at R ht
      cases o with
      | none =>
        have hl : xs.length ≤ i := List.getElem?_eq_none_iff.mp (r.none_of ho.symm)
        cases b with
        | true => exact ⟨xs, ys, hq, hq', .inl hl⟩
        | false => exact ⟨xs, ys, hq, hq', .inl hl⟩
      | some m =>
        obtain ⟨v, h1, h2⟩ := r.get ho.symm
        cases o' with
        | none =>
          have hl : ys.length ≤ i := List.getElem?_eq_none_iff.mp (r'.none_of ho'.symm)
          cases b with
          | true => exact ⟨xs, ys, hq, hq', .inr hl⟩
          | false => exact ⟨xs, ys, hq, hq', .inr hl⟩
        | some n =>
          obtain ⟨u, g1, g2⟩ := r'.get ho'.symm
          cases b with
          | true =>
            refine ⟨⟨xs, ys, v, u, hq, hq', h1, g1⟩, fun x H'' hx => ?_⟩
            obtain ⟨T, y, z, e0, hT, e1, hx, hy⟩ := hx
            subst e0 e1
            have q1 := hx xs hq
            have q2 := hy ys hq'
            rw [h1] at q1
            rw [g1] at q2
            cases q1
            cases q2
            exact pair_new R hT h2 g2
          | false =>
            refine ⟨⟨xs, ys, v, u, hq, hq', h1, g1⟩, fun x H'' hx => ?_⟩
            obtain ⟨T, y, z, e0, hT, e1, hx, hy⟩ := hx
            subst e0 e1
            have q1 := hx xs hq
            have q2 := hy ys hq'
            rw [h1] at q1
            rw [g1] at q2
            cases q1
            cases q2
            exact pair_new R hT h2 g2
theorem planR_fx {vs : List MV} {J : It} (hgo : ∀ i H, i < vs.length → J.go i H) (hst : ∀ i H, vs.length ≤ i → J.stop i H) (hy : ∀ (i : Nat) (m : MV) (W : Wd) H x H', vs[i]? = some m → J.yld i H x H' → H' = H ∧ RV Γ W H m x) : PlanR Γ (.fx vs) J W H := by
  refine ⟨trivial, fun X mcm ρ σ W' S' H' i e R => ?_⟩
  show match some vs[i]? with
    | some (some m) => _
    | some none => _
    | none => True
  cases h : vs[i]? with
  | some m =>
    refine ⟨hgo i H' (List.getElem?_eq_some_iff.mp h).1, fun x H'' hx => ?_⟩
    obtain ⟨e1, rx⟩ := hy i m W' H' x H'' h hx
    subst e1
    exact ⟨R.evr, R, rx⟩
  | none => exact hst i H' (List.getElem?_eq_none_iff.mp h)
theorem planR_str {z : Str} : PlanR Γ (.fx (z.cps.toList.map fun c => .str ⟨#[c]⟩)) (Its z) W H := by
  refine planR_fx (fun i H hi => ?_) (fun i H hi => ?_) fun i m W H x H' hm hx => ?_
  · have : i < z.cps.size := by simpa using hi
    exact this
  · have : z.cps.size ≤ i := by simpa using hi
    exact this
  · obtain ⟨e1, c, hc, ex⟩ := hx
    refine ⟨e1, ?_⟩
    rw [List.getElem?_map, Array.getElem?_toList, hc] at hm
    cases hm
    exact ex
theorem planR_range {lo : Int} {n : Nat} {vs : List MV} (hl : vs.length = n) (hv : ∀ (i : Nat), i < n → vs[i]? = some (.int (lo + i))) : PlanR Γ (.fx vs) (Itr lo n) W H := by
  refine planR_fx (fun i H hi => by rw [hl] at hi; exact hi) (fun i H hi => by rw [hl] at hi; exact hi) fun i m W H x H' hm hx => ?_
  obtain ⟨e1, ex⟩ := hx
  refine ⟨e1, ?_⟩
  have hi : i < n := by rw [← hl]; exact (List.getElem?_eq_some_iff.mp hm).1
  rw [hv i hi] at hm
  cases hm
  exact ex
theorem planR_rangeC {lo c : Int} {n : Nat} {vs : List MV} (hl : vs.length = n) (hv : ∀ (i : Nat), i < n → vs[i]? = some (.int (lo + i * c))) : PlanR Γ (.fx vs) (Itc lo c n) W H := by
  refine planR_fx (fun i H hi => by rw [hl] at hi; exact hi) (fun i H hi => by rw [hl] at hi; exact hi) fun i m W H x H' hm hx => ?_
  obtain ⟨e1, ex⟩ := hx
  refine ⟨e1, ?_⟩
  have hi : i < n := by rw [← hl]; exact (List.getElem?_eq_some_iff.mp hm).1
  rw [hv i hi] at hm
  cases hm
  exact ex
theorem tI_of {te : TE} {w : TI} {m : Env → Store → Res MV} {f : MV → Store → Option Plan} (hw : ∀ σ H R, tE Γ X mcm W0 m σ H (fun x H1 => ∃ mv ρ W1 S1, RV Γ W1 H1 mv x ∧ Rel Γ X mcm ρ σ W1 S1 H1 ∧ ∃ p, f mv S1 = some p ∧ ∀ J, PlanR Γ p J W1 H1 → R J H1) → w σ H R) :
    ∀ σ H R, tI Γ X mcm W0 (fun ρ S => (m ρ S).bind fun x S => Res.of (f x S) S) σ H R → w σ H R := by
  intro σ H R h
  obtain ⟨W, ρ, S, RR, w0⟩ := h
  refine hw σ H R ⟨W, ρ, S, RR, w0.bind.mono (fun mv S1 W1 H1 _ e1 R1 q v rv => ?_) fun _ _ _ z => z⟩
  cases hf : f mv S1 with
  | none => rw [hf] at q; exact q.elim
  | some p =>
    rw [hf] at q
    exact ⟨mv, ρ, W1, S1, rv, R1, p, hf, fun J hJ => q W1 H1 R1.evr R1 R1 J hJ⟩
theorem seq_go {mv : MV} {x : V} {pl : Plan} {R : It → Hp → Prop} (hK : X.K = Γ.K) (RR : Rel Γ X mcm ρ σ W S H) (rx : RV Γ W H mv x) (hf : seqPlan mv S = some pl) (k : ∀ J, PlanR Γ pl J W H → R J H) :
    (∃ a, x = .ref a ∧ (∃ xs, SqL X.K H a xs) ∧ R (Itl X.K a) H) ∨ (∃ a, x = .ref a ∧ (∃ xs, SqT X.K H a xs) ∧ R (Itt X.K a) H) ∨ ∃ z, x = .str z ∧ R (Its z) H := by
  rw [hK]
  unfold seqPlan at hf
  split at hf
  · cases hf
    exact .inr (.inr ⟨_, rx, k _ planR_str⟩)
  · cases hs : srcOf mv S with
    | none => rw [hs] at hf; cases hf
    | some s =>
      rw [hs] at hf
      cases hf
      obtain ⟨a, b, rfl, ha, ⟨xs, hq⟩, _⟩ := srcOf_ok RR rx hs
      have q := k _ (planR_seq ha)
      cases b with
      | true => exact .inl ⟨a, rfl, ⟨xs, hq⟩, q⟩
      | false => exact .inr (.inl ⟨a, rfl, ⟨xs, hq⟩, q⟩)
theorem sni_seq (hK : X.K = Γ.K) (he : PE X e (tE Γ X mcm W0 ms)) : PI X tg e (tI Γ X mcm W0 fun ρ S => (ms ρ S).bind fun x S => Res.of (seqPlan x S) S) := by
  refine PI.imp (pi_seqM he) (tI_of (te := tE Γ X mcm W0 ms) fun σ H R h => ?_)
  refine tE.mono h ?_
  rintro x H1 ⟨mv, ρ, W1, S1, rx, R1, pl, hf, k⟩
  exact seq_go hK R1 rx hf k
theorem sni_enum {tpos : Pos} {elts : List Expr} {kk : Nat} (hK : X.K = Γ.K) (hg : Gl X "enumerate") (hm : X.mg "enumerate" = none) (he : PE X e (tE Γ X mcm W0 ms)) (hs : starEach [e] X.env = [(false, eval e X.env)]) :
    PI X (.Tuple elts kk tpos) (.Call (.Name "enumerate" p) [e] [] pos) (tI Γ X mcm W0 fun ρ S => (ms ρ S).bind fun x S => Res.of ((srcOf x S).map .en) S) := by
  refine PI.imp (pi_enumM hg hm (pa_cons he pa_nil hs) hs) (tI_of (te := tE Γ X mcm W0 ms) fun σ H R h => ?_)
  refine tE.mono h ?_
  rintro x H1 ⟨mv, ρ, W1, S1, rx, R1, pl, hf, k⟩
  cases hsr : srcOf mv S1 with
  | none => rw [hsr] at hf; cases hf
  | some s =>
    rw [hsr] at hf
    cases hf
    obtain ⟨a, b, rfl, ha, ⟨xs, hq⟩, _⟩ := srcOf_ok R1 rx hsr
    have q := k _ (planR_enum ha)
    rw [hK]
    refine ⟨a, xs, rfl, ?_⟩
    cases b with
    | true => exact .inl ⟨hq, q⟩
    | false => exact .inr ⟨hq, q⟩
theorem sni_zip {tpos : Pos} {elts : List Expr} {kk : Nat} (hK : X.K = Γ.K) (hg : Gl X "zip") (hm : X.mg "zip" = none) (he : PE X e (tE Γ X mcm W0 ms)) (he2 : PE X e2 (tE Γ X mcm W0 ms2)) (h1 : PySem.W.isStarred e = false) (h2 : PySem.W.isStarred e2 = false)
    (hpl : (backTo pos (starEach [e2] X.env)).any (·.1) = false) :
    PI X (.Tuple elts kk tpos) (.Call (.Name "zip" p) [e, e2] [] pos) (tI Γ X mcm W0 fun ρ S => (ms ρ S).bind fun x S => (ms2 ρ S).bind fun y S => match srcOf x S, srcOf y S with
      | some a, some b => if isTupM x == isTupM y then .ok (.zp a b) S else .bad
      | _, _ => .bad) := by
  refine PI.imp (RZ.pi_zipA hg hm (pa_cons he (pa_cons he2 pa_nil (star_ok h2)) (star_ok h1)) (star_ok h1) hpl) fun σ H R h => ?_
  obtain ⟨W, ρ, S, RR, w⟩ := h
  refine ⟨W, ρ, S, RR, w.bind.mono (fun mx S1 W1 H1 _ e1 R1 q x rx => ?_) fun _ _ _ z => z⟩
  refine ⟨W1, ρ, S1, R1, Want.mono q.bind (fun my S2 W2 H2 _ e2 R2 q2 y ry => ?_) fun _ _ _ z => z⟩
  cases hs : srcOf mx S2 with
  | none => rw [hs] at q2; exact q2.elim
  | some s =>
    cases ht : srcOf my S2 with
    | none => rw [hs, ht] at q2; exact q2.elim
    | some t =>
      rw [hs, ht] at q2
      dsimp only at q2
      split at q2
      · rename_i hb
        obtain ⟨a, b, rfl, ha, ⟨xs, hq⟩, eb⟩ := srcOf_ok R2 (e2.rv _ _ rx) hs
        obtain ⟨c, b', rfl, hc, ⟨ys, hq'⟩, eb'⟩ := srcOf_ok R2 ry ht
        have : b = b' := by rw [eb, eb', eq_of_beq hb]
        subst this
        have k := q2 W2 H2 R2.evr R2 R2 _ (planR_zip ha hc)
        rw [hK]
        refine ⟨a, c, xs, ys, rfl, ?_⟩
        cases b with
        | true => exact .inl ⟨hq, hq', k⟩
        | false => exact .inr ⟨hq, hq', k⟩
      · exact q2.elim
theorem inR_ok {i : Int} (h : inR i = true) : -(2 ^ 62) ≤ i ∧ i < 2 ^ 62 := by
  unfold inR at h
  simp only [Bool.and_eq_true, decide_eq_true_eq] at h
  omega
theorem tI_ofA {w : TI} {m : Env → Store → Res (List MV)} {f : List MV → Option Plan} (hw : ∀ σ H R, tA Γ X mcm W0 m σ H (fun x H1 => ∃ mv ρ W1 S1, RVs Γ W1 H1 mv x ∧ Rel Γ X mcm ρ σ W1 S1 H1 ∧ ∃ p, f mv = some p ∧ ∀ J, PlanR Γ p J W1 H1 → R J H1) → w σ H R) :
    ∀ σ H R, tI Γ X mcm W0 (fun ρ S => (m ρ S).bind fun x S => Res.of (f x) S) σ H R → w σ H R := by
  intro σ H R h
  obtain ⟨W, ρ, S, RR, w0⟩ := h
  refine hw σ H R ⟨W, ρ, S, RR, w0.bind.mono (fun mv S1 W1 H1 _ e1 R1 q v rv => ?_) fun _ _ _ z => z⟩
  cases hf : f mv with
  | none => rw [hf] at q; exact q.elim
  | some p =>
    rw [hf] at q
    exact ⟨mv, ρ, W1, S1, rv, R1, p, hf, fun J hJ => q W1 H1 R1.evr R1 R1 J hJ⟩
theorem range_get {n : Nat} {f : Nat → MV} : ((List.range n).map f).length = n ∧ ∀ i, i < n → ((List.range n).map f)[i]? = some (f i) := by
  refine ⟨by simp, fun i hi => ?_⟩
  rw [List.getElem?_map, List.getElem?_range hi]; rfl
theorem vals_three {m n o : MV} {xs : List V} (r : RVs Γ W H [m, n, o] xs) : ∃ x y z, xs = [x, y, z] ∧ RV Γ W H m x ∧ RV Γ W H n y ∧ RV Γ W H o z := by
  obtain ⟨v, vs, q, r1, r2⟩ := r
  obtain ⟨y, z, h, r3, r4⟩ := vals_two r2
  rw [h] at q
  exact ⟨v, y, z, q, r1, r3, r4⟩
theorem sni_range1 {a : Expr} {ma : Env → Store → Res (List MV)} (hg : Gl X "range") (hm : X.mg "range" = none) (ha : PA X [a] (tA Γ X mcm W0 ma)) (hs : starEach [a] X.env = [(false, eval a X.env)]) (hlen : ∀ ρ S vs S', ma ρ S = .ok vs S' → vs.length = 1) :
    PI X tg (.Call (.Name "range" p) [a] [] pos) (tI Γ X mcm W0 fun ρ S => (ma ρ S).bind fun vs S => Res.of ((rangeM vs).map .fx) S) := by
  refine PI.imp (pi_range1 hg hm ha hs) fun σ H R h => ?_
  obtain ⟨W, ρ, S, RR, w0⟩ := h
  refine ⟨W, ρ, S, RR, w0.bind.mono (fun mv S1 W1 H1 hr e1 R1 q v rv => ?_) fun _ _ _ z => z⟩
  have hl := hlen ρ S mv S1 hr
  match mv, hl, rv, q with
  | [m], _, rv, q =>
    obtain ⟨x, rfl, rx⟩ := vals_one rv
    cases m with
    | int j =>
      dsimp only [rangeM] at q
      split at q
      · rename_i hj
        obtain ⟨h1, h2⟩ := inR_ok hj
        obtain ⟨l1, l2⟩ := range_get (n := j.toNat) (f := fun (i : Nat) => MV.int i)
        refine ⟨j, by rw [show x = _ from rx], h1, h2, q W1 H1 R1.evr R1 R1 _ (planR_range l1 fun i hi => ?_)⟩
        rw [l2 i hi, Int.zero_add]
      · exact q.elim
    | _ => exact q.elim
theorem sni_range2 {a b : Expr} {ma : Env → Store → Res (List MV)} (hg : Gl X "range") (hm : X.mg "range" = none) (ha : PA X [a, b] (tA Γ X mcm W0 ma)) (hs : starEach [a, b] X.env = [(false, eval a X.env), (false, eval b X.env)]) (hs2 : starEach [b] X.env = [(false, eval b X.env)])
    (hlen : ∀ ρ S vs S', ma ρ S = .ok vs S' → vs.length = 2) :
    PI X tg (.Call (.Name "range" p) [a, b] [] pos) (tI Γ X mcm W0 fun ρ S => (ma ρ S).bind fun vs S => Res.of ((rangeM vs).map .fx) S) := by
  refine PI.imp (pi_range2 hg hm ha hs hs2) fun σ H R h => ?_
  obtain ⟨W, ρ, S, RR, w0⟩ := h
  refine ⟨W, ρ, S, RR, w0.bind.mono (fun mv S1 W1 H1 hr e1 R1 q v rv => ?_) fun _ _ _ z => z⟩
  have hl := hlen ρ S mv S1 hr
  match mv, hl, rv, q with
  | [m, n], _, rv, q =>
    obtain ⟨x, y, rfl, rx, ry⟩ := vals_two rv
    cases m with
    | int i =>
      cases n with
      | int j =>
        dsimp only [rangeM] at q
        split at q
        · rename_i hj
          obtain ⟨hi, hj⟩ := Bool.and_eq_true_iff.mp hj
          obtain ⟨h1, h2⟩ := inR_ok hi
          obtain ⟨h3, h4⟩ := inR_ok hj
          obtain ⟨l1, l2⟩ := range_get (n := (j - i).toNat) (f := fun (k : Nat) => MV.int (i + k))
          exact ⟨i, j, by rw [show x = _ from rx, show y = _ from ry], ⟨h1, h2, h3, h4⟩, q W1 H1 R1.evr R1 R1 _ (planR_range l1 fun i hi => l2 i hi)⟩
        · exact q.elim
      | _ => exact q.elim
    | _ => exact q.elim
end
end Mini
namespace Mini
open PySem PySem.Spec PyProof.Rows L2
abbrev TAct := L2.St → Hp → (Hp → Prop) → Prop
/-- what a turn does behind its tests; of the slots vs' go -/
structure PAct (X : Cx) (a : Sem Fin → Sem Fin) (t : TAct) (vs' : List Nat) : Prop where
  run : ∀ (pins : List (Addr × Obj)) (s : Shared) (σ : L2.St) (H : Hp) (Q : Hp → Prop) (k : Sem Fin) (QF : Fin → Shared → Prop) (EF : Value → Shared → Prop), L2.Inv X pins σ H s → t σ H Q →
    (∀ s' H', L2.Inv X pins (L2.wipe σ vs') H' s' → Q H' → wpAny (model X.prog X.w) X.A k QF EF s') → wpAny (model X.prog X.w) X.A (a k) QF EF s
def turnSh (tg : Expr) (ip : Pos) (ifs : List Expr) (env : PySem.Env) (it : Value) (inner : Sem Fin → Sem Fin) (ag : Sem Fin) : Sem Fin := do
  standAt ip
  match ← pyNext it with
  | none => pure (.done .next)
  | some v =>
    letOwnedTupleGo tg it v
    assign tg env v
    let mut ok := true
    for c in ifs do
      if ok then ok ← isTrue c env (eval c env)
    if ok then inner ag else ag
/-- what is asked of a comprehension's expression at a clause -/
structure CompE (prog : Program) (w : World) (A : Around) (E : Expr) (d : Nat) (acc : Value) (env : PySem.Env) (tg iter : Expr) (ifs : List Expr) (inner : Sem Fin → Sem Fin) : Prop where
  ql : ∀ it, (Code.compLoop E d it acc env).quiet = true
  ul : ∀ it, A.under (.compLoop E d it acc env) = A
  dl : ∀ it, (model prog w).den (.compLoop E d it acc env) = (compTurn E d it acc env).onRaise (fun x => do noteFrame x env; theTreesLotGoes x)
  us : ∀ it, A.under (.compStart E d it acc env) = A
  ds : ∀ it, (model prog w).den (.compStart E d it acc env) = (compStart E d it acc env).onRaise (fun x => do noteFrame x env; standAt theWindowsPlace)
  cl : (clausesOf E)[d]? = some ⟨tg, iter, ifs, 0⟩
  eq : ∀ it, compTurn E d it acc env = turnSh tg iter.pos ifs env it inner (again (.compLoop E d it acc env))
section
variable {prog : Program} {w : World} {A : Around} {acc : Value} {env : PySem.Env} {scope : Scope} {pos : Pos} {D : Addr}
/-- an item's append -/
def appC (elt : Expr) (acc : Value) (env : PySem.Env) (k : Sem Fin) : Sem Fin := (do let _ ← call (.builtin "list.append") [acc, ← eval elt env]) >>= fun _ => k
theorem compE_list1 (elt tg iter : Expr) (ifs : List Expr) : CompE prog w A (.ListComp elt [⟨tg, iter, ifs, 0⟩] scope pos) 0 acc env tg iter ifs (appC elt acc env) :=
  ⟨fun _ => rfl, fun _ => rfl, fun _ => rfl, fun _ => rfl, fun _ => rfl, rfl, fun _ => rfl⟩
/-- the next clause -/
def nextC (E : Expr) (d : Nat) (i1 : Expr) (acc : Value) (env : PySem.Env) (k : Sem Fin) : Sem Fin := do
  let x ← eval i1 env
  standAt i1.pos
  let x ← foldedSetIterable i1 env x
  let _ ← runOwn (.compStart E d (← holding [x] (pyIter x)) acc env) env
  k
theorem compE_list2a (elt tg iter tg1 iter1 : Expr) (ifs ifs1 : List Expr) : CompE prog w A (.ListComp elt [⟨tg, iter, ifs, 0⟩, ⟨tg1, iter1, ifs1, 0⟩] scope pos) 0 acc env tg iter ifs (nextC (.ListComp elt [⟨tg, iter, ifs, 0⟩, ⟨tg1, iter1, ifs1, 0⟩] scope pos) 1 iter1 acc env) :=
  ⟨fun _ => rfl, fun _ => rfl, fun _ => rfl, fun _ => rfl, fun _ => rfl, rfl, fun _ => rfl⟩
theorem compE_list2b (elt tg iter tg1 iter1 : Expr) (ifs ifs1 : List Expr) : CompE prog w A (.ListComp elt [⟨tg, iter, ifs, 0⟩, ⟨tg1, iter1, ifs1, 0⟩] scope pos) 1 acc env tg1 iter1 ifs1 (appC elt acc env) :=
  ⟨fun _ => rfl, fun _ => rfl, fun _ => rfl, fun _ => rfl, fun _ => rfl, rfl, fun _ => rfl⟩
/-- a dict's entry -/
def putC (kx vx : Expr) (D : Addr) (env : PySem.Env) (k : Sem Fin) : Sem Fin := (do
  let kv ← eval kx env
  let vv ← holding [kv] (eval vx env)
  standAt { kx.pos with endLine := vx.pos.endLine, endCol := vx.pos.endCol }
  holding [kv, vv] (dictSet D kv vv)) >>= fun _ => k
theorem compE_dict1 (kx vx tg iter : Expr) (ifs : List Expr) : CompE prog w A (.DictComp kx vx [⟨tg, iter, ifs, 0⟩] scope pos) 0 (.ref D) env tg iter ifs (putC kx vx D env) :=
  ⟨fun _ => rfl, fun _ => rfl, fun _ => rfl, fun _ => rfl, fun _ => rfl, rfl, fun _ => rfl⟩
theorem compE_dict2a (kx vx tg iter tg1 iter1 : Expr) (ifs ifs1 : List Expr) : CompE prog w A (.DictComp kx vx [⟨tg, iter, ifs, 0⟩, ⟨tg1, iter1, ifs1, 0⟩] scope pos) 0 (.ref D) env tg iter ifs (nextC (.DictComp kx vx [⟨tg, iter, ifs, 0⟩, ⟨tg1, iter1, ifs1, 0⟩] scope pos) 1 iter1 (.ref D) env) :=
  ⟨fun _ => rfl, fun _ => rfl, fun _ => rfl, fun _ => rfl, fun _ => rfl, rfl, fun _ => rfl⟩
theorem compE_dict2b (kx vx tg iter tg1 iter1 : Expr) (ifs ifs1 : List Expr) : CompE prog w A (.DictComp kx vx [⟨tg, iter, ifs, 0⟩, ⟨tg1, iter1, ifs1, 0⟩] scope pos) 1 (.ref D) env tg1 iter1 ifs1 (putC kx vx D env) :=
  ⟨fun _ => rfl, fun _ => rfl, fun _ => rfl, fun _ => rfl, fun _ => rfl, rfl, fun _ => rfl⟩
end
theorem thnX {α : Type} {t : Sem α} {Q Q' : α → Shared → Prop} {M : Model} {A : Around} {E E' : Value → Shared → Prop} {s : Shared} (hx : E = fun _ _ => False) (h : wpAny M A t Q E s) (hQ : ∀ a s, Q a s → Q' a s) : wpAny M A t Q' E' s := by
  subst hx
  exact wpAny_mono h hQ fun _ _ z => False.elim z
/-- the turns of a clause: σ0 the slots at each turn's start -/
def tTurns (J : It) (g : TG) (tt : TT) (ta : TAct) (vs : List Nat) (σ0 : L2.St) (H : Hp) (Q : Hp → Prop) : Prop :=
  ∃ Wf : Nat → Nat → Hp → Prop, (∃ m, Wf 0 m H) ∧ ∀ i m H, Wf i m H → (J.stop i H ∧ Q H) ∨ (J.go i H ∧ ∃ Nx : Hp → Prop, (∀ H', Nx H' → ∃ m', m' < m ∧ Wf (i + 1) m' H') ∧
    ∀ x H', J.yld i H x H' → g x σ0 H' fun σ2 H2 => L2.wipe σ2 vs = σ0 ∧ tt σ2 H2 fun b H3 => if b = true then ta σ2 H3 Nx else Nx H3)
section
variable {X : Cx} {E : Expr} {d : Nat} {acc : Value} {tg iter : Expr} {ifs : List Expr} {inner : Sem Fin → Sem Fin} {g : TG} {tt : TT} {ta : TAct} {vs vs' : List Nat} {pins : List (Addr × Obj)} {σ0 : L2.St} {H : Hp} {s : Shared} {J : It} {fp : List Addr} {it : Addr} {tn : Nat → Heap → Prop} {Q : Hp → Prop}
theorem loopG (C : CompE X.prog X.w X.A E d acc X.env tg iter ifs inner) (hx : X.xe = fun _ _ => False) (hc : X.calm = true) (pg : PG X tg g) (pt : PTs X ifs tt) (pa : PAct X inner ta vs') (hv : ∀ i ∈ vs', i ∈ vs)
    (I : L2.Inv X pins σ0 H s) (T : Turn X.prog X.w X.K tg J fp it tn) (st : tn 0 s.heap) (hf : ∀ b ∈ fp, FpOk X pins H b) (h : tTurns J g tt ta vs σ0 H Q) :
    codeAny (model X.prog X.w) X.A (.compLoop E d (.ref it) acc X.env) (fun r s' => match r with
      | .ok _ => ∃ H', L2.Inv X pins σ0 H' s' ∧ Q H' ∧ ∀ b ∈ fp, H' b = none
      | .error _ => False) s := by
  obtain ⟨Wf, ⟨m0, w0⟩, turn⟩ := h
  have stat : ∀ {H' : Hp}, (∀ b ∈ fp, H' b = none) → ∀ b ∈ fp, FpOk X pins H' b := fun hn b hb => ⟨hn b hb, (hf b hb).2⟩
  refine codeAny_loop (C.ql _) (fun n s' => ∃ i H', L2.Inv X pins σ0 H' s' ∧ tn i s'.heap ∧ (∀ b ∈ fp, H' b = none) ∧ Wf i n H') ?_ m0 ⟨0, H, I, st, fun b hb => (hf b hb).1, w0⟩
  rintro n s1 ⟨i, H1, I1, st1, n1, w1⟩
  rw [C.ul, C.dl, C.eq]
  refine wpAny_noted ?_
  refine wpAny_bind (wpAny_standAt ?_)
  rcases turn i n H1 w1 with ⟨stop, qq⟩ | ⟨go, Nx, hNx, step⟩
  · refine wpAny_bind (thnX rfl (T.done X rfl rfl rfl hc i pins s1 σ0 H1 (fun _ _ => False) I1 (stat n1) st1 stop) fun r s2 ⟨hr, I2⟩ => ?_)
    subst hr
    exact wpAny_pure ⟨H1, I2, qq, n1⟩
  · refine wpAny_bind (thnX rfl (T.item X rfl rfl rfl hc i pins s1 σ0 H1 (fun _ _ => False) I1 (stat n1) st1 go) fun r s2 ⟨u, hr, h2⟩ => ?_)
    subst hr
    refine wpAny_bind (thnX rfl h2 fun _ s3 ⟨x, H3, I3, r3, y3, st3, n3⟩ => ?_)
    have I3' := I3.pinned (stat n3) (T.obj _ _ st3)
    refine wpAny_bind (thnX hx (pg.run _ s3 σ0 H3 x u _ I3' r3 (step x H3 y3)) fun _ s4 ⟨σ4, H4, I4, hw4, q4⟩ => ?_)
    refine wpAny_bind (thnX hx (pt.run _ s4 σ4 H4 _ I4 q4) fun b s5 ⟨H5, I5, q5⟩ => ?_)
    have fin : ∀ {σ' : L2.St} {s' : Shared} {H' : Hp}, L2.Inv X (pins ++ pinsAt fp s3.heap) σ' H' s' → σ0.length = σ'.length → (∀ (j : Nat) v, σ0[j]? = some (some v) → σ'[j]? = some (some v)) → Nx H' → wpAny (model X.prog X.w) X.A (again (.compLoop E d (.ref it) acc X.env)) (fun fin s' => match fin with
        | .done _ => ∃ H', L2.Inv X pins σ0 H' s' ∧ Q H' ∧ ∀ b ∈ fp, H' b = none
        | .again c' => c' = .compLoop E d (.ref it) acc X.env ∧ ∃ m, m < n ∧ ∃ i H', L2.Inv X pins σ0 H' s' ∧ tn i s'.heap ∧ (∀ b ∈ fp, H' b = none) ∧ Wf i m H') (notedBy (model X.prog X.w) X.A X.env fun e s' => False) s' := fun {σ' s' H'} I' hl hk nx => by
      obtain ⟨m', hm, w'⟩ := hNx H' nx
      have pin' : ∀ b ∈ fp, ∀ o, s3.heap.get? b = some o → s'.heap.get? b = some o ∧ H' b = none := fun b hb o e =>
        let z := I'.pin (b, o) (List.mem_append_right _ (List.mem_append_right _ (mem_pinsAt hb e)))
        ⟨z.1, z.2.1⟩
      refine wpAny_pure ⟨rfl, m', hm, i + 1, H', (I'.unpinned).weak hl hk, T.keep _ _ _ st3 fun b hb o e => (pin' b hb o e).1, fun b hb => ?_, w'⟩
      obtain ⟨o, e, _⟩ := T.obj _ _ st3 b hb
      exact (pin' b hb o e).2
    have hl4 : σ0.length = σ4.length := by rw [← hw4, wipe_length]
    cases b with
    | false =>
      simp only [Bool.false_eq_true, if_false] at q5 ⊢
      exact fin I5 hl4 (fun j v e => by rw [← hw4] at e; exact (wipe_some e).1) q5
    | true =>
      simp only [if_true] at q5 ⊢
      refine pa.run _ s5 σ4 H5 _ _ _ _ I5 q5 fun s6 H6 I6 q6 => fin I6 (by rw [wipe_length]; exact hl4) (fun j v e => ?_) q6
      rw [← hw4] at e
      obtain ⟨e1, e2⟩ := wipe_some e
      rw [wipe_out fun z => e2 (hv j z)]
      exact e1
/-- the clause's start -/
theorem startG {R : Result → Shared → Prop} {itv : Value} (C : CompE X.prog X.w X.A E d acc X.env tg iter ifs inner) (h0 : codeAny (model X.prog X.w) X.A (.compLoop E d itv acc X.env) R s)
    (h : ∀ E', wpAny (model X.prog X.w) X.A (pyIter itv) (fun it' s' => codeAny (model X.prog X.w) X.A (.compLoop E d it' acc X.env) R s') E' s) :
    codeAny (model X.prog X.w) X.A (.compStart E d itv acc X.env) R s := by
  refine codeAny_of_tree ?_
  rw [C.us, C.ds]
  refine wpAny_notedAt ?_
  unfold compStart
  rw [C.cl]
  show wpAny _ _ (ask >>= _) _ _ s
  refine wpAny_bind (wpAny_askSetting (wpAny_ite ?_))
  split
  · first
      | exact wpAny_bind (wpAny_pure (wpAny_pure (And.intro (C.ql _) h0)))
      | exact wpAny_pure (And.intro (C.ql _) h0)
  · first
      | exact wpAny_bind (wpAny_rule (wpAny_bind (wpAny_standAt (wpAny_bind (wpAny_mono (h _) (fun it' s' h' => wpAny_pure (And.intro (C.ql _) h')) fun _ _ x => x)))))
      | (refine wpAny_bind (wpAny_rule ?_); show wpAny _ _ (standAt iter.pos >>= _) _ _ s; exact wpAny_bind (wpAny_standAt (wpAny_bind (wpAny_mono (h _) (fun it' s' h' => wpAny_pure (And.intro (C.ql _) h')) fun _ _ x => x))))
end
end Mini
namespace Mini
open PySem PySem.Spec PyProof.Rows L2
section
variable {X : Cx} {E : Expr} {d : Nat} {acc : Value} {tg iter : Expr} {ifs : List Expr} {inner : Sem Fin → Sem Fin} {g : TG} {tt : TT} {ta : TAct} {vs vs' : List Nat} {pins : List (Addr × Obj)} {σ : L2.St} {H : Hp} {s : Shared} {D : Addr}
/-- the item is appended -/
theorem pact_app {elt : Expr} {te : TE} (hx : X.xe = fun _ _ => False) (he : PE X elt te) : PAct X (appC elt (.ref D) X.env) (fun σ H Q => te σ H fun y H4 => ∃ acc, H4 D = some (.lst acc) ∧ acc.length < sizeLine ∧ Q (upd H4 D (.lst (acc ++ [y])))) [] := by
  refine ⟨fun pins s σ H Q k QF EF I h hk => ?_⟩
  unfold appC
  refine wpAny_bind (wpAny_bind (thnX hx (he.run pins s σ H _ I h) fun z s1 ⟨y, H1, I1, r1, acc, hD, hz, q⟩ => ?_))
  exact wpAny_bind (app_ok I1 hD hz r1 fun s2 I2 => wpAny_pure (hk _ _ I2 q))
/-- a dict's entry, whatever its kind of keys -/
theorem dset_ok {E' : Value → Shared → Prop} {H1 H2 : Hp} {y v : V} {u r : Value} {Q : Unit → Shared → Prop} (hu : X.A.units + 1 < cLine) (I : L2.Inv X pins σ H s) (rt : Rt H D H1) (g : DPut H1 D y v H2) (ry : RelV y u) (rv : RelV v r) (h : ∀ s', L2.Inv X pins σ H2 s' → Q () s') :
    wpAny (model X.prog X.w) X.A (dictSet D u r) Q E' s := by
  have I1 := inv_rt I rt
  rcases g with ⟨kvs, k, e, ey, l, eH⟩ | ⟨kvs, k, b, e, ey, eb, l, eH⟩
  · subst ey eH
    exact d_dictSet I1 e l ry rv h
  · subst ey eH
    cases (show u = Value.ref b from ry)
    obtain ⟨z, hd, xs, rel, dd⟩ := dt_of I1.hok e
    have hz : xs.length ≤ sizeLine := by rw [← Paired.length rel]; exact z
    have hl : (putK kvs k v).length ≤ sizeLine := by have := length_putK kvs k v; omega
    refine wpAny_dictSet_heap (hsz := hz) (show X.A.units < cLine by omega) (key_of I1.hok eb) dd fun h' dd' hs => h _ ?_
    obtain ⟨q, es, ep, hq, h2, h3, h4, _, h5⟩ := dd'
    refine d_write I1 (by rw [e]; exact True.intro) hs ⟨q, hq⟩ ⟨hl, hd, _, (rel.put k eb rv).keeps fun c ys ec => ?_, q, es, ep, hq, h2, h3, h4, h5⟩
    rw [upd_ne (ne_of ec e (fun z => nomatch z))]
    exact ec
theorem pact_put {kx vx : Expr} {tk tv : TE} (hx : X.xe = fun _ _ => False) (hu : X.A.units + 1 < cLine) (hk : PE X kx tk) (hv : PE X vx tv) :
    PAct X (putC kx vx D X.env) (fun σ H Q => tk σ H fun y H1 => tv σ H1 fun v H2 => ∃ H3 H4, Rt H2 D H3 ∧ DPut H3 D y v H4 ∧ Q H4) [] := by
  refine ⟨fun pins s σ H Q k QF EF I h hk' => ?_⟩
  unfold putC
  refine wpAny_bind (wpAny_bind (thnX hx (hk.run pins s σ H _ I h) fun z s1 ⟨y, H1, I1, r1, q1⟩ => ?_))
  refine wpAny_bind (wpAny_holding (thnX hx (hv.run pins s1 σ H1 _ I1 q1) fun z2 s2 ⟨v, H2, I2, r2, H3, H4, rt, g, q⟩ => ?_))
  refine wpAny_bind (wpAny_standAt (wpAny_holding ?_))
  exact dset_ok hu I2 rt g r1 r2 fun s3 I3 => hk' _ _ I3 q
/-- the next clause -/
def tNext (wi : TI) (g : TG) (tt : TT) (ta : TAct) (vs : List Nat) : TAct := fun σ H Q => wi σ H fun J H1 => tTurns J g tt ta vs (L2.wipe σ vs) H1 Q
theorem pact_next {wi : TI} (C : CompE X.prog X.w X.A E d acc X.env tg iter ifs inner) (hx : X.xe = fun _ _ => False) (hc : X.calm = true) (hi : PI X tg iter wi) (pg : PG X tg g) (pt : PTs X ifs tt) (pa : PAct X inner ta vs') (hv : ∀ i ∈ vs', i ∈ vs) (hs : ∀ x, foldedSetIterable iter X.env x = pure x) :
    PAct X (nextC E d iter acc X.env) (tNext wi g tt ta vs) vs := by
  refine ⟨fun pins s σ H Q k QF EF I h hk => ?_⟩
  unfold nextC
  refine wpAny_bind (thnX hx (hi.run pins s σ H _ I h) fun xv s1 hx1 => ?_)
  refine wpAny_bind (wpAny_standAt (wpAny_bind (wpAny_of_eq (hs xv) (wpAny_bind (wpAny_holding (thnX hx hx1 fun itv s2 h2 => ?_))))))
  obtain ⟨it, fp, tn, J, H2, e, I2, T, st2, f2, q⟩ := h2
  subst e
  refine wpAny_bind (wpAny_runOwn ?_)
  rw [Around.mark_none]
  have I2w : L2.Inv X pins (L2.wipe σ vs) H2 s2 := I2.weak (wipe_length _ _) (fun j v e => (wipe_some e).1)
  have lp := loopG C hx hc pg pt pa hv I2w T st2 f2 q
  have sg := startG C lp fun E' => T.self X.A 0 _ _ _ st2 lp
  refine codeAny_mono sg fun r s' hr => ?_
  cases r with
  | ok f =>
    obtain ⟨H', I', q', n'⟩ := hr
    first
      | exact hk _ _ I' q'
      | exact wpAny_pure (hk _ _ I' q')
      | exact wpAny_bind (wpAny_pure (hk _ _ I' q'))
  | error e => exact hr.elim
end
section
variable {X : Cx} {pins : List (Addr × Obj)} {σ : L2.St} {H : Hp} {s : Shared} {Q : VK} {E tg iter : Expr} {ifs : List Expr} {gs : List Comprehension} {scope : Scope} {own : List (Str × Nat)} {pos' : Pos} {wi : TI} {newAcc : Sem Value} {acc0 : HO}
/-- what the new list, the new dict is -/
def NewAcc (X : Cx) (newAcc : Sem Value) (acc0 : HO) : Prop :=
  ∀ (pins : List (Addr × Obj)) (s : Shared) (σ : L2.St) (H : Hp) (Q : Value → Shared → Prop), L2.Inv X pins σ H s → (∀ s3 : Shared, (∀ b o, s.heap.get? b = some o → s3.heap.get? b = some o) → s3.heap.objs.size = s.heap.objs.size + 1 → L2.Inv X pins σ (upd H s.heap.objs.size acc0) s3 → Q (.ref s.heap.objs.size) s3) →
    wpAny (model X.prog X.w) X.A newAcc Q X.xe s
theorem newAcc_list {X : Cx} : NewAcc X (newList []) (.lst []) := by
  intro pins s σ H Q I h
  refine wpAny_newObj_type (h { s with heap := s.heap.push { cls := .type "list", data := .seq ([] : List Value).toArray } } (fun b o e => Heap.get?_push_of_some _ e) (Heap.size_push ..) ?_) (by show 0 ≤ sizeLine; decide)
  exact I.laid (t' := s.toks) (fun b o e => Heap.get?_push_of_some _ e) (Nat.le_refl _) ⟨Nat.zero_le _, [], 0, .nil, Heap.get?_push_size _ rfl⟩
theorem newAcc_dict {X : Cx} : NewAcc X newDict (.dK []) := by
  intro pins s σ H Q I h
  refine wpAny_newObj_type (h { s with heap := s.heap.push { cls := .type "dict", data := .dict #[] } } (fun b o e => Heap.get?_push_of_some _ e) (Heap.size_push ..) ?_)
  exact I.laid (t' := s.toks) (fun b o e => Heap.get?_push_of_some _ e) (Nat.le_refl _) (dk_empty s.heap I.big)
/-- what is asked at the block's start -/
def BlkAsk (X : Cx) (E tg iter : Expr) (ifs : List Expr) (scope : Scope) (own : List (Str × Nat)) (acc0 : HO) (σ : L2.St) (Q : VK) (J : It) (H1 : Hp) : Prop :=
  ∀ (D : Addr), H1 D = none → ∀ (pins : List (Addr × Obj)) (s3 : Shared) (fp : List Addr), L2.Inv X pins σ (upd H1 D acc0) s3 → (∀ b ∈ fp, FpOk X pins (upd H1 D acc0) b) →
    ∃ (inner : Sem Fin → Sem Fin) (g : TG) (tt : TT) (ta : TAct) (vs' : List Nat), CompE X.prog X.w X.A E 0 (.ref D) (compEnvC scope (cellsFrom (s3.heap.objs.size + 1) scope.names (cloFrom X.env.cells scope.names [])) s3.heap.objs.size X.env) tg iter ifs inner ∧
      PG (X.blk s3 (upd H1 D acc0) scope (compEnvC scope (cellsFrom (s3.heap.objs.size + 1) scope.names (cloFrom X.env.cells scope.names [])) s3.heap.objs.size X.env) fp) tg g ∧
      PTs (X.blk s3 (upd H1 D acc0) scope (compEnvC scope (cellsFrom (s3.heap.objs.size + 1) scope.names (cloFrom X.env.cells scope.names [])) s3.heap.objs.size X.env) fp) ifs tt ∧
      PAct (X.blk s3 (upd H1 D acc0) scope (compEnvC scope (cellsFrom (s3.heap.objs.size + 1) scope.names (cloFrom X.env.cells scope.names [])) s3.heap.objs.size X.env) fp) inner ta vs' ∧
      (∀ i ∈ vs', i ∈ own.map (·.2)) ∧ tTurns J g tt ta (own.map (·.2)) (L2.wipe σ (own.map (·.2))) (upd H1 D acc0) (fun H' => Q (.ref D) H')
theorem compG_core {use : Option (Value → Sem Unit)} {Qf : Value → Shared → Prop} (hcl : clausesOf E = ⟨tg, iter, ifs, 0⟩ :: gs) (hc : X.calm = true) (hN : X.N.Nodup) (I : L2.Inv X pins σ H s) (hi : PI X tg iter wi) (ok : BlkOk X.N X.env.scope scope own) (hs : ∀ x, foldedSetIterable iter X.env x = pure x) (hnew : NewAcc X newAcc acc0)
    (h : wi σ H (BlkAsk X E tg iter ifs scope own acc0 σ Q))
    (hRR : ∀ D C s' m H', L2.Inv X pins σ H' s' → Q (.ref D) H' → s'.heap.Ns C m → FpOk X pins H' C → compPost (model X.prog X.w) X.A X.xe use Qf (.ref D) C (.ok .next) s') :
    wpAny (model X.prog X.w) X.A (comprehension E scope X.env pos' newAcc false (eval iter X.env) use) Qf X.xe s := by
  have hfree : ∀ y ∈ scope.names, y.2 = .free → ∃ c, X.env.cells.lookup y.1 = some c := fun y hy e => by
    rcases ok.free y hy e with k | k
    · exact I.ok.has _ (.inl k)
    · exact I.ok.has _ (.inr k)
  refine wpAny_comprehension_free (use := use) hcl hs (closure_ok hfree) ok.kind (fun y hy e => by rw [ok.uniq y hy, e])
    (thn (hi.run pins s σ H _ I h) fun xv s1 hx => thn hx fun itv s2 h2 => ?_)
  obtain ⟨it, fp, tn, J, H2, e, I2, T, st2, f2, q⟩ := h2
  subst e
  refine hnew pins s2 σ H2 _ I2 fun s3 k3 z3 I3 => newEnv_comp ?_
  generalize hD : s2.heap.objs.size = D at I3
  have hDn : H2 D = none := I2.hok.fresh (Nat.le_of_eq hD)
  have sz : ∀ b ∈ fp, b < s2.heap.objs.size := fun b hb => by
    obtain ⟨o, e, _⟩ := T.obj _ _ st2 b hb
    exact Heap.lt_size e
  have f3 : ∀ b ∈ fp, FpOk X pins (upd H2 D acc0) b ∧ b < s3.heap.objs.size := fun b hb => by
    have hlt := sz b hb
    refine ⟨⟨?_, (f2 b hb).2⟩, by rw [z3]; exact Nat.lt_succ_of_lt hlt⟩
    rw [upd_ne (by rw [← hD]; exact Nat.ne_of_lt hlt)]
    exact (f2 b hb).1
  have st3 : tn 0 s3.heap := T.keep _ _ _ st2 fun b _ o e => k3 b o e
  have I4 := block_start I3 ok hN f3
  obtain ⟨inner, g, tt, ta, vs', C, pg, pt, pa, hv, tu⟩ := q D hDn pins s3 fp I3 (fun b hb => (f3 b hb).1)
  have nfp : ∀ b ∈ fp, (upd H2 D acc0) b = none := fun b hb => (f3 b hb).1.1
  show codeAny _ _ (.compStart E 0 (.ref it) (.ref D) (compEnvC scope (cellsFrom (s3.heap.objs.size + 1) scope.names (cloFrom X.env.cells scope.names [])) s3.heap.objs.size X.env)) (compPost (model X.prog X.w) X.A X.xe use Qf (.ref D) s3.heap.objs.size) { s3 with heap := pushCells (s3.heap.push { cls := .type "dict", data := .dict #[] }) scope.names }
  generalize hce : compEnvC scope (cellsFrom (s3.heap.objs.size + 1) scope.names (cloFrom X.env.cells scope.names [])) s3.heap.objs.size X.env = ce at I4 C pg pt pa ⊢
  have cL : ce.locals = s3.heap.objs.size := by subst hce; rfl
  generalize hH3 : upd H2 D acc0 = H3 at I3 I4 pg pt pa tu nfp f3
  generalize hs4 : ({ s3 with heap := pushCells (s3.heap.push { cls := .type "dict", data := .dict #[] }) scope.names } : Shared) = s4 at I4 ⊢
  have st4 : tn 0 s4.heap := T.keep _ _ _ st3 fun b _ o e => by rw [← hs4]; exact pushCells_keeps _ _ _ _ (Heap.get?_push_of_some _ e)
  have f4 : ∀ b ∈ fp, FpOk (X.blk s3 H3 scope ce fp) [] H3 b := fun b hb =>
    ⟨nfp b hb, (I4.ok.exf b hb).1, I4.ok.exfs b hb, .inl hb, fun x c e => (I4.ok.exf b hb).2 x c e, fun p hp => absurd (show p ∈ ([] : List (Addr × Obj)) ++ [] from hp) (by simp)⟩
  have lp := loopG (X := X.blk s3 H3 scope ce fp) C rfl hc pg pt pa hv I4 T st4 f4 tu
  have sg := startG (X := X.blk s3 H3 scope ce fp) C lp fun E' => T.self X.A 0 _ _ _ st4 lp
  refine codeAny_mono sg fun r s6 hr => ?_
  cases r with
  | ok f =>
    obtain ⟨H5, I6, qq, n6⟩ := hr
    have I7 : L2.Inv X pins σ H5 s6 := I3.call' (ch := fp) I6.os I6.base I6.hok I6.bare fun b hb => ⟨(f3 b hb).1.2.2.2.1, (f3 b hb).1.2.1, (f3 b hb).1.2.2.2.2.1, (f3 b hb).1.2.2.2.2.2⟩
    have nC : H5 s3.heap.objs.size = none := by
      have z : H5 ce.locals = none := I6.free
      rw [cL] at z
      exact z
    obtain ⟨m, hn, _⟩ := I6.loc
    have hn : s6.heap.Ns ce.locals m := hn
    rw [cL] at hn
    have key := hRR D s3.heap.objs.size s6 m H5 I7 qq hn (I3.fpOk (Nat.le_refl _) nC)
    unfold compPost at key ⊢
    cases use <;> exact key
  | error e => exact hr.elim
/-- as a value -/
theorem pe_compG {value : Expr} (hev : eval value X.env = comprehension E scope X.env pos' newAcc false (eval iter X.env) none) (hcl : clausesOf E = ⟨tg, iter, ifs, 0⟩ :: gs) (hc : X.calm = true) (hN : X.N.Nodup) (hi : PI X tg iter wi) (ok : BlkOk X.N X.env.scope scope own) (hs : ∀ x, foldedSetIterable iter X.env x = pure x) (hnew : NewAcc X newAcc acc0) :
    PE X value (fun σ H Q => wi σ H (BlkAsk X E tg iter ifs scope own acc0 σ Q)) := by
  refine ⟨fun pins s σ H Q I h => ?_⟩
  rw [hev]
  refine compG_core hcl hc hN I hi ok hs hnew h fun D C s' m H' I' q hn f => ⟨m, hn, fun h'' sb => ?_⟩
  obtain ⟨f0, f1, f2, f3, f4, f5⟩ := f
  exact ⟨.ref D, H', I'.turned (t' := s'.toks) (fun b o hb e => (sb.2 b hb).trans e) f0 f1 f3 f4 f5, rfl, q⟩
/-- name = .. on one line, the name a local -/
theorem ps_setCompG {value : Expr} {i : Nat} {y : Str} {py spos : Pos} (hev : evalThenUse value X.env (assign (.Name y py) X.env) = (do let _ ← comprehension E scope X.env pos' newAcc false (eval iter X.env) (some (assign (.Name y py) X.env)))) (hsw : swapsWith value (some (.Name y py)) spos.line X.env = pure true)
    (hcl : clausesOf E = ⟨tg, iter, ifs, 0⟩ :: gs) (hc : X.calm = true) (hN : X.N.Nodup) (hy : X.N[i]? = some y) (hyl : X.env.scope.names.lookup y = some .local) (hi : PI X tg iter wi) (ok : BlkOk X.N X.env.scope scope own) (hs : ∀ x, foldedSetIterable iter X.env x = pure x) (hnew : NewAcc X newAcc acc0) :
    PS X (.Assign [.Name y py] value spos) (tAsg (fun σ H Q => wi σ H (BlkAsk X E tg iter ifs scope own acc0 σ Q)) (gName i)) := by
  refine ⟨fun pins s σ H D I h => ?_⟩
  rw [exec_Assign_Name_used _ _ _ _ hsw, hev]
  refine wpAny_bind (wpAny_standAt (wpAny_bind ?_))
  have h : wi σ H (BlkAsk X E tg iter ifs scope own acc0 σ (fun x H1 => gName i x σ H1 D.nx)) := h
  refine wpAny_bind (thn (compG_core (Qf := fun _ s' => SP X pins D .next s') hcl hc hN I hi ok hs hnew h fun L C s' m H' I' q hn f => ?_) fun _ s' hq => wpAny_pure (wpAny_pure hq))
  show wpAny _ _ (assign (.Name y py) X.env (.ref L)) _ _ _
  refine wpAny_assign_Name (store_ok2 (v := V.ref L) I' hN hy (.inl hyl) rfl (fun s2 I2 ⟨a, sb, ha⟩ => ?_) (.inr hyl))
  obtain ⟨f0, f1, f2, f3, f4, f5⟩ := f
  have haC : C ≠ a := by
    rcases ha with z | z
    · rw [z]; exact f1
    · exact fun e => f4 y a z e.symm
  refine ⟨m, hn.sameBut sb haC, fun h3 sb3 => ?_⟩
  exact ⟨_, H', I2.turned (t' := s2.toks) (fun b o hb e => (sb3.2 b hb).trans e) f0 f1 f3 f4 f5, q⟩
end
end Mini
namespace Mini
open PySem PySem.Spec PyProof.Rows L2
def Wd.ban (W : Wd) (D : Addr) : Wd := { W with B := fun a => W.B a ∨ a = D }
section
variable {Γ : Gm} {CRel : Addr → Option V → Prop} {H H' : Hp} {W W' : Wd} {S : Store} {D : Addr} {o o' : HO}
theorem Ev.ban (hn : W.Fin) (hD : H D = none) : Ev Γ W H (W.ban D) (upd H D o) :=
  ⟨⟨fun a h z => z.elim id fun e => absurd hD (by rw [← e]; exact h), Nat.le_refl _, fun _ _ => .inr rfl, fun _ _ => .inr rfl, fun i a h1 h2 => (by
    have h2 : W.ν i = some a := h2
    rw [hn.1 i h1] at h2; cases h2), fun a u q _ _ _ => same_new hD a u q, fun _ _ q => same_new hD _ _ q, fun _ _ _ q => same_new hD _ _ q, fun a u q z => (by rw [same_new hD a u q] at z; cases z), hn.2, rfl⟩, fun _ h => .inl h, fun a u _ q _ => same_new hD a u q⟩
theorem RS.ban (h : RS Γ CRel W S H) (hD : H D = none) (nt : ∀ ps, o ≠ .tbl ps) : RS Γ CRel (W.ban D) S (upd H D o) := by
  have e : Ev Γ W H (W.ban D) (upd H D o) := Ev.ban h.fin hD
  refine ⟨h.n, h.vnone, h.knone, fun i u a e1 e2 => ?_, h.live, h.inj, fun i v e1 => ?_, h.kdead, h.kinj, fun a ha => ?_, h.tab.ext (same_new hD), h.fz⟩
  · obtain ⟨u', hu⟩ := h.tracked e2
    exact RO.mono e (by rw [upd_ne (fun z => by rw [z, hD] at hu; cases hu)]) (fun c u hc _ => same_new hD c u hc) (h.obj i u a e1 e2)
  · obtain ⟨c, ov, q1, q2, q3⟩ := h.cel i v e1
    exact ⟨c, ov, q1, q2, fun mv hm => let ⟨x, z1, z2⟩ := q3 mv hm; ⟨x, z1, e.rv _ _ z2⟩⟩
  · rcases ha with ha | ha
    · obtain ⟨⟨u, q1, q2⟩, q3⟩ := h.bd a ha
      exact ⟨⟨u, same_new hD _ _ q1, q2⟩, q3⟩
    · subst ha
      refine ⟨⟨o, upd_same, nt⟩, fun i hi => ?_⟩
      obtain ⟨u, hu⟩ := h.tracked hi
      rw [hD] at hu; cases hu
/-- the banned object is changed -/
theorem Ev0.atD {u0 : HO} (hn : W.Fin) (hB : W.B D) (h0 : H D = some u0) (hp : isPl u0 = true) : Ev0 Γ W H W (upd H D o') :=
  ⟨fun _ _ h => h, Nat.le_refl _, fun _ _ => .inr rfl, fun _ _ => .inr rfl, fun i a h1 h2 => (by rw [hn.1 i h1] at h2; cases h2), fun a u q nb _ _ => (by rw [upd_ne (fun z => nb (by rw [z]; exact hB))]; exact q),
    fun a xs q => (by rw [upd_ne (fun z => by rw [z, h0] at q; cases q; cases hp)]; exact q), fun a u xs q => (by rw [upd_ne (fun z => by rw [z, h0] at q; cases q; cases hp)]; exact q),
    fun a u q z => (by
      by_cases e : a = D
      · rw [e, upd_same] at z; cases z
      · rw [upd_ne e, q] at z; cases z), hn.2, rfl⟩
/-- seen from a time before it was made -/
theorem Ev.upD {Wb : Wd} {Hb : Hp} (e : Ev Γ Wb Hb W H) (hb : Hb D = none) (u : HO) : Ev Γ Wb Hb W (upd H D u) := by
  have ne : ∀ {a : Addr} {v : HO}, Hb a = some v → a ≠ D := fun q z => by rw [z, hb] at q; cases q
  refine ⟨⟨e.b2, e.n, e.old, e.oldk, e.new, fun a v q h1 h2 h3 => (by rw [upd_ne (ne q)]; exact e.kp a v q h1 h2 h3), fun a xs q => (by rw [upd_ne (ne q)]; exact e.tup a xs q), fun a v xs q => (by rw [upd_ne (ne q)]; exact e.frt a v xs q),
    fun a v q z => e.sta a v q (by rw [upd_ne (ne q)] at z; exact z), e.newk, e.fz⟩, e.b, fun a v h1 q h3 => (by rw [upd_ne (ne q)]; exact e.kb a v h1 q h3)⟩
theorem RS.atD {u0 : HO} (h : RS Γ CRel W S H) (hB : W.B D) (h0 : H D = some u0) (hp : isPl u0 = true) (nt : ∀ ps, o' ≠ .tbl ps) : RS Γ CRel W S (upd H D o') := by
  have e : Ev0 Γ W H W (upd H D o') := Ev0.atD h.fin hB h0 hp
  have nD : ∀ i, W.ν i ≠ some D := (h.bd D hB).2
  have nx : ∀ c u', H c = some u' → isPl u' = false → upd H D o' c = some u' := fun c u' q1 q2 => by
    rw [upd_ne (fun z => by rw [z, h0] at q1; cases q1; rw [hp] at q2; cases q2)]; exact q1
  refine ⟨h.n, h.vnone, h.knone, fun i u a e1 e2 => ?_, h.live, h.inj, fun i v e1 => ?_, h.kdead, h.kinj, fun a ha => ?_, fun t ht => ?_, h.fz⟩
  · have hne : a ≠ D := fun z => nD i (by rw [e2, z])
    have q := h.obj i u a e1 e2
    cases u with
    | clo l' ks =>
      obtain ⟨L, cl, c', h1, h2, h3, h4, h5, h6, h7⟩ := q
      exact ⟨L, cl, c', h1, by rw [upd_ne hne]; exact h2, nx _ _ h3 rfl, h4, h5, h6, h7⟩
    | lst ms => obtain ⟨xs, h1, h2⟩ := q; exact ⟨xs, by rw [upd_ne hne]; exact h1, e.rvs _ _ h2⟩
    | dK lk kvs =>
      rcases q with ⟨ws, h1, h2⟩ | ⟨h1, h2, h3⟩
      · exact .inl ⟨ws, by unfold DO at h1 ⊢; rw [upd_ne hne]; exact h1, e.rks _ _ h2.1, h2.2⟩
      · exact .inr ⟨h1, h2, by rw [upd_ne hne]; exact h3⟩
    | dT lk kvs =>
      rcases q with ⟨ws, h1, h2⟩ | ⟨h1, h2, h3⟩
      · exact .inl ⟨ws, by unfold DO at h1 ⊢; rw [upd_ne hne]; exact h1, e.rks _ _ h2.1, h2.2⟩
      · exact .inr ⟨h1, h2, by rw [upd_ne hne]; exact h3⟩
    | ins c fs => obtain ⟨C, dx, ws, h1, h2, h3⟩ := q; exact ⟨C, dx, ws, h1, by rw [upd_ne hne]; exact h2, e.rvf _ _ h3⟩
    | cell v => exact q
    | dead => exact q
  · obtain ⟨c, ov, q1, q2, q3⟩ := h.cel i v e1
    exact ⟨c, ov, q1, q2, fun mv hm => let ⟨x, z1, z2⟩ := q3 mv hm; ⟨x, z1, e.rv _ _ z2⟩⟩
  · by_cases z : a = D
    · subst z
      exact ⟨⟨o', upd_same, nt⟩, nD⟩
    · obtain ⟨⟨u, q1, q2⟩, q3⟩ := h.bd a ha
      exact ⟨⟨u, by rw [upd_ne z]; exact q1, q2⟩, q3⟩
  · obtain ⟨ps, h1, h2, h3⟩ := h.tab t ht
    refine ⟨ps, nx _ _ h1 rfl, h2, fun pos cv hc => ?_⟩
    obtain ⟨c, e1, e2⟩ := h3 pos cv hc
    exact ⟨c, e1, nx _ _ e2 rfl⟩
/-- the ban is lifted -/
def Wd.lift (W : Wd) (B : Addr → Prop) : Wd := { W with B := B }
theorem Ev0.lift {B : Addr → Prop} (hn : W.Fin) (hB : ∀ a, B a → W.B a) : Ev0 Γ W H (W.lift B) H :=
  ⟨fun a _ h => hB a h, Nat.le_refl _, fun _ _ => .inr rfl, fun _ _ => .inr rfl, fun i a h1 h2 => (by
    have h2 : W.ν i = some a := h2
    rw [hn.1 i h1] at h2; cases h2), fun _ _ h _ _ _ => h, fun _ _ h => h, fun _ _ _ h => h, fun a o h z => (by rw [h] at z; cases z), hn.2, rfl⟩
theorem RS.lift {B : Addr → Prop} (h : RS Γ CRel W S H) (hB : ∀ a, B a → W.B a) : RS Γ CRel (W.lift B) S H := by
  have e : Ev0 Γ W H (W.lift B) H := Ev0.lift h.fin hB
  refine ⟨h.n, h.vnone, h.knone, fun i u a e1 e2 => RO.mono0 e rfl (fun c u hc _ => hc) (h.obj i u a e1 e2), h.live, h.inj, fun i v e1 => ?_, h.kdead, h.kinj, fun a ha => h.bd a (hB a ha), h.tab, h.fz⟩
  obtain ⟨c, ov, q1, q2, q3⟩ := h.cel i v e1
  exact ⟨c, ov, q1, q2, fun mv hm => let ⟨x, z1, z2⟩ := q3 mv hm; ⟨x, z1, e.rv _ _ z2⟩⟩
end
/-- the object at D, kept by all that is reckoned -/
structure AccOk (Γ : Gm) (D : Addr) {α : Type} (AR : α → Wd → Hp → Prop) : Prop where
  ev : ∀ a W H W' H', W.B D → AR a W H → Ev Γ W H W' H' → AR a W' H'
  pl : ∀ a W H, AR a W H → ∃ u, H D = some u ∧ isPl u = true
def LAr (Γ : Gm) (D : Addr) : LA → Wd → Hp → Prop := fun a W H => a.1 = a.2.length ∧ ∃ xs, H D = some (.lst xs) ∧ RVs Γ W H a.2.reverse xs
def isDc : MO → Bool
  | .dK false _ => true
  | .dT false _ => true
  | _ => false
def DAr (Γ : Gm) (D : Addr) : MO → Wd → Hp → Prop := fun o W H => isDc o = true ∧ RO Γ W H o D
theorem accL {Γ : Gm} {D : Addr} : AccOk Γ D (LAr Γ D) where
  ev := fun a W H W' H' hB ⟨h0, xs, h1, h2⟩ e => ⟨h0, xs, e.kb D _ hB h1 (fun _ z => nomatch z), e.rvs _ _ h2⟩
  pl := fun a W H ⟨_, xs, h1, _⟩ => ⟨_, h1, rfl⟩
theorem accD {Γ : Gm} {D : Addr} : AccOk Γ D (DAr Γ D) where
  ev := fun o W H W' H' hB ⟨h0, h1⟩ e => by
    refine ⟨h0, ?_⟩
    cases o with
    | dK lk kvs =>
      rcases h1 with ⟨ws, q1, q2⟩ | ⟨q1, q2, q3⟩
      · cases lk with
        | true => cases h0
        | false => exact .inl ⟨ws, e.kb D _ hB q1 (fun _ z => nomatch z), e.rks _ _ q2.1, q2.2⟩
      · exact .inr ⟨q1, q2, e.kb D _ hB q3 (fun _ z => nomatch z)⟩
    | dT lk kvs =>
      rcases h1 with ⟨ws, q1, q2⟩ | ⟨q1, q2, q3⟩
      · cases lk with
        | true => cases h0
        | false => exact .inl ⟨ws, e.kb D _ hB q1 (fun _ z => nomatch z), e.rks _ _ q2.1, q2.2⟩
      · exact .inr ⟨q1, q2, e.kb D _ hB q3 (fun _ z => nomatch z)⟩
    | _ => cases h0
  pl := fun o W H ⟨h0, h1⟩ => by
    cases o with
    | dK lk kvs =>
      rcases h1 with ⟨ws, q1, q2⟩ | ⟨q1, q2, q3⟩
      · cases lk with
        | true => cases h0
        | false => exact ⟨_, q1, rfl⟩
      · exact ⟨_, q3, rfl⟩
    | dT lk kvs =>
      rcases h1 with ⟨ws, q1, q2⟩ | ⟨q1, q2, q3⟩
      · cases lk with
        | true => cases h0
        | false => exact ⟨_, q1, rfl⟩
      · exact ⟨_, q3, rfl⟩
    | _ => cases h0
section
variable {Γ : Gm} {X : Cx} {mcm : List (Nat × Nat)} {α : Type} {AR : α → Wd → Hp → Prop} {D : Addr} {Wb : Wd} {Hb : Hp} {ρ ρ0 : Env} {σ σ0 : L2.St} {W W' : Wd} {S S' : Store} {H H' : Hp}
/-- nothing is let out -/
def noX : WX := fun _ _ _ _ => False
/-- a state within a comprehension's block -/
structure BS (Γ : Gm) (X : Cx) (mcm : List (Nat × Nat)) {α : Type} (AR : α → Wd → Hp → Prop) (D : Addr) (Wb : Wd) (Hb : Hp) (ρ : Env) (σ : L2.St) (W : Wd) (S : Store) (H : Hp) (a : α) : Prop where
  e : Ev Γ Wb Hb W H
  R : Rel Γ X mcm ρ σ W S H
  bD : W.B D
  ar : AR a W H
theorem BS.ev (hA : AccOk Γ D AR) {a : α} (b : BS Γ X mcm AR D Wb Hb ρ σ W S H a) (e : Ev Γ W H W' H') (R : Rel Γ X mcm ρ0 σ0 W' S' H') : BS Γ X mcm AR D Wb Hb ρ0 σ0 W' S' H' a :=
  ⟨b.e.trans e, R, e.b D b.bD, hA.ev a W H W' H' b.bD b.ar e⟩
/-- what is wanted of a run that gathers -/
def WnAc (Γ : Gm) (X : Cx) (mcm : List (Nat × Nat)) {α : Type} (AR : α → Wd → Hp → Prop) (D : Addr) (Wb : Wd) (Hb : Hp) (ρ : Env) (σ : L2.St) (W : Wd) (H : Hp) (r : Res α) (Q : Hp → Prop) : Prop :=
  match r with
  | .ok a' S' => ∀ W' H', Ev0 Γ W H W' H' → BS Γ X mcm AR D Wb Hb ρ σ W' S' H' a' → Q H'
  | _ => False
def tAc (Γ : Gm) (X : Cx) (mcm : List (Nat × Nat)) {α : Type} (AR : α → Wd → Hp → Prop) (D : Addr) (Wb : Wd) (Hb : Hp) (h : Env → α → Store → Res α) : TAct := fun σ H Q =>
  ∃ W ρ S a, BS Γ X mcm AR D Wb Hb ρ σ W S H a ∧ WnAc Γ X mcm AR D Wb Hb ρ σ W H (h ρ a S) Q
theorem WnAc.shift {r : Res α} {Q : Hp → Prop} (w : WnAc Γ X mcm AR D Wb Hb ρ σ W H r Q) (e : Ev0 Γ W H W' H') : WnAc Γ X mcm AR D Wb Hb ρ σ W' H' r Q := by
  cases r with
  | ok a S => exact fun W2 H2 e2 b => w W2 H2 (e.trans e2) b
  | exc c fs S => exact w
  | bad => exact w
theorem WnAc.bindW {β : Type} {r : Res β} {f : β → Store → Res α} {Q : Hp → Prop} {R : Wd → Store → Hp → Prop} (w : WnAc Γ X mcm AR D Wb Hb ρ σ W H (r.bind f) Q) :
    Want Γ R W H r (fun m S' W' H' => WnAc Γ X mcm AR D Wb Hb ρ σ W' H' (f m S') Q) fun _ _ _ => False := by
  cases r with
  | ok a S => exact fun W' H' e _ => WnAc.shift (r := f a S) w e.toEv0
  | exc c fs S => exact False.elim w
  | bad => exact w
theorem PAct.imp {a : Sem Fin → Sem Fin} {t t' : TAct} {vs : List Nat} (h : PAct X a t vs) (hi : ∀ σ H Q, t' σ H Q → t σ H Q) : PAct X a t' vs := ⟨fun pins s σ H Q k QF EF I q => h.run pins s σ H Q k QF EF I (hi σ H Q q)⟩
/-- an item goes to the list -/
theorem act_app {elt : Expr} {me : EvM} (hx : X.xe = fun _ _ => False) (hb : Hb D = none) (he : PE X elt (tE Γ X mcm noX me)) :
    PAct X (appC elt (.ref D) X.env) (tAc Γ X mcm (LAr Γ D) D Wb Hb fun ρ a S => (me ρ S).bind fun y S => emitL a y S) [] := by
  refine PAct.imp (pact_app hx he) fun σ H Q h => ?_
  obtain ⟨W, ρ, S, a, b, w⟩ := h
  refine ⟨W, ρ, S, b.R, (WnAc.bindW w).mono (fun m S' W' H' _ e R' q v rv => ?_) fun _ _ _ z => z.elim⟩
  have b' := b.ev accL e R'
  obtain ⟨h0, xs, h1, h2⟩ := b'.ar
  unfold emitL at q
  split at q
  · rename_i hl
    have hlen : xs.length = a.2.length := by rw [h2.len, List.length_reverse]
    refine ⟨xs, h1, by rw [hlen, ← h0, ← line_eq]; exact hl, ?_⟩
    have e0 : Ev0 Γ W' H' W' (upd H' D (.lst (xs ++ [v]))) := Ev0.atD b'.R.rs.fin b'.bD h1 rfl
    refine q W' _ e0 ⟨b'.e.upD hb _, ⟨b'.R.rs.atD b'.bD h1 rfl (fun _ z => nomatch z), ?_⟩, b'.bD, by show a.1 + 1 = (m :: a.2).length; rw [h0]; rfl, _, upd_same, ?_⟩
    · exact RE.mono0 b'.R.re e0 b'.R.rs.n fun _ _ _ _ q => ⟨q, rfl⟩
    · rw [List.reverse_cons]
      exact e0.rvs _ _ (h2.app ⟨v, [], rfl, rv, rfl⟩)
  · exact q.elim
end
end Mini
namespace Mini
open PySem PySem.Spec PyProof.Rows L2
section
variable {Γ : Gm} {X : Cx} {mcm : List (Nat × Nat)} {α : Type} {AR : α → Wd → Hp → Prop} {D : Addr} {Wb : Wd} {Hb : Hp} {ρ ρ0 : Env} {σ σ0 : L2.St} {W W' : Wd} {S S' : Store} {H H' : Hp}
/-- an entry goes into the dict at D -/
theorem dPut_at {o o' : MO} {k mv : MV} {y v : V} (hn : W.Fin) (hB : W.B D) (h : DAr Γ D o W H) (e : dPut o k mv = some o') (ry : RV Γ W H k y) (rv : RV Γ W H mv v) :
    ∃ H1 u, Rt H D H1 ∧ DPut H1 D y v (upd H D u) ∧ isPl u = true ∧ Ev0 Γ W H W (upd H D u) ∧ DAr Γ D o' W (upd H D u) := by
  obtain ⟨h0, ob⟩ := h
  have fin : ∀ (u0 u : HO), H D = some u0 → isPl u0 = true → Ev0 Γ W H W (upd H D u) := fun u0 u q1 q2 => Ev0.atD hn hB q1 q2
  have goK : ∀ (kk : Key) (kvs : List (Key × MV)) (ws : List (Key × V)), y = kV kk → H D = some (.dK ws) → RKs Γ W H kvs ws → (kvs.map (·.1)).Nodup → kvs.length < line → o' = .dK false (gPut kEq kk mv kvs) →
      ∃ H1 u, Rt H D H1 ∧ DPut H1 D y v (upd H D u) ∧ isPl u = true ∧ Ev0 Γ W H W (upd H D u) ∧ DAr Γ D o' W (upd H D u) := fun kk kvs ws ey h1 rk nd hz eo => by
    have nd' : (ws.map (·.1)).Nodup := by rw [rk.keys]; exact nd
    have e2 := fin _ (.dK (putK ws kk v)) h1 rfl
    refine ⟨H, .dK (putK ws kk v), .inl rfl, ?_, rfl, e2, ?_⟩
    · rw [ey]; exact DPut.k h1 (by rw [rk.len, ← line_eq]; exact hz)
    · rw [eo]
      exact ⟨rfl, .inl ⟨_, upd_same, e2.rks _ _ (RKs.put kEq_eq rv nd' rk), gPut_nodup kEq_eq nd⟩⟩
  have goT : ∀ (kk : List Key) (kvs : List (List Key × MV)) (ws : List (List Key × V)), (∃ b, y = .ref b ∧ H b = some (.tup (kk.map kV))) → H D = some (.dT ws) → RKs Γ W H kvs ws → (kvs.map (·.1)).Nodup → kvs.length < line → o' = .dT false (gPut tkEq kk mv kvs) →
      ∃ H1 u, Rt H D H1 ∧ DPut H1 D y v (upd H D u) ∧ isPl u = true ∧ Ev0 Γ W H W (upd H D u) ∧ DAr Γ D o' W (upd H D u) := fun kk kvs ws ey h1 rk nd hz eo => by
    obtain ⟨b, eb, hb⟩ := ey
    have nd' : (ws.map (·.1)).Nodup := by rw [rk.keys]; exact nd
    have e2 := fin _ (.dT (putK ws kk v)) h1 rfl
    refine ⟨H, .dT (putK ws kk v), .inl rfl, ?_, rfl, e2, ?_⟩
    · rw [eb]; exact DPut.t h1 hb (by rw [rk.len, ← line_eq]; exact hz)
    · rw [eo]
      exact ⟨rfl, .inl ⟨_, upd_same, e2.rks _ _ (RKs.put tkEq_eq rv nd' rk), gPut_nodup tkEq_eq nd⟩⟩
  -- the first entry of the other kind
  have newK : ∀ kk : Key, y = kV kk → H D = some (.dT []) → o' = .dK false [(kk, mv)] → ∃ H1 u, Rt H D H1 ∧ DPut H1 D y v (upd H D u) ∧ isPl u = true ∧ Ev0 Γ W H W (upd H D u) ∧ DAr Γ D o' W (upd H D u) := fun kk ey h1 eo => by
    have e2 := fin _ (.dK [(kk, v)]) h1 rfl
    refine ⟨upd H D (.dK []), .dK [(kk, v)], .inr (.inr ⟨h1, rfl⟩), ?_, rfl, e2, ?_⟩
    · rw [ey, show upd H D (.dK [(kk, v)]) = upd (upd H D (.dK [])) D (.dK (putK [] kk v)) from by rw [upd_upd]; rfl]
      exact DPut.k upd_same (by rw [sizeLine_eq]; decide)
    · rw [eo]
      exact ⟨rfl, .inl ⟨_, upd_same, ⟨v, [], rfl, e2.rv _ _ rv, rfl⟩, by simp⟩⟩
  have newT : ∀ kk : List Key, (∃ b, y = .ref b ∧ H b = some (.tup (kk.map kV))) → H D = some (.dK []) → o' = .dT false [(kk, mv)] → ∃ H1 u, Rt H D H1 ∧ DPut H1 D y v (upd H D u) ∧ isPl u = true ∧ Ev0 Γ W H W (upd H D u) ∧ DAr Γ D o' W (upd H D u) := fun kk ey h1 eo => by
    obtain ⟨b, eb, hb⟩ := ey
    have e2 := fin _ (.dT [(kk, v)]) h1 rfl
    have e3 := fin _ (.dT []) h1 rfl
    refine ⟨upd H D (.dT []), .dT [(kk, v)], .inr (.inl ⟨h1, rfl⟩), ?_, rfl, e2, ?_⟩
    · rw [eb, show upd H D (.dT [(kk, v)]) = upd (upd H D (.dT [])) D (.dT (putK [] kk v)) from by rw [upd_upd]; rfl]
      exact DPut.t upd_same (e3.tup _ _ hb) (by rw [sizeLine_eq]; decide)
    · rw [eo]
      exact ⟨rfl, .inl ⟨_, upd_same, ⟨v, [], rfl, e2.rv _ _ rv, rfl⟩, by simp⟩⟩
  have one : 0 < line := by decide
  unfold dPut at e
  split at e
  · rename_i kvs kk hk
    split at e
    · rename_i hz
      cases e
      have ey := keyOf_ok hk ry
      rcases ob with ⟨ws, q1, q2, q3⟩ | ⟨q1, q2, q3⟩
      · exact goK kk kvs ws ey q1 q2 q3 hz rfl
      · subst q1
        exact newK kk ey q3 rfl
    · cases e
  · rename_i kk hk ht
    cases e
    have ey := tkeyOf_ok ht ry
    rcases ob with ⟨ws, q1, q2, q3⟩ | ⟨q1, q2, q3⟩
    · have ew : ws = [] := q2
      subst ew
      exact newT kk ey q1 rfl
    · exact goT kk [] [] ey q3 rfl List.nodup_nil one rfl
  · rename_i kvs kk hk ht
    split at e
    · rename_i hz
      cases e
      have ey := tkeyOf_ok ht ry
      rcases ob with ⟨ws, q1, q2, q3⟩ | ⟨q1, q2, q3⟩
      · exact goT kk kvs ws ey q1 q2 q3 hz rfl
      · subst q1
        exact newT kk ey q3 rfl
    · cases e
  · rename_i kk hk
    cases e
    have ey := keyOf_ok hk ry
    rcases ob with ⟨ws, q1, q2, q3⟩ | ⟨q1, q2, q3⟩
    · have ew : ws = [] := q2
      subst ew
      exact newK kk ey q1 rfl
    · exact goK kk [] [] ey q3 rfl List.nodup_nil one rfl
  · cases e
theorem act_put {kx vx : Expr} {mk mv : EvM} (hx : X.xe = fun _ _ => False) (hu : X.A.units + 1 < cLine) (hb : Hb D = none) (hk : PE X kx (tE Γ X mcm noX mk)) (hv : PE X vx (tE Γ X mcm noX mv)) :
    PAct X (putC kx vx D X.env) (tAc Γ X mcm (DAr Γ D) D Wb Hb fun ρ o S => (mk ρ S).bind fun x S => (mv ρ S).bind fun y S => emitD o x y S) [] := by
  refine PAct.imp (pact_put hx hu hk hv) fun σ H Q h => ?_
  obtain ⟨W, ρ, S, o, b, w⟩ := h
  refine ⟨W, ρ, S, b.R, (WnAc.bindW w).mono (fun mx S1 W1 H1 _ e1 R1 q y ry => ?_) fun _ _ _ z => z.elim⟩
  have b1 := b.ev accD e1 R1
  refine ⟨W1, ρ, S1, R1, (WnAc.bindW q).mono (fun my S2 W2 H2 _ e2 R2 q2 v rv => ?_) fun _ _ _ z => z.elim⟩
  have b2 := b1.ev accD e2 R2
  unfold emitD at q2
  cases hd : dPut o mx my with
  | none => rw [hd] at q2; exact q2.elim
  | some o' =>
    rw [hd] at q2
    obtain ⟨H3, u, rt, g, hp, e0, da⟩ := dPut_at b2.R.rs.fin b2.bD b2.ar hd (e2.rv _ _ ry) rv
    obtain ⟨u0, hu0, hp0⟩ := accD.pl _ _ _ b2.ar
    refine ⟨H3, _, rt, g, q2 W2 _ e0 ⟨b2.e.upD hb _, ⟨b2.R.rs.atD b2.bD hu0 hp0 (fun ps z => by rw [z] at hp; cases hp), ?_⟩, b2.bD, da⟩⟩
    exact RE.mono0 b2.R.re e0 b2.R.rs.n fun _ _ _ _ q => ⟨q, rfl⟩
def mapT (p : Plan) (f : MV → α → Store → Res α) : Nat → Nat → α → Store → Res α
  | 0, _, _, _ => .bad
  | n + 1, i, a, S => match pAt p i S with
    | none => .bad
    | some none => .ok a S
    | some (some v) => (f v a S).calm.bind fun a S => mapT p f n (i + 1) a S
theorem map_fix {f : MV → α → Store → Res α} {vs : List MV} : ∀ (r : List MV) (i : Nat) (a : α) (S : Store), vs.drop i = r → mapFix f r a S = mapT (.fx vs) f (r.length + 1) i a S
  | [], i, a, S, h => by
    have hi : vs[i]? = none := by
      rw [List.getElem?_eq_none_iff]
      have := congrArg List.length h
      simp at this
      omega
    unfold mapFix mapT
    unfold pAt
    dsimp only
    rw [hi]
  | v :: r, i, a, S, h => by
    have hi : vs[i]? = some v := by
      have q : (vs.drop i)[0]? = some v := by rw [h]; rfl
      rw [List.getElem?_drop] at q
      simpa using q
    have hr : vs.drop (i + 1) = r := by
      rw [← List.drop_drop, h]; rfl
    rw [List.length_cons]
    unfold mapFix mapT
    unfold pAt
    dsimp only
    rw [hi]
    dsimp only
    congr 1
    funext a S'
    exact map_fix r (i + 1) a S' hr
theorem map_live {p : Plan} {f : MV → α → Store → Res α} (hp : ∀ vs, p ≠ .fx vs) : ∀ (n i : Nat) (a : α) (S : Store), mapLive p f n i a S = mapT p f n i a S
  | 0, _, _, _ => rfl
  | n + 1, i, a, S => by
    unfold mapLive mapT
    have e : pAt p i S = planAt p i S := by
      cases p with
      | fx vs => exact absurd rfl (hp vs)
      | _ => rfl
    rw [e]
    cases planAt p i S with
    | none => rfl
    | some o =>
      cases o with
      | none => rfl
      | some v =>
        dsimp only
        congr 1
        funext a S'
        exact map_live hp n (i + 1) a S'
theorem calm_ok {r : Res α} {f : α → Store → Res α} {Q : Hp → Prop} (w : WnAc Γ X mcm AR D Wb Hb ρ σ W H (r.calm.bind f) Q) : ∃ a S, r = .ok a S ∧ WnAc Γ X mcm AR D Wb Hb ρ σ W H (f a S) Q := by
  cases r with
  | ok a S => exact ⟨a, S, rfl, w⟩
  | exc c fs S => exact w.elim
  | bad => exact w.elim
/-- back to a turn's start -/
theorem Rel.rewind {W0 : Wd} {S0 : Store} {H0 : Hp} (R0 : RE Γ X mcm ρ0 σ0 W0 S0 H0) (R : Rel Γ X mcm ρ σ W S H) (e : Ev0 Γ W0 H0 W H) (hs : ∀ i k, (i, k) ∈ mcm → σ[i]? = σ0[i]?) : Rel Γ X mcm ρ0 σ0 W S H := by
  refine ⟨R.rs.crel fun k v c ov _ _ q => ?_, R0.len, fun i mv h1 h2 => let ⟨v, q1, q2⟩ := R0.var i mv h1 h2; ⟨v, q1, e.rv _ _ q2⟩, fun i k h1 => ?_, R.re.cfz⟩
  · rcases q with ⟨i, k', y, h1, h2, h3, h4, h5, h6⟩ | q
    · exact .inl ⟨i, k', y, h1, h2, h3, h4, h5, fun u hu => by rw [← hs i k' h1]; exact h6 u hu⟩
    · exact .inr q
  · obtain ⟨p1, _⟩ := R0.cel i k h1
    obtain ⟨q1, ov, q2, q3, q4⟩ := R.re.cel i k h1
    exact ⟨p1, ov, q2, q3, fun mv hm => let ⟨v, a, b⟩ := q4 mv hm; ⟨v, by rw [← hs i k h1]; exact a, b⟩⟩
theorem wipe_fix {vs ts : List Nat} (ht : ∀ i ∈ ts, i ∈ vs) (h0 : L2.wipe σ0 vs = σ0) (sb : SlotsBut ts σ0 σ) : L2.wipe σ vs = σ0 := by
  apply List.ext_getElem?
  intro j
  by_cases hj : j ∈ vs
  · have w : ∀ (τ : L2.St) (us : List Nat), j ∈ us → ∀ v, (L2.wipe τ us)[j]? ≠ some (some v) := fun τ us hm v q => (wipe_some q).2 hm
    rw [← h0]
    have l1 : (L2.wipe σ vs).length = (L2.wipe σ0 vs).length := by rw [wipe_length, wipe_length]; exact sb.1
    cases q1 : (L2.wipe σ vs)[j]? with
    | none =>
      rw [List.getElem?_eq_none_iff] at q1
      symm
      rw [List.getElem?_eq_none_iff]
      omega
    | some o1 =>
      cases q2 : (L2.wipe σ0 vs)[j]? with
      | none =>
        rw [List.getElem?_eq_none_iff] at q2
        have := (List.getElem?_eq_some_iff.mp q1).1
        omega
      | some o2 =>
        cases o1 with
        | some v => exact absurd q1 (w σ vs hj v)
        | none =>
          cases o2 with
          | some v => exact absurd q2 (w σ0 vs hj v)
          | none => rfl
  · rw [wipe_out hj]
    exact sb.2 j fun z => hj (ht j z)
/-- the turns of a clause -/
theorem clause_ok (hA : AccOk Γ D AR) {own : List Nat} {ts : List Nat} {g : MV → Env → Store → Res Env} {c : Env → Store → Res Bool} {h : Env → α → Store → Res α} {p : Plan} {J : It} {Wp : Wd} {Hp' : Hp} {a : α} {n : Nat} {Q : Hp → Prop}
    (hts : ∀ i ∈ ts, i ∈ own) (hmc : ∀ i k, (i, k) ∈ mcm → i ∉ own) (hσ : L2.wipe σ0 own = σ0) (hρ : ρ0 = Mini.wipe ρ own) (hJ : PlanR Γ p J Wp Hp') (ep : Ev0 Γ Wp Hp' W H) (b : BS Γ X mcm AR D Wb Hb ρ0 σ0 W S H a)
    (w : WnAc Γ X mcm AR D Wb Hb ρ0 σ0 W H (mapT p (clauseM own g c h ρ) n 0 a S) Q) :
    tTurns J (tG Γ X mcm ts g) (tT Γ X mcm noX c) (tAc Γ X mcm AR D Wb Hb h) own σ0 H Q := by
  refine ⟨fun i m H' => ∃ W' S' a, Ev0 Γ W H W' H' ∧ BS Γ X mcm AR D Wb Hb ρ0 σ0 W' S' H' a ∧ WnAc Γ X mcm AR D Wb Hb ρ0 σ0 W' H' (mapT p (clauseM own g c h ρ) m i a S') Q, ⟨n, W, S, a, (b.R.evr).toEv0, b, w⟩, ?_⟩
  rintro i m H1 ⟨W1, S1, a1, e1, b1, w1⟩
  cases m with
  | zero => exact w1.elim
  | succ m =>
    have q := hJ.2 X mcm ρ0 σ0 W1 S1 H1 i (ep.trans e1) b1.R
    unfold mapT at w1
    cases hp : pAt p i S1 with
    | none => rw [hp] at w1; exact w1.elim
    | some o =>
      rw [hp] at w1 q
      cases o with
      | none => exact .inl ⟨q, w1 W1 H1 b1.R.evr.toEv0 b1⟩
      | some v =>
        obtain ⟨q1, q2⟩ := q
        dsimp only at w1
        obtain ⟨a2, S2, hr, w2⟩ := calm_ok w1
        refine .inr ⟨q1, fun H' => ∃ W' S' a, Ev0 Γ W H W' H' ∧ BS Γ X mcm AR D Wb Hb ρ0 σ0 W' S' H' a ∧ WnAc Γ X mcm AR D Wb Hb ρ0 σ0 W' H' (mapT p (clauseM own g c h ρ) m (i + 1) a S') Q, fun H' z => ⟨m, Nat.lt_succ_self _, z⟩, fun x H' hx => ?_⟩
        obtain ⟨e2, R2, rx⟩ := q2 x H' hx
        have b2 := b1.ev hA e2 R2
        refine ⟨W1, ρ0, S1, v, R2, rx, ?_⟩
        unfold clauseM at hr
        rw [← hρ] at hr
        cases hg : g v ρ0 S1 with
        | exc c fs S3 => rw [hg] at hr; cases hr
        | bad => rw [hg] at hr; cases hr
        | ok ρ3 S3 =>
          rw [hg] at hr
          have hr : ((c ρ3 S3).bind fun b S => if b then h ρ3 a1 S else .ok a1 S) = .ok a2 S2 := hr
          intro σ3 W3 H3 e3 R3 sb
          have b3 := b2.ev hA e3 R3
          have hw : L2.wipe σ3 own = σ0 := wipe_fix hts hσ sb
          refine ⟨hw, W3, ρ3, S3, R3, ?_⟩
          -- the turn's end, from a state behind h or the test
          have back : ∀ {W5 : Wd} {H5 : Hp}, Ev0 Γ W3 H3 W5 H5 → BS Γ X mcm AR D Wb Hb ρ3 σ3 W5 S2 H5 a2 → ∃ W' S' a, Ev0 Γ W H W' H5 ∧ BS Γ X mcm AR D Wb Hb ρ0 σ0 W' S' H5 a ∧ WnAc Γ X mcm AR D Wb Hb ρ0 σ0 W' H5 (mapT p (clauseM own g c h ρ) m (i + 1) a S') Q := fun {W5 H5} e5 b5 => by
            have e13 : Ev0 Γ W1 H1 W5 H5 := (e2.toEv0.trans e3.toEv0).trans e5
            refine ⟨W5, S2, a2, e1.trans e13, ⟨b5.e, Rel.rewind b1.R.re b5.R e13 fun i k hik => sb.2 i fun z => hmc i k hik (hts i z), b5.bD, b5.ar⟩, WnAc.shift w2 e13⟩
          cases hc : c ρ3 S3 with
          | exc c fs S4 => rw [hc] at hr; cases hr
          | bad => rw [hc] at hr; cases hr
          | ok t S4 =>
            rw [hc] at hr
            have hr : (if t then h ρ3 a1 S4 else .ok a1 S4) = .ok a2 S2 := hr
            intro W4 H4 e4 R4
            have b4 := b3.ev hA e4 R4
            cases t with
            | true =>
              rw [if_pos rfl] at hr
              simp only [if_true]
              refine ⟨W4, ρ3, S4, a1, b4, ?_⟩
              rw [hr]
              exact fun W5 H5 e5 b5 => back (e4.toEv0.trans e5) b5
            | false =>
              rw [if_neg Bool.false_ne_true] at hr
              simp only [Bool.false_eq_true, if_false]
              cases hr
              exact back e4.toEv0 b4
end
end Mini
namespace Mini
open PySem PySem.Spec PyProof.Rows L2
section
variable {Γ : Gm} {X : Cx} {mcm : List (Nat × Nat)} {α : Type} {AR : α → Wd → Hp → Prop} {D : Addr} {Wb : Wd} {Hb : Hp} {ρ ρ0 : Env} {σ σ0 : L2.St} {W W' : Wd} {S S' : Store} {H H' : Hp} {own : List Nat}
theorem wipe_at {i : Nat} : ∀ {vs : List Nat}, i ∉ vs → (Mini.wipe ρ vs)[i]? = ρ[i]?
  | [], _ => rfl
  | v :: vs, h => by
    unfold Mini.wipe
    rw [List.getElem?_set_ne (fun e => h (by rw [e]; exact List.mem_cons_self)), wipe_at fun m => h (List.mem_cons_of_mem _ m)]
theorem wipe_in {i : Nat} {m : MV} : ∀ {vs : List Nat}, (Mini.wipe ρ vs)[i]? = some (some m) → i ∉ vs
  | [], _ => by simp
  | v :: vs, h => by
    unfold Mini.wipe at h
    by_cases e : v = i
    · subst e
      by_cases hv : v < (Mini.wipe ρ vs).length
      · rw [List.getElem?_set_self hv] at h; cases h
      · rw [List.getElem?_eq_none (by simpa using hv)] at h; cases h
    · rw [List.getElem?_set_ne e] at h
      simp only [List.mem_cons, not_or]
      exact ⟨fun z => e z.symm, wipe_in h⟩
theorem wipe_len : ∀ vs : List Nat, (Mini.wipe ρ vs).length = ρ.length
  | [] => rfl
  | v :: vs => by unfold Mini.wipe; rw [List.length_set, wipe_len vs]
theorem RE.wiped (h : RE Γ X mcm ρ σ W S H) (hmc : ∀ i k, (i, k) ∈ mcm → i ∉ own) : RE Γ X mcm (Mini.wipe ρ own) (L2.wipe σ own) W S H := by
  refine ⟨by rw [wipe_len, wipe_length]; exact h.len, fun i mv h1 h2 => ?_, fun i k h1 => ?_, h.cfz⟩
  · have hi := wipe_in h2
    rw [wipe_at hi] at h2
    rw [wipe_out hi]
    exact h.var i mv h1 h2
  · have hi := hmc i k h1
    rw [wipe_at hi, wipe_out hi]
    exact h.cel i k h1
theorem Rel.wiped (R : Rel Γ X mcm ρ σ W S H) (hmc : ∀ i k, (i, k) ∈ mcm → i ∉ own) : Rel Γ X mcm (Mini.wipe ρ own) (L2.wipe σ own) W S H := by
  refine ⟨R.rs.crel fun k v c ov _ _ q => ?_, R.re.wiped hmc⟩
  rcases q with ⟨i, k', y, h1, h2, h3, h4, h5, h6⟩ | q
  · exact .inl ⟨i, k', y, h1, h2, h3, h4, h5, fun u hu => by rw [wipe_out (hmc i k' h1)]; exact h6 u hu⟩
  · exact .inr q
theorem wipe_idem (vs : List Nat) : L2.wipe (L2.wipe σ vs) vs = L2.wipe σ vs := by
  apply List.ext_getElem?
  intro j
  by_cases hj : j ∈ vs
  · have w : ∀ (τ : L2.St), ∀ v, (L2.wipe τ vs)[j]? ≠ some (some v) := fun τ v q => (wipe_some q).2 hj
    have l1 : (L2.wipe (L2.wipe σ vs) vs).length = (L2.wipe σ vs).length := wipe_length _ _
    cases q1 : (L2.wipe (L2.wipe σ vs) vs)[j]? with
    | none =>
      rw [List.getElem?_eq_none_iff] at q1
      symm
      rw [List.getElem?_eq_none_iff]
      omega
    | some o1 =>
      cases q2 : (L2.wipe σ vs)[j]? with
      | none =>
        rw [List.getElem?_eq_none_iff] at q2
        have := (List.getElem?_eq_some_iff.mp q1).1
        omega
      | some o2 =>
        cases o1 with
        | some v => exact absurd q1 (w _ v)
        | none =>
          cases o2 with
          | some v => exact absurd q2 (w _ v)
          | none => rfl
  · rw [wipe_out hj]
theorem map_plan {p : Plan} (h : notDk p) (f : MV → α → Store → Res α) (a : α) (S : Store) : ∃ n, mapPlan p f a S = mapT p f n 0 a S := by
  cases p with
  | dk l vs => exact h.elim
  | fx vs => exact ⟨_, map_fix vs 0 a S rfl⟩
  | lv l => exact ⟨_, map_live (fun vs z => by cases z) fuel 0 a S⟩
  | en s => exact ⟨_, map_live (fun vs z => by cases z) fuel 0 a S⟩
  | zp s t => exact ⟨_, map_live (fun vs z => by cases z) fuel 0 a S⟩
/-- the same run wanted from other names -/
theorem WnAc.names {r : Res α} {Q : Hp → Prop} (w : WnAc Γ X mcm AR D Wb Hb ρ σ W H r Q) (R0 : RE Γ X mcm ρ σ W S H) (hs : ∀ i k, (i, k) ∈ mcm → σ0[i]? = σ[i]?) : WnAc Γ X mcm AR D Wb Hb ρ0 σ0 W H r Q := by
  cases r with
  | ok a S => exact fun W2 H2 e2 b => w W2 H2 e2 ⟨b.e, Rel.rewind R0 b.R e2 hs, b.bD, b.ar⟩
  | exc c fs S => exact w
  | bad => exact w
/-- the next clause -/
theorem act_next {E : Expr} {d : Nat} {tg iter : Expr} {ifs : List Expr} {inner : Sem Fin → Sem Fin} {mi : Env → Store → Res Plan} {ts vs' : List Nat} {g : MV → Env → Store → Res Env} {c : Env → Store → Res Bool} {h : Env → α → Store → Res α}
    (hA : AccOk Γ D AR) (C : CompE X.prog X.w X.A E d (.ref D) X.env tg iter ifs inner) (hx : X.xe = fun _ _ => False) (hc : X.calm = true) (hi : PI X tg iter (tI Γ X mcm noX mi)) (pg : PG X tg (tG Γ X mcm ts g)) (pt : PTs X ifs (tT Γ X mcm noX c)) (pa : PAct X inner (tAc Γ X mcm AR D Wb Hb h) vs')
    (hv : ∀ i ∈ vs', i ∈ own) (hts : ∀ i ∈ ts, i ∈ own) (hmc : ∀ i k, (i, k) ∈ mcm → i ∉ own) (hs : ∀ x, foldedSetIterable iter X.env x = pure x) :
    PAct X (nextC E d iter (.ref D) X.env) (tAc Γ X mcm AR D Wb Hb fun ρ a S => (mi ρ S).bind fun p S => mapPlan p (clauseM own g c h ρ) a S) own := by
  refine PAct.imp (pact_next (vs := own) C hx hc hi pg pt pa hv hs) fun σ H Q hw => ?_
  obtain ⟨W, ρ, S, a, b, w⟩ := hw
  refine ⟨W, ρ, S, b.R, (WnAc.bindW w).mono (fun p S1 W1 H1 _ e1 R1 q Rq J hJ => ?_) fun _ _ _ z => z.elim⟩
  have b1 := b.ev hA e1 Rq
  obtain ⟨n, hn⟩ := map_plan hJ.1 (clauseM own g c h ρ) a S1
  rw [hn] at q
  refine clause_ok (ρ := ρ) hA hts hmc (wipe_idem own) rfl hJ Rq.evr.toEv0 ⟨b1.e, Rq.wiped hmc, b1.bD, b1.ar⟩ (q.names Rq.re fun i k hik => wipe_out (hmc i k hik))
theorem cellX_in {s3 : Shared} {H3 : Hp} {pins : List (Addr × Obj)} {fp : List Addr} {scope : Scope} {ce : PySem.Env} {c : Addr} {ov : Option V} {τ : L2.St} (I : L2.Inv X pins σ H3 s3) (hfp : ∀ b ∈ fp, FpOk X pins H3 b) (h : CellX X mcm σ c ov) : CellX (X.blk s3 H3 scope ce fp) mcm τ c ov := by
  have nloc : ∀ {v}, s3.heap.IsCell c v → c ≠ X.env.locals := fun {v} hc z => by
    obtain ⟨o, ho, hd⟩ := hc
    obtain ⟨m, hn, _⟩ := I.loc
    obtain ⟨o', es, ep, ho', r⟩ := hn
    rw [z, ho'] at ho
    cases ho
    rw [r.1] at hd
    cases hd
  rcases h with ⟨i, k, y, h1, h2, h3, h4, h5, h6⟩ | ⟨h1, h2, h3, ou, h4, h5⟩
  · obtain ⟨v0, hc0⟩ := I.cell y c h3
    refine .inr ⟨I.freeC y c h3, fun z => ?_, fun z => (hfp c z).2.2.2.2.1 y c h3 rfl, ?_⟩
    · rcases List.mem_cons.mp (I.stkSub c z) with z | z
      · exact nloc hc0 z
      · exact h4 z
    · cases ov with
      | none => exact ⟨v0, hc0, fun v z => nomatch z⟩
      | some v =>
        have hv := h6 v rfl
        obtain ⟨m, hn, hl⟩ := I.loc
        obtain ⟨u, r, lk⟩ := hl i y v h2 hv (h5.elim (fun z => .inr (.inl z)) (fun z => .inr (.inr z)))
        rcases lk with ⟨lk, _⟩ | ⟨_, c', e', hc'⟩
        · have lk : X.env.scope.names.lookup y = some .local := lk
          rcases h5 with z | z <;> (rw [z] at lk; cases lk)
        · rw [h3] at e'
          cases e'
          exact ⟨some u, hc', fun v' z => by cases z; exact ⟨u, rfl, r⟩⟩
  · obtain ⟨o, ho, hd⟩ := h4
    have k1 := I.base.keep c o ho h1 h2 h3
    have hc : s3.heap.IsCell c ou := ⟨o, k1, hd⟩
    refine .inr ⟨I.base.free c o ho h1 h3, fun z => ?_, fun z => ?_, ou, hc, h5⟩
    · rcases List.mem_cons.mp (I.stkSub c z) with z | z
      · exact nloc hc z
      · exact h2 z
    · rcases (hfp c z).2.2.2.1 with q | q
      · exact h3 q
      · exact absurd (Heap.lt_size ho) (Nat.not_lt.mpr q)
theorem blk_cells {scope : Scope} {own' : List (Str × Nat)} {n : Nat} {y : Str} {c : Addr} {i : Nat} (ok : BlkOk X.N X.env.scope scope own') (hN : X.N.Nodup) (hi : X.N[i]? = some y) (ho : i ∉ own'.map (·.2)) (e : (cellsFrom n scope.names (cloFrom X.env.cells scope.names [])).lookup y = some c)
    (hl : ∀ h : Heap, h.objs.size = n → True) (hhas : ∀ z ∈ scope.names, z.2 = .free → ∃ c, X.env.cells.lookup z.1 = some c) (hh : ∃ h : Heap, h.objs.size = n) : X.env.cells.lookup y = some c ∧ (X.env.scope.names.lookup y = some .cell ∨ X.env.scope.names.lookup y = some .free) := by
  obtain ⟨h, rfl⟩ := hh
  rcases cells_mem (PySem.mem_of_lookup e) with hm | ⟨h1, _, _⟩
  · rcases cloFrom_mem hm with hm | ⟨h1, rfl⟩
    · cases hm
    · obtain ⟨c, hc⟩ := hhas _ h1 rfl
      refine ⟨by rw [hc]; rfl, ok.free _ h1 rfl⟩
  · rcases ok.own _ h1 (.inr rfl) with e' | e'
    · obtain ⟨p, hp, hpy⟩ := List.mem_map.mp e'
      have e3 := ok.ix p hp
      have hpy : p.1 = y := hpy
      rw [hpy] at e3
      exact absurd (List.mem_map.mpr ⟨p, hp, nodup_ix hN e3 hi⟩) ho
    · exact absurd (List.mem_of_getElem? hi) e'
end
end Mini
namespace Mini
open PySem PySem.Spec PyProof.Rows L2
section
variable {Γ : Gm} {X : Cx} {mcm : List (Nat × Nat)} {D : Addr} {ρ ρ0 : Env} {σ σ0 : L2.St} {W W1 W2 : Wd} {S S1 S2 : Store} {H H1 H2 : Hp}
/-- the block's context -/
abbrev Cx.bk (X : Cx) (s3 : Shared) (H3 : Hp) (scope : Scope) (fp : List Addr) : Cx := X.blk s3 H3 scope (compEnvC scope (cellsFrom (s3.heap.objs.size + 1) scope.names (cloFrom X.env.cells scope.names [])) s3.heap.objs.size X.env) fp
theorem isCell_eq {h : Heap} {c : Addr} {u v : Option Value} (h1 : h.IsCell c u) (h2 : h.IsCell c v) : u = v := by
  obtain ⟨o, e1, d1⟩ := h1
  obtain ⟨o', e2, d2⟩ := h2
  rw [e1] at e2
  cases e2
  rw [d1] at d2
  cases d2
  rfl
theorem hasFree {pins : List (Addr × Obj)} {s : Shared} {scope : Scope} {own : List (Str × Nat)} (I : L2.Inv X pins σ H s) (ok : BlkOk X.N X.env.scope scope own) : ∀ z ∈ scope.names, z.2 = .free → ∃ c, X.env.cells.lookup z.1 = some c := fun y hy e => by
  rcases ok.free y hy e with k | k
  · exact I.ok.has _ (.inl k)
  · exact I.ok.has _ (.inr k)
theorem heap_of (n : Nat) : ∃ h : Heap, h.objs.size = n := by
  induction n with
  | zero => exact ⟨{ (default : Heap) with objs := #[] }, rfl⟩
  | succ n ih =>
    obtain ⟨h, e⟩ := ih
    exact ⟨h.push { cls := .none }, by rw [Heap.size_push, e]⟩
theorem blk_start {pins : List (Addr × Obj)} {s3 : Shared} {scope : Scope} {own : List (Str × Nat)} {fp : List Addr} {o : HO} (I : L2.Inv X pins σ (upd H D o) s3) (hfp : ∀ b ∈ fp, FpOk X pins (upd H D o) b) (ok : BlkOk X.N X.env.scope scope own) (hN : X.N.Nodup)
    (hmc : ∀ i k, (i, k) ∈ mcm → i ∉ own.map (·.2)) (hD : H D = none) (nt : ∀ ps, o ≠ .tbl ps) (R : Rel Γ X mcm ρ σ W S H) :
    Rel Γ (Cx.bk X s3 (upd H D o) scope fp) mcm (Mini.wipe ρ (own.map (·.2))) (L2.wipe σ (own.map (·.2))) (W.ban D) S (upd H D o) := by
  have e : Ev Γ W H (W.ban D) (upd H D o) := Ev.ban R.rs.fin hD
  have rb := R.rs.ban hD nt
  refine ⟨rb.crel fun k v c ov _ _ q => cellX_in I hfp q, ?_⟩
  have rw' := (RE.mono0 R.re e.toEv0 R.rs.n (S' := S) fun _ _ _ _ q => ⟨q, rfl⟩).wiped (own := own.map (·.2)) hmc
  refine ⟨rw'.len, rw'.var, fun i k hik => ?_, rw'.cfz⟩
  obtain ⟨q1, ov, q2, q3, q4⟩ := rw'.cel i k hik
  refine ⟨q1, ov, q2, fun y c hy hc => ?_, q4⟩
  have hc : (cellsFrom (s3.heap.objs.size + 1) scope.names (cloFrom X.env.cells scope.names [])).lookup y = some c := hc
  exact q3 y c hy (blk_cells ok hN hy (hmc i k hik) hc (fun _ _ => trivial) (hasFree I ok) (heap_of _)).1
theorem blk_back {pins : List (Addr × Obj)} {s3 : Shared} {H3 : Hp} {scope : Scope} {own : List (Str × Nat)} {fp : List Addr} (I : L2.Inv X pins σ H3 s3) (ok : BlkOk X.N X.env.scope scope own) (hN : X.N.Nodup) (hmc : ∀ i k, (i, k) ∈ mcm → i ∉ own.map (·.2))
    (R1 : Rel Γ X mcm ρ σ W1 S1 H1) (e : Ev0 Γ W1 H1 W2 H2) (R2 : Rel Γ (Cx.bk X s3 H3 scope fp) mcm (Mini.wipe ρ (own.map (·.2))) (L2.wipe σ (own.map (·.2))) W2 S2 H2) : Rel Γ X mcm ρ σ W2 S2 H2 := by
  have sl : ∀ i k, (i, k) ∈ mcm → (L2.wipe σ (own.map (·.2)))[i]? = σ[i]? := fun i k h => wipe_out (hmc i k h)
  refine ⟨⟨R2.rs.n, R2.rs.vnone, R2.rs.knone, R2.rs.obj, R2.rs.live, R2.rs.inj, fun k v hk => ?_, R2.rs.kdead, R2.rs.kinj, R2.rs.bd, R2.rs.tab, R2.rs.fz⟩, R1.re.len, fun i mv h1 h2 => let ⟨v, q1, q2⟩ := R1.re.var i mv h1 h2; ⟨v, q1, e.rv _ _ q2⟩, fun i k hik => ?_, R2.re.cfz⟩
  · obtain ⟨c, ov2, z1, z2, z3⟩ := R2.rs.cel k v hk
    have hlt : k < W1.n := by
      by_cases q : k < W1.n
      · exact q
      · rw [e.newk k (by omega)] at z1; cases z1
    have k1 : W1.κ k = some c := by
      rcases e.oldk k hlt with q | q
      · rw [q] at z1; cases z1
      · rw [← q]; exact z1
    obtain ⟨v1, hv1⟩ := R1.rs.kdead k c k1
    obtain ⟨c1, ov1, y1, y2, _⟩ := R1.rs.cel k v1 hv1
    rw [k1] at y1
    cases y1
    rcases y2 with ⟨i, k', y, h1, h2, h3, h4, h5, h6⟩ | ⟨h1, h2, h3, ou, h4, h5⟩
    · obtain ⟨_, _, _, p3, _⟩ := R1.re.cel i k' h1
      have ek : k' = k := R1.rs.kinj k' k c (p3 y c h2 h3) k1
      subst ek
      obtain ⟨_, ov', p2, _, p4⟩ := R2.re.cel i k' h1
      rw [hk] at p2
      cases p2
      cases v with
      | none => exact ⟨c, none, z1, .inl ⟨i, k', y, h1, h2, h3, h4, h5, fun _ z => nomatch z⟩, fun _ z => nomatch z⟩
      | some mv =>
        obtain ⟨x, q1, q2⟩ := p4 mv rfl
        rw [sl i k' h1] at q1
        exact ⟨c, some x, z1, .inl ⟨i, k', y, h1, h2, h3, h4, h5, fun u z => by cases z; exact q1⟩, fun m z => by cases z; exact ⟨x, rfl, q2⟩⟩
    · refine ⟨c, ov2, z1, ?_, z3⟩
      rcases z2 with ⟨i, k', y, g1, g2, g3, g4, g5, g6⟩ | ⟨g1, g2, g3, ou2, g4, g5⟩
      · have g3 : (cellsFrom (s3.heap.objs.size + 1) scope.names (cloFrom X.env.cells scope.names [])).lookup y = some c := g3
        obtain ⟨q1, q2⟩ := blk_cells ok hN g2 (hmc i k' g1) g3 (fun _ _ => trivial) (hasFree I ok) (heap_of _)
        exact .inl ⟨i, k', y, g1, g2, q1, h2, q2, fun u z => by rw [← sl i k' g1]; exact g6 u z⟩
      · refine .inr ⟨h1, h2, h3, ou, h4, ?_⟩
        obtain ⟨o, ho, hd⟩ := h4
        have := isCell_eq g4 ⟨o, I.base.keep c o ho h1 h2 h3, hd⟩
        rw [← this]
        exact g5
  · obtain ⟨q1, _, _, q3, _⟩ := R1.re.cel i k hik
    obtain ⟨_, ov, p2, _, p4⟩ := R2.re.cel i k hik
    refine ⟨q1, ov, p2, fun y c hy hc => ?_, fun mv hm => by rw [← sl i k hik]; exact p4 mv hm⟩
    have k1 := q3 y c hy hc
    have hlt : k < W1.n := by
      by_cases q : k < W1.n
      · exact q
      · rw [R1.rs.knone k (by rw [← R1.rs.n]; omega)] at k1; cases k1
    obtain ⟨c2, _, z1, _⟩ := R2.rs.cel k ov p2
    rcases e.oldk k hlt with q | q
    · rw [q] at z1; cases z1
    · rw [q]; exact k1
theorem Ev.back (e : Ev Γ W1 H1 W2 H2) : Ev Γ W1 H1 (W2.lift W1.B) H2 :=
  ⟨⟨fun _ _ h => h, e.n, e.old, e.oldk, e.new, e.kp, e.tup, e.frt, e.sta, e.newk, e.fz⟩, fun _ h => h, e.kb⟩
theorem Ev.backAdd (e : Ev Γ W1 H1 W2 H2) (hD : H1 D = none) : Ev Γ W1 H1 ((W2.lift W1.B).add D) H2 := by
  refine ⟨⟨fun _ _ h => h, Nat.le_succ_of_le e.n, fun i hi => ?_, e.oldk, fun i a h1 h2 => ?_, e.kp, e.tup, e.frt, e.sta, e.newk, e.fz⟩, fun _ h => h, e.kb⟩
  · rw [show ((W2.lift W1.B).add D).ν i = W2.ν i from add_lt (W := W2.lift W1.B) (Nat.lt_of_lt_of_le hi e.n)]
    exact e.old i hi
  · by_cases z : i = W2.n
    · subst z
      rw [show ((W2.lift W1.B).add D).ν W2.n = some D from add_at (W := W2.lift W1.B)] at h2
      cases h2
      exact .inl hD
    · have h2 : (if i = W2.n then some D else W2.ν i) = some a := h2
      rw [if_neg z] at h2
      exact e.new i a h1 h2
theorem Ev0.adopt {B : Addr → Prop} (hn : W.Fin) (hB : ∀ a, B a → W.B a) (bD : W.B D) : Ev0 Γ W H ((W.lift B).add D) H := by
  refine ⟨fun a _ h => hB a h, Nat.le_succ _, fun i hi => .inr (add_lt (W := W.lift B) hi), fun _ _ => .inr rfl, fun i a h1 h2 => ?_, fun _ _ h _ _ _ => h, fun _ _ h => h, fun _ _ _ h => h, fun a o h z => (by rw [h] at z; cases z), hn.2, rfl⟩
  by_cases z : i = W.n
  · subst z
    rw [show ((W.lift B).add D).ν W.n = some D from add_at (W := W.lift B)] at h2
    cases h2
    exact .inr bD
  · have h2 : (if i = W.n then some D else W.ν i) = some a := h2
    rw [if_neg z, hn.1 i h1] at h2
    cases h2
theorem RS.adopt {CRel : Addr → Option V → Prop} {B : Addr → Prop} (h : RS Γ CRel W S H) (hB : ∀ a, B a → W.B a) (bD : W.B D) (nB : ¬ B D) {o : MO} (ho : RO Γ ((W.lift B).add D) H o D) : RS Γ CRel ((W.lift B).add D) (S ++ [o]) H := by
  have e : Ev0 Γ W H ((W.lift B).add D) H := Ev0.adopt h.fin hB bD
  have nD : ∀ i, W.ν i ≠ some D := (h.bd D bD).2
  have nc : ∀ v, o ≠ .cell v := fun v z => by rw [z] at ho; exact ho
  have nd : o ≠ .dead := fun z => by rw [z] at ho; exact ho
  have lt : ∀ {i}, i < W.n → ((W.lift B).add D).ν i = W.ν i := fun {i} q => add_lt (W := W.lift B) q
  have at' : ((W.lift B).add D).ν W.n = some D := add_at (W := W.lift B)
  have gt : ∀ {i}, W.n < i → ((W.lift B).add D).ν i = W.ν i := fun {i} q => add_gt (W := W.lift B) q
  have ne : ∀ {i}, i ≠ W.n → ((W.lift B).add D).ν i = W.ν i := fun {i} z => by
    rcases Nat.lt_or_gt_of_ne z with q | q
    · exact lt q
    · exact gt q
  have hat : ∀ {i : Nat} {o' : MO}, (S ++ [o])[i]? = some o' → (i < W.n ∧ S[i]? = some o') ∨ (i = W.n ∧ o' = o) := fun {i o'} q => by
    by_cases hi : i < S.length
    · rw [List.getElem?_append_left hi] at q
      exact .inl ⟨by rw [h.n]; exact hi, q⟩
    · rw [List.getElem?_append_right (by omega)] at q
      cases z : i - S.length with
      | zero =>
        rw [z] at q
        exact .inr ⟨by rw [h.n]; omega, (Option.some.inj q).symm⟩
      | succ m => rw [z] at q; cases q
  refine ⟨?_, fun i hi => ?_, fun i hi => ?_, fun i o' a e1 e2 => ?_, fun i o' e1 e2 => ?_, fun i j a e1 e2 => ?_, fun i v e1 => ?_, fun i c e1 => ?_, h.kinj, fun a ha => ?_, h.tab, fun i v e => by
    have q := h.fz i v e
    rw [List.getElem?_append_left (List.getElem?_eq_some_iff.mp q).1]; exact q⟩
  · show W.n + 1 = _
    rw [List.length_append, h.n]; rfl
  · rw [List.length_append] at hi
    have hi : S.length + 1 ≤ i := hi
    rw [gt (by rw [h.n]; omega)]
    exact h.vnone i (by omega)
  · rw [List.length_append] at hi
    have hi : S.length + 1 ≤ i := hi
    exact h.knone i (by omega)
  · rcases hat e1 with ⟨h1, h2⟩ | ⟨h1, h2⟩
    · rw [lt h1] at e2
      exact RO.mono0 e rfl (fun c u hc _ => hc) (h.obj i o' a h2 e2)
    · rw [h1, at'] at e2
      cases e2
      rw [h2]; exact ho
  · rcases hat e1 with ⟨h1, h2⟩ | ⟨h1, h2⟩
    · rw [lt h1] at e2
      exact h.live i o' h2 e2
    · rw [h1, at'] at e2; cases e2
  · by_cases hi : i = W.n
    · by_cases hj : j = W.n
      · rw [hi, hj]
      · rw [hi, at'] at e1
        cases e1
        rw [ne hj] at e2
        exact absurd e2 (nD j)
    · rw [ne hi] at e1
      by_cases hj : j = W.n
      · rw [hj, at'] at e2
        cases e2
        exact absurd e1 (nD i)
      · rw [ne hj] at e2
        exact h.inj i j a e1 e2
  · rcases hat e1 with ⟨h1, h2⟩ | ⟨h1, h2⟩
    · obtain ⟨c, ov, q1, q2, q3⟩ := h.cel i v h2
      exact ⟨c, ov, q1, q2, fun mv hm => let ⟨x, z1, z2⟩ := q3 mv hm; ⟨x, z1, e.rv _ _ z2⟩⟩
    · exact absurd h2.symm (nc v)
  · obtain ⟨v, hv'⟩ := h.kdead i c e1
    have hi : i < S.length := (List.getElem?_eq_some_iff.mp hv').1
    exact ⟨v, by rw [List.getElem?_append_left hi]; exact hv'⟩
  · obtain ⟨q1, q3⟩ := h.bd a (hB a ha)
    refine ⟨q1, fun i hi => ?_⟩
    by_cases z : i = W.n
    · rw [z, at'] at hi
      cases hi
      exact nB ha
    · rw [ne z] at hi; exact q3 i hi
theorem not_banned (R : Rel Γ X mcm ρ σ W S H) (hD : H D = none) : ¬ W.B D := fun z => by
  obtain ⟨⟨o, q, _⟩, _⟩ := R.rs.bd D z
  rw [hD] at q; cases q
theorem Rel.adopt (R1 : Rel Γ X mcm ρ σ W1 S1 H1) (hD : H1 D = none) (e : Ev Γ W1 H1 W2 H2) (R2 : Rel Γ X mcm ρ σ W2 S2 H2) (bD : W2.B D) {o : MO} (ho : RO Γ ((W2.lift W1.B).add D) H2 o D) :
    Ev Γ W1 H1 ((W2.lift W1.B).add D) H2 ∧ Rel Γ X mcm ρ σ ((W2.lift W1.B).add D) (S2 ++ [o]) H2 ∧ RV Γ ((W2.lift W1.B).add D) H2 (.loc S2.length) (.ref D) := by
  have e0 : Ev0 Γ W2 H2 ((W2.lift W1.B).add D) H2 := Ev0.adopt R2.rs.fin e.b bD
  refine ⟨e.backAdd hD, ⟨R2.rs.adopt e.b bD (not_banned R1 hD) ho, RE.mono0 R2.re e0 R2.rs.n fun i k ov _ q => ⟨by
    rw [List.getElem?_append_left (List.getElem?_eq_some_iff.mp q).1]; exact q, rfl⟩⟩, D, rfl, ?_, .inr ?_⟩
  · show _ < W2.n + 1
    rw [R2.rs.n]; exact Nat.lt_succ_self _
  · rw [← R2.rs.n]; exact add_at (W := W2.lift W1.B)
theorem fin_list {W0 : WX} {Q : VK} {k : Bool} {a : LA} (R1 : Rel Γ X mcm ρ σ W1 S1 H1) (hD : H1 D = none) (e : Ev Γ W1 H1 W2 H2) (R2 : Rel Γ X mcm ρ σ W2 S2 H2) (bD : W2.B D) (ar : LAr Γ D a W2 H2)
    (w : WnE Γ X mcm W0 ρ σ W1 H1 (mkL k a.2.reverse S2) Q) : Q (.ref D) H2 := by
  obtain ⟨_, xs, h1, h2⟩ := ar
  unfold mkL at w
  split at w
  · split at w
    · have e0 : Ev0 Γ W2 H2 ((W2.lift W1.B).add D) H2 := Ev0.adopt R2.rs.fin e.b bD
      obtain ⟨e3, R3, rv⟩ := R1.adopt hD e R2 bD (o := .lst a.2.reverse) ⟨xs, h1, e0.rvs _ _ h2⟩
      exact w _ _ e3 R3 _ rv
    · rename_i hk
      have hpure : a.2.reverse.all pureV = true := by
        cases z : a.2.reverse.all pureV with
        | true => rfl
        | false => rw [z] at hk; simp at hk
      have e0 : Ev0 Γ W2 H2 (W2.lift W1.B) H2 := Ev0.lift R2.rs.fin e.b
      refine w _ _ e.back ⟨R2.rs.lift e.b, RE.mono0 R2.re e0 R2.rs.n fun _ _ _ _ q => ⟨q, rfl⟩⟩ _ ⟨D, xs, rfl, h1, ⟨show ¬ W1.B D from not_banned R1 hD, (R2.rs.bd D bD).2⟩, e0.rps (RPs.of_pure hpure h2)⟩
  · exact w.elim
theorem fin_dict {W0 : WX} {Q : VK} {o : MO} (R1 : Rel Γ X mcm ρ σ W1 S1 H1) (hD : H1 D = none) (e : Ev Γ W1 H1 W2 H2) (R2 : Rel Γ X mcm ρ σ W2 S2 H2) (bD : W2.B D) (ar : DAr Γ D o W2 H2)
    (w : WnE Γ X mcm W0 ρ σ W1 H1 (.ok (.loc S2.length) (S2 ++ [o])) Q) : Q (.ref D) H2 := by
  have e0 : Ev0 Γ W2 H2 ((W2.lift W1.B).add D) H2 := Ev0.adopt R2.rs.fin e.b bD
  obtain ⟨e3, R3, rv⟩ := R1.adopt hD e R2 bD (RO.mono0 e0 rfl (fun c u hc _ => hc) ar.2)
  exact w _ _ e3 R3 _ rv
end
end Mini
namespace Mini
open PySem PySem.Spec PyProof.Rows L2
section
variable {Γ : Gm} {X : Cx} {mcm : List (Nat × Nat)} {α : Type} {ρ : Env} {σ : L2.St} {W1 : Wd} {S1 : Store} {H1 : Hp} {W0 : WX}
theorem mapT_noexc {p : Plan} {f : MV → α → Store → Res α} : ∀ {n i : Nat} {a : α} {S : Store} {c : Nat} {fs : Flds} {S' : Store}, mapT p f n i a S ≠ .exc c fs S'
  | 0, _, _, _, _, _, _ => fun z => by cases z
  | n + 1, i, a, S, c, fs, S' => fun z => by
    unfold mapT at z
    cases h : pAt p i S with
    | none => rw [h] at z; cases z
    | some o =>
      rw [h] at z
      cases o with
      | none => cases z
      | some v =>
        dsimp only at z
        cases hr : f v a S with
        | ok a2 S2 =>
          rw [hr] at z
          exact mapT_noexc z
        | exc c fs S2 => rw [hr] at z; cases z
        | bad => rw [hr] at z; cases z
theorem ask_ok {E tg iter : Expr} {ifs : List Expr} {scope : Scope} {own : List (Str × Nat)} {acc0 : HO} {AR : Addr → α → Wd → Hp → Prop} {a0 a : α} {S2 : Store} {Q : VK} {J : It} {p : Plan} {ts : List Nat} {g : MV → Env → Store → Res Env} {c : Env → Store → Res Bool} {h : Env → α → Store → Res α}
    (hA : ∀ D, AccOk Γ D (AR D)) (nt : ∀ ps, acc0 ≠ .tbl ps) (h0 : ∀ D W H, AR D a0 W (upd H D acc0)) (ok : BlkOk X.N X.env.scope scope own) (hN : X.N.Nodup) (hts : ∀ i ∈ ts, i ∈ own.map (·.2)) (hmc : ∀ i k, (i, k) ∈ mcm → i ∉ own.map (·.2))
    (blk : ∀ D, H1 D = none → ∀ s3 H3 fp, ∃ inner vs', CompE X.prog X.w X.A E 0 (.ref D) (Cx.bk X s3 H3 scope fp).env tg iter ifs inner ∧ PG (Cx.bk X s3 H3 scope fp) tg (tG Γ (Cx.bk X s3 H3 scope fp) mcm ts g) ∧
      PTs (Cx.bk X s3 H3 scope fp) ifs (tT Γ (Cx.bk X s3 H3 scope fp) mcm noX c) ∧ PAct (Cx.bk X s3 H3 scope fp) inner (tAc Γ (Cx.bk X s3 H3 scope fp) mcm (AR D) D W1 H1 h) vs' ∧ ∀ i ∈ vs', i ∈ own.map (·.2))
    (R1 : Rel Γ X mcm ρ σ W1 S1 H1) (hJ : PlanR Γ p J W1 H1) (hr : mapPlan p (clauseM (own.map (·.2)) g c h ρ) a0 S1 = .ok a S2)
    (fin : ∀ D W2 H2, H1 D = none → Ev Γ W1 H1 W2 H2 → Rel Γ X mcm ρ σ W2 S2 H2 → W2.B D → AR D a W2 H2 → Q (.ref D) H2) :
    BlkAsk X E tg iter ifs scope own acc0 σ Q J H1 := by
  intro D hD pins s3 fp I hfp
  obtain ⟨inner, vs', C, pg, pt, pa, hv⟩ := blk D hD s3 (upd H1 D acc0) fp
  refine ⟨inner, _, _, _, vs', C, pg, pt, pa, hv, ?_⟩
  obtain ⟨n, hn⟩ := map_plan hJ.1 (clauseM (own.map (·.2)) g c h ρ) a0 S1
  have e : Ev Γ W1 H1 (W1.ban D) (upd H1 D acc0) := Ev.ban R1.rs.fin hD
  refine clause_ok (n := n) (ρ := ρ) (hA D) hts hmc (wipe_idem _) rfl hJ e.toEv0 ⟨e, blk_start I hfp ok hN hmc hD nt R1, .inr rfl, h0 D _ _⟩ ?_
  rw [← hn, hr]
  exact fun W2 H2 e2 b2 => fin D W2 H2 hD b2.e (blk_back I ok hN hmc R1 b2.e.toEv0 b2.R) b2.bD b2.ar
/-- from a run to the block -/
theorem comp_key {E tg iter : Expr} {ifs : List Expr} {scope : Scope} {own : List (Str × Nat)} {acc0 : HO} {AR : Addr → α → Wd → Hp → Prop} {a0 : α} {mi : Env → Store → Res Plan} {ts : List Nat} {g : MV → Env → Store → Res Env} {c : Env → Store → Res Bool} {h : Env → α → Store → Res α} {fin' : α → Store → Res MV}
    (hA : ∀ D, AccOk Γ D (AR D)) (nt : ∀ ps, acc0 ≠ .tbl ps) (h0 : ∀ D W H, AR D a0 W (upd H D acc0)) (ok : BlkOk X.N X.env.scope scope own) (hN : X.N.Nodup) (hts : ∀ i ∈ ts, i ∈ own.map (·.2)) (hmc : ∀ i k, (i, k) ∈ mcm → i ∉ own.map (·.2))
    (blk : ∀ (Wb : Wd) (Hb : Hp) D, Hb D = none → ∀ s3 H3 fp, ∃ inner vs', CompE X.prog X.w X.A E 0 (.ref D) (Cx.bk X s3 H3 scope fp).env tg iter ifs inner ∧ PG (Cx.bk X s3 H3 scope fp) tg (tG Γ (Cx.bk X s3 H3 scope fp) mcm ts g) ∧
      PTs (Cx.bk X s3 H3 scope fp) ifs (tT Γ (Cx.bk X s3 H3 scope fp) mcm noX c) ∧ PAct (Cx.bk X s3 H3 scope fp) inner (tAc Γ (Cx.bk X s3 H3 scope fp) mcm (AR D) D Wb Hb h) vs' ∧ ∀ i ∈ vs', i ∈ own.map (·.2))
    (hfin : ∀ ρ σ W1 S1 H1 D W2 S2 H2 a Q, Rel Γ X mcm ρ σ W1 S1 H1 → H1 D = none → Ev Γ W1 H1 W2 H2 → Rel Γ X mcm ρ σ W2 S2 H2 → W2.B D → AR D a W2 H2 → WnE Γ X mcm W0 ρ σ W1 H1 (fin' a S2) Q → Q (.ref D) H2) :
    ∀ σ H Q, tE Γ X mcm W0 (fun ρ S => (mi ρ S).bind fun p S => (mapPlan p (clauseM (own.map (·.2)) g c h ρ) a0 S).bind fin') σ H Q → tI Γ X mcm W0 mi σ H (BlkAsk X E tg iter ifs scope own acc0 σ Q) := by
  intro σ H Q hw
  obtain ⟨W, ρ, S, R, w⟩ := hw
  refine ⟨W, ρ, S, R, w.bind.mono (fun p S1 W1 H1 _ e1 R1 q Rq J hJ => ?_) fun _ _ _ z => z⟩
  obtain ⟨n, hn⟩ := map_plan hJ.1 (clauseM (own.map (·.2)) g c h ρ) a0 S1
  cases hr : mapPlan p (clauseM (own.map (·.2)) g c h ρ) a0 S1 with
  | ok a S2 =>
    rw [hr] at q
    exact ask_ok hA nt h0 ok hN hts hmc (blk W1 H1) Rq hJ hr fun D W2 H2 hD e2 R2 bD ar => hfin _ _ _ _ _ _ _ _ _ _ _ Rq hD e2 R2 bD ar q
  | exc cc fs S2 =>
    rw [hn] at hr
    exact absurd hr mapT_noexc
  | bad => rw [hr] at q; exact q.elim
end
section
variable {Γ : Gm} {X : Cx} {mcm : List (Nat × Nat)} {W0 : WX} {elt kx vx tg iter tg1 iter1 : Expr} {ifs ifs1 : List Expr} {scope : Scope} {own : List (Str × Nat)} {pos : Pos} {mi : Env → Store → Res Plan} {ts ts1 : List Nat} {g g1 : MV → Env → Store → Res Env} {c c1 : Env → Store → Res Bool} {me mk mv : EvM} {own1 : List Nat} {mi1 : Env → Store → Res Plan}
theorem initL (Γ : Gm) (D : Addr) (W : Wd) (H : Hp) : LAr Γ D (0, []) W (upd H D (.lst [])) := ⟨rfl, [], upd_same, rfl⟩
theorem initD (Γ : Gm) (D : Addr) (W : Wd) (H : Hp) : DAr Γ D (.dK false []) W (upd H D (.dK [])) := ⟨rfl, .inl ⟨[], upd_same, rfl, List.nodup_nil⟩⟩
/-- the block's own parts -/
structure BlkP (Γ : Gm) (X : Cx) (mcm : List (Nat × Nat)) (scope : Scope) (tg : Expr) (ifs : List Expr) (ts : List Nat) (g : MV → Env → Store → Res Env) (c : Env → Store → Res Bool) : Prop where
  pg : ∀ s3 H3 fp, PG (Cx.bk X s3 H3 scope fp) tg (tG Γ (Cx.bk X s3 H3 scope fp) mcm ts g)
  pt : ∀ s3 H3 fp, PTs (Cx.bk X s3 H3 scope fp) ifs (tT Γ (Cx.bk X s3 H3 scope fp) mcm noX c)
abbrev BlkE (Γ : Gm) (X : Cx) (mcm : List (Nat × Nat)) (scope : Scope) (e : Expr) (m : EvM) : Prop := ∀ s3 H3 fp, PE (Cx.bk X s3 H3 scope fp) e (tE Γ (Cx.bk X s3 H3 scope fp) mcm noX m)
theorem key_list1 (k : Bool) (ok : BlkOk X.N X.env.scope scope own) (hN : X.N.Nodup) (hts : ∀ i ∈ ts, i ∈ own.map (·.2)) (hmc : ∀ i k, (i, k) ∈ mcm → i ∉ own.map (·.2)) (bp : BlkP Γ X mcm scope tg ifs ts g c) (be : BlkE Γ X mcm scope elt me) :
    ∀ σ H Q, tE Γ X mcm W0 (fun ρ S => (mi ρ S).bind fun p S => (mapPlan p (clauseM (own.map (·.2)) g c (fun ρ a S => (me ρ S).bind fun y S => emitL a y S) ρ) (0, []) S).bind fun a S => mkL k a.2.reverse S) σ H Q →
      tI Γ X mcm W0 mi σ H (BlkAsk X (.ListComp elt [⟨tg, iter, ifs, 0⟩] scope pos) tg iter ifs scope own (.lst []) σ Q) :=
  comp_key (AR := LAr Γ) (fun D => accL) (fun _ z => nomatch z) (initL Γ) ok hN hts hmc (fun Wb Hb D hb s3 H3 fp => ⟨_, [], compE_list1 _ _ _ _, bp.pg s3 H3 fp, bp.pt s3 H3 fp, act_app rfl hb (be s3 H3 fp), fun _ z => nomatch z⟩)
    fun ρ σ W1 S1 H1 D W2 S2 H2 a Q R1 hD e R2 bD ar w => fin_list R1 hD e R2 bD ar w
theorem key_list2 (k : Bool) (hc : X.calm = true) (ok : BlkOk X.N X.env.scope scope own) (hN : X.N.Nodup) (hts : ∀ i ∈ ts, i ∈ own.map (·.2)) (hts1 : ∀ i ∈ ts1, i ∈ own1) (ho1 : ∀ i ∈ own1, i ∈ own.map (·.2)) (hmc : ∀ i k, (i, k) ∈ mcm → i ∉ own.map (·.2)) (bp : BlkP Γ X mcm scope tg ifs ts g c)
    (bi : ∀ s3 H3 fp, PI (Cx.bk X s3 H3 scope fp) tg1 iter1 (tI Γ (Cx.bk X s3 H3 scope fp) mcm noX mi1)) (bp1 : BlkP Γ X mcm scope tg1 ifs1 ts1 g1 c1) (be : BlkE Γ X mcm scope elt me) (hs : ∀ env x, foldedSetIterable iter1 env x = pure x) :
    ∀ σ H Q, tE Γ X mcm W0 (fun ρ S => (mi ρ S).bind fun p S => (mapPlan p (clauseM (own.map (·.2)) g c (fun ρ a S => (mi1 ρ S).bind fun p1 S => mapPlan p1 (clauseM own1 g1 c1 (fun ρ a S => (me ρ S).bind fun y S => emitL a y S) ρ) a S) ρ) (0, []) S).bind fun a S => mkL k a.2.reverse S) σ H Q →
      tI Γ X mcm W0 mi σ H (BlkAsk X (.ListComp elt [⟨tg, iter, ifs, 0⟩, ⟨tg1, iter1, ifs1, 0⟩] scope pos) tg iter ifs scope own (.lst []) σ Q) :=
  comp_key (AR := LAr Γ) (fun D => accL) (fun _ z => nomatch z) (initL Γ) ok hN hts hmc
    (fun Wb Hb D hb s3 H3 fp => ⟨_, own1, compE_list2a _ _ _ _ _ _ _, bp.pg s3 H3 fp, bp.pt s3 H3 fp,
      act_next (X := Cx.bk X s3 H3 scope fp) accL (compE_list2b _ _ _ _ _ _ _) rfl hc (bi s3 H3 fp) (bp1.pg s3 H3 fp) (bp1.pt s3 H3 fp) (act_app (X := Cx.bk X s3 H3 scope fp) rfl hb (be s3 H3 fp)) (fun _ z => nomatch z) hts1 (fun i k hik z => hmc i k hik (ho1 i z)) (hs _), ho1⟩)
    fun ρ σ W1 S1 H1 D W2 S2 H2 a Q R1 hD e R2 bD ar w => fin_list R1 hD e R2 bD ar w
theorem key_dict1 (hu : X.A.units + 1 < cLine) (ok : BlkOk X.N X.env.scope scope own) (hN : X.N.Nodup) (hts : ∀ i ∈ ts, i ∈ own.map (·.2)) (hmc : ∀ i k, (i, k) ∈ mcm → i ∉ own.map (·.2)) (bp : BlkP Γ X mcm scope tg ifs ts g c) (bk : BlkE Γ X mcm scope kx mk) (bv : BlkE Γ X mcm scope vx mv) :
    ∀ σ H Q, tE Γ X mcm W0 (fun ρ S => (mi ρ S).bind fun p S => (mapPlan p (clauseM (own.map (·.2)) g c (fun ρ o S => (mk ρ S).bind fun x S => (mv ρ S).bind fun y S => emitD o x y S) ρ) (.dK false []) S).bind fun o S => .ok (.loc S.length) (S ++ [o])) σ H Q →
      tI Γ X mcm W0 mi σ H (BlkAsk X (.DictComp kx vx [⟨tg, iter, ifs, 0⟩] scope pos) tg iter ifs scope own (.dK []) σ Q) :=
  comp_key (AR := DAr Γ) (fun D => accD) (fun _ z => nomatch z) (initD Γ) ok hN hts hmc (fun Wb Hb D hb s3 H3 fp => ⟨_, [], compE_dict1 _ _ _ _ _, bp.pg s3 H3 fp, bp.pt s3 H3 fp, act_put (X := Cx.bk X s3 H3 scope fp) rfl hu hb (bk s3 H3 fp) (bv s3 H3 fp), fun _ z => nomatch z⟩)
    fun ρ σ W1 S1 H1 D W2 S2 H2 a Q R1 hD e R2 bD ar w => fin_dict R1 hD e R2 bD ar w
theorem key_dict2 (hu : X.A.units + 1 < cLine) (hc : X.calm = true) (ok : BlkOk X.N X.env.scope scope own) (hN : X.N.Nodup) (hts : ∀ i ∈ ts, i ∈ own.map (·.2)) (hts1 : ∀ i ∈ ts1, i ∈ own1) (ho1 : ∀ i ∈ own1, i ∈ own.map (·.2)) (hmc : ∀ i k, (i, k) ∈ mcm → i ∉ own.map (·.2)) (bp : BlkP Γ X mcm scope tg ifs ts g c)
    (bi : ∀ s3 H3 fp, PI (Cx.bk X s3 H3 scope fp) tg1 iter1 (tI Γ (Cx.bk X s3 H3 scope fp) mcm noX mi1)) (bp1 : BlkP Γ X mcm scope tg1 ifs1 ts1 g1 c1) (bk : BlkE Γ X mcm scope kx mk) (bv : BlkE Γ X mcm scope vx mv) (hs : ∀ env x, foldedSetIterable iter1 env x = pure x) :
    ∀ σ H Q, tE Γ X mcm W0 (fun ρ S => (mi ρ S).bind fun p S => (mapPlan p (clauseM (own.map (·.2)) g c (fun ρ a S => (mi1 ρ S).bind fun p1 S => mapPlan p1 (clauseM own1 g1 c1 (fun ρ o S => (mk ρ S).bind fun x S => (mv ρ S).bind fun y S => emitD o x y S) ρ) a S) ρ) (.dK false []) S).bind fun o S => .ok (.loc S.length) (S ++ [o])) σ H Q →
      tI Γ X mcm W0 mi σ H (BlkAsk X (.DictComp kx vx [⟨tg, iter, ifs, 0⟩, ⟨tg1, iter1, ifs1, 0⟩] scope pos) tg iter ifs scope own (.dK []) σ Q) :=
  comp_key (AR := DAr Γ) (fun D => accD) (fun _ z => nomatch z) (initD Γ) ok hN hts hmc
    (fun Wb Hb D hb s3 H3 fp => ⟨_, own1, compE_dict2a _ _ _ _ _ _ _ _, bp.pg s3 H3 fp, bp.pt s3 H3 fp,
      act_next (X := Cx.bk X s3 H3 scope fp) accD (compE_dict2b _ _ _ _ _ _ _ _) rfl hc (bi s3 H3 fp) (bp1.pg s3 H3 fp) (bp1.pt s3 H3 fp) (act_put (X := Cx.bk X s3 H3 scope fp) rfl hu hb (bk s3 H3 fp) (bv s3 H3 fp)) (fun _ z => nomatch z) hts1 (fun i k hik z => hmc i k hik (ho1 i z)) (hs _), ho1⟩)
    fun ρ σ W1 S1 H1 D W2 S2 H2 a Q R1 hD e R2 bD ar w => fin_dict R1 hD e R2 bD ar w
end
end Mini
namespace Mini
open PySem PySem.Spec PyProof.Rows L2
section
variable {Γ : Gm} {X : Cx} {mcm : List (Nat × Nat)} {W0 : WX} {elt kx vx tg iter tg1 iter1 : Expr} {ifs ifs1 : List Expr} {scope : Scope} {own : List (Str × Nat)} {pos : Pos} {mi : Env → Store → Res Plan} {m : EvM} {gs : List Comprehension}
theorem snd_lc (hc : X.calm = true) (hN : X.N.Nodup) (hi : PI X tg iter (tI Γ X mcm W0 mi)) (ok : BlkOk X.N X.env.scope scope own) (hs : ∀ x, foldedSetIterable iter X.env x = pure x)
    (key : ∀ σ H Q, tE Γ X mcm W0 m σ H Q → tI Γ X mcm W0 mi σ H (BlkAsk X (.ListComp elt (⟨tg, iter, ifs, 0⟩ :: gs) scope pos) tg iter ifs scope own (.lst []) σ Q)) :
    PE X (.ListComp elt (⟨tg, iter, ifs, 0⟩ :: gs) scope pos) (tE Γ X mcm W0 m) :=
  PE.imp (pe_compG (gs := gs) rfl rfl hc hN hi ok hs newAcc_list) key
theorem snd_dc (hc : X.calm = true) (hN : X.N.Nodup) (hi : PI X tg iter (tI Γ X mcm W0 mi)) (ok : BlkOk X.N X.env.scope scope own) (hs : ∀ x, foldedSetIterable iter X.env x = pure x)
    (key : ∀ σ H Q, tE Γ X mcm W0 m σ H Q → tI Γ X mcm W0 mi σ H (BlkAsk X (.DictComp kx vx (⟨tg, iter, ifs, 0⟩ :: gs) scope pos) tg iter ifs scope own (.dK []) σ Q)) :
    PE X (.DictComp kx vx (⟨tg, iter, ifs, 0⟩ :: gs) scope pos) (tE Γ X mcm W0 m) :=
  PE.imp (pe_compG (gs := gs) rfl rfl hc hN hi ok hs newAcc_dict) key
theorem set_go {i : Nat} {wi : TI} {E : Expr} {acc0 : HO} (hm : ∀ k, (i, k) ∉ mcm) (key : ∀ σ H Q, tE Γ X mcm W0 m σ H Q → wi σ H (BlkAsk X E tg iter ifs scope own acc0 σ Q)) :
    ∀ D σ H, tS Γ X mcm W0 (fun ρ S => (m ρ S).thn ρ fun v S => (assignG (.name i) v ρ S).bind fun ρ S => .ok (.nx ρ) S) D σ H → tAsg (fun σ H Q => wi σ H (BlkAsk X E tg iter ifs scope own acc0 σ Q)) (gName i) D σ H := by
  intro D σ H hw
  obtain ⟨W, ρ, S, R, w⟩ := hw
  refine key σ H _ (tE.mono (stepS R w) ?_)
  rintro x H1 ⟨mv, W1, S1, rx, e1, R1, h1⟩
  have h1 := WnS.store (ts := [i]) (σ := σ) h1
  unfold assignG at h1
  split at h1
  · exact h1 _ W1 H1 R1.evr (R1.name hm rx) .set
  · exact h1.elim
theorem sn_setLc {i : Nat} {y : Str} {py spos : Pos} (hc : X.calm = true) (hN : X.N.Nodup) (hy : X.N[i]? = some y) (hyl : X.env.scope.names.lookup y = some .local) (hm : ∀ k, (i, k) ∉ mcm) (hi : PI X tg iter (tI Γ X mcm W0 mi)) (ok : BlkOk X.N X.env.scope scope own) (hs : ∀ x, foldedSetIterable iter X.env x = pure x)
    (hsw : swapsWith (.ListComp elt (⟨tg, iter, ifs, 0⟩ :: gs) scope pos) (some (.Name y py)) spos.line X.env = pure true)
    (key : ∀ σ H Q, tE Γ X mcm W0 m σ H Q → tI Γ X mcm W0 mi σ H (BlkAsk X (.ListComp elt (⟨tg, iter, ifs, 0⟩ :: gs) scope pos) tg iter ifs scope own (.lst []) σ Q)) :
    PS X (.Assign [.Name y py] (.ListComp elt (⟨tg, iter, ifs, 0⟩ :: gs) scope pos) spos) (tS Γ X mcm W0 fun ρ S => (m ρ S).thn ρ fun v S => (assignG (.name i) v ρ S).bind fun ρ S => .ok (.nx ρ) S) :=
  PS.imp (ps_setCompG (gs := gs) rfl hsw rfl hc hN hy hyl hi ok hs newAcc_list) (set_go hm key)
theorem sn_setDc {i : Nat} {y : Str} {py spos : Pos} (hc : X.calm = true) (hN : X.N.Nodup) (hy : X.N[i]? = some y) (hyl : X.env.scope.names.lookup y = some .local) (hm : ∀ k, (i, k) ∉ mcm) (hi : PI X tg iter (tI Γ X mcm W0 mi)) (ok : BlkOk X.N X.env.scope scope own) (hs : ∀ x, foldedSetIterable iter X.env x = pure x)
    (hsw : swapsWith (.DictComp kx vx (⟨tg, iter, ifs, 0⟩ :: gs) scope pos) (some (.Name y py)) spos.line X.env = pure true)
    (key : ∀ σ H Q, tE Γ X mcm W0 m σ H Q → tI Γ X mcm W0 mi σ H (BlkAsk X (.DictComp kx vx (⟨tg, iter, ifs, 0⟩ :: gs) scope pos) tg iter ifs scope own (.dK []) σ Q)) :
    PS X (.Assign [.Name y py] (.DictComp kx vx (⟨tg, iter, ifs, 0⟩ :: gs) scope pos) spos) (tS Γ X mcm W0 fun ρ S => (m ρ S).thn ρ fun v S => (assignG (.name i) v ρ S).bind fun ρ S => .ok (.nx ρ) S) :=
  PS.imp (ps_setCompG (gs := gs) rfl hsw rfl hc hN hy hyl hi ok hs newAcc_dict) (set_go hm key)
/-- a clause's tests -/
theorem snd_ptsN : PTs X [] (tT Γ X mcm W0 fun _ S => .ok true S) := by
  refine ⟨fun pins s σ H Q I h => ?_⟩
  obtain ⟨W, ρ, S, R, w⟩ := h
  exact pts_nil.run pins s σ H Q I (w W H R.evr R)
theorem snd_pts1 {c : Expr} {mc : Env → Store → Res Bool} (h : PT X c (tT Γ X mcm W0 mc)) : PTs X [c] (tT Γ X mcm W0 mc) := pts_one h
end
end Mini
namespace Mini
open PySem PySem.Spec PyProof.Rows L2
/-- what is wanted of a call's run -/
abbrev WnC (Γ : Gm) (CRel : Addr → Option V → Prop) (W : Wd) (H : Hp) (r : Res MV) (Q : VK) (E : XK) : Prop :=
  Want Γ (fun W' S' H' => RS Γ CRel W' S' H') W H r (fun m _ W' H' => ∀ v, RV Γ W' H' m v → Q v H') E
structure MFn (Γ : Gm) (P : Program) (w : World) (mg : Str → Option Value) (base : Heap) (k : Nat) (f : Addr) (fd : FuncData) (ps : List Str) (m : List MV → Store → Res MV) : Prop where
  len : ∀ ms S, m ms S ≠ .bad → ms.length = ps.length
  run : ∀ (A : Around) (outer : List PySem.Env) (s : Shared) (H : Hp) (args : Args) (us : List Value) (vs : List V) (ms : List MV) (W : Wd) (S : Store) (CRel : Addr → Option V → Prop) (Q : VK) (E : XK),
    Room k A → A.guards = some [] → Env0 P w Γ.K mg base A outer s H → BindsTo s fd args (ps.zip us) → Vals vs us → RVs Γ W H ms vs → RS Γ CRel W S H → (∀ c ov, CRel c ov → CellO s H outer c ov) → (∀ i v, S[i]? = some (.cell v) → W.fz i = some v) →
    WnC Γ CRel W H (m ms S) Q E → codeAny (model P w) A (.call (.ref f) args) (CR (L2.CX P w) outer P w H s Q E) s
def Wd.addK (W : Wd) (c : Addr) : Wd := { W with κ := fun i => if i = W.n then some c else W.κ i, n := W.n + 1 }
/-- which slots are cells, where -/
def mcAt : Nat → List Nat → List (Nat × Nat)
  | _, [] => []
  | n, i :: r => (i, n) :: mcAt (n + 1) r
section
variable {Γ : Gm} {W W' : Wd} {H H' : Hp}
theorem Wd.addK_av {c : Addr} (a : Addr) : (W.addK c).Av a ↔ W.Av a := Iff.rfl
theorem addK_lt {c : Addr} {i : Nat} (h : i < W.n) : (W.addK c).κ i = W.κ i := by
  show (if i = W.n then some c else W.κ i) = W.κ i
  rw [if_neg (by omega)]
theorem addK_at {c : Addr} : (W.addK c).κ W.n = some c := by
  show (if W.n = W.n then some c else W.κ W.n) = some c
  rw [if_pos rfl]
theorem addK_ne {c : Addr} {i : Nat} (h : i ≠ W.n) : (W.addK c).κ i = W.κ i := by
  show (if i = W.n then some c else W.κ i) = W.κ i
  rw [if_neg h]
mutual
theorem RV.wd (hn : W.n ≤ W'.n) (hν : W'.ν = W.ν) (hB : W'.B = W.B) : ∀ (m : MV) (v : V), RV Γ W H m v → RV Γ W' H m v
  | .loc i, v, h => by
    obtain ⟨a, ev, hi, hv⟩ := h
    exact ⟨a, ev, Nat.lt_of_lt_of_le hi hn, by rw [hν]; exact hv⟩
  | .tupL ms, v, h => by
    obtain ⟨a, xs, ev, q, r⟩ := h
    exact ⟨a, xs, ev, q, RVs.wd hn hν hB ms xs r⟩
  | .non, _, h => h
  | .bl _, _, h => h
  | .int _, _, h => h
  | .str _, _, h => h
  | .tup ms, v, h => by
    have e : W'.Av = W.Av := by unfold Wd.Av; rw [hν, hB]
    have h : RP Γ W.Av H (.tup ms) v := h
    rw [← e] at h
    exact h
  | .tupB ms, v, h => by
    have e : W'.Av = W.Av := by unfold Wd.Av; rw [hν, hB]
    have h : RP Γ W.Av H (.tupB ms) v := h
    rw [← e] at h
    exact h
  | .fls ms, v, h => by
    have e : W'.Av = W.Av := by unfold Wd.Av; rw [hν, hB]
    have h : RP Γ W.Av H (.fls ms) v := h
    rw [← e] at h
    exact h
  | .scr ms, v, h => by
    have e : W'.Av = W.Av := by unfold Wd.Av; rw [hν, hB]
    have h : RP Γ W.Av H (.scr ms) v := h
    rw [← e] at h
    exact h
  | .obj c fs, v, h => by
    have e : W'.Av = W.Av := by unfold Wd.Av; rw [hν, hB]
    have h : RP Γ W.Av H (.obj c fs) v := h
    rw [← e] at h
    exact h
  | .exn c fs, v, h => by
    have e : W'.Av = W.Av := by unfold Wd.Av; rw [hν, hB]
    have h : RP Γ W.Av H (.exn c fs) v := h
    rw [← e] at h
    exact h
theorem RVs.wd (hn : W.n ≤ W'.n) (hν : W'.ν = W.ν) (hB : W'.B = W.B) : ∀ (ms : List MV) (xs : List V), RVs Γ W H ms xs → RVs Γ W' H ms xs
  | [], _, h => h
  | m :: ms, xs, h => by
    obtain ⟨v, vs, ev, r1, r2⟩ := h
    exact ⟨v, vs, ev, RV.wd hn hν hB m v r1, RVs.wd hn hν hB ms vs r2⟩
end
theorem RVf.wd (hn : W.n ≤ W'.n) (hν : W'.ν = W.ν) (hB : W'.B = W.B) : ∀ (ms : List (Str × MV)) (xs : List (Str × V)), RVf Γ W H ms xs → RVf Γ W' H ms xs
  | [], _, h => h
  | (f, m) :: ms, xs, h => by
    obtain ⟨v, vs, ev, r1, r2⟩ := h
    exact ⟨v, vs, ev, RV.wd hn hν hB m v r1, RVf.wd hn hν hB ms vs r2⟩
theorem RKs.wd {κ : Type} (hn : W.n ≤ W'.n) (hν : W'.ν = W.ν) (hB : W'.B = W.B) : ∀ (ms : List (κ × MV)) (xs : List (κ × V)), RKs Γ W H ms xs → RKs Γ W' H ms xs
  | [], _, h => h
  | (f, m) :: ms, xs, h => by
    obtain ⟨v, vs, ev, r1, r2⟩ := h
    exact ⟨v, vs, ev, RV.wd hn hν hB m v r1, RKs.wd hn hν hB ms vs r2⟩
theorem XF.wd (hn : W.n ≤ W'.n) (hν : W'.ν = W.ν) (hB : W'.B = W.B) {fs : Flds} {d : Option Addr} (h : XF Γ W H fs d) : XF Γ W' H fs d := by
  rcases h with h | ⟨dd, ws, h1, h2, h3⟩
  · exact .inl h
  · exact .inr ⟨dd, ws, h1, h2, RVf.wd hn hν hB _ _ h3⟩
theorem RO.wd (hn : W.n ≤ W'.n) (hν : W'.ν = W.ν) (hB : W'.B = W.B) (hκ : ∀ i, i < W.n → W'.κ i = none ∨ W'.κ i = W.κ i) {o : MO} {a : Addr} (h : RO Γ W H o a) : RO Γ W' H o a := by
  cases o with
  | lst ms => obtain ⟨xs, h1, h2⟩ := h; exact ⟨xs, h1, RVs.wd hn hν hB _ _ h2⟩
  | dK lk kvs =>
    rcases h with ⟨ws, h1, h2⟩ | h
    · exact .inl ⟨ws, h1, RKs.wd hn hν hB _ _ h2.1, h2.2⟩
    · exact .inr h
  | dT lk kvs =>
    rcases h with ⟨ws, h1, h2⟩ | h
    · exact .inl ⟨ws, h1, RKs.wd hn hν hB _ _ h2.1, h2.2⟩
    · exact .inr h
  | ins c fs => obtain ⟨C, dx, ws, h1, h2, h3⟩ := h; exact ⟨C, dx, ws, h1, h2, RVf.wd hn hν hB _ _ h3⟩
  | clo l ks =>
    obtain ⟨L, cl, c', h1, h2, h3, h4, h5, h6, h7⟩ := h
    refine ⟨L, cl, c', h1, h2, h3, h4, h5, h6, fun j y k e1 e2 => ?_⟩
    obtain ⟨c, q1, q2, q3⟩ := h7 j y k e1 e2
    refine ⟨c, q1, Nat.lt_of_lt_of_le q2 hn, ?_⟩
    rcases hκ k q2 with z | z
    · exact .inl z
    · rw [z]; exact q3
  | cell v => exact h
  | dead => exact h
end
section
variable {Γ : Gm} {X : Cx} {mcm : List (Nat × Nat)} {σ : L2.St} {H : Hp} {ρ : Env} {W : Wd} {S : Store}
/-- what is known of an own cell -/
structure OwnK (X : Cx) (i : Nat) (y : Str) (c : Addr) : Prop where
  nm : X.N[i]? = some y
  at' : X.env.cells.lookup y = some c
  fs : c ∉ X.fs
  kd : X.env.scope.names.lookup y = some .cell
theorem Rel.own {i : Nat} {y : Str} {c : Addr} (K : OwnK X i y c) (R : Rel Γ X mcm ρ σ W S H) (hi : ∀ k, (i, k) ∉ mcm) (hl : i < ρ.length) (hc : ∀ k, W.κ k ≠ some c) : Rel Γ X (mcm ++ [(i, S.length)]) (ρ.set i (some (.loc S.length))) σ (W.addK c) (S ++ [.cell ((ρ[i]?).bind id)]) H := by
  have h := R.rs
  have nv : ∀ i v, RV Γ W H i v → RV Γ (W.addK c) H i v := fun i v r => RV.wd (W := W) (W' := W.addK c) (Nat.le_succ _) rfl rfl i v r
  have hat : ∀ {j : Nat} {o' : MO}, (S ++ [.cell ((ρ[i]?).bind id)])[j]? = some o' → (j < W.n ∧ S[j]? = some o') ∨ (j = W.n ∧ o' = .cell ((ρ[i]?).bind id)) := fun {j o'} q => by
    by_cases hj : j < S.length
    · rw [List.getElem?_append_left hj] at q
      exact .inl ⟨by rw [h.n]; exact hj, q⟩
    · rw [List.getElem?_append_right (by omega)] at q
      cases z : j - S.length with
      | zero =>
        rw [z] at q
        exact .inr ⟨by rw [h.n]; omega, (Option.some.inj q).symm⟩
      | succ m => rw [z] at q; cases q
  have old : ∀ {j : Nat} {o' : MO}, S[j]? = some o' → (S ++ [.cell ((ρ[i]?).bind id)])[j]? = some o' := fun {j o'} q => by
    rw [List.getElem?_append_left (List.getElem?_eq_some_iff.mp q).1]; exact q
  have new : (S ++ [.cell ((ρ[i]?).bind id)])[W.n]? = some (.cell ((ρ[i]?).bind id)) := by
    rw [h.n, List.getElem?_append_right (Nat.le_refl _), Nat.sub_self]; rfl
  have own : ∀ mv, (ρ[i]?).bind id = some mv → ∃ v, σ[i]? = some (some v) ∧ RV Γ W H mv v := fun mv hm => by
    cases q : ρ[i]? with
    | none => rw [q] at hm; cases hm
    | some o =>
      rw [q] at hm
      have hm : o = some mv := hm
      exact R.re.var i mv hi (by rw [q, hm])
  refine ⟨⟨?_, fun j hj => ?_, fun j hj => ?_, fun j o a e1 e2 => ?_, fun j o e1 e2 => ?_, h.inj, fun j v e1 => ?_, fun j c' e1 => ?_, fun j j' c' e1 e2 => ?_, h.bd, h.tab, fun j v e => old (h.fz j v e)⟩, ?_⟩
  · show W.n + 1 = _
    rw [List.length_append, h.n]; rfl
  · rw [List.length_append] at hj
    have hj : S.length + 1 ≤ j := hj
    exact h.vnone j (by omega)
  · rw [List.length_append] at hj
    have hj : S.length + 1 ≤ j := hj
    rw [addK_ne (by rw [h.n]; omega)]
    exact h.knone j (by omega)
  · have e2 : W.ν j = some a := e2
    rcases hat e1 with ⟨h1, h2⟩ | ⟨h1, h2⟩
    · exact RO.wd (W := W) (W' := W.addK c) (Nat.le_succ _) rfl rfl (fun k hk => .inr (addK_lt hk)) (h.obj j o a h2 e2)
    · have := h.vlt e2
      omega
  · have e2 : W.ν j = none := e2
    rcases hat e1 with ⟨h1, h2⟩ | ⟨h1, h2⟩
    · exact h.live j o h2 e2
    · exact .inr ⟨_, h2⟩
  · rcases hat e1 with ⟨h1, h2⟩ | ⟨h1, h2⟩
    · obtain ⟨c2, ov, q1, q2, q3⟩ := h.cel j v h2
      refine ⟨c2, ov, by rw [addK_lt h1]; exact q1, ?_, fun mv hm => let ⟨x, z1, z2⟩ := q3 mv hm; ⟨x, z1, nv _ _ z2⟩⟩
      rcases q2 with ⟨i2, k2, y2, g1, g2⟩ | g
      · exact .inl ⟨i2, k2, y2, List.mem_append_left _ g1, g2⟩
      · exact .inr g
    · subst h1
      cases h2
      cases q : (ρ[i]?).bind id with
      | none => exact ⟨c, none, addK_at, .inl ⟨i, S.length, y, List.mem_append_right _ (List.mem_singleton.mpr rfl), K.nm, K.at', K.fs, .inl K.kd, fun _ z => nomatch z⟩, fun _ z => nomatch z⟩
      | some mv =>
        obtain ⟨v, z1, z2⟩ := own mv q
        exact ⟨c, some v, addK_at, .inl ⟨i, S.length, y, List.mem_append_right _ (List.mem_singleton.mpr rfl), K.nm, K.at', K.fs, .inl K.kd, fun u z => by cases z; exact z1⟩, fun m z => by cases z; exact ⟨v, rfl, nv _ _ z2⟩⟩
  · by_cases z : j = W.n
    · exact ⟨_, by rw [z]; exact new⟩
    · rw [addK_ne z] at e1
      obtain ⟨v, hv⟩ := h.kdead j c' e1
      exact ⟨v, old hv⟩
  · by_cases z : j = W.n
    · by_cases z' : j' = W.n
      · rw [z, z']
      · rw [z, addK_at] at e1
        cases e1
        rw [addK_ne z'] at e2
        exact absurd e2 (hc j')
    · rw [addK_ne z] at e1
      by_cases z' : j' = W.n
      · rw [z', addK_at] at e2
        cases e2
        exact absurd e1 (hc j)
      · rw [addK_ne z'] at e2
        exact h.kinj j j' c' e1 e2
  · refine ⟨by rw [List.length_set]; exact R.re.len, fun j mv h1 h2 => ?_, fun j k h1 => ?_, fun j k h1 => ?_⟩
    · have z : i ≠ j := fun z => h1 S.length (List.mem_append_right _ (by rw [z]; exact List.mem_singleton.mpr rfl))
      rw [List.getElem?_set_ne z] at h2
      obtain ⟨v, q1, q2⟩ := R.re.var j mv (fun k hk => h1 k (List.mem_append_left _ hk)) h2
      exact ⟨v, q1, nv _ _ q2⟩
    · rcases List.mem_append.mp h1 with h1 | h1
      · have z : i ≠ j := fun z => hi k (by rw [z]; exact h1)
        obtain ⟨q1, ov, q2, q3, q4⟩ := R.re.cel j k h1
        have hk : k < W.n := by rw [h.n]; exact (List.getElem?_eq_some_iff.mp q2).1
        exact ⟨by rw [List.getElem?_set_ne z]; exact q1, ov, old q2, fun y c a b => by rw [addK_lt hk]; exact q3 y c a b, fun mv hm => let ⟨v, a, b⟩ := q4 mv hm; ⟨v, a, nv _ _ b⟩⟩
      · cases List.mem_singleton.mp h1
        refine ⟨List.getElem?_set_self hl, (ρ[i]?).bind id, by rw [← h.n]; exact new, fun y' c' a b => ?_, fun mv hm => let ⟨v, a, b⟩ := own mv hm; ⟨v, a, nv _ _ b⟩⟩
        rw [K.nm] at a
        cases a
        rw [K.at'] at b
        cases b
        rw [← h.n]; exact addK_at
    · rcases List.mem_append.mp h1 with h1 | h1
      · exact R.re.cfz j k h1
      · cases List.mem_singleton.mp h1
        cases q : W.fz S.length with
        | none => exact q
        | some v =>
          have := (List.getElem?_eq_some_iff.mp (h.fz _ v q)).1
          omega
end
end Mini
namespace Mini
open PySem PySem.Spec PyProof.Rows L2
section
variable {Γ : Gm} {X : Cx} {σ : L2.St} {H : Hp}
theorem Rel.owns (inj : ∀ x y c, X.env.cells.lookup x = some c → X.env.cells.lookup y = some c → x = y) (hN : X.N.Nodup) : ∀ (cells : List Nat) (mcm : List (Nat × Nat)) (W : Wd) (ρ : Env) (S : Store), cells.Nodup →
    (∀ i ∈ cells, i < ρ.length ∧ ∃ y c, OwnK X i y c ∧ ∀ k, W.κ k ≠ some c) → (∀ i ∈ cells, ∀ k, (i, k) ∉ mcm) → Rel Γ X mcm ρ σ W S H →
    ∃ W', Rel Γ X (mcm ++ mcAt S.length cells) (mkCells cells ρ S).1 σ W' (mkCells cells ρ S).2 H ∧ W'.ν = W.ν ∧ W'.B = W.B ∧ W'.fz = W.fz ∧ W'.n = W.n + cells.length ∧ (∀ i, i < W.n → W'.κ i = W.κ i)
  | [], mcm, W, ρ, S, _, _, _, R => ⟨W, by show Rel Γ X (mcm ++ []) ρ σ W S H; rw [List.append_nil]; exact R, rfl, rfl, rfl, rfl, fun _ _ => rfl⟩
  | i :: r, mcm, W, ρ, S, hn, ho, hm, R => by
    obtain ⟨hl, y, c, K, hc⟩ := ho i List.mem_cons_self
    have hni := (List.nodup_cons.mp hn).1
    have R1 := Rel.own K R (hm i List.mem_cons_self) hl hc
    obtain ⟨W', R', e1, e2, e3, e4, e5⟩ := Rel.owns inj hN r (mcm ++ [(i, S.length)]) (W.addK c) (ρ.set i (some (.loc S.length))) (S ++ [.cell ((ρ[i]?).bind id)]) (List.nodup_cons.mp hn).2 (fun j hj => by
      obtain ⟨hl', y', c', K', hc'⟩ := ho j (List.mem_cons_of_mem _ hj)
      refine ⟨by rw [List.length_set]; exact hl', y', c', K', fun k hk => ?_⟩
      by_cases z : k = W.n
      · rw [z, addK_at] at hk
        cases hk
        have e := inj y y' c K.at' K'.at'
        subst e
        have := nodup_at hN K.nm K'.nm
        subst this
        exact hni hj
      · rw [addK_ne z] at hk
        exact hc' k hk) (fun j hj k hk => by
      rcases List.mem_append.mp hk with hk | hk
      · exact hm j (List.mem_cons_of_mem _ hj) k hk
      · cases List.mem_singleton.mp hk
        exact hni hj) R1
    refine ⟨W', ?_, e1, e2, e3, ?_, fun k hk => ?_⟩
    · have q : mcm ++ [(i, S.length)] ++ mcAt (S ++ [MO.cell ((ρ[i]?).bind id)]).length r = mcm ++ mcAt S.length (i :: r) := by
        rw [List.append_assoc, List.length_append]; rfl
      rw [q] at R'
      exact R'
    · rw [e4]
      show W.n + 1 + r.length = W.n + (r.length + 1)
      omega
    · rw [e5 k (Nat.lt_succ_of_lt hk), addK_lt hk]
end
theorem mkCells_at : ∀ (cells : List Nat) (ρ : Env) (S : Store), (mkCells cells ρ S).2.length = S.length + cells.length ∧ ∀ i, i < S.length → (mkCells cells ρ S).2[i]? = S[i]?
  | [], ρ, S => ⟨rfl, fun _ _ => rfl⟩
  | i :: r, ρ, S => by
    obtain ⟨h1, h2⟩ := mkCells_at r (ρ.set i (some (.loc S.length))) (S ++ [.cell ((ρ[i]?).bind id)])
    refine ⟨?_, fun j hj => ?_⟩
    · show (mkCells r _ _).2.length = _
      have e1 : (S ++ [MO.cell ((ρ[i]?).bind id)]).length = S.length + 1 := List.length_append
      have e2 : (i :: r).length = r.length + 1 := List.length_cons
      rw [h1, e1, e2]
      omega
    · show (mkCells r _ _).2[j]? = _
      rw [h2 j (by rw [List.length_append]; omega), List.getElem?_append_left hj]
theorem killS_len : ∀ (m n : Nat) (S : Store), (killS n m S).length = S.length
  | 0, _, _ => rfl
  | m + 1, n, S => by
    show (killS (n + 1) m (S.set n .dead)).length = _
    rw [killS_len m, List.length_set]
theorem killS_out : ∀ (m n : Nat) (S : Store) (i : Nat), ¬ (n ≤ i ∧ i < n + m) → (killS n m S)[i]? = S[i]?
  | 0, _, _, _, _ => rfl
  | m + 1, n, S, i, h => by
    show (killS (n + 1) m (S.set n .dead))[i]? = _
    rw [killS_out m (n + 1) _ i (fun z => h ⟨by omega, by omega⟩), List.getElem?_set_ne (fun z => h ⟨by omega, by omega⟩)]
theorem killS_in : ∀ (m n : Nat) (S : Store) (i : Nat) (o : MO), n ≤ i → i < n + m → (killS n m S)[i]? = some o → o = .dead
  | 0, _, _, _, _, _, _, _ => by omega
  | m + 1, n, S, i, o, h1, h2, e => by
    have e : (killS (n + 1) m (S.set n .dead))[i]? = some o := e
    by_cases z : i = n
    · subst z
      rw [killS_out m (i + 1) _ i (fun z => by omega)] at e
      have hl : i < S.length := by
        have := (List.getElem?_eq_some_iff.mp e).1
        rw [List.length_set] at this; exact this
      rw [List.getElem?_set_self hl] at e
      exact (Option.some.inj e).symm
    · exact killS_in m (n + 1) _ i o (by omega) (by omega) e
theorem mcAt_mem : ∀ {cells : List Nat} {n i k : Nat}, (i, k) ∈ mcAt n cells → i ∈ cells ∧ n ≤ k ∧ k < n + cells.length
  | [], _, _, _, h => by cases h
  | j :: r, n, i, k, h => by
    rcases List.mem_cons.mp h with h | h
    · cases h
      exact ⟨List.mem_cons_self, Nat.le_refl _, by rw [List.length_cons]; omega⟩
    · obtain ⟨h1, h2, h3⟩ := mcAt_mem h
      exact ⟨List.mem_cons_of_mem _ h1, by omega, by rw [List.length_cons]; omega⟩
/-- the own cells go -/
def Wd.kill (W : Wd) (n m : Nat) : Wd := { W with κ := fun i => if n ≤ i ∧ i < n + m then none else W.κ i }
section
variable {Γ : Gm} {X : Cx} {σ' : L2.St} {H H' : Hp} {ρ' : Env} {W W1 W' : Wd} {S S' : Store} {CRel : Addr → Option V → Prop} {cells : List Nat}
theorem kill_out {n m i : Nat} (h : ¬ (n ≤ i ∧ i < n + m)) : (W.kill n m).κ i = W.κ i := if_neg h
theorem kill_in {n m i : Nat} (h : n ≤ i ∧ i < n + m) : (W.kill n m).κ i = none := if_pos h
theorem kill_some {n m i : Nat} {c : Addr} (h : (W.kill n m).κ i = some c) : ¬ (n ≤ i ∧ i < n + m) ∧ W.κ i = some c := by
  by_cases z : n ≤ i ∧ i < n + m
  · rw [kill_in z] at h; cases h
  · rw [kill_out z] at h; exact ⟨z, h⟩
theorem fn_exit (h : RS Γ CRel W S H) (hfz : ∀ i v, S[i]? = some (.cell v) → W.fz i = some v) (e1 : W1.ν = W.ν) (e2 : W1.B = W.B) (e3 : W1.fz = W.fz) (e4 : W1.n = W.n + cells.length) (e5 : ∀ i, i < W.n → W1.κ i = W.κ i)
    (e : Ev Γ W1 H W' H') (R' : Rel Γ X (mcAt S.length cells) ρ' σ' W' S' H') : Ev Γ W H (W'.kill S.length cells.length) H' ∧ RS Γ CRel (W'.kill S.length cells.length) (killS S.length cells.length S') H' := by
  have r := R'.rs
  have ν1 : ∀ i, W1.ν i = W.ν i := fun i => by rw [e1]
  have hout : ∀ {i : Nat}, ¬ (S.length ≤ i ∧ i < S.length + cells.length) → i < W.n ∨ W1.n ≤ i := fun {i} z => by
    have := h.n
    by_cases q : i < W.n
    · exact .inl q
    · exact .inr (by rw [e4]; omega)
  have ev : Ev Γ W H (W'.kill S.length cells.length) H' := by
    refine ⟨⟨fun a q z => by rw [← e2]; exact e.b2 a q z, ?_, fun i hi => ?_, fun i hi => ?_, fun i a h1 h2 => ?_, fun a o q q1 q2 q3 => ?_, e.tup, e.frt, e.sta, fun i hi => ?_, ?_⟩, fun a ha => e.b a (by rw [e2]; exact ha), fun a o ha => e.kb a o (by rw [e2]; exact ha)⟩
    · have := e.n
      show W.n ≤ W'.n
      omega
    · rw [← ν1]
      exact e.old i (by omega)
    · rw [kill_out (fun z => by rw [h.n] at hi; omega), ← e5 i hi]
      exact e.oldk i (by omega)
    · have h2 : W'.ν i = some a := h2
      by_cases z : i < W1.n
      · rcases e.old i z with q | q
        · rw [q] at h2; cases h2
        · rw [q, ν1, h.fin.1 i h1] at h2; cases h2
      · rcases e.new i a (by omega) h2 with q | q
        · exact .inl q
        · exact .inr (by rw [← e2]; exact q)
    · exact e.kp a o q (by rw [e2]; exact q1) (fun i => by rw [ν1]; exact q2 i) q3
    · by_cases z : S.length ≤ i ∧ i < S.length + cells.length
      · exact kill_in z
      · rw [kill_out z]
        rcases hout z with q | q
        · omega
        · exact e.newk i q
    · exact e.fz.trans e3
  refine ⟨ev, ?_, fun i hi => ?_, fun i hi => ?_, fun i o a q1 q2 => ?_, fun i o q1 q2 => ?_, r.inj, fun i v q1 => ?_, fun i c q1 => ?_, fun i j c q1 q2 => ?_, r.bd, r.tab, fun i v q1 => ?_⟩
  · rw [killS_len]; exact r.n
  · rw [killS_len] at hi; exact r.vnone i hi
  · rw [killS_len] at hi
    by_cases z : S.length ≤ i ∧ i < S.length + cells.length
    · exact kill_in z
    · rw [kill_out z]; exact r.knone i hi
  · have q2 : W'.ν i = some a := q2
    by_cases z : S.length ≤ i ∧ i < S.length + cells.length
    · exfalso
      rcases e.old i (by rw [e4, h.n]; exact z.2) with q | q
      · rw [q] at q2; cases q2
      · rw [q, ν1, h.vnone i z.1] at q2; cases q2
    · rw [killS_out _ _ _ _ z] at q1
      refine RO.wd (W := W') (W' := W'.kill S.length cells.length) (Nat.le_refl _) rfl rfl (fun k hk => ?_) (r.obj i o a q1 q2)
      by_cases z : S.length ≤ k ∧ k < S.length + cells.length
      · exact .inl (kill_in z)
      · exact .inr (kill_out z)
  · by_cases z : S.length ≤ i ∧ i < S.length + cells.length
    · exact .inl (killS_in _ _ _ i o z.1 z.2 q1)
    · rw [killS_out _ _ _ _ z] at q1
      exact r.live i o q1 q2
  · by_cases z : S.length ≤ i ∧ i < S.length + cells.length
    · cases killS_in _ _ _ i _ z.1 z.2 q1
    · rw [killS_out _ _ _ _ z] at q1
      obtain ⟨c, ov, p1, p2, p3⟩ := r.cel i v q1
      rcases hout z with q | q
      · have k1 : W.κ i = some c := by
          rw [← e5 i q]
          rcases e.oldk i (by omega) with y | y
          · rw [y] at p1; cases p1
          · rw [← y]; exact p1
        obtain ⟨v0, hv0⟩ := h.kdead i c k1
        have hz : W'.fz i = some v0 := by
          rw [e.fz, e3]; exact hfz i v0 hv0
        have := r.fz i v0 hz
        rw [q1] at this
        cases this
        obtain ⟨c0, ov0, y1, y2, y3⟩ := h.cel i v hv0
        rw [k1] at y1
        cases y1
        exact ⟨c, ov0, by rw [kill_out z]; exact p1, y2, fun mv hm => let ⟨x, z1, z2⟩ := y3 mv hm; ⟨x, z1, ev.rv _ _ z2⟩⟩
      · rw [e.newk i q] at p1; cases p1
  · obtain ⟨z, q1⟩ := kill_some q1
    obtain ⟨v, hv⟩ := r.kdead i c q1
    exact ⟨v, by rw [killS_out _ _ _ _ z]; exact hv⟩
  · exact r.kinj i j c (kill_some q1).2 (kill_some q2).2
  · have q1 : W'.fz i = some v := q1
    have q2 := r.fz i v q1
    rw [e.fz, e3] at q1
    have q3 := h.fz i v q1
    have hl := (List.getElem?_eq_some_iff.mp q3).1
    rw [killS_out _ _ _ _ (fun z => by omega)]
    exact q2
end
end Mini
namespace Mini
open PySem PySem.Spec PyProof.Rows L2
/-- a def's context, its wish about errors -/
abbrev cxF (Γ : Gm) (P : Program) (w : World) (mg : Str → Option Value) (base : Heap) (N : List Str) (qual : Str) (scope : Scope) (f : Addr) (cd : Value) (A : Around) (outer : List PySem.Env) (s : Shared) (H : Hp) (E : XK) : Cx :=
  cxOf (L2.CX P w) P w Γ.K mg base N qual scope f cd A outer s H E
def wX (E : XK) : WX := fun cls d _ H' => E cls d H'
section
variable {Γ : Gm} {P : Program} {w : World} {mg : Str → Option Value} {base : Heap} {N ps : List Str} {k : Nat} {f : Addr} {name qual : Str} {params : Arguments} {body : List Stmt} {scope : Scope} {dV kV doc pm cdv ct oc : Value} {an od : Option Addr} {osl : Array (Option Value)}
theorem cxF_takes {cd : Value} {A : Around} {outer : List PySem.Env} {s : Shared} {H : Hp} {E : XK} : Takes (cxF Γ P w mg base N qual scope f cd A outer s H E) (wX E) :=
  takes_of (X := cxF Γ P w mg base N qual scope f cd A outer s H E) rfl rfl rfl rfl
theorem start_rel {X : Cx} {W : Wd} {S : Store} {CRel : Addr → Option V → Prop} {H : Hp} {ms : List MV} {vs : List V} {ns np : Nat} (hns : ns = X.N.length) (hnp : vs.length = np) (r : RVs Γ W H ms vs) (h : RS Γ CRel W S H) (hC : ∀ c ov, CRel c ov → CellX X [] (L2.start X.N vs) c ov) :
    Rel Γ X [] (ms.map some ++ List.replicate (ns - np) none) (L2.start X.N vs) W S H := by
  have hl := r.len
  refine ⟨h.crel fun _ _ c ov _ _ q => hC c ov q, ?_, fun i mv _ h2 => ?_, fun i k h => absurd h List.not_mem_nil, fun i k h => absurd h List.not_mem_nil⟩
  · unfold L2.start
    rw [List.length_append, List.length_append, List.length_map, List.length_map, List.length_replicate, List.length_replicate, hl, hns, ← hnp, hl]
  · have hi : i < ms.length := by
      by_cases hi : i < ms.length
      · exact hi
      · rw [List.getElem?_append_right (by rw [List.length_map]; omega), List.getElem?_replicate] at h2
        split at h2 <;> cases h2
    rw [List.getElem?_append_left (by rw [List.length_map]; exact hi), List.getElem?_map] at h2
    cases e : ms[i]? with
    | none => rw [e] at h2; cases h2
    | some a =>
      rw [e] at h2
      cases h2
      obtain ⟨v, q1, q2⟩ := r.get e
      refine ⟨v, ?_, q2⟩
      unfold L2.start
      rw [List.getElem?_append_left (by rw [List.length_map, hl]; exact hi), List.getElem?_map, q1]
      rfl
/-- THE RULE: a def by its body -/
theorem mfn_of {Pm : Prog} {cf : CF} {fd : FDef} (lk : Γ.K.lookup f = some ⟨oc, od, .func (PySem.W.fnOf name qual params body scope dV kV doc pm an cdv ct), osl⟩) (hcd : PySem.W.codeIn Γ.K cdv qual = true) (SC : FnScope N ps scope)
    (hnp : fd.np = ps.length) (hns : fd.ns = N.length) (hcn : fd.cells.Nodup) (hcs : ∀ i ∈ fd.cells, ∃ y, N[i]? = some y ∧ scope.names.lookup y = some .cell)
    (hbody : ∀ (A : Around) (outer : List PySem.Env) (s : Shared) (H : Hp) (E : XK) (n : Nat), (cxF Γ P w mg base N qual scope f cdv A outer s H E).Ok → Room k (cxF Γ P w mg base N qual scope f cdv A outer s H E).A → (cxF Γ P w mg base N qual scope f cdv A outer s H E).A.guards = some [] →
      PSs (cxF Γ P w mg base N qual scope f cdv A outer s H E) body (tS Γ (cxF Γ P w mg base N qual scope f cdv A outer s H E) (mcAt n fd.cells) (wX E) fun ρ S => exSs Pm cf fd.body ρ S)) :
    MFn Γ P w mg base (k + 1) f (PySem.W.fnOf name qual params body scope dV kV doc pm an cdv ct) ps (runF Pm cf fd) := by
  have hlen : ∀ ms S, runF Pm cf fd ms S ≠ .bad → ms.length = ps.length := fun ms S h => by
    unfold runF at h
    by_cases q : ms.length = fd.np
    · rw [q, hnp]
    · rw [if_neg q] at h; exact absurd rfl h
  refine ⟨hlen, fun A outer s H args us vs ms W S CRel Q E hr hgd e0 hb r rv R0 hCO hfz wn => ?_⟩
  have hml : ms.length = ps.length := hlen ms S fun z => by rw [z] at wn; exact wn
  have hl : vs.length = ps.length := rv.len.trans hml
  have KX : Γ.K.In s.heap := e0.mod.kin.keeps fun b o e => (e0.bs b o e).1
  have lim : s.heap.NoLimit := e0.mod.nolimit.keeps fun b o e => (e0.bs b o e).1
  have hkind : ∀ y ∈ ps.zip us, scope.names.lookup y.1 = some .local ∨ (scope.names.lookup y.1 = some .cell ∧ ((cellsFrom (s.heap.objs.size + 1) scope.names []).lookup y.1).isSome = true) := fun ⟨n, v⟩ hy => by
    rcases SC.par n (List.of_mem_zip hy).1 with q | q
    · exact .inl q
    · exact .inr ⟨q, PySem.W.cellsFrom_some _ _ _ (.inl q)⟩
  refine codeAny_call_function hr.depth (KX _ _ lk) rfl SC.co SC.gen rfl (PySem.W.codeRec_of KX hcd) (hb _ _ _ _ ?_)
  refine wpAny_newFunctionEnv_cells SC.kind hkind fun env he s1 x => ?_
  subst he
  refine ⟨lim.keeps x.toInCall.keep, codeAny_func ?_⟩
  have I : Inv (cxF Γ P w mg base N qual scope f cdv A outer s H E) [] (L2.start N vs) H s1 := inv_start SC hr.hd e0 hl r x
  have ht := hbody A outer s H E S.length I.ok (hr.deeper _) hgd
  have RR : Rel Γ (cxF Γ P w mg base N qual scope f cdv A outer s H E) [] (ms.map some ++ List.replicate (fd.ns - fd.np) none) (L2.start N vs) W S H :=
    start_rel (X := cxF Γ P w mg base N qual scope f cdv A outer s H E) hns (by rw [hl, hnp]) rv R0 fun c ov q => by
      obtain ⟨h1, h2, h3⟩ := hCO c ov q
      exact .inr ⟨h1, h2, List.not_mem_nil, h3⟩
  have hown : ∀ i ∈ fd.cells, i < (ms.map some ++ List.replicate (fd.ns - fd.np) none).length ∧ ∃ y c, OwnK (cxF Γ P w mg base N qual scope f cdv A outer s H E) i y c ∧ ∀ k, W.κ k ≠ some c := fun i hi => by
    obtain ⟨y, hy, hk⟩ := hcs i hi
    obtain ⟨c, hc⟩ := I.ok.has y (.inl hk)
    have above := I.ok.cab y c rfl hc
    refine ⟨?_, y, c, ⟨hy, hc, fun z => ?_, hk⟩, fun k hk => ?_⟩
    · rw [List.length_append, List.length_map, List.length_replicate, hns, hnp, hml]
      have := (List.getElem?_eq_some_iff.mp hy).1
      omega
    · obtain ⟨_, o, ho, _⟩ := I.ok.funs.mem z
      exact absurd (Heap.lt_size ho) (Nat.not_lt.mpr above)
    · obtain ⟨v, hv⟩ := R0.kdead k c hk
      obtain ⟨c', ov, q1, q2, _⟩ := R0.cel k v hv
      rw [hk] at q1
      cases q1
      obtain ⟨_, _, ou, ⟨o, ho, _⟩, _⟩ := hCO c ov q2
      exact absurd (Heap.lt_size ho) (Nat.not_lt.mpr above)
  obtain ⟨W1, R1, q1, q2, q3, q4, q5⟩ := Rel.owns I.ok.inj SC.nd fd.cells [] W _ S hcn hown (fun _ _ _ h => absurd h List.not_mem_nil) RR
  rw [List.nil_append] at R1
  have wS : WnS Γ (cxF Γ P w mg base N qual scope f cdv A outer s H E) (mcAt S.length fd.cells) (wX E) W1 H
      (exSs Pm cf fd.body (mkCells fd.cells (ms.map some ++ List.replicate (fd.ns - fd.np) none) S).1 (mkCells fd.cells (ms.map some ++ List.replicate (fd.ns - fd.np) none) S).2) { nx := fun _ H' => Q .non H', rt := Q } := by
    unfold runF at wn
    rw [if_pos (by rw [hml, hnp])] at wn
    dsimp only at wn
    have ex : ∀ {W' : Wd} {H' : Hp} {ρ' : Env} {σ' : L2.St} {S' : Store}, Ev Γ W1 H W' H' → Rel Γ (cxF Γ P w mg base N qual scope f cdv A outer s H E) (mcAt S.length fd.cells) ρ' σ' W' S' H' → _ := fun e R' => fn_exit R0 hfz q1 q2 q3 q4 q5 e R'
    cases hx : exSs Pm cf fd.body (mkCells fd.cells (ms.map some ++ List.replicate (fd.ns - fd.np) none) S).1 (mkCells fd.cells (ms.map some ++ List.replicate (fd.ns - fd.np) none) S).2 with
    | exc c fs S2 => rw [hx] at wn; exact wn.elim
    | bad => rw [hx] at wn; exact wn.elim
    | ok fl S2 =>
      rw [hx] at wn
      intro W' H' e
      cases fl with
      | nx ρ' =>
        intro σ' R'
        obtain ⟨ev, rs⟩ := ex e R'
        exact wn _ _ ev rs .non rfl
      | rt m =>
        intro ρ' σ' v R' rm
        obtain ⟨ev, rs⟩ := ex e R'
        exact wn _ _ ev rs v (RV.wd (W := W') (W' := W'.kill S.length fd.cells.length) (Nat.le_refl _) rfl rfl _ _ rm)
      | bk ρ' => exact wn.elim
      | ct ρ' => exact wn.elim
      | xc c fs ρ' =>
        intro σ' C d R' hc hX
        obtain ⟨ev, rs⟩ := ex e R'
        exact wn _ _ C d ev rs hc (XF.wd (W := W') (W' := W'.kill S.length fd.cells.length) (Nat.le_refl _) rfl rfl hX)
  refine wpAny_mono (ht.run [] s1 (L2.start N vs) H _ I ⟨W1, _, _, R1, wS⟩) (fun fl s' hs => ?_) fun e s' hs => hs
  have fin : ∀ {σ' : L2.St} {H' : Hp} {v : V} {u : Value}, Inv (cxF Γ P w mg base N qual scope f cdv A outer s H E) [] σ' H' s' → RelV v u → Q v H' → CE outer P w H s Q u s' :=
    fun {σ' H' v u} J rv q => ⟨v, H', J.os, J.bare, J.base, J.hok, rv, q⟩
  cases fl with
  | ret u =>
    obtain ⟨v, σ', H', J, rv, q⟩ := hs
    exact fin J rv q
  | next =>
    obtain ⟨σ', H', J, q⟩ := hs
    exact fin (v := V.non) (u := Value.none) J rfl q
  | brk =>
    obtain ⟨_, _, _, q⟩ := hs
    exact False.elim q
  | cont =>
    obtain ⟨_, _, _, q⟩ := hs
    exact False.elim q
end
end Mini
namespace Mini
open PySem PySem.Spec PyProof.Rows L2
def cellsOf (S : Store) : Nat → Option (Option MV) := fun i => match S[i]? with
  | some (.cell v) => some v
  | _ => none
def Wd.full (W : Wd) (S : Store) : Wd := { W with fz := cellsOf S }
def Wd.fzs (W : Wd) (z : Nat → Option (Option MV)) : Wd := { W with fz := z }
theorem cellsOf_of {S : Store} {i : Nat} {v : Option MV} (h : S[i]? = some (.cell v)) : cellsOf S i = some v := by
  unfold cellsOf; rw [h]
theorem of_cellsOf {S : Store} {i : Nat} {v : Option MV} (h : cellsOf S i = some v) : S[i]? = some (.cell v) := by
  unfold cellsOf at h
  split at h
  · rename_i q; cases h; exact q
  · cases h
section
variable {Γ : Gm} {CRel : Addr → Option V → Prop} {W W2 : Wd} {S : Store} {H H' : Hp}
theorem RS.fzs (h : RS Γ CRel W S H) {z : Nat → Option (Option MV)} (hz : ∀ i v, z i = some v → S[i]? = some (.cell v)) : RS Γ CRel (W.fzs z) S H :=
  ⟨h.n, h.vnone, h.knone, fun i o a e1 e2 => RO.wd (W := W) (W' := W.fzs z) (Nat.le_refl _) rfl rfl (fun _ _ => .inr rfl) (h.obj i o a e1 e2), h.live, h.inj, fun i v e => let ⟨c, ov, q1, q2, q3⟩ := h.cel i v e
    ⟨c, ov, q1, q2, fun mv hm => let ⟨x, z1, z2⟩ := q3 mv hm; ⟨x, z1, RV.wd (W := W) (W' := W.fzs z) (Nat.le_refl _) rfl rfl _ _ z2⟩⟩, h.kdead, h.kinj, h.bd, h.tab, hz⟩
/-- all is kept but tables; perhaps more is banned -/
theorem RS.evB (h : RS Γ CRel W S H) (e : Ev Γ W H W2 H') (en : W2.n = W.n) (eν : W2.ν = W.ν) (eκ : W2.κ = W.κ) (hs : ∀ a o, H a = some o → (∀ ps, o ≠ .tbl ps) → H' a = some o) (bd : ∀ a, W2.B a → (∃ o, H' a = some o ∧ ∀ ps, o ≠ .tbl ps) ∧ ∀ i, W.ν i ≠ some a)
    (tab : LamX.Tabs Γ.T H') : RS Γ CRel W2 S H' := by
  refine ⟨en.trans h.n, by rw [eν]; exact h.vnone, by rw [eκ]; exact h.knone, fun i o a e1 e2 => ?_, by rw [eν]; exact h.live, by rw [eν]; exact h.inj, fun i v q => ?_, by rw [eκ]; exact h.kdead, by rw [eκ]; exact h.kinj, fun a ha => by rw [eν]; exact bd a ha, tab, by rw [e.fz]; exact h.fz⟩
  · rw [eν] at e2
    have q := h.obj i o a e1 e2
    obtain ⟨u, hu, nt⟩ : ∃ u, H a = some u ∧ ∀ ps, u ≠ .tbl ps := by
      cases o with
      | lst ms => obtain ⟨xs, q1, _⟩ := q; exact ⟨_, q1, fun _ z => nomatch z⟩
      | dK lk kvs =>
        rcases q with ⟨ws, q1, _⟩ | ⟨_, _, q1⟩
        · unfold DO at q1; split at q1
          · obtain ⟨_, q1⟩ := q1; exact ⟨_, q1, fun _ z => nomatch z⟩
          · exact ⟨_, q1, fun _ z => nomatch z⟩
        · exact ⟨_, q1, fun _ z => nomatch z⟩
      | dT lk kvs =>
        rcases q with ⟨ws, q1, _⟩ | ⟨_, _, q1⟩
        · unfold DO at q1; split at q1
          · obtain ⟨_, q1⟩ := q1; exact ⟨_, q1, fun _ z => nomatch z⟩
          · exact ⟨_, q1, fun _ z => nomatch z⟩
        · exact ⟨_, q1, fun _ z => nomatch z⟩
      | ins c fs => obtain ⟨_, _, _, _, q1, _⟩ := q; exact ⟨_, q1, fun _ z => nomatch z⟩
      | clo l ks => obtain ⟨_, _, _, _, q1, _⟩ := q; exact ⟨_, q1, fun _ z => nomatch z⟩
      | cell v => exact q.elim
      | dead => exact q.elim
    exact RO.mono e (by rw [hu]; exact hs a u hu nt) hs q
  · obtain ⟨c, ov, q1, q2, q3⟩ := h.cel i v q
    exact ⟨c, ov, by rw [eκ]; exact q1, q2, fun mv hm => let ⟨x, z1, z2⟩ := q3 mv hm; ⟨x, z1, e.rv _ _ z2⟩⟩
end
section
variable {Γ : Gm} {X : Cx} {mcm : List (Nat × Nat)} {σ : L2.St} {H H' : Hp} {ρ : Env} {W W2 W' : Wd} {S S2 : Store} {W0 : WX} {Q : VK} {pins : List (Addr × Obj)} {s : Shared}
theorem Rel.evB (R : Rel Γ X mcm ρ σ W S H) (e : Ev Γ W H W2 H') (en : W2.n = W.n) (eν : W2.ν = W.ν) (eκ : W2.κ = W.κ) (hs : ∀ a o, H a = some o → (∀ ps, o ≠ .tbl ps) → H' a = some o) (bd : ∀ a, W2.B a → (∃ o, H' a = some o ∧ ∀ ps, o ≠ .tbl ps) ∧ ∀ i, W.ν i ≠ some a)
    (tab : LamX.Tabs Γ.T H') : Rel Γ X mcm ρ σ W2 S H' :=
  ⟨R.rs.evB e en eν eκ hs bd tab, R.re.mono e R.rs.n fun _ _ _ _ q => ⟨q, by rw [eκ]⟩⟩
/-- a cell of this body's, or of its callers, at a call -/
theorem cellO_of {c : Addr} {ov : Option V} (I : L2.Inv X pins σ H s) (h : CellX X mcm σ c ov) : CellO s H X.stack c ov := by
  have nloc : ∀ {v}, s.heap.IsCell c v → c ≠ X.env.locals := fun {v} hc z => by
    obtain ⟨o, ho, hd⟩ := hc
    obtain ⟨m, hn, _⟩ := I.loc
    obtain ⟨o', es, ep, ho', r⟩ := hn
    rw [z, ho'] at ho
    cases ho
    rw [r.1] at hd
    cases hd
  rcases h with ⟨i, k, y, h1, h2, h3, h4, h5, h6⟩ | ⟨h1, h2, h3, ou, h4, h5⟩
  · obtain ⟨v0, hc0⟩ := I.cell y c h3
    refine ⟨I.freeC y c h3, fun z => ?_, ?_⟩
    · rcases List.mem_cons.mp (I.stkSub c z) with z | z
      · exact nloc hc0 z
      · exact h4 z
    · cases ov with
      | none => exact ⟨v0, hc0, fun v z => nomatch z⟩
      | some v =>
        have hv := h6 v rfl
        obtain ⟨m, hn, hl⟩ := I.loc
        obtain ⟨u, r, lk⟩ := hl i y v h2 hv (h5.elim (fun z => .inr (.inl z)) (fun z => .inr (.inr z)))
        rcases lk with ⟨lk, _⟩ | ⟨_, c', e', hc'⟩
        · have lk : X.env.scope.names.lookup y = some .local := lk
          rcases h5 with z | z <;> (rw [z] at lk; cases lk)
        · rw [h3] at e'
          cases e'
          exact ⟨some u, hc', fun v' z => by cases z; exact ⟨u, rfl, r⟩⟩
  · obtain ⟨o, ho, hd⟩ := h4
    have k1 := I.base.keep c o ho h1 h2 h3
    have hc : s.heap.IsCell c ou := ⟨o, k1, hd⟩
    refine ⟨I.base.free c o ho h1 h3, fun z => ?_, ou, hc, h5⟩
    rcases List.mem_cons.mp (I.stkSub c z) with z | z
    · exact nloc hc z
    · exact h2 z
/-- what this body wants of a call, as the callee wants it -/
theorem wnC_of {r : Res MV} (R : Rel Γ X mcm ρ σ W S H) (h : WnE Γ X mcm W0 ρ σ W H r Q) : WnC Γ (CellX X mcm σ) (W.full S) H r Q fun cls d H' => W0 cls d σ H' := by
  have key : ∀ {W' : Wd} {S' : Store} {H' : Hp}, Ev Γ (W.full S) H W' H' → RS Γ (CellX X mcm σ) W' S' H' → Ev Γ W H (W'.fzs W.fz) H' ∧ Rel Γ X mcm ρ σ (W'.fzs W.fz) S' H' := fun {W' S' H'} e rs => by
    have e2 : Ev Γ W H (W'.fzs W.fz) H' := ⟨⟨e.b2, e.n, e.old, e.oldk, e.new, e.kp, e.tup, e.frt, e.sta, e.newk, rfl⟩, e.b, e.kb⟩
    have st : ∀ (i : Nat) (v : Option MV), S[i]? = some (MO.cell v) → S'[i]? = some (MO.cell v) := fun i v q => rs.fz i v (by rw [e.fz]; exact cellsOf_of q)
    have rs2 : RS Γ (CellX X mcm σ) (W'.fzs W.fz) S' H' := rs.fzs fun i v q => st i v (R.rs.fz i v q)
    refine ⟨e2, rs2, R.re.mono e2 R.rs.n fun i k ov hm q => ⟨st k ov q, ?_⟩⟩
    obtain ⟨c, _, z, _⟩ := rs.cel k ov (st k ov q)
    have hk : k < W.n := by rw [R.rs.n]; exact (List.getElem?_eq_some_iff.mp q).1
    rcases e.oldk k hk with y | y
    · rw [y] at z; cases z
    · exact y
  cases r with
  | ok m S' =>
    intro W' H' e rs v rv
    obtain ⟨e2, R2⟩ := key e rs
    exact h _ _ e2 R2 v (RV.wd (W := W') (W' := W'.fzs W.fz) (Nat.le_refl _) rfl rfl _ _ rv)
  | exc c fs S' =>
    intro W' H' C d e rs hc hx
    obtain ⟨e2, R2⟩ := key e rs
    exact h _ _ C d e2 R2 hc (XF.wd (W := W') (W' := W'.fzs W.fz) (Nat.le_refl _) rfl rfl hx)
  | bad => exact h
end
end Mini
namespace Mini
open PySem PySem.Spec PyProof.Rows L2
def Wd.sub (W : Wd) : Wd := { B := fun a => W.B a ∨ ∃ i, W.ν i = some a, ν := fun _ => none, κ := fun _ => none, n := 0, fz := fun _ => none }
section
variable {Γ : Gm} {CRel : Addr → Option V → Prop} {W W' : Wd} {S S' : Store} {H H' : Hp}
theorem sub_av (a : Addr) : W.sub.Av a ↔ W.Av a :=
  ⟨fun h => ⟨fun z => h.1 (.inl z), fun i z => h.1 (.inr ⟨i, z⟩)⟩, fun h => ⟨fun z => z.elim h.1 fun ⟨i, q⟩ => h.2 i q, fun _ z => nomatch z⟩⟩
theorem tracked_nt (h : RS Γ CRel W S H) {i : Nat} {a : Addr} (e : W.ν i = some a) : ∃ u, H a = some u ∧ ∀ ps, u ≠ .tbl ps := by
  have hi := h.vlt e
  rw [h.n] at hi
  obtain ⟨o, ho⟩ : ∃ o, S[i]? = some o := ⟨S[i], List.getElem?_eq_getElem hi⟩
  have q := h.obj i o a ho e
  cases o with
  | lst ms => obtain ⟨xs, q1, _⟩ := q; exact ⟨_, q1, fun _ z => nomatch z⟩
  | dK lk kvs =>
    rcases q with ⟨ws, q1, _⟩ | ⟨_, _, q1⟩
    · unfold DO at q1; split at q1
      · obtain ⟨_, q1⟩ := q1; exact ⟨_, q1, fun _ z => nomatch z⟩
      · exact ⟨_, q1, fun _ z => nomatch z⟩
    · exact ⟨_, q1, fun _ z => nomatch z⟩
  | dT lk kvs =>
    rcases q with ⟨ws, q1, _⟩ | ⟨_, _, q1⟩
    · unfold DO at q1; split at q1
      · obtain ⟨_, q1⟩ := q1; exact ⟨_, q1, fun _ z => nomatch z⟩
      · exact ⟨_, q1, fun _ z => nomatch z⟩
    · exact ⟨_, q1, fun _ z => nomatch z⟩
  | ins c fs => obtain ⟨_, _, _, _, q1, _⟩ := q; exact ⟨_, q1, fun _ z => nomatch z⟩
  | clo l ks => obtain ⟨_, _, _, _, q1, _⟩ := q; exact ⟨_, q1, fun _ z => nomatch z⟩
  | cell v => exact q.elim
  | dead => exact q.elim
theorem RS.sub {C2 : Addr → Option V → Prop} (h : RS Γ CRel W S H) : RS Γ C2 W.sub [] H :=
  ⟨rfl, fun _ _ => rfl, fun _ _ => rfl, (fun i o a z => by simp at z), (fun i o z => by simp at z), (fun _ _ _ z => nomatch z), (fun i v z => by simp at z), (fun _ _ z => nomatch z), (fun _ _ _ z => nomatch z), fun a ha => ⟨by
    rcases ha with ha | ⟨i, hi⟩
    · exact (h.bd a ha).1
    · exact tracked_nt h hi, (fun _ z => nomatch z)⟩, h.tab, (fun _ _ z => nomatch z)⟩
theorem RPs.sub {ms : List MV} {vs : List V} (hp : ms.all pureV = true) (r : RVs Γ W H ms vs) : RVs Γ W.sub H ms vs :=
  RVs.of_rps (RPs.mono (fun _ _ q => q) (fun _ _ _ q => q) (fun a o h q _ => ⟨(sub_av a).mpr h, q⟩) ms vs (RPs.of_pure hp r))
/-- all but tables is kept -/
theorem sub_keep (e : Ev Γ W.sub H W' H') (a : Addr) (o : HO) (q : H a = some o) (nt : ∀ ps, o ≠ .tbl ps) : H' a = some o := by
  by_cases z : W.sub.B a
  · exact e.kb a o z q nt
  · exact e.kp a o q z (fun _ z => nomatch z) nt
theorem sub_ev (h : RS Γ CRel W S H) (e : Ev Γ W.sub H W' H') : Ev Γ W H W H' :=
  ⟨⟨fun _ _ h => h, Nat.le_refl _, fun _ _ => .inr rfl, fun _ _ => .inr rfl, fun i a h1 h2 => (by rw [h.fin.1 i h1] at h2; cases h2), fun a o q _ _ nt => sub_keep e a o q nt, e.tup, e.frt, e.sta, h.fin.2, rfl⟩, fun _ h => h, fun a o _ q nt => sub_keep e a o q nt⟩
theorem sub_back {C2 : Addr → Option V → Prop} (e : Ev Γ W.sub H W' H') (rs : RS Γ C2 W' S' H') {a : Addr} (h : W'.Av a) : W.Av a :=
  ⟨fun z => h.1 (e.b a (.inl z)), fun i z => h.1 (e.b a (.inr ⟨i, z⟩))⟩
theorem sub_new {C2 : Addr → Option V → Prop} (e : Ev Γ W.sub H W' H') (rs : RS Γ C2 W' S' H') {i : Nat} {a : Addr} (h : W'.ν i = some a) : H a = none ∧ W.Av a := by
  have nb : ¬ W.sub.B a := fun z => (rs.bd a (e.b a z)).2 i h
  refine ⟨?_, fun z => nb (.inl z), fun j z => nb (.inr ⟨j, z⟩)⟩
  rcases e.new i a (Nat.zero_le _) h with q | q
  · exact q
  · exact absurd q nb
/-- pure values are the caller's as they are -/
theorem sub_rp {C2 : Addr → Option V → Prop} (e : Ev Γ W.sub H W' H') (rs : RS Γ C2 W' S' H') {m : MV} {v : V} (r : RP Γ W'.Av H' m v) : RP Γ W.Av H' m v :=
  RP.mono (fun _ _ q => q) (fun _ _ _ q => q) (fun a o h q _ => ⟨sub_back e rs h, q⟩) m v r
theorem sub_rps {C2 : Addr → Option V → Prop} (e : Ev Γ W.sub H W' H') (rs : RS Γ C2 W' S' H') {m : List MV} {v : List V} (r : RPs Γ W'.Av H' m v) : RPs Γ W.Av H' m v :=
  RPs.mono (fun _ _ q => q) (fun _ _ _ q => q) (fun a o h q _ => ⟨sub_back e rs h, q⟩) m v r
/-- .. and a new object's parts -/
theorem add_rps {C2 : Addr → Option V → Prop} {i : Nat} {a : Addr} (e : Ev Γ W.sub H W' H') (rs : RS Γ C2 W' S' H') (hi : W'.ν i = some a) {W3 : Wd} (hB : ∀ b, W3.B b → W.B b) (hν : ∀ j b, W3.ν j = some b → W.ν j = some b ∨ b = a) {m : List MV} {v : List V} (r : RPs Γ W'.Av H' m v) : RPs Γ W3.Av H' m v :=
  RPs.mono (fun _ _ q => q) (fun _ _ _ q => q) (fun b o h q _ => ⟨⟨fun z => (sub_back e rs h).1 (hB b z), fun j z => by
    rcases hν j b z with q | q
    · exact (sub_back e rs h).2 j q
    · exact h.2 i (by rw [hi, q])⟩, q⟩) m v r
/-- a list frozen -/
theorem freeze_ok {C2 : Addr → Option V → Prop} (e : Ev Γ W.sub H W' H') (rs : RS Γ C2 W' S' H') : ∀ (n : Nat) (m m' : MV) (v : V), freeze S' n m = some m' → RV Γ W' H' m v → RP Γ W.Av H' m' v
  | 0, _, _, _, h, _ => nomatch h
  | n + 1, m, m', v, h, r => by
    have many : ∀ (ms ms' : List MV) (xs : List V), ms.mapM (freeze S' n) = some ms' → RVs Γ W' H' ms xs → RPs Γ W.Av H' ms' xs := by
      intro ms
      induction ms with
      | nil =>
        intro ms' xs h r
        simp at h
        subst h
        exact r
      | cons a l ih =>
        intro ms' xs h r
        obtain ⟨v, vs, q, r1, r2⟩ := r
        rw [List.mapM_cons] at h
        cases ha : freeze S' n a with
        | none => rw [ha] at h; cases h
        | some a' =>
          cases hl : l.mapM (freeze S' n) with
          | none => rw [ha, hl] at h; cases h
          | some l' =>
            rw [ha, hl] at h
            cases h
            exact ⟨v, vs, q, freeze_ok e rs n a a' v ha r1, ih l' vs hl r2⟩
    cases m with
    | loc i =>
      obtain ⟨a, ev, hi, hv⟩ := r
      unfold freeze at h
      cases q : S'[i]? with
      | none => rw [q] at h; cases h
      | some o =>
        rw [q] at h
        cases o with
        | lst vs =>
          have h : (vs.mapM (freeze S' n)).map .fls = some m' := h
          cases hl : vs.mapM (freeze S' n) with
          | none => rw [hl] at h; cases h
          | some l' =>
            rw [hl] at h
            cases h
            rcases hv with z | z
            · rcases rs.live i _ q z with z | ⟨_, z⟩ <;> cases z
            · obtain ⟨xs, h1, h2⟩ := rs.obj i _ a q z
              exact ⟨a, xs, ev, h1, (sub_new e rs z).2, many _ _ _ hl h2⟩
        | _ => cases h
    | tupL vs =>
      obtain ⟨a, xs, ev, q, r2⟩ := r
      have h : (vs.mapM (freeze S' n)).map .tup = some m' := h
      cases hl : vs.mapM (freeze S' n) with
      | none => rw [hl] at h; cases h
      | some l' =>
        rw [hl] at h
        cases h
        exact ⟨a, xs, ev, q, many _ _ _ hl r2⟩
    | non => cases h; exact r
    | bl b => cases h; exact r
    | int b => cases h; exact r
    | str b => cases h; exact r
    | tup b => cases h; exact sub_rp e rs r
    | tupB b => cases h; exact sub_rp e rs r
    | fls b => cases h; exact sub_rp e rs r
    | scr b => cases h; exact sub_rp e rs r
    | obj c fs => cases h; exact sub_rp e rs r
    | exn c fs => cases h; exact sub_rp e rs r
theorem freezeF_ok {C2 : Addr → Option V → Prop} (e : Ev Γ W.sub H W' H') (rs : RS Γ C2 W' S' H') : ∀ (fs fs' : Flds) (ws : List (Str × V)), freezeF S' fs = some fs' → RVf Γ W' H' fs ws → RVf Γ W H' fs' ws
  | [], _, _, h, r => by cases h; exact r
  | (f, m) :: l, fs', ws, h, r => by
    obtain ⟨v, vs, q, r1, r2⟩ := r
    have h : (match freeze S' 8 m, freezeF S' l with
      | some v, some r => some ((f, v) :: r)
      | _, _ => none) = some fs' := h
    cases ha : freeze S' 8 m with
    | none => rw [ha] at h; cases h
    | some a' =>
      cases hl : freezeF S' l with
      | none => rw [ha, hl] at h; cases h
      | some l' =>
        rw [ha, hl] at h
        cases h
        exact ⟨v, vs, q, RV.of_rp (freeze_ok e rs 8 m a' v ha r1), freezeF_ok e rs l l' vs hl r2⟩
end
end Mini
namespace Mini
open PySem PySem.Spec PyProof.Rows L2
section
variable {Γ : Gm} {X : Cx} {mcm : List (Nat × Nat)} {σ : L2.St} {H H' : Hp} {ρ : Env} {W W' : Wd} {S S2 : Store} {W0 : WX} {Q : VK} {C2 : Addr → Option V → Prop}
/-- the caller's state behind such a call -/
theorem Rel.sub (R : Rel Γ X mcm ρ σ W S H) (e : Ev Γ W.sub H W' H') (rs : RS Γ C2 W' S2 H') : Rel Γ X mcm ρ σ W S H' :=
  R.evB (sub_ev R.rs e) rfl rfl rfl (sub_keep e) (fun a ha => by
    obtain ⟨⟨o, q, nt⟩, h⟩ := R.rs.bd a ha
    exact ⟨⟨o, sub_keep e a o q nt, nt⟩, h⟩) rs.tab
/-- .. with an object of the callee's -/
theorem Rel.subAdd {i : Nat} {a : Addr} {o : MO} (R : Rel Γ X mcm ρ σ W S H) (e : Ev Γ W.sub H W' H') (rs : RS Γ C2 W' S2 H') (hi : W'.ν i = some a) (ho : RO Γ (((W.ban a).lift W.B).add a) H' o a) (nt : ∃ u, H' a = some u ∧ ∀ ps, u ≠ .tbl ps) :
    Ev Γ W H (((W.ban a).lift W.B).add a) H' ∧ Rel Γ X mcm ρ σ (((W.ban a).lift W.B).add a) (S ++ [o]) H' ∧ RV Γ (((W.ban a).lift W.B).add a) H' (.loc S.length) (.ref a) := by
  have hD : H a = none := (sub_new e rs hi).1
  have e1 := sub_ev R.rs e
  have e2 : Ev Γ W H (W.ban a) H' := ⟨⟨fun b h z => z.elim id fun q => absurd hD (by rw [← q]; exact h), e1.n, e1.old, e1.oldk, e1.new, e1.kp, e1.tup, e1.frt, e1.sta, e1.newk, rfl⟩, fun b h => .inl h, e1.kb⟩
  have R2 : Rel Γ X mcm ρ σ (W.ban a) S H' := R.evB e2 rfl rfl rfl (sub_keep e) (fun b hb => by
    rcases hb with hb | hb
    · obtain ⟨⟨o, q, nt⟩, h⟩ := R.rs.bd b hb
      exact ⟨⟨o, sub_keep e b o q nt, nt⟩, h⟩
    · subst hb
      exact ⟨nt, fun j hj => by
        obtain ⟨u, hu⟩ := R.rs.tracked hj
        rw [hD] at hu; cases hu⟩) rs.tab
  exact R.adopt hD e2 R2 (.inr rfl) ho
theorem addp {i : Nat} {a : Addr} (e : Ev Γ W.sub H W' H') (rs : RS Γ C2 W' S2 H') (hi : W'.ν i = some a) {m : List MV} {v : List V} (r : RPs Γ W'.Av H' m v) : RPs Γ (((W.ban a).lift W.B).add a).Av H' m v :=
  add_rps (W3 := ((W.ban a).lift W.B).add a) e rs hi (fun b z => z) (fun j b z => by
    by_cases q : j = W.n
    · subst q
      rw [show (((W.ban a).lift W.B).add a).ν W.n = some a from add_at (W := (W.ban a).lift W.B)] at z
      cases z
      exact .inr rfl
    · have z : (if j = W.n then some a else W.ν j) = some b := z
      rw [if_neg q] at z
      exact .inl z) r
theorem RKs.pure {κ : Type} {W3 : Wd} (hs : ∀ (m : List MV) (v : List V), RPs Γ W'.Av H' m v → RPs Γ W3.Av H' m v) : ∀ {kvs : List (κ × MV)} {ws : List (κ × V)}, kvs.all (fun kv => pureV kv.2) = true → RKs Γ W' H' kvs ws → RKs Γ W3 H' kvs ws
  | [], _, _, r => r
  | (k, m) :: l, ws, h, r => by
    obtain ⟨v, vs, q, r1, r2⟩ := r
    simp only [List.all_cons, Bool.and_eq_true] at h
    obtain ⟨v', vs', eq, r1', _⟩ := hs [m] [v] ⟨v, [], rfl, RP.of_pure h.1 r1, rfl⟩
    cases eq
    exact ⟨v, vs, q, RV.of_rp r1', RKs.pure hs h.2 r2⟩
theorem bring_ok {m : MV} {x : V} (R : Rel Γ X mcm ρ σ W S H) (e : Ev Γ W.sub H W' H') (rs : RS Γ C2 W' S2 H') (rx : RV Γ W' H' m x) (w : WnE Γ X mcm W0 ρ σ W H (bring S2 m S) Q) : Q x H' := by
  have plain : WnE Γ X mcm W0 ρ σ W H (Res.of (freeze S2 8 m) S) Q → Q x H' := fun w => by
    cases h : freeze S2 8 m with
    | none => rw [h] at w; exact w.elim
    | some m' =>
      rw [h] at w
      exact w W H' (sub_ev R.rs e) (R.sub e rs) x (RV.of_rp (freeze_ok e rs 8 m m' x h rx))
  cases m with
  | loc i =>
    obtain ⟨a, rfl, hi, hv⟩ := rx
    unfold bring at w
    dsimp only at w
    cases q : S2[i]? with
    | none => rw [q] at w; exact w.elim
    | some o =>
      rw [q] at w
      have at' : ∀ {o' : MO}, o = o' → o' ≠ .dead → (∀ v, o' ≠ .cell v) → W'.ν i = some a := fun {o'} h1 h2 h3 => by
        rcases hv with z | z
        · rcases rs.live i _ q z with y | ⟨v, y⟩
          · exact absurd (h1.symm.trans y) h2
          · exact absurd (h1.symm.trans y) (h3 v)
        · exact z
      cases o with
      | lst vs =>
        have hν := at' rfl (fun z => nomatch z) (fun _ z => nomatch z)
        obtain ⟨xs, h1, h2⟩ := rs.obj i _ a q hν
        dsimp only at w
        split at w
        · rename_i hp
          obtain ⟨e3, R3, rv⟩ := R.subAdd (o := .lst vs) e rs hν ⟨xs, h1, RVs.of_rps (addp e rs hν (RPs.of_pure hp h2))⟩ ⟨_, h1, fun _ z => nomatch z⟩
          exact w _ _ e3 R3 _ rv
        · cases h : vs.mapM (freeze S2 8) with
          | none => rw [h] at w; exact w.elim
          | some l' =>
            rw [h] at w
            have hz : freeze S2 9 (.loc i) = some (.fls l') := by
              unfold freeze
              rw [q]
              dsimp only
              rw [h]
              rfl
            exact w W H' (sub_ev R.rs e) (R.sub e rs) (.ref a) (RV.of_rp (freeze_ok e rs 9 (.loc i) _ (.ref a) hz ⟨a, rfl, hi, hv⟩))
      | dK lk kvs =>
        cases lk with
        | true => exact w.elim
        | false =>
          have hν := at' rfl (fun z => nomatch z) (fun _ z => nomatch z)
          have ho := rs.obj i _ a q hν
          dsimp only at w
          split at w
          · rename_i hp
            have ho' : RO Γ (((W.ban a).lift W.B).add a) H' (.dK false kvs) a := by
              rcases ho with ⟨ws, q1, q2⟩ | q
              · exact .inl ⟨ws, q1, RKs.pure (fun m v r => addp e rs hν r) hp q2.1, q2.2⟩
              · exact .inr q
            obtain ⟨e3, R3, rv⟩ := R.subAdd e rs hν ho' (tracked_nt rs hν)
            exact w _ _ e3 R3 _ rv
          · exact w.elim
      | dT lk kvs =>
        cases lk with
        | true => exact w.elim
        | false =>
          have hν := at' rfl (fun z => nomatch z) (fun _ z => nomatch z)
          have ho := rs.obj i _ a q hν
          dsimp only at w
          split at w
          · rename_i hp
            have ho' : RO Γ (((W.ban a).lift W.B).add a) H' (.dT false kvs) a := by
              rcases ho with ⟨ws, q1, q2⟩ | q
              · exact .inl ⟨ws, q1, RKs.pure (fun m v r => addp e rs hν r) hp q2.1, q2.2⟩
              · exact .inr q
            obtain ⟨e3, R3, rv⟩ := R.subAdd e rs hν ho' (tracked_nt rs hν)
            exact w _ _ e3 R3 _ rv
          · exact w.elim
      | ins c fs => exact w.elim
      | cell v => exact w.elim
      | clo l cs => exact w.elim
      | dead => exact w.elim
  | _ => exact plain w
theorem XF.sub {fs fs' : Flds} {d : Option Addr} (e : Ev Γ W.sub H W' H') (rs : RS Γ C2 W' S2 H') (h : freezeF S2 fs = some fs') (x : XF Γ W' H' fs d) : XF Γ W H' fs' d := by
  rcases x with ⟨rfl, h2⟩ | ⟨dd, ws, h1, h2, h3⟩
  · cases h
    exact .inl ⟨rfl, h2⟩
  · exact .inr ⟨dd, ws, h1, h2, freezeF_ok e rs fs fs' ws h h3⟩
end
section
variable {Γ : Gm} {X : Cx} {mcm : List (Nat × Nat)} {σ : L2.St} {H : Hp} {ρ : Env} {W : Wd} {S : Store} {W0 : WX} {Q : VK} {pins : List (Addr × Obj)} {s : Shared} {k i : Nat} {f : Addr} {fd : FuncData} {ps : List Str} {us ds : List Value} {ms dms : List MV} {vs dvs : List V} {cf : CF}
theorem run_mfn {m : List MV → Store → Res MV} (F : MFn Γ X.prog X.w X.mg X.base k f fd ps m) (hK : X.K = Γ.K) (hr : Room k X.A) (hg : X.A.guards = some []) (tk : Takes X W0) (I : L2.Inv X pins σ H s) (hb : BindsTo s fd ⟨us, []⟩ (ps.zip (us ++ ds)))
    {CRel : Addr → Option V → Prop} {W2 : Wd} {S2 : Store} (r : Vals vs (us ++ ds)) (rv : RVs Γ W2 H ms vs) (rs : RS Γ CRel W2 S2 H) (hC : ∀ c ov, CRel c ov → CellO s H X.stack c ov) (hz : ∀ i v, S2[i]? = some (.cell v) → W2.fz i = some v)
    (w : WnC Γ CRel W2 H (m ms S2) Q fun cls d H' => W0 cls d σ H') : wpAny (model X.prog X.w) X.A (call (.ref f) us) (EP X pins σ Q) X.xe s := by
  have e0 : Env0 X.prog X.w Γ.K X.mg X.base X.A X.stack s H := hK ▸ I.env0
  refine wpAny_call (codeAny_mono (F.run X.A X.stack s H ⟨us, []⟩ (us ++ ds) vs ms W2 S2 CRel Q _ hr hg e0 hb r rv rs hC hz w) fun r s' hq => ?_)
  cases r with
  | error e => exact tk e s' (XE.of_call I (fun cls d H' h => h) hq)
  | ok fl =>
    cases fl with
    | ret u => exact I.after hq
    | next => exact False.elim hq
    | brk => exact False.elim hq
    | cont => exact False.elim hq
end
end Mini
namespace Mini
open PySem PySem.Spec PyProof.Rows L2
section
variable {Γ : Gm} {X : Cx} {mcm : List (Nat × Nat)} {σ : L2.St} {H : Hp} {ρ : Env} {W : Wd} {S : Store} {W0 : WX} {Q : VK} {pins : List (Addr × Obj)} {s : Shared} {k i : Nat} {f : Addr} {fd : FuncData} {ps : List Str} {us ds : List Value} {ms dms : List MV} {vs dvs : List V} {cf : CF}
/-- what a caller knows of a callee -/
structure Callee (Γ : Gm) (X : Cx) (k : Nat) (f : Addr) (fd : FuncData) (ps : List Str) (ds : List Value) (dms : List MV) (dvs : List V) (m : List MV → Store → Res MV) : Prop where
  fn : MFn Γ X.prog X.w X.mg X.base k f fd ps m
  bd : Binds X.K fd ps ds
  rd : Vals dvs ds
  rm : ∀ W H, RVs Γ W H dms dvs
theorem run_callI (C : Callee Γ X k f fd ps ds dms dvs (cf i)) (hK : X.K = Γ.K) (hr : Room k X.A) (hg : X.A.guards = some []) (tk : Takes X W0) (I : L2.Inv X pins σ H s) (R : Rel Γ X mcm ρ σ W S H) (r : Vals vs us) (rv : RVs Γ W H ms vs)
    (w : WnE Γ X mcm W0 ρ σ W H (callI cf i (ms ++ dms) S) Q) : wpAny (model X.prog X.w) X.A (call (.ref f) us) (EP X pins σ Q) X.xe s := by
  have r2 : Vals (vs ++ dvs) (us ++ ds) := r.append C.rd
  have rv2 : RVs Γ W H (ms ++ dms) (vs ++ dvs) := rv.app (C.rm W H)
  have bnd : ∀ S, cf i (ms ++ dms) S ≠ .bad → BindsTo s fd ⟨us, []⟩ (ps.zip (us ++ ds)) := fun S h => C.bd s us I.kIn (by rw [← r2.length, rv2.len]; exact C.fn.len _ S h)
  unfold callI at w
  split at w
  · rename_i hp
    have rs : RS Γ (CellX X mcm σ) W.sub [] H := R.rs.sub
    have nz : cf i (ms ++ dms) [] ≠ .bad := fun z => by rw [z] at w; exact w
    refine run_mfn C.fn hK hr hg tk I (bnd [] nz) r2 (RPs.sub hp rv2) rs (fun c ov q => cellO_of I q) (fun i v z => by simp at z) ?_
    cases hx : cf i (ms ++ dms) [] with
    | bad => exact absurd hx nz
    | ok m S2 =>
      rw [hx] at w
      intro W' H' e rs' v rm
      exact bring_ok R e rs' rm w
    | exc c fs S2 =>
      rw [hx] at w
      intro W' H' C' d e rs' hc x
      dsimp only at w
      cases hf : freezeF S2 fs with
      | none => rw [hf] at w; exact w.elim
      | some fs' =>
        rw [hf] at w
        exact w W H' C' d (sub_ev R.rs e) (R.sub e rs') hc (XF.sub e rs' hf x)
  · have nz : cf i (ms ++ dms) S ≠ .bad := fun z => by rw [z] at w; exact w
    refine run_mfn C.fn hK hr hg tk I (bnd S nz) r2 (W2 := W.full S) (RVs.wd (W := W) (W' := W.full S) (Nat.le_refl _) rfl rfl _ _ rv2) (R.rs.fzs fun i v q => of_cellsOf q) (fun c ov q => cellO_of I q) (fun i v q => cellsOf_of q) (wnC_of R w)
end
section
variable {Γ : Gm} {X : Cx} {mcm : List (Nat × Nat)} {W0 : WX} {k i : Nat} {f : Addr} {fd : FuncData} {ps : List Str} {ds : List Value} {dms : List MV} {dvs : List V} {cf : CF} {x : Str} {p pos : Pos} {e : Expr} {es : List Expr} {ma : Env → Store → Res (List MV)}
theorem snd_call (C : Callee Γ X k f fd ps ds dms dvs (cf i)) (hK : X.K = Γ.K) (hr : Room k X.A) (hgd : X.A.guards = some []) (tk : Takes X W0) (hg : Gl X x) (hm : X.mg x = some (.ref f)) (hk : PySem.W.keepIn X.K (.ref f) = true)
    (ha : PA X (e :: es) (tA Γ X mcm W0 ma)) (hdb : (x == ("__debug__" : Str)) = false := by decide) (he : starEach (e :: es) X.env = (false, eval e X.env) :: starEach es X.env := by rfl) (hpl : (backTo pos (starEach es X.env)).any (·.1) = false := by rfl) :
    PE X (.Call (.Name x p) (e :: es) [] pos) (tE Γ X mcm W0 fun ρ S => (ma ρ S).bind fun vs S => callI cf i (vs ++ dms) S) := by
  refine ⟨fun pins s σ H Q I h => ?_⟩
  obtain ⟨W, ρ, S, R, w⟩ := h
  refine wpAny_Call_Name_kw (ld_glob I hg hm ?_ hdb)
  refine PySem.W.callWith_K (h₀ := X.base) I.ok.mod.kin hk (thn (ha.run pos pins s σ H _ I (stepA R w)) fun us s1 ⟨vs, H1, I1, r, q⟩ => ⟨I1.kIn, ?_⟩) he hpl
  obtain ⟨ms, W1, S1, rv, e1, R1, w1⟩ := q
  exact run_callI C hK hr hgd tk I1 R1 r rv w1
theorem snd_call0 (C : Callee Γ X k f fd ps ds dms dvs (cf i)) (hK : X.K = Γ.K) (hr : Room k X.A) (hgd : X.A.guards = some []) (tk : Takes X W0) (hg : Gl X x) (hm : X.mg x = some (.ref f)) (hk : PySem.W.keepIn X.K (.ref f) = true)
    (hdb : (x == ("__debug__" : Str)) = false := by decide) : PE X (.Call (.Name x p) [] [] pos) (tE Γ X mcm W0 fun ρ S => callI cf i dms S) := by
  refine ⟨fun pins s σ H Q I h => ?_⟩
  obtain ⟨W, ρ, S, R, w⟩ := h
  refine wpAny_Call_Name_kw (ld_glob I hg hm ?_ hdb)
  exact PySem.W.callWith_K0 I.kIn hk (run_callI (us := []) (ms := []) C hK hr hgd tk I R .nil rfl w)
end
end Mini
namespace Mini
open PySem PySem.Spec PyProof.Rows L2
/-- what an error's __init__ promises: it keeps what it is given -/
def exI (K : PySem.W.Frag) (names : List Str) : Sp := fun vs H Q _ => ∃ (a C : Addr) (ws : List V), vs = .ref a :: ws ∧ ws.length = names.length ∧ OexC K C ∧ (∀ f ∈ names, PySem.W.findIn K (.ref C) f = some none) ∧ H a = some (exo a C none) ∧
  ∀ d, H d = none → d ≠ a → Q .non (upd (upd H d (exd d (names.zip ws).reverse)) a (exo a C (some d)))
theorem upd_upd {H : Hp} {a b : Addr} {o o' u : HO} (h : b ≠ a) : upd (upd (upd H a o) b u) a o' = upd (upd H a o') b u := by
  funext c
  by_cases e : c = a
  · subst e
    rw [upd_same, upd_ne (Ne.symm h), upd_same]
  · by_cases e2 : c = b
    · subst e2
      rw [upd_ne e, upd_same, upd_same]
    · rw [upd_ne e, upd_ne e2, upd_ne e, upd_ne e2, upd_ne e]
section
variable {P : Program} {w : World} {K : PySem.W.Frag} {mg : Str → Option Value} {base : Heap} {CX : CXT} {k : Nat} {fI : Addr} {name qual : Str} {params : Arguments} {scope : Scope} {dV kV doc pm cdv ct oc : Value} {an od : Option Addr} {osl : Array (Option Value)} {f g y z : Str} {p1 p2 p3 p4 p5 p6 p7 p8 : Pos}
theorem exi1 (lk : K.lookup fI = some ⟨oc, od, .func (PySem.W.fnOf name qual params [.Assign [.Attribute (.Name "self" p1) f p2] (.Name y p3) p4] scope dV kV doc pm an cdv ct), osl⟩) (hcd : PySem.W.codeIn K cdv qual = true) (SC : FnScope ["self", y] ["self", y] scope)
    (v0 : scope.names.lookup ("self" : Str) = some .local) (v1 : scope.names.lookup y = some .local) (hd : (y == ("__debug__" : Str)) = false) (hcl : (y == ("__classdict__" : Str)) = false) :
    FnOk P w K mg base CX (k + 1) fI (PySem.W.fnOf name qual params [.Assign [.Attribute (.Name "self" p1) f p2] (.Name y p3) p4] scope dV kV doc pm an cdv ct) ["self", y] (exI K [f]) := by
  refine fn_of lk hcd SC (fun vs H Q E h => ?_) fun A outer s H vs Q E hr h => ?_
  · obtain ⟨a, C, ws, rfl, h2, _⟩ := h
    rw [List.length_cons, h2]; rfl
  · obtain ⟨a, C, ws, rfl, h2, T, hf, ha, hq⟩ := h
    match ws, h2 with
    | [x], _ =>
      refine ⟨_, pss_cons (ps_ost (pe_var (i := 0) rfl (.inl v0)) (pe_var (i := 1) rfl (.inl v1) hd hcl)) pss_nil, ?_⟩
      refine ⟨x, rfl, V.ref a, rfl, a, C, rfl, T, hf f (List.mem_singleton.mpr rfl), .inl ⟨ha, fun dx h1 h2 => ?_⟩⟩
      exact hq dx h1 h2
theorem exi2 (lk : K.lookup fI = some ⟨oc, od, .func (PySem.W.fnOf name qual params [.Assign [.Attribute (.Name "self" p1) f p2] (.Name y p3) p4, .Assign [.Attribute (.Name "self" p5) g p6] (.Name z p7) p8] scope dV kV doc pm an cdv ct), osl⟩) (hcd : PySem.W.codeIn K cdv qual = true) (SC : FnScope ["self", y, z] ["self", y, z] scope)
    (v0 : scope.names.lookup ("self" : Str) = some .local) (v1 : scope.names.lookup y = some .local) (v2 : scope.names.lookup z = some .local) (hd : (y == ("__debug__" : Str)) = false) (hcl : (y == ("__classdict__" : Str)) = false) (hd2 : (z == ("__debug__" : Str)) = false) (hcl2 : (z == ("__classdict__" : Str)) = false) :
    FnOk P w K mg base CX (k + 1) fI (PySem.W.fnOf name qual params [.Assign [.Attribute (.Name "self" p1) f p2] (.Name y p3) p4, .Assign [.Attribute (.Name "self" p5) g p6] (.Name z p7) p8] scope dV kV doc pm an cdv ct) ["self", y, z] (exI K [f, g]) := by
  refine fn_of lk hcd SC (fun vs H Q E h => ?_) fun A outer s H vs Q E hr h => ?_
  · obtain ⟨a, C, ws, rfl, h2, _⟩ := h
    rw [List.length_cons, h2]; rfl
  · obtain ⟨a, C, ws, rfl, h2, T, hf, ha, hq⟩ := h
    match ws, h2 with
    | [x, x2], _ =>
      refine ⟨_, pss_cons (ps_ost (pe_var (i := 0) rfl (.inl v0)) (pe_var (i := 1) rfl (.inl v1) hd hcl)) (pss_cons (ps_ost (pe_var (i := 0) rfl (.inl v0)) (pe_var (i := 2) rfl (.inl v2) hd2 hcl2)) pss_nil), ?_⟩
      refine ⟨x, rfl, V.ref a, rfl, a, C, rfl, T, hf f List.mem_cons_self, .inl ⟨ha, fun dx h1 h2 => ?_⟩⟩
      refine ⟨x2, rfl, V.ref a, rfl, a, C, rfl, T, hf g (List.mem_cons_of_mem _ List.mem_cons_self), .inr ⟨dx, [(f, x)], upd_same, ?_, Nat.le_add_left 1 899, ?_⟩⟩
      · rw [upd_ne h2, upd_same]
      · have e : upd (upd (upd H dx (exd dx [(f, x)])) a (exo a C (some dx))) dx (exd dx [(g, x2), (f, x)]) = upd (upd H dx (exd dx [(g, x2), (f, x)])) a (exo a C (some dx)) := upd_upd (Ne.symm h2)
        show Q .non _
        rw [e]
        exact hq dx h1 h2
end
section
variable {X : Cx} {e : Expr} {es : List Expr} {ta : TA} {p pos : Pos}
theorem pe_oexV {CX : CXT} {x : Str} {C fI : Addr} {k : Nat} {fd : FuncData} {ps : List Str} {sp : Sp} (T : OexC X.K C) (iC : PySem.W.findIn X.K (.ref C) "__init__" = some (some (.ref fI))) (tI : PySem.W.typeIn X.K (.ref fI) = some (.type "function"))
    (F1 : FnOk X.prog X.w X.K X.mg X.base CX k fI fd ps sp) (hr : Room (k + 1) X.A) (hb : Binds X.K fd ps []) (hx : Passes CX X (fun _ _ _ => False)) (hg : Gl X x) (hm : X.mg x = some (.ref C)) (ha : PA X (e :: es) ta)
    (hdb : (x == ("__debug__" : Str)) = false := by decide) (he : starEach (e :: es) X.env = (false, eval e X.env) :: starEach es X.env := by rfl) (hpl : (backTo pos (starEach es X.env)).any (·.1) = false := by rfl) :
    PE X (.Call (.Name x p) (e :: es) [] pos) (fun σ H Q => ta σ H fun vs H1 => vs.length ≤ 1000 ∧ ∀ a, H1 a = none → sp (.ref a :: vs) (upd H1 a (exo a C none)) (fun v H2 => v = .non ∧ Q (.ref a) H2) (fun _ _ _ => False)) := by
  refine ⟨fun pins s σ H Q I h => ?_⟩
  obtain ⟨nm, q, N, bs, bm, sn, sub, ab, col, dd, k0, k1, k2, k3, k5, hC, hbm⟩ := T.cls
  refine wpAny_Call_Name_kw (ld_glob I hg hm ?_ hdb)
  refine PySem.W.callWith_K (h₀ := X.base) I.ok.mod.kin T.kC (thn (ha.run pos pins s σ H _ I h) fun us s1 ⟨vs, H1, I1, r1, hz, q1⟩ => ⟨I1.kIn, ?_⟩) he hpl
  show wpAny _ _ (call (.ref C) us) _ _ _
  obtain ⟨hp, g, dr, tk, os⟩ := s1
  have hsz : hp.objs.size ≤ hp.objs.size + 1 := Nat.le_succ _
  have hn : H1 (hp.objs.size + 1) = none := I1.hok.fresh hsz
  have hq := q1 (hp.objs.size + 1) hn
  have kk : ∀ b o, hp.get? b = some o → ((hp.push (PySem.W.kdv_tup us)).push (PySem.HandSPX.excO C hp.objs.size)).get? b = some o := fun b o e => Heap.get?_push_of_some _ (Heap.get?_push_of_some _ e)
  have hget : ((hp.push (PySem.W.kdv_tup us)).push (PySem.HandSPX.excO C hp.objs.size)).get? (hp.objs.size + 1) = some (PySem.HandSPX.excO C hp.objs.size) := by heap_get
  have I2 : Inv X pins σ (upd H1 (hp.objs.size + 1) (exo (hp.objs.size + 1) C none)) ⟨(hp.push (PySem.W.kdv_tup us)).push (PySem.HandSPX.excO C hp.objs.size), g, dr, tk, os⟩ :=
    I1.laid (t' := tk) (a := hp.objs.size + 1) (o := exo (hp.objs.size + 1) C none) (h' := (hp.push (PySem.W.kdv_tup us)).push (PySem.HandSPX.excO C hp.objs.size)) kk hsz (exo_ok hget)
  have r2 : Vals (V.ref (hp.objs.size + 1) :: vs) (Value.ref (hp.objs.size + 1) :: us) := .cons rfl r1
  have hl : (Value.ref (hp.objs.size + 1) :: us ++ []).length = ps.length := by
    have e := r2.length
    rw [F1.len _ _ _ _ hq] at e
    rw [List.append_nil]
    exact e.symm
  have hus : us.length ≤ sizeLine := by
    rw [← Paired.length r1, sizeLine_eq]
    omega
  have b2 := hb _ (Value.ref (hp.objs.size + 1) :: us) I2.kIn hl
  rw [List.append_nil] at b2
  refine wpAny_call (PySem.HandSPX.call_own F.excBase_ValueError (fun Y => PySem.HandSPX.refsVE_contains Y bm hbm) (I1.kIn _ _ hC) (PySem.W.looks_findIn I1.kIn iC) (fun self => PySem.W.bind_fn I1.kIn self tI) hus
    (codeAny_mono (F1.run _ X.stack _ _ ⟨Value.ref (hp.objs.size + 1) :: us, []⟩ (Value.ref (hp.objs.size + 1) :: us) _ _ (fun _ _ _ => False) (hr.make C us []) (I2.env0.make C us []) b2 r2 hq) fun r s' hq' => ?_))
  cases r with
  | error er => exact hx pins σ _ _ er s' I2 hq'
  | ok fl =>
    cases fl with
    | ret u =>
      obtain ⟨v, H', I3, rv, ev, q3⟩ := I2.after hq'
      subst ev
      exact ⟨rv, ⟨V.ref (hp.objs.size + 1), H', I3, rfl, q3⟩⟩
    | next => exact False.elim hq'
    | brk => exact False.elim hq'
    | cont => exact False.elim hq'
end
end Mini
namespace Mini
open PySem PySem.Spec PyProof.Rows L2
theorem zipF_ok : ∀ {names : List Str} {ms : List MV} {fs : Flds}, zipF names ms = some fs → fs = names.zip ms ∧ ms.length = names.length
  | [], [], _, h => by cases h; exact ⟨rfl, rfl⟩
  | [], _ :: _, _, h => by cases h
  | _ :: _, [], _, h => by cases h
  | f :: r, m :: q, fs, h => by
    have h : (zipF r q).map ((f, m) :: ·) = some fs := h
    cases e : zipF r q with
    | none => rw [e] at h; cases h
    | some l =>
      rw [e] at h
      cases h
      obtain ⟨h1, h2⟩ := zipF_ok e
      exact ⟨by rw [h1]; rfl, by rw [List.length_cons, List.length_cons, h2]⟩
section
variable {Γ : Gm} {Av : Addr → Prop} {H : Hp} {W : Wd}
theorem RPf.app : ∀ {fs : Flds} {ws : List (Str × V)} {gs : Flds} {us : List (Str × V)}, RPf Γ Av H fs ws → RPf Γ Av H gs us → RPf Γ Av H (fs ++ gs) (ws ++ us)
  | [], _, _, _, h, h' => by rw [show _ = [] from h]; exact h'
  | (f, m) :: fs, _, _, _, h, h' => by
    obtain ⟨v, vs, e, r1, r⟩ := h
    rw [e]
    exact ⟨v, _, rfl, r1, RPf.app r h'⟩
theorem RPf.rev : ∀ {fs : Flds} {ws : List (Str × V)}, RPf Γ Av H fs ws → RPf Γ Av H fs.reverse ws.reverse
  | [], _, h => by rw [show _ = [] from h]; rfl
  | (f, m) :: fs, _, h => by
    obtain ⟨v, vs, e, r1, r⟩ := h
    rw [e, List.reverse_cons, List.reverse_cons]
    exact RPf.app (RPf.rev r) ⟨v, [], rfl, r1, rfl⟩
theorem RPf.zip : ∀ {names : List Str} {ms : List MV} {vs : List V}, RPs Γ Av H ms vs → RPf Γ Av H (names.zip ms) (names.zip vs)
  | [], _, _, _ => rfl
  | _ :: _, [], _, h => by rw [show _ = [] from h]; rfl
  | f :: names, m :: ms, _, h => by
    obtain ⟨v, vs, e, r1, r⟩ := h
    rw [e]
    exact ⟨v, _, rfl, r1, RPf.zip r⟩
/-- a field by its name -/
theorem RPf.get {f : Str} : ∀ {fs : Flds} {ws : List (Str × V)} {m : MV}, RPf Γ Av H fs ws → fGet fs f = some m → ∃ v, ws.lookup f = some v ∧ RP Γ Av H m v
  | [], _, _, _, h => by cases h
  | (g, x) :: fs, _, m, h, e => by
    obtain ⟨v, vs, q, r1, r⟩ := h
    rw [q]
    unfold fGet at e
    by_cases z : seqStr g f = true
    · rw [if_pos z] at e
      cases e
      have gf := of_decide_eq_true (by rw [← seqStr_eq]; exact z)
      subst gf
      exact ⟨v, by rw [List.lookup]; simp, r1⟩
    · rw [if_neg z] at e
      obtain ⟨w, h1, h2⟩ := RPf.get r e
      have ne : ¬ f = g := fun q => z (by rw [seqStr_eq]; exact decide_eq_true q.symm)
      refine ⟨w, ?_, h2⟩
      rw [lookup_put, if_neg ne]
      exact h1
end
section
variable {Γ : Gm} {X : Cx} {mcm : List (Nat × Nat)} {σ : L2.St} {H : Hp} {ρ : Env} {W : Wd} {S : Store}
theorem Rel.av_new (R : Rel Γ X mcm ρ σ W S H) {a : Addr} (h : H a = none) : W.Av a :=
  ⟨fun z => (by
    obtain ⟨⟨o, q, _⟩, _⟩ := R.rs.bd a z
    rw [h] at q; cases q), fun i hi => (by
    obtain ⟨u, hu⟩ := R.rs.tracked hi
    rw [h] at hu; cases hu)⟩
end
section
variable {Γ : Gm} {X : Cx} {mcm : List (Nat × Nat)} {W0 : WX} {P : Prog} {x : Str} {p pos : Pos} {e : Expr} {es : List Expr} {ma : Env → Store → Res (List MV)} {c : Nat} {C fI : Addr} {k : Nat} {fd : FuncData} {ps names : List Str} {anc : List Nat}
theorem snd_mkX (hP : P.clss[c]? = some (.exc names anc)) (hC : Γ.cad c = some C) (hn : names.length ≤ 900) (T : OexC X.K C) (hf : ∀ f ∈ names, PySem.W.findIn X.K (.ref C) f = some none) (iC : PySem.W.findIn X.K (.ref C) "__init__" = some (some (.ref fI))) (tI : PySem.W.typeIn X.K (.ref fI) = some (.type "function"))
    (F1 : FnOk X.prog X.w X.K X.mg X.base (L2.CX X.prog X.w) k fI fd ps (exI X.K names)) (hr : Room (k + 1) X.A) (hb : Binds X.K fd ps []) (tk : Takes X W0) (hg : Gl X x) (hm : X.mg x = some (.ref C)) (ha : PA X (e :: es) (tA Γ X mcm W0 ma))
    (hdb : (x == ("__debug__" : Str)) = false := by decide) (he : starEach (e :: es) X.env = (false, eval e X.env) :: starEach es X.env := by rfl) (hpl : (backTo pos (starEach es X.env)).any (·.1) = false := by rfl) :
    PE X (.Call (.Name x p) (e :: es) [] pos) (tE Γ X mcm W0 fun ρ S => (ma ρ S).bind fun vs S => if vs.all pureV then Res.of ((exnF P c vs).map (.exn c)) S else .bad) := by
  refine PE.imp (pe_oexV T iC tI F1 hr hb (passes_call (Takes.imp tk (W' := fun _ _ _ _ => False) fun _ _ _ _ z => z.elim) fun _ _ _ _ z => z) hg hm ha hdb he hpl) fun σ H Q h => ?_
  obtain ⟨W, ρ, S, R, w⟩ := h
  refine tA.mono (stepA R w) ?_
  rintro vs H1 ⟨ms, W1, S1, rv, e1, R1, h1⟩
  split at h1
  · rename_i hp
    cases hx : (exnF P c ms).map (MV.exn c) with
    | none => rw [hx] at h1; exact h1.elim
    | some m =>
      rw [hx] at h1
      unfold exnF at hx
      rw [hP] at hx
      dsimp only at hx
      cases hz : zipF names ms with
      | none => rw [hz] at hx; cases hx
      | some fs =>
        rw [hz] at hx
        cases hx
        obtain ⟨rfl, hl⟩ := zipF_ok hz
        have hlv : vs.length = names.length := rv.len.trans hl
        refine ⟨by omega, fun a hna => ⟨a, C, vs, rfl, hlv, T, hf, upd_same, fun d hd hda => ⟨rfl, ?_⟩⟩⟩
        rw [upd_ne hda] at hd
        rw [upd_upd hda]
        have hd2 : upd H1 a (exo a C (some d)) d = none := by rw [upd_ne hda]; exact hd
        have k : ∀ b o, H1 b = some o → upd (upd H1 a (exo a C (some d))) d (exd d (names.zip vs).reverse) b = some o := fun b o q => same_new hd2 b o (same_new hna b o q)
        have e2 : Ev Γ W1 H1 W1 _ := Ev.grow R1.rs.fin k
        refine h1 W1 _ e2 (R1.grow k) _ (.inr ⟨a, C, d, _, rfl, hC, ?_, upd_same, R1.av_new hna, R1.av_new hd, ?_⟩)
        · rw [upd_ne (Ne.symm hda), upd_same]
        · exact RPf.rev (RPf.zip (e2.rps (RPs.of_pure hp rv)))
  · exact h1.elim
end
end Mini
namespace Mini
open PySem PySem.Spec PyProof.Rows
section
open PySem.W PySem.Calls
variable {prog : Program} {w : World} {A : Around} {E : Value → Shared → Prop} {s : Shared} {K : Frag} {x D : Addr} {ox : Obj} {od : Option Obj}
theorem findObj_data {C : Addr} {name : Str} {a g : Value} (hc : (clsIn K C).isSome = true) (ha : findIn K (.ref C) name = some (some a)) (hg : specialIn K a "__get__" = some (some g)) (ht : takesIn K a = some true) : findObj K C od name = some (.bind g a) := by
  obtain ⟨cd, hc⟩ := Option.isSome_iff_exists.mp hc
  unfold findObj
  rw [hc, Option.bind_some, ha, Option.bind_some]
  simp [hg, ht]
theorem exn_class {Q : Option Value → Shared → Prop} (C : L2.ExcC K D) (X : K.In s.heap) (I : InstAt s.heap x ox D od) (h : Q (some (.ref D)) { s with toks := s.toks + 1 }) : wpAny (model prog w) A (getAttr? (.ref x) "__class__") Q E s := by
  have hf : findObj K D od "__class__" = some (.bind (.builtin "getset_descriptor.__get__") (.builtin "object.__class__")) := findObj_data (by obtain ⟨cd, hc, _⟩ := any_some C.hd; rw [hc]; rfl) C.ha C.hn C.ht
  obtain ⟨hp, g, d, t, os⟩ := s
  have L0 := I.type (M := model prog w)
  have L1 := looks_findIn (M := model prog w) X C.hg
  have L2 := looks_findIn (M := model prog w) X C.hk
  have L3 := looks_find (M := model prog w) X I hf
  have sub : Looks (model prog w) hp (isInstance (.ref x) (.type "BaseException")) true := L0.andThen (looks_subIn X C.hs)
  have hx0 : (false && onTheHeap (Value.builtin "BaseException.__getattribute__")) = false := rfl
  have hx2 : (Value.builtin "BaseException.__getattribute__" == Value.builtin "object.__getattribute__") = false := by decide +kernel
  have hx1 : (onTheHeap (Value.ref D) && Value.builtin "BaseException.__getattribute__" == Value.builtin "object.__getattribute__") = false := by rw [hx2]; rfl
  unfold getAttr? getAttrBy? getAttrBy
  refine wpAny_bind (wpAny_mkText (wpAny_bind (wpAny_attempt (wpAny_holding (wpAny_bind (L0.at (wpAny_bind (L1.at ?_))))))))
  show wpAny _ _ (if (onTheHeap (Value.ref D) && Value.builtin "BaseException.__getattribute__" == Value.builtin "object.__getattribute__") = true then _ else _) _ _ _
  rw [hx1, if_neg Bool.false_ne_true]
  unfold getAttrByItsOwn hookBefore
  refine wpAny_bind ?_
  rw [if_pos (show onTheHeap (Value.ref D) = true from rfl)]
  refine L2.at ?_
  refine wpAny_bind (wpAny_attempt (wpAny_holding ?_))
  unfold callGetattribute
  rw [hx0, if_neg Bool.false_ne_true]
  unfold boundAndCalled
  rw [PySem.F.excAttr_ValueError.ga.bind (.ref x)]
  refine wpAny_bind (wpAny_pure ?_)
  show wpAny _ _ (call (.builtin "BaseException.__getattribute__") [.ref x, .str "__class__" t]) _ _ _
  refine wpAny_call (codeAny_call_builtin PySem.F.excAttr_ValueError.ga.plain PySem.F.entry_bexc_ga ?_)
  refine @check_slot (model prog w) _ _ ⟨hp, g, d, t + 1, os⟩ "BaseException.__getattribute__" "BaseException" "__getattribute__" (.ref x) [.str "__class__" t] [] _ (by decide +kernel) (by decide +kernel) sub (PySem.F.args_bexc_ga (.ref x) (.str "__class__" t)) ?_
  unfold Builtin.«object.__getattribute__»
  refine wpAny_bind (wpAny_of_eq (a := ((Value.ref x : Value), [Value.str "__class__" t])) (by first | rfl | (simp only [slotArgs]; rfl)) ?_)
  refine wpAny_bind (wpAny_pure (wpAny_bind (L0.at (wpAny_bind (L3.at ?_)))))
  show wpAny _ _ (holding [Value.builtin "object.__class__"] (call (.builtin "getset_descriptor.__get__") [.builtin "object.__class__", .ref x, .ref D]) >>= ret) _ _ _
  refine wpAny_bind (wpAny_holding (wpAny_call (class_get (s := ⟨hp, g, d, t + 1, os⟩) (ox := ox) (od := od) X I C.hm ?_)))
  refine wpAny_pure ?_
  show wpAny _ _ (handedOut (.ref D)) _ _ _
  rw [handedOut_of (v := .ref D) rfl]
  first
    | exact wpAny_pure (wpAny_pure h)
    | exact wpAny_pure h
    | exact wpAny_pure (wpAny_bind (wpAny_pure (wpAny_pure h)))
theorem kitx_exn (C : L2.ExcC K D) : KitX K (.ref x) (.ref D) (fun h => InstAt h x ox D od) where
  ty := fun _ _ _ I => I.type
  it := fun _ _ X _ => by
    obtain ⟨cdD, hcD, _⟩ := any_some C.hd
    unfold clsIn at hcD
    split at hcD
    · rename_i c' d' cd' sl' ho
      intro A' Q' E' s' k q
      unfold isType loadHead
      exact wpAny_bind (wpAny_loadPart (k _ _ (X _ _ ho)) (wpAny_pure q))
    · cases hcD
  ne := fun h tp dd its n sl X htp => by
    obtain ⟨cdD, hcD, _⟩ := any_some C.hd
    refine Bool.eq_false_iff.mpr fun q => ?_
    have e : D = tp := Value.ref.inj (beq_iff_eq.mp q)
    subst e
    unfold clsIn at hcD
    split at hcD
    · rename_i c' d' cd' sl' ho
      have z := (X _ _ ho).symm.trans htp
      cases z
    · cases hcD
  ca := fun X I k => exn_class C X I k
end
open L2
section
variable {Γ : Gm} {X : Cx} {P : Prog} {H : Hp} {Av : Addr → Prop} {c : Nat} {C a : Addr} {fs : Flds} {pins : List (Addr × Obj)} {σ : L2.St} {s : Shared}
/-- where an error stands -/
theorem exn_at {v : V} (h : RP Γ Av H (.exn c fs) v) : ∃ a C, v = .ref a ∧ Γ.cad c = some C ∧ ∀ {pins : List (Addr × Obj)} {σ : L2.St} {s : Shared}, L2.Inv X pins σ H s → ∃ ox od, PySem.W.InstAt s.heap a ox C od := by
  rcases h with ⟨_, a, C, e1, e2, e3, _⟩ | ⟨a, C, d, ws, e1, e2, e3, e4, _⟩
  · refine ⟨a, C, e1, e2, fun {pins σ s} I => ?_⟩
    obtain ⟨⟨oe, vs, ho, hz, hd, _⟩, _⟩ := I.hok a _ e3
    obtain ⟨oc, od, oda, osl⟩ := oe
    obtain ⟨h1, h2⟩ := hz
    dsimp only at h1 h2 hd
    subst h1 h2 hd
    exact ⟨_, none, ho, rfl, rfl, trivial⟩
  · refine ⟨a, C, e1, e2, fun {pins σ s} I => ?_⟩
    obtain ⟨t1, ho⟩ := exo_at I.hok e3
    obtain ⟨mA, ⟨o, es, ep, hd, _⟩, _⟩ := exd_at I.hok e4
    exact ⟨_, some o, ho, rfl, rfl, hd⟩
/-- isinstance(e, C) -/
def rIsX (K : PySem.W.Frag) (X : Cx) : List V → Hp → VK → Prop := fun xs H Q => ∃ (a D : Addr) (cl : V) (cu : Value) (b : Bool), xs = [.ref a, cl] ∧ ClsV cl cu ∧ ExcC K D ∧ (∀ {pins : List (Addr × Obj)} {σ : L2.St} {s : Shared}, L2.Inv X pins σ H s → ∃ ox od, PySem.W.InstAt s.heap a ox D od) ∧
  PySem.W.kitOne K (.ref D) cu = some b ∧ Q (.bl b) H
theorem call_isX : CallR X (.builtin "isinstance") (rIsX X.K X) := by
  intro pins s σ H xs us Q I r h
  obtain ⟨a, D, cl, cu, b, rfl, k, C, at', e, q⟩ := h
  obtain ⟨u1, u2, rfl, r1, r2⟩ := vals2 r
  have e2 := k.eq r2
  subst e2
  obtain rfl : u1 = Value.ref a := r1
  obtain ⟨ox, od, J⟩ := at' I
  exact PySem.W.kia_one (kitx_exn (ox := ox) (od := od) C) I.kIn J e (fun z => nomatch z) fun tk => ⟨.bl b, H, I.tok tk, rfl, q⟩
end
end Mini
namespace Mini
open PySem PySem.Spec PyProof.Rows L2
/-- what the written part says of the error classes -/
structure ExnF (Γ : Gm) (P : Prog) (K : PySem.W.Frag) : Prop where
  ok : ∀ c C, isExc P c = true → Γ.cad c = some C → ExcC K C
  kit : ∀ c C c' C', isExc P c = true → isExc P c' = true → Γ.cad c = some C → Γ.cad c' = some C' → PySem.W.kitOne K (.ref C) (.ref C') = some (isAnc P c c')
  kitV : ∀ c C, isExc P c = true → Γ.cad c = some C → PySem.W.kitOne K (.ref C) (.type "ValueError") = some true
section
variable {Γ : Gm} {X : Cx} {mcm : List (Nat × Nat)} {W0 : WX} {P : Prog} {a : Expr} {p pos : Pos} {ma : EvM}
/-- e.f -/
theorem snd_attrX {f : Str} (hK : X.K = Γ.K) (hF : ExnF Γ P Γ.K) (hno : ∀ c C, isExc P c = true → Γ.cad c = some C → PySem.W.findIn Γ.K (.ref C) f = some none) (ha : PE X a (tE Γ X mcm W0 ma)) (hb : attributeBase a f X.env (eval a X.env) = eval a X.env) :
    PE X (.Attribute a f pos) (tE Γ X mcm W0 fun ρ S => (ma ρ S).bind fun x S => Res.of (exnG P x f) S) := by
  refine ⟨fun pins s σ H Q I h => ?_⟩
  obtain ⟨W, ρ, S, R, h⟩ := h
  refine attr_of hb (thn (ha.run pins s σ H _ I (stepE R h)) fun u s1 hh => ?_)
  obtain ⟨x, H1, I1, ru, mv, W1, S1, rx, e1, R1, h1⟩ := hh
  obtain ⟨m, e, k⟩ := WnE.of R1 h1
  cases mv with
  | exn c fs =>
    unfold exnG at e
    dsimp only at e
    split at e
    · rename_i hx
      rcases rx with ⟨e0, a, C, q0, q1, q2, _⟩ | ⟨a, C, d, ws, q0, q1, q2, q3, q4, q5, r⟩
      · subst e0
        cases e
      · subst q0
        obtain rfl : u = Value.ref a := ru
        obtain ⟨v, l, rv⟩ := RPf.get r e
        have T := hF.ok c C hx q1
        obtain ⟨t1, ho⟩ := exo_at I1.hok q2
        obtain ⟨mA, hns, hr⟩ := exd_at I1.hok q3
        obtain ⟨od, hod, hl⟩ := lookIn_ns hns
        obtain ⟨u, hu, ru⟩ := RelO.some_of (v := v) (o := mA f) (by rw [← l]; exact hr f)
        have J : PySem.W.InstAt s1.heap a _ C (some od) := ⟨ho, rfl, rfl, hod⟩
        have hn := hno c C hx q1
        rw [← hK] at hn
        have hs := T.hs
        have hg := T.hg
        have hk := T.hk
        have hd := T.hd
        rw [← hK] at hs hg hk hd
        exact HandSPX.exc_get I1.kIn J hg hk hs (PySem.W.findObj_own hd hn rfl (by rw [hl, hu])) (handed_of ru) ⟨v, H1, I1.tok _, ru, k v (RV.of_rp rv)⟩
    · cases e
  | _ => cases e
/-- isinstance(e, C) -/
theorem snd_isX {c : Expr} {kc : Option Nat} {cv : V} {cu : Value} (hK : X.K = Γ.K) (hF : ExnF Γ P Γ.K) (hg : Gl X "isinstance") (hm : X.mg "isinstance" = none) (ha : PE X a (tE Γ X mcm W0 ma)) (hc : PE X c (tC cv))
    (hcv : match kc with
      | some j => isExc P j = true ∧ ∃ C, Γ.cad j = some C ∧ cv = .ref C ∧ cu = .ref C
      | none => cv = .ty "ValueError" ∧ cu = .type "ValueError")
    (hs1 : PySem.W.isStarred a = false) (hs2 : PySem.W.isStarred c = false) (hpl : (backTo pos (starEach [c] X.env)).any (·.1) = false) :
    PE X (.Call (.Name "isinstance" p) [a, c] [] pos) (tE Γ X mcm W0 fun ρ S => (ma ρ S).bind fun x S => Res.of ((exnIs P x kc).map .bl) S) := by
  refine PE.imp (pe_callB call_isX hg hm (by decide +kernel) (pa_cons ha (pa_cons hc pa_nil (star_ok hs2)) (star_ok hs1)) (by decide) (by decide) (star_ok hs1) hpl) fun σ H Q h => ?_
  obtain ⟨W, ρ, S, R, h⟩ := h
  refine tE.mono (stepE R h) ?_
  rintro x H1 ⟨mv, W1, S1, rx, e1, R1, h1⟩
  obtain ⟨m, e, k⟩ := WnE.of R1 h1
  cases mv with
  | exn c fs =>
    obtain ⟨a, C, q0, q1, at'⟩ := exn_at (show RP Γ W1.Av H1 (.exn c fs) x from rx)
    subst q0
    unfold exnIs at e
    cases kc with
    | none =>
      dsimp only at e
      split at e
      · rename_i hx
        cases e
        obtain ⟨rfl, rfl⟩ := hcv
        rw [hK]
        exact ⟨a, C, _, _, true, rfl, .ty _, hF.ok c C hx q1, at', hF.kitV c C hx q1, k _ rfl⟩
      · cases e
    | some j =>
      dsimp only at e
      split at e
      · rename_i hx
        cases e
        obtain ⟨hj, C', g1, rfl, rfl⟩ := hcv
        rw [hK]
        exact ⟨a, C, _, _, _, rfl, .own C', hF.ok c C hx q1, at', hF.kit c C j C' hx hj q1 g1, k _ rfl⟩
      · cases e
  | _ => (unfold exnIs at e; cases kc <;> cases e)
end
end Mini
namespace Mini
open PySem PySem.Spec PyProof.Rows L2
section
variable {Γ : Gm} {X : Cx} {mcm : List (Nat × Nat)} {W0 : WX} {P : Prog} {e : Expr} {x : Str} {p pos : Pos} {ms : Env → Store → Res (List MV)}
/-- list(x) of a list, a tuple, the script -/
theorem snd_list (kk : Bool) (hK : X.K = Γ.K) (hg : Gl X "list") (hm : X.mg "list" = none) (ha : PA X [e] (tA Γ X mcm W0 ms)) (hs : PySem.W.isStarred e = false) :
    PE X (.Call (.Name "list" p) [e] [] pos) (tE Γ X mcm W0 fun ρ S => (ms ρ S).bind fun vs S => match biLM .list vs S with
      | some xs => mkL kk xs S
      | none => .bad) := by
  refine PE.imp (pe_callTy call_list_of hg hm (by decide +kernel) ha (by decide) (by decide) (star_ok hs) (by rfl)) fun σ H Q h => ?_
  obtain ⟨W, ρ, S, R, w⟩ := h
  refine tA.mono (stepA R w) ?_
  rintro vs H1 ⟨mv, W1, S1, rx, e1, R1, h1⟩
  match mv, rx, h1 with
  | [], _, h1 => exact h1.elim
  | [m], rx, h1 =>
    obtain ⟨v, q, eq, r1, r2⟩ := rx
    obtain rfl : q = [] := r2
    subst eq
    have h1 : WnE Γ X mcm W0 ρ σ W1 H1 (match asSeq m S1 with
      | some xs => mkL kk xs S1
      | none => .bad) Q := h1
    cases hz : asSeq m S1 with
    | none => rw [hz] at h1; exact h1.elim
    | some xs =>
      rw [hz] at h1
      obtain ⟨a, ys, rfl, q, r⟩ := asSeq_ok R1 hz r1
      rw [hK]
      exact ⟨a, ys, rfl, q, (mkL_ok R1 r h1).2⟩
  | _ :: _ :: _, _, h1 => exact h1.elim
end
section
variable {Γ : Gm} {X : Cx} {mcm : List (Nat × Nat)} {W0 : WX} {P : Prog} {x : Str} {p pos : Pos} {c : Nat} {C : Addr} {anc : List Nat} {bmB : List Value} {B newId initId : String}
theorem snd_mkX0 (F : ExcBaseFacts B newId initId bmB) (q : PySem.W.excIn X.K C bmB newId = true) (hP : P.clss[c]? = some (.exc [] anc)) (hC : Γ.cad c = some C) (kC : PySem.W.keepIn X.K (.ref C) = true) (hg : Gl X x) (hm : X.mg x = some (.ref C)) (hdb : (x == ("__debug__" : Str)) = false := by decide) :
    PE X (.Call (.Name x p) [] [] pos) (tE Γ X mcm W0 fun ρ S => Res.of ((exnF P c []).map (.exn c)) S) := by
  refine ⟨fun pins s σ H Q I h => ?_⟩
  obtain ⟨W, ρ, S, R, w⟩ := h
  refine wpAny_Call_Name_kw (ld_glob I hg hm ?_ hdb)
  refine PySem.W.callWith_K0 I.kIn kC ?_
  obtain ⟨bm, N, nm, qn, bs, hdct, sn, sub, ab, col, dd, k0, k1, k2, k3, k5, mN, hC', hN, hni, T⟩ := exc_obj I.kIn q
  refine wpAny_call_exc_subT F T hC' hN hni (fun h' a hmade => ?_) (by show 0 ≤ sizeLine; exact Nat.zero_le _)
  have hn : H a = none := I.hok.gone hmade.new
  obtain ⟨t, ht, _, _⟩ := hmade.there
  have e1 : (exnF P c []).map (MV.exn c) = some (.exn c []) := by
    unfold exnF
    rw [hP]
    rfl
  rw [e1] at w
  have k : ∀ b o, H b = some o → upd H a (ExO (.ref C) a) b = some o := fun b o z => same_new hn b o z
  refine ⟨.ref a, upd H a (ExO (.ref C) a), I.laidN hmade.keeps hmade.new hn (exO_ok ht ⟨rfl, rfl⟩ rfl rfl rfl (show 4 < 6 by decide)), rfl, ?_⟩
  exact w W _ (Ev.grow R.rs.fin k) (R.grow k) _ (.inl ⟨rfl, a, C, rfl, hC, upd_same, R.av_new hn⟩)
end
end Mini
namespace Mini
open PySem PySem.Spec PyProof.Rows L2
/-- keys and values by turns -/
def evPs : List (EvM × EvM) → Env → Store → Res (List MV)
  | [], _, S => .ok [] S
  | (k, v) :: r, ρ, S => (k ρ S).bind fun x S => (v ρ S).bind fun y S => (evPs r ρ S).bind fun vs S => .ok (x :: y :: vs) S
theorem bind_assoc {α β γ : Type} (r : Res α) (f : α → Store → Res β) (g : β → Store → Res γ) : (r.bind f).bind g = r.bind fun a S => (f a S).bind g := by
  cases r <;> rfl
section
variable {Γ : Gm} {X : Cx} {mcm : List (Nat × Nat)} {W0 : WX} {σ : L2.St} {H : Hp} {ρ : Env} {W : Wd} {S : Store}
/-- pairs of related values -/
def RPr (Γ : Gm) (W : Wd) (H : Hp) : List MV → List (V × V) → Prop
  | [], ps => ps = []
  | k :: v :: r, ps => ∃ x y qs, ps = (x, y) :: qs ∧ RV Γ W H k x ∧ RV Γ W H v y ∧ RPr Γ W H r qs
  | [_], _ => False
theorem pairs_ok : ∀ (l : List (EvM × EvM)) {W : Wd} {S : Store} {H : Hp} {Q : List (V × V) → Hp → Prop}, Rel Γ X mcm ρ σ W S H →
    Want Γ (Rel Γ X mcm ρ σ) W H (evPs l ρ S) (fun ms _ W' H' => ∀ ps, RPr Γ W' H' ms ps → Q ps H') (fun C d H' => W0 C d σ H') → tPairs (l.map fun p => (tE Γ X mcm W0 p.1, tE Γ X mcm W0 p.2)) σ H Q
  | [], W, S, H, Q, R, w => w W H R.evr R [] rfl
  | (mk, mv) :: r, W, S, H, Q, R, w => by
    show tE Γ X mcm W0 mk σ H fun x H1 => tE Γ X mcm W0 mv σ H1 fun y H2 => tPairs _ σ H2 fun ps H3 => Q ((x, y) :: ps) H3
    refine tE.mono (stepE R w) ?_
    rintro x H1 ⟨mx, W1, S1, rx, e1, R1, h1⟩
    refine tE.mono (stepE R1 h1) ?_
    rintro y H2 ⟨my, W2, S2, ry, e2, R2, h2⟩
    refine pairs_ok r R2 ((Want.bind h2).mono (fun ms S' W' H' _ e R' q ps rp => ?_) fun _ _ _ z => z)
    exact q W' H' R'.evr R' ((x, y) :: ps) ⟨x, y, ps, rfl, e.rv _ _ (e2.rv _ _ rx), e.rv _ _ ry, rp⟩
end
end Mini
namespace Mini
open PySem PySem.Spec PyProof.Rows L2
theorem keyOf_kV {Γ : Gm} {W : Wd} {H : Hp} {m : MV} {k : Key} {x : V} (h : keyOf m = some k) (r : RV Γ W H m x) : x = kV k := by
  cases m with
  | int i => cases h; exact r
  | str s => cases h; exact r
  | _ => cases h
section
variable {Γ : Gm} {W : Wd} {H : Hp}
theorem disp_ok : ∀ {ms : List MV} {ps : List (V × V)} {ts : List (MV × MV)} {ks : List (Key × MV)}, RPr Γ W H ms ps → turns ms = some ts → keyed ts = some ks → ∃ kvs : List (Key × V), ps = kvs.map (fun kv => (kV kv.1, kv.2)) ∧ RKs Γ W H ks kvs
  | [], ps, ts, ks, r, h1, h2 => by
    cases h1
    cases h2
    exact ⟨[], r, rfl⟩
  | [_], _, _, _, r, _, _ => r.elim
  | k :: v :: q, ps, ts, ks, r, h1, h2 => by
    obtain ⟨x, y, qs, rfl, r1, r2, r3⟩ := r
    have h1 : (turns q).map ((k, v) :: ·) = some ts := h1
    cases hq : turns q with
    | none => rw [hq] at h1; cases h1
    | some tq =>
      rw [hq] at h1
      cases h1
      have h2 : (match keyOf k, keyed tq with
        | some k, some r => some ((k, v) :: r)
        | _, _ => none) = some ks := h2
      cases hk : keyOf k with
      | none => rw [hk] at h2; cases h2
      | some kk =>
        cases hr : keyed tq with
        | none => rw [hk, hr] at h2; cases h2
        | some kr =>
          rw [hk, hr] at h2
          cases h2
          obtain ⟨kvs, rfl, rk⟩ := disp_ok r3 hq hr
          exact ⟨(kk, y) :: kvs, by rw [keyOf_kV hk r1]; rfl, y, kvs, rfl, r2, rk⟩
theorem merge_ok : ∀ {ks : List (Key × MV)} {kvs : List (Key × V)} {acc : List (Key × MV)} {ws : List (Key × V)}, RKs Γ W H ks kvs → (acc.map (·.1)).Nodup → RKs Γ W H acc ws → RKs Γ W H (mergeM acc ks) (mergeK ws kvs) ∧ ((mergeM acc ks).map (·.1)).Nodup
  | [], _, acc, ws, r, nd, h => by
    rw [show _ = [] from r]
    exact ⟨h, nd⟩
  | (k, m) :: ks, _, acc, ws, r, nd, h => by
    obtain ⟨v, vs, rfl, r1, r2⟩ := r
    have nd2 : (ws.map (·.1)).Nodup := by rw [h.keys]; exact nd
    exact merge_ok (acc := gPut kEq k m acc) (ws := putK ws k v) r2 (gPut_nodup kEq_eq nd) (RKs.put kEq_eq r1 nd2 h)
end
section
variable {Γ : Gm} {X : Cx} {mcm : List (Nat × Nat)} {W0 : WX} {keys : List (Option Expr)} {values : List Expr} {pos : Pos} {l : List (EvM × EvM)}
/-- {} -/
theorem snd_dnew : PE X (.Dict [] [] pos) (tE Γ X mcm W0 fun ρ S => dicM [] S) := by
  refine PE.imp pe_dnewK fun σ H Q h => ?_
  obtain ⟨W, ρ, S, R, w⟩ := h
  intro p hp
  have e : Ev Γ W H (W.add p) (upd H p (.dK [])) := Ev.add R.hv hp
  refine w _ _ e (R.alloc hp (.inl ⟨[], upd_same, rfl, List.nodup_nil⟩)) _ ⟨p, rfl, ?_, .inr ?_⟩
  · show _ < W.n + 1
    rw [R.rs.n]; exact Nat.lt_succ_self _
  · rw [← R.rs.n]; exact add_at
/-- {k: v, ..} -/
theorem snd_dict (h : PPs X pos keys values (l.map fun p => (tE Γ X mcm W0 p.1, tE Γ X mcm W0 p.2))) (hall : keys.all (·.isSome) = true) (hl : keys.length = values.length) (h0 : keys ≠ []) (h15 : keys.length ≤ 15) :
    PE X (.Dict keys values pos) (tE Γ X mcm W0 fun ρ S => (evPs l ρ S).bind fun vs S => dicM vs S) := by
  refine PE.imp (pe_disp h hall hl h0 h15) fun σ H Q h => ?_
  obtain ⟨W, ρ, S, R, w⟩ := h
  intro p hp
  have e0 : Ev Γ W H (W.ban p) (upd H p (.dK [])) := Ev.ban R.rs.fin hp
  have R1 : Rel Γ X mcm ρ σ (W.ban p) S (upd H p (.dK [])) := ⟨R.rs.ban hp (fun _ z => nomatch z), R.re.mono e0 R.rs.n fun _ _ _ _ q => ⟨q, rfl⟩⟩
  refine pairs_ok l R1 ?_
  dsimp only at w
  cases hr : evPs l ρ S with
  | bad => rw [hr] at w; exact w.elim
  | exc c fs S2 =>
    rw [hr] at w
    intro W' H' C d e R' hc x
    have eb := (e0.trans e).back
    have e2 : Ev0 Γ W' H' (W'.lift W.B) H' := Ev0.lift R'.rs.fin (e0.trans e).b
    refine w _ _ C d eb ⟨R'.rs.lift (e0.trans e).b, RE.mono0 R'.re e2 R'.rs.n fun _ _ _ _ q => ⟨q, rfl⟩⟩ hc ?_
    rcases x with x | ⟨dd, ws, x1, x2, x3⟩
    · exact .inl x
    · exact .inr ⟨dd, ws, x1, x2, e2.rvf _ _ x3⟩
  | ok ms S2 =>
    rw [hr] at w
    intro W' H' e R' ps rp
    have bD : W'.B p := e.b p (.inr rfl)
    have h1 : H' p = some (.dK []) := e.kb p _ (.inr rfl) upd_same (fun _ z => nomatch z)
    have w : WnE Γ X mcm W0 ρ σ W H (dicM ms S2) Q := w
    unfold dicM at w
    cases ht : turns ms with
    | none => rw [ht] at w; exact w.elim
    | some ts =>
      cases hk : keyed ts with
      | none => rw [ht] at w; dsimp only [Option.bind] at w; rw [hk] at w; exact w.elim
      | some ks =>
        rw [ht] at w
        dsimp only [Option.bind] at w
        rw [hk] at w
        dsimp only at w
        split at w
        · rename_i hz
          obtain ⟨kvs, rfl, rk⟩ := disp_ok rp ht hk
          refine ⟨h1, kvs, rfl, by rw [rk.len]; exact hz, ?_⟩
          have e3 : Ev0 Γ W' H' W' (upd H' p (.dK (mergeK [] kvs))) := Ev0.atD R'.rs.fin bD h1 rfl
          have R3 : Rel Γ X mcm ρ σ W' S2 (upd H' p (.dK (mergeK [] kvs))) := ⟨R'.rs.atD bD h1 rfl (fun _ z => nomatch z), RE.mono0 R'.re e3 R'.rs.n fun _ _ _ _ q => ⟨q, rfl⟩⟩
          obtain ⟨m1, m2⟩ := merge_ok (acc := []) (ws := []) rk List.nodup_nil rfl
          have e4 : Ev0 Γ W' (upd H' p (.dK (mergeK [] kvs))) ((W'.lift W.B).add p) (upd H' p (.dK (mergeK [] kvs))) := Ev0.adopt R3.rs.fin (e0.trans e).b bD
          obtain ⟨e5, R5, rv⟩ := R.adopt hp ((e0.trans e).upD hp (.dK (mergeK [] kvs))) R3 bD (o := .dK false (mergeM [] ks)) (.inl ⟨_, upd_same, e4.rks _ _ (e3.rks _ _ m1), m2⟩)
          exact w _ _ e5 R5 _ rv
        · exact w.elim
end
end Mini
namespace Mini
open PySem PySem.Spec PyProof.Rows L2
/-- what a module's name stands for -/
inductive GK where
  | fn (i np : Nat) (dfl : List MV)
  | cls (c : Nat)
  | exc (c n : Nat)
  | blt
/-- names by slot, which are cells, the scope, the scope as it was written, the module's names, fields of errors, lists that are kept -/
structure CC where
  N : List Str
  mc : List Nat
  sc : Scope
  sf : Scope
  gl : List (Str × GK)
  xf : List Str
  kp : List (Nat × Nat)
def klook {α : Type} (x : Str) : List (Str × α) → Option α
  | [] => none
  | (y, a) :: r => if seqStr x y then some a else klook x r
theorem klook_eq {α : Type} (x : Str) : ∀ l : List (Str × α), klook x l = l.lookup x
  | [] => rfl
  | (y, a) :: r => by
    unfold klook
    rw [List.lookup_cons, seqStr_eq, klook_eq x r]
    by_cases h : x = y
    · rw [if_pos (decide_eq_true h), beq_iff_eq.mpr h]
    · rw [if_neg (by rw [decide_eq_false h]; exact Bool.false_ne_true), beq_eq_false_iff_ne.mpr h]
def idx (x : Str) : List Str → Nat → Option Nat
  | [], _ => none
  | y :: r, n => if seqStr y x then some n else idx x r (n + 1)
theorem idx_ok {x : Str} : ∀ {l : List Str} {n i : Nat}, idx x l n = some i → n ≤ i ∧ l[i - n]? = some x
  | [], _, _, h => nomatch h
  | y :: r, n, i, h => by
    unfold idx at h
    split at h
    · rename_i hq
      cases h
      rw [seqStr_eq] at hq
      exact ⟨Nat.le_refl _, by rw [Nat.sub_self, of_decide_eq_true hq]; rfl⟩
    · obtain ⟨h1, h2⟩ := idx_ok h
      refine ⟨by omega, ?_⟩
      have e : i - n = (i - (n + 1)) + 1 := by omega
      rw [e]
      simpa using h2
theorem idx_at {x : Str} {l : List Str} {i : Nat} (h : idx x l 0 = some i) : l[i]? = some x := (idx_ok h).2
def visB (sc : Scope) (x : Str) : Bool := match klook x sc.names with
  | some .local => true
  | some .cell => true
  | some .free => true
  | _ => false
theorem visB_ok {sc : Scope} {x : Str} (h : visB sc x = true) : Vis sc x := by
  unfold visB at h
  rw [klook_eq] at h
  split at h
  · exact .inl (by assumption)
  · exact .inr (.inl (by assumption))
  · exact .inr (.inr (by assumption))
  · cases h
def locB (sc : Scope) (x : Str) : Bool := match klook x sc.names with
  | some .local => true
  | some .cell => true
  | _ => false
theorem locB_ok {sc : Scope} {x : Str} (h : locB sc x = true) : Loc sc x := by
  unfold locB at h
  rw [klook_eq] at h
  split at h
  · exact .inl (by assumption)
  · exact .inr (by assumption)
  · cases h
/-- a plain local -/
def lclB (sc : Scope) (x : Str) : Bool := match klook x sc.names with
  | some .local => true
  | _ => false
theorem lclB_ok {sc : Scope} {x : Str} (h : lclB sc x = true) : sc.names.lookup x = some .local := by
  unfold lclB at h
  rw [klook_eq] at h
  split at h
  · assumption
  · cases h
def glB (sc : Scope) (x : Str) : Bool := match klook x sc.names with
  | some .globalImplicit => true
  | _ => false
theorem glB_ok {sc : Scope} {x : Str} (h : glB sc x = true) : sc.names.lookup x = some .globalImplicit := by
  unfold glB at h
  rw [klook_eq] at h
  split at h
  · assumption
  · cases h
/-- none of the two names that stand apart -/
def dnB (x : Str) : Bool := !seqStr x "__debug__" && !seqStr x "__classdict__" && !seqStr x "__name__"
theorem dnB_ok {x : Str} (h : dnB x = true) : (x == ("__debug__" : Str)) = false ∧ (x == ("__classdict__" : Str)) = false ∧ x ≠ "__name__" := by
  unfold dnB at h
  simp only [seqStr_eq, Bool.and_eq_true, Bool.not_eq_true', decide_eq_false_iff_not] at h
  exact ⟨beq_eq_false_iff_ne.mpr h.1.1, beq_eq_false_iff_ne.mpr h.1.2, h.2⟩
def cC : Const → Option MV
  | .none => some .non
  | .bool b => some (.bl b)
  | .int i => some (.int i)
  | .str s => some (.str s)
  | _ => none
def bopI : Operator → Option Bop
  | .Add => some .add
  | .Sub => some .sub
  | .Mult => some .mul
  | .FloorDiv => some .fdiv
  | .Mod => some .mod
  | .Pow => some .pow
  | .LShift => some .shl
  | .BitAnd => some .band
  | _ => none
theorem bopI_ok {o : Operator} {b : Bop} (h : bopI o = some b) : o = bopOf b := by
  cases o <;> cases h <;> rfl
def copI : CmpOp → Cop
  | .Eq => .eq
  | .NotEq => .ne
  | .Lt => .lt
  | .LtE => .le
  | .Gt => .gt
  | .GtE => .ge
  | .Is => .is
  | .IsNot => .isNot
  | .In => .isin
  | .NotIn => .notIn
theorem copI_ok (o : CmpOp) : copOf (copI o) = o := by cases o <;> rfl
def cEs (E : Expr → Option ME) : List Expr → Option (List ME)
  | [] => some []
  | e :: es => if PySem.W.isStarred e then none else match E e, cEs E es with
    | some m, some ms => some (m :: ms)
    | _, _ => none
def cKV (E : Expr → Option ME) : List (Option Expr) → List Expr → Option (List (ME × ME))
  | [], [] => some []
  | some k :: ks, v :: vs => match E k, E v, cKV E ks vs with
    | some k, some v, some r => some ((k, v) :: r)
    | _, _, _ => none
  | _, _ => none
def flat : List (ME × ME) → List ME
  | [] => []
  | (k, v) :: r => k :: v :: flat r
def plainB : Expr → Bool
  | .Call (.Name _ _) [] [] _ => false
  | _ => true
theorem plainB_ok {a : Expr} {f : Str} {env : PySem.Env} (h : plainB a = true) (whole : Sem Value) : attributeBase a f env whole = whole := by
  cases a with
  | Call g as ks p =>
    cases g with
    | Name x q =>
      cases as with
      | nil =>
        cases ks with
        | nil => cases h
        | cons => rfl
      | cons => rfl
    | _ => rfl
  | _ => rfl
def plainIx : Expr → Bool
  | .Slice _ _ _ _ => false
  | _ => true
theorem plainIx_ok {b : Expr} (h : plainIx b = true) : PlainIx b := by
  cases b <;> first | (exact fun _ _ => rfl) | cases h
def notSet : Expr → Bool
  | .Set _ _ _ => false
  | _ => true
theorem notSet_ok {b : Expr} (h : notSet b = true) (env : PySem.Env) (x : Value) : foldedSetIterable b env x = pure x := by
  cases b <;> first | rfl | cases h
theorem notSet_mark {b : Expr} (h : notSet b = true) (op : CmpOp) : behindInMarks op b = false := by
  cases b <;> first | rfl | cases h
def biTab : List (Str × Bi) := [("len", .len), ("abs", .abs), ("int", .int), ("sum", .sum), ("all", .all), ("any", .any), ("repr", .repr), ("tuple", .tuple), ("str", .str)]
def biTab1 : List (Str × Bi) := [("max", .maxL), ("min", .minL)]
def biTab2 : List (Str × Bi) := [("max", .max2), ("min", .min2)]
def biOf (x : Str) (n : Nat) : Option Bi := match klook x biTab with
  | some b => some b
  | none => match n with
    | 1 => klook x biTab1
    | 2 => klook x biTab2
    | _ => none
theorem klook_mem {α : Type} {x : Str} : ∀ {l : List (Str × α)} {a : α}, klook x l = some a → (x, a) ∈ l
  | [], _, h => nomatch h
  | (y, b) :: r, a, h => by
    unfold klook at h
    split at h
    · rename_i hq
      cases h
      rw [seqStr_eq] at hq
      rw [of_decide_eq_true hq]
      exact List.mem_cons_self
    · exact List.mem_cons_of_mem _ (klook_mem h)
theorem biTab_ok : ∀ p ∈ biTab ++ biTab1 ++ biTab2, bootBuiltins p.1 = some (biF p.2) := by
  intro p hp
  simp only [biTab, biTab1, biTab2, List.cons_append, List.nil_append, List.mem_cons, List.not_mem_nil, or_false] at hp
  rcases hp with h | h | h | h | h | h | h | h | h | h | h | h | h <;> subst h <;> decide +kernel
theorem biOf_ok {x : Str} {n : Nat} {b : Bi} (h : biOf x n = some b) : bootBuiltins x = some (biF b) := by
  have key : (x, b) ∈ biTab ++ biTab1 ++ biTab2 := by
    unfold biOf at h
    split at h
    · rename_i q
      cases h
      exact List.mem_append_left _ (List.mem_append_left _ (klook_mem q))
    · split at h
      · exact List.mem_append_left _ (List.mem_append_right _ (klook_mem h))
      · exact List.mem_append_right _ (klook_mem h)
      · cases h
  exact biTab_ok _ key
def tyTab : List (Str × Ty) := [("int", .int), ("bool", .bool), ("str", .str), ("tuple", .tuple), ("list", .list), ("dict", .dict)]
theorem tyTab_ok : ∀ p ∈ tyTab, bootBuiltins p.1 = some (.type (tyN p.2)) ∧ ∀ c, p.2 ≠ .cls c := by
  intro p hp
  simp only [tyTab, List.mem_cons, List.not_mem_nil, or_false] at hp
  rcases hp with h | h | h | h | h | h <;> subst h <;> exact ⟨by decide +kernel, fun _ z => nomatch z⟩
def mthTab : List (Str × Mth) := [("append", .append), ("extend", .extend), ("index", .index)]
def mthOf (x : Str) (n : Nat) : Option Mth := match klook x mthTab with
  | some m => some m
  | none => if seqStr x "pop" then match n with
    | 0 => some .pop
    | 1 => some .popAt
    | _ => none
    else none
theorem mthOf_ok {x : Str} {n : Nat} {m : Mth} (h : mthOf x n = some m) : x = mName m := by
  unfold mthOf at h
  split at h
  · rename_i q
    cases h
    have := klook_mem q
    simp only [mthTab, List.mem_cons, List.not_mem_nil, or_false] at this
    rcases this with h | h | h <;> cases h <;> rfl
  · split at h
    · rename_i q
      rw [seqStr_eq] at q
      have q := of_decide_eq_true q
      subst q
      split at h
      · cases h; rfl
      · cases h; rfl
      · cases h
    · cases h
def relS (scope sc : Scope) : Scope :=
  { scope with names := scope.names.map fun (n, k) => if (k == .free && sc.kind == .function && sc.names.lookup n == some .cell) then (n, .cell) else (n, k) }
def ownOf (N : List Str) (scope : Scope) : List (Str × Nat) := scope.names.filterMap fun p => match p.2 with
  | .local => (idx p.1 N 0).map fun i => (p.1, i)
  | .cell => (idx p.1 N 0).map fun i => (p.1, i)
  | _ => none
def kpB (cc : CC) (pos : Pos) : Bool := cc.kp.any fun p => p.1 == pos.line && p.2 == pos.col
def cG (cc : CC) : Nat → Expr → Option Tg
  | 0, _ => none
  | n + 1, e => match e with
    | .Name x _ => match idx x cc.N 0 with
      | some i => if locB cc.sc x && locB cc.sf x then some (if cc.mc.contains i then .cell i else .name i) else none
      | none => none
    | .Tuple es _ _ => (go n es).map .tup
    | _ => none
where go (n : Nat) : List Expr → Option (List Tg)
  | [] => some []
  | e :: es => if PySem.W.isStarred e then none else match cG cc n e, go n es with
    | some t, some ts => some (t :: ts)
    | _, _ => none
structure Rec where
  E : CC → Expr → Option ME
  T : CC → Expr → Option MT
  I : CC → Expr → Expr → Option MI
def cName (cc : CC) (x : Str) : Option ME := match idx x cc.N 0 with
  | some i => if visB cc.sc x && dnB x then some (if cc.mc.contains i then .cvar i else .var i) else none
  | none => none
def cAndV (E : Expr → Option ME) : List Expr → Option ME
  | [] => none
  | [a] => E a
  | a :: r => match E a, cAndV E r with
    | some a, some b => some (.andV a b)
    | _, _ => none
def cOrV (E : Expr → Option ME) : List Expr → Option ME
  | [] => none
  | [a] => E a
  | a :: r => match E a, cOrV E r with
    | some a, some b => some (.orV a b)
    | _, _ => none
def cAndT (T : Expr → Option MT) : List Expr → Option MT
  | [] => none
  | [a] => T a
  | a :: r => match T a, cAndT T r with
    | some a, some b => some (.and a b)
    | _, _ => none
def cOrT (T : Expr → Option MT) : List Expr → Option MT
  | [] => none
  | [a] => T a
  | a :: r => match T a, cOrT T r with
    | some a, some b => some (.or a b)
    | _, _ => none
/-- isinstance(a, x) -/
def cIs (cc : CC) (a : ME) (x : Str) : Option ME := if glB cc.sc x && dnB x then match klook x cc.gl with
    | some (.exc c _) => some (.isX a (some c))
    | some (.cls c) => some (.isin a (.cls c))
    | some .blt => if seqStr x "ValueError" then some (.isX a none) else (klook x tyTab).map (.isin a)
    | _ => none
  else none
def cPart (E : Expr → Option ME) : Option Expr → Option (List ME)
  | none => some []
  | some e => (E e).map fun m => [m]
/-- x(..) of a module's name -/
def cCall (E : Expr → Option ME) (cc : CC) (x : Str) (as : List Expr) (pos : Pos) : Option ME :=
  if glB cc.sc x && dnB x then match klook x cc.gl with
    | some (.fn i np dfl) => if as.length ≤ np && decide (np - as.length ≤ dfl.length) then (cEs E as).map fun es => .call i (es ++ (dfl.drop (dfl.length - (np - as.length))).map .cst) else none
    | some (.exc c n) => if as.length == n then (cEs E as).map fun es => .mkX c es else none
    | some .blt => match as with
      | [] => none
      | [a, .Name y _] => if seqStr x "isinstance" then (if PySem.W.isStarred a then none else (E a).bind fun m => cIs cc m y) else
        match biOf x 2 with
        | some b => (cEs E as).map (.bi b)
        | none => none
      | a :: r => if seqStr x "list" && r.isEmpty then (if PySem.W.isStarred a then none else (E a).map fun m => .biL (kpB cc pos) .list [m]) else
        match biOf x as.length with
        | some b => (cEs E as).map (.bi b)
        | none => none
    | _ => none
  else none
/-- a.m(..) -/
def cMeth (E : Expr → Option ME) (a : Expr) (m : Str) (ap : Pos) (as : List Expr) (pos : Pos) : Option ME :=
  if plainB a && ap.endLine == pos.line && decide (as.length < 29) then match mthOf m as.length, E a, cEs E as with
    | some mt, some a, some es => some (.meth mt a es)
    | _, _, _ => none
  else none
def cIfs (T : Expr → Option MT) : List Expr → Option MT
  | [] => some .yes
  | [c] => T c
  | _ => none
def subN (l m : List Nat) : Bool := l.all fun i => m.contains i
def disN (l m : List Nat) : Bool := l.all fun i => !m.contains i
def inCC (cc : CC) (scope : Scope) : CC := { cc with sc := relS scope cc.sc, sf := scope }
structure Blk where
  own : List Nat
  t : Tg
  it : MI
  c : MT
/-- a comprehension's first clause -/
def cBlk (r : Rec) (cc : CC) (tg iter : Expr) (ifs : List Expr) (scope : Scope) : Option Blk :=
  if blkC cc.N cc.sc scope (ownOf cc.N scope) && notSet iter && disN cc.mc ((ownOf cc.N scope).map (·.2)) then
    match r.I cc tg iter, cG (inCC cc scope) 9 tg, cIfs (r.T (inCC cc scope)) ifs with
    | some it, some t, some c => if subN (tgS t) ((ownOf cc.N scope).map (·.2)) then some ⟨(ownOf cc.N scope).map (·.2), t, it, c⟩ else none
    | _, _, _ => none
  else none
/-- the second one -/
def cBlk1 (r : Rec) (cc : CC) (own : List Nat) (tg iter : Expr) (ifs : List Expr) : Option Blk :=
  if notSet iter then match r.I cc tg iter, cG cc 9 tg, cIfs (r.T cc) ifs with
    | some it, some t, some c => if subN (tgS t) own then some ⟨tgS t, t, it, c⟩ else none
    | _, _, _ => none
  else none
def cLC (r : Rec) (cc : CC) (elt : Expr) (gens : List Comprehension) (scope : Scope) (pos : Pos) : Option ME := match gens with
  | [⟨tg, iter, ifs, 0⟩] => match cBlk r cc tg iter ifs scope, r.E (inCC cc scope) elt with
    | some b, some e => some (.comp (kpB cc pos) b.own b.t b.it b.c e)
    | _, _ => none
  | [⟨tg, iter, ifs, 0⟩, ⟨tg1, iter1, ifs1, 0⟩] => match cBlk r cc tg iter ifs scope with
    | some b => match cBlk1 r (inCC cc scope) b.own tg1 iter1 ifs1, r.E (inCC cc scope) elt with
      | some b1, some e => some (.comp2 (kpB cc pos) b.own b.t b.it b.c b1.own b1.t b1.it b1.c e)
      | _, _ => none
    | none => none
  | _ => none
def cDC (r : Rec) (cc : CC) (kx vx : Expr) (gens : List Comprehension) (scope : Scope) : Option ME := match gens with
  | [⟨tg, iter, ifs, 0⟩] => match cBlk r cc tg iter ifs scope, r.E (inCC cc scope) kx, r.E (inCC cc scope) vx with
    | some b, some k, some v => some (.dcomp b.own b.t b.it b.c k v)
    | _, _, _ => none
  | [⟨tg, iter, ifs, 0⟩, ⟨tg1, iter1, ifs1, 0⟩] => match cBlk r cc tg iter ifs scope with
    | some b => match cBlk1 r (inCC cc scope) b.own tg1 iter1 ifs1, r.E (inCC cc scope) kx, r.E (inCC cc scope) vx with
      | some b1, some k, some v => some (.dcomp2 b.own b.t b.it b.c b1.own b1.t b1.it b1.c k v)
      | _, _, _ => none
    | none => none
  | _ => none
def cpE (r : Rec) (cc : CC) (e : Expr) : Option ME := match e with
  | .Name x _ => cName cc x
  | .Constant c _ _ => (cC c).map .cst
  | .Tuple es _ _ => (cEs (r.E cc) es).map .tup
  | .List es pos => (cEs (r.E cc) es).map (.lst (kpB cc pos))
  | .Dict ks vs _ => match cKV (r.E cc) ks vs with
    | some l => if l.length ≤ 15 then some (.dic (flat l)) else none
    | none => none
  | .BinOp a op b _ => match bopI op, r.E cc a, r.E cc b with
    | some o, some a, some b => some (.bin o a b)
    | _, _, _ => none
  | .UnaryOp .USub a _ => (r.E cc a).map .neg
  | .UnaryOp .Not a _ => (r.E cc a).map .notE
  | .Compare a [op] [b] _ => if notSet b then match r.E cc a, r.E cc b with
      | some a, some b => some (.cmp (copI op) a b)
      | _, _ => none
    else none
  | .Compare a [op, op'] [b, c] _ => if notSet c then match r.E cc a, r.E cc b, r.E cc c with
      | some a, some b, some c => some (.chain (copI op) (copI op') a b c)
      | _, _, _ => none
    else none
  | .BoolOp .And es _ => cAndV (r.E cc) es
  | .BoolOp .Or es _ => cOrV (r.E cc) es
  | .IfExp c a b _ => match r.T cc c, r.E cc a, r.E cc b with
    | some c, some a, some b => some (.ifE c a b)
    | _, _, _ => none
  | .Attribute a f _ => if plainB a then (r.E cc a).map fun m => if cc.xf.any (seqStr f) then .attrX m f else .attr m f else none
  | .Subscript a (.Slice lo hi none _) pos => match r.E cc a, cPart (r.E cc) lo, cPart (r.E cc) hi with
    | some a, some lo, some hi => some (.slice (kpB cc pos) a lo hi)
    | _, _, _ => none
  | .Subscript a i _ => if plainIx i then match r.E cc a, r.E cc i with
      | some a, some i => some (.sub a i)
      | _, _ => none
    else none
  | .Call (.Name x _) as [] pos => cCall (r.E cc) cc x as pos
  | .Call (.Attribute a m ap) as [] pos => cMeth (r.E cc) a m ap as pos
  | .ListComp elt gens scope pos => cLC r cc elt gens scope pos
  | .DictComp kx vx gens scope _ => cDC r cc kx vx gens scope
  | _ => none
def cpT (r : Rec) (cc : CC) (e : Expr) : Option MT := match e with
  | .Compare a [op] [b] _ => if notSet b then match r.E cc a, r.E cc b with
      | some a, some b => some (.cmp (copI op) a b)
      | _, _ => none
    else none
  | .Compare a [op, op'] [b, c] _ => if notSet c then match r.E cc a, r.E cc b, r.E cc c with
      | some a, some b, some c => some (.chain (copI op) (copI op') a b c)
      | _, _, _ => none
    else none
  | .BoolOp .And es _ => cAndT (r.T cc) es
  | .BoolOp .Or es _ => cOrT (r.T cc) es
  | .UnaryOp .Not a _ => (r.T cc a).map .not
  | e => if plainT e then (r.E cc e).map .val else none
/-- what a for walks, given its target -/
def cpI (r : Rec) (cc : CC) (tg e : Expr) : Option MI := match e with
  | .Call (.Name x _) as [] _ => if glB cc.sc x && dnB x then match klook x cc.gl, as with
      | some .blt, [a] => if PySem.W.isStarred a then none else
        if seqStr x "range" then (r.E cc a).map fun m => .range [m] else
        if seqStr x "enumerate" then match tg with
          | .Tuple _ _ _ => (r.E cc a).map .enum
          | _ => none
        else (r.E cc e).map .seq
      | some .blt, [a, b] => if PySem.W.isStarred a || PySem.W.isStarred b then none else
        if seqStr x "range" then match r.E cc a, r.E cc b with
          | some a, some b => some (.range [a, b])
          | _, _ => none
        else if seqStr x "zip" then match tg, r.E cc a, r.E cc b with
          | .Tuple _ _ _, some a, some b => some (.zip a b)
          | _, _, _ => none
        else (r.E cc e).map .seq
      | _, _ => (r.E cc e).map .seq
    else (r.E cc e).map .seq
  | e => (r.E cc e).map .seq
def compR : Nat → Rec
  | 0 => ⟨fun _ _ => none, fun _ _ => none, fun _ _ _ => none⟩
  | n + 1 => ⟨cpE (compR n), cpT (compR n), cpI (compR n)⟩
end Mini
namespace Mini
open PySem PySem.Spec PyProof.Rows L2
/-- what stands behind a module's name; Fn: what is known of a def -/
def GOkF (Γ : Gm) (P : Prog) (Fn : Nat → Addr → FuncData → List Str → Prop) (prog : Program) (w : World) (mg : Str → Option Value) (base : Heap) (x : Str) : GK → Prop
  | .blt => mg x = none
  | .fn i np dfl => ∃ (f : Addr) (fd : FuncData) (ps : List Str), mg x = some (.ref f) ∧ PySem.W.keepIn Γ.K (.ref f) = true ∧ ps.length = np ∧ Fn i f fd ps ∧
      ∀ j, j ≤ dfl.length → ∃ (ds : List Value) (dvs : List V), Binds Γ.K fd ps ds ∧ Vals dvs ds ∧ ∀ W H, RVs Γ W H (dfl.drop j) dvs
  | .cls c => ∃ C, Γ.cad c = some C ∧ mg x = some (.ref C)
  | .exc c n => ∃ (C : Addr) (names : List Str) (anc : List Nat), Γ.cad c = some C ∧ mg x = some (.ref C) ∧ PySem.W.keepIn Γ.K (.ref C) = true ∧ P.clss[c]? = some (.exc names anc) ∧ names.length = n ∧
      ((n = 0 ∧ ∃ (B newId initId : String) (bmB : List Value), ExcBaseFacts B newId initId bmB ∧ PySem.W.excIn Γ.K C bmB newId = true) ∨
       (n ≤ 900 ∧ n ≠ 0 ∧ OexC Γ.K C ∧ (∀ f ∈ names, PySem.W.findIn Γ.K (.ref C) f = some none) ∧ ∃ (fI : Addr) (fd : FuncData) (ps : List Str), PySem.W.findIn Γ.K (.ref C) "__init__" = some (some (.ref fI)) ∧
          PySem.W.typeIn Γ.K (.ref fI) = some (.type "function") ∧ Binds Γ.K fd ps [] ∧ FnOk prog w Γ.K mg base (L2.CX prog w) 1 fI fd ps (exI Γ.K names)))
def GOk (Γ : Gm) (P : Prog) (cf : CF) (k : Nat) (prog : Program) (w : World) (mg : Str → Option Value) (base : Heap) (x : Str) : GK → Prop :=
  GOkF Γ P (fun i f fd ps => MFn Γ prog w mg base k f fd ps (cf i)) prog w mg base x
theorem GOkF.imp {Γ : Gm} {P : Prog} {F F' : Nat → Addr → FuncData → List Str → Prop} {prog : Program} {w : World} {mg : Str → Option Value} {base : Heap} {x : Str} (hF : ∀ i f fd ps, F i f fd ps → F' i f fd ps) {g : GK} (h : GOkF Γ P F prog w mg base x g) : GOkF Γ P F' prog w mg base x g := by
  cases g with
  | fn i np dfl =>
    obtain ⟨f, fd, ps, h1, h2, h3, h4, h5⟩ := h
    exact ⟨f, fd, ps, h1, h2, h3, hF _ _ _ _ h4, h5⟩
  | _ => exact h
/-- what a context keeps -/
structure XOk (Γ : Gm) (P : Prog) (cf : CF) (k : Nat) (cc : CC) (X : Cx) (mcm : List (Nat × Nat)) (W0 : WX) : Prop where
  hK : X.K = Γ.K
  nN : X.N = cc.N
  nd : cc.N.Nodup
  sc : X.env.scope = cc.sc
  calm : X.calm = true
  gd : X.A.guards = some []
  hr : Room k X.A
  k5 : 5 ≤ k
  tk : Takes X W0
  mc : ∀ i, cc.mc.contains i = true ↔ ∃ k, (i, k) ∈ mcm
  fn : ∀ x, Loc cc.sf x → X.fn x = true ∨ X.env.scope.names.lookup x = some .local
  gl : ∀ x g, klook x cc.gl = some g → GOk Γ P cf k X.prog X.w X.mg X.base x g
  cF : ClsF Γ P Γ.K
  eF : ExnF Γ P Γ.K
  xf : ∀ f, cc.xf.any (seqStr f) = true → ∀ c C, isExc P c = true → Γ.cad c = some C → PySem.W.findIn Γ.K (.ref C) f = some none
section
variable {Γ : Gm} {P : Prog} {cf : CF} {k : Nat} {cc : CC} {X : Cx} {mcm : List (Nat × Nat)} {W0 : WX}
theorem XOk.u (h : XOk Γ P cf k cc X mcm W0) : X.A.units + 66 < cLine := by have := h.hr.un; omega
theorem XOk.u65 (h : XOk Γ P cf k cc X mcm W0) : X.A.units + 65 < cLine := by have := h.hr.un; omega
theorem XOk.u1 (h : XOk Γ P cf k cc X mcm W0) : X.A.units + 1 < cLine := by have := h.hr.un; omega
theorem XOk.nN' (h : XOk Γ P cf k cc X mcm W0) : X.N.Nodup := by rw [h.nN]; exact h.nd
theorem XOk.at (h : XOk Γ P cf k cc X mcm W0) {x : Str} {i : Nat} (e : idx x cc.N 0 = some i) : X.N[i]? = some x := by rw [h.nN]; exact idx_at e
theorem XOk.vis (h : XOk Γ P cf k cc X mcm W0) {x : Str} (e : visB cc.sc x = true) : Vis X.env.scope x := by rw [h.sc]; exact visB_ok e
theorem XOk.loc (h : XOk Γ P cf k cc X mcm W0) {x : Str} (e : locB cc.sc x = true) : Loc X.env.scope x := by rw [h.sc]; exact locB_ok e
theorem XOk.glob (h : XOk Γ P cf k cc X mcm W0) {x : Str} (e : glB cc.sc x = true) : Gl X x := by
  show X.env.scope.names.lookup x = _
  rw [h.sc]; exact glB_ok e
theorem XOk.noc (h : XOk Γ P cf k cc X mcm W0) {i : Nat} (e : cc.mc.contains i = false) : ∀ j, (i, j) ∉ mcm := fun j hj => by
  have := (h.mc i).mpr ⟨j, hj⟩
  rw [e] at this; cases this
/-- a comprehension's block -/
theorem XOk.bk (h : XOk Γ P cf k cc X mcm W0) (s3 : Shared) (H3 : Hp) (scope : Scope) (fp : List Addr) : XOk Γ P cf k (inCC cc scope) (Cx.bk X s3 H3 scope fp) mcm noX := by
  refine ⟨h.hK, h.nN, h.nd, ?_, h.calm, h.gd, h.hr, h.k5, LamX.takes0, h.mc, fun x hx => ?_, h.gl, h.cF, h.eF, h.xf⟩
  · show relabel scope X.env = relS scope cc.sc
    rw [← h.sc]; rfl
  · rcases hx with hx | hx
    · exact .inr (lookup_relabel_local hx)
    · exact .inl (beq_iff_eq.mpr hx)
theorem sn_name (h : XOk Γ P cf k cc X mcm W0) {x : Str} {pos : Pos} {m : ME} (e : cName cc x = some m) : PE X (.Name x pos) (tE Γ X mcm W0 (evE P cf m)) := by
  unfold cName at e
  split at e
  · rename_i i hi
    split at e
    · rename_i hv
      simp only [Bool.and_eq_true] at hv
      obtain ⟨d1, d2, _⟩ := dnB_ok hv.2
      split at e
      · rename_i hc
        cases e
        exact snd_cvar (h.at hi) (h.vis hv.1) ((h.mc i).mp hc) d1 d2
      · rename_i hc
        cases e
        exact snd_var (h.at hi) (h.vis hv.1) (h.noc (Bool.eq_false_iff.mpr hc)) d1 d2
    · cases e
  · cases e
theorem each_star : ∀ {es : List Expr} {env : PySem.Env}, es.any PySem.W.isStarred = false → (assignEach es env).findIdx? (·.1) = none ∧ (assignEach es env).length = es.length
  | [], _, _ => ⟨rfl, rfl⟩
  | e :: es, env, h => by
    simp only [List.any_cons, Bool.or_eq_false_iff] at h
    obtain ⟨h1, h2⟩ := each_star (env := env) h.2
    have q : assignEach (e :: es) env = (false, assign e env) :: assignEach es env := by
      cases e <;> first | rfl | (cases h.1)
    rw [q]
    refine ⟨?_, by rw [List.length_cons, List.length_cons, h2]⟩
    rw [List.findIdx?_cons, h1]
    rfl
theorem cG_many (h : XOk Γ P cf k cc X mcm W0) {n : Nat} (one : ∀ (e : Expr) (t : Tg), cG cc n e = some t → ((∀ i ∈ tgS t, cc.mc.contains i = false) ∨ McOk X mcm) → PG X e (tG Γ X mcm (tgS t) (assignG t))) : ∀ (es : List Expr) (ts : List Tg), cG.go cc n es = some ts →
    ((∀ i ∈ tgSs ts, cc.mc.contains i = false) ∨ McOk X mcm) → PGs X es (tGs Γ X mcm (tgSs ts) (assignGs ts)) ∧ es.any PySem.W.isStarred = false ∧ es.length = ts.length := by
  intro es
  induction es with
  | nil =>
    intro ts e _
    cases e
    exact ⟨pgs_n, rfl, rfl⟩
  | cons a r ih =>
    intro ts e hmc
    unfold cG.go at e
    split at e
    · cases e
    · rename_i hs
      have hs : PySem.W.isStarred a = false := Bool.eq_false_iff.mpr hs
      split at e
      · rename_i t ts' h1 h2
        cases e
        obtain ⟨i1, i2, i3⟩ := ih ts' h2 (hmc.imp (fun q i hi => q i (List.mem_append_right _ hi)) id)
        refine ⟨pgs_c (one a t h1 (hmc.imp (fun q i hi => q i (List.mem_append_left _ hi)) id)) i1 ?_, by rw [List.any_cons, hs, i2]; rfl, by rw [List.length_cons, List.length_cons, i3]⟩
        cases a <;> first | rfl | (cases hs)
      · cases e
theorem cG_ok (h : XOk Γ P cf k cc X mcm W0) : ∀ (n : Nat) (e : Expr) (t : Tg), cG cc n e = some t → ((∀ i ∈ tgS t, cc.mc.contains i = false) ∨ McOk X mcm) → PG X e (tG Γ X mcm (tgS t) (assignG t)) := by
  intro n
  induction n with
  | zero => intro e t z; unfold cG at z; cases z
  | succ n ih =>
    intro e t z hmc
    unfold cG at z
    split at z
    · rename_i x pos
      split at z
      · rename_i i hi
        split at z
        · rename_i hl
          simp only [Bool.and_eq_true] at hl
          split at z
          · rename_i hc
            cases z
            rcases hmc with hmc | hmc
            · have := hmc i (by unfold tgS; exact List.mem_singleton.mpr rfl)
              rw [this] at hc; cases hc
            · exact pg_cel h.nN' (h.at hi) (h.loc hl.1) (h.fn x (locB_ok hl.2)) hmc ((h.mc i).mp hc)
          · rename_i hc
            cases z
            exact pg_nm h.nN' (h.at hi) (h.loc hl.1) (h.fn x (locB_ok hl.2)) (h.noc (Bool.eq_false_iff.mpr hc))
        · cases z
      · cases z
    · rename_i es k' pos
      cases hg : cG.go cc n es with
      | none => rw [hg] at z; cases z
      | some ts =>
        rw [hg] at z
        cases z
        obtain ⟨i1, i2, i3⟩ := cG_many h ih es ts hg (hmc.imp (fun q i hi => q i (by unfold tgS; exact hi)) id)
        obtain ⟨j1, j2⟩ := each_star (env := X.env) i2
        exact pg_tp h.calm h.hK i1 (by rw [j2, i3]) j1
    · cases z
end
end Mini
namespace Mini
open PySem PySem.Spec PyProof.Rows L2
/-- the parts do -/
structure RecOk (r : Rec) : Prop where
  E : ∀ (Γ : Gm) (P : Prog) (cf : CF) (k : Nat) (cc : CC) (X : Cx) (mcm : List (Nat × Nat)) (W0 : WX), XOk Γ P cf k cc X mcm W0 → ∀ e m, r.E cc e = some m → PE X e (tE Γ X mcm W0 (evE P cf m))
  T : ∀ (Γ : Gm) (P : Prog) (cf : CF) (k : Nat) (cc : CC) (X : Cx) (mcm : List (Nat × Nat)) (W0 : WX), XOk Γ P cf k cc X mcm W0 → ∀ e m, r.T cc e = some m → PT X e (tT Γ X mcm W0 (evT P cf m))
  I : ∀ (Γ : Gm) (P : Prog) (cf : CF) (k : Nat) (cc : CC) (X : Cx) (mcm : List (Nat × Nat)) (W0 : WX), XOk Γ P cf k cc X mcm W0 → ∀ tg e m, r.I cc tg e = some m → PI X tg e (tI Γ X mcm W0 (evI P cf m))
section
variable {Γ : Gm} {P : Prog} {cf : CF} {k : Nat} {cc : CC} {X : Cx} {mcm : List (Nat × Nat)} {W0 : WX} {E : Expr → Option ME} {T : Expr → Option MT}
theorem cEs_ok (hE : ∀ e m, E e = some m → PE X e (tE Γ X mcm W0 (evE P cf m))) : ∀ {es : List Expr} {ms : List ME}, cEs E es = some ms → PA X es (tA Γ X mcm W0 (evEs P cf ms)) ∧ es.any PySem.W.isStarred = false
  | [], ms, h => by
    cases h
    exact ⟨snd_nil, rfl⟩
  | e :: es, ms, h => by
    unfold cEs at h
    split at h
    · cases h
    · rename_i hs
      have hs : PySem.W.isStarred e = false := Bool.eq_false_iff.mpr hs
      split at h
      · rename_i m ms' h1 h2
        cases h
        obtain ⟨i1, i2⟩ := cEs_ok hE h2
        exact ⟨snd_cons hs (hE e m h1) i1, by rw [List.any_cons, hs, i2]; rfl⟩
      · cases h
theorem star_plain {pos : Pos} {env : PySem.Env} : ∀ {es : List Expr}, es.any PySem.W.isStarred = false → (backTo pos (starEach es env)).any (·.1) = false ∧ (backTo pos (starEach es env)).all (fun x => !x.1) = true
  | [], _ => ⟨rfl, rfl⟩
  | e :: es, h => by
    simp only [List.any_cons, Bool.or_eq_false_iff] at h
    obtain ⟨h1, h2⟩ := star_plain (pos := pos) (env := env) h.2
    rw [star_ok h.1]
    unfold backTo at h1 h2 ⊢
    rw [List.map_cons, List.any_cons, List.all_cons]
    exact ⟨by rw [h1]; rfl, by rw [h2]; rfl⟩
theorem evEs_app {P : Prog} {cf : CF} : ∀ (es : List ME) (ds : List MV) (ρ : Env) (S : Store), evEs P cf (es ++ ds.map .cst) ρ S = (evEs P cf es ρ S).bind fun vs S => .ok (vs ++ ds) S
  | [], [], _, _ => rfl
  | [], d :: ds, ρ, S => by
    have := evEs_app (P := P) (cf := cf) [] ds ρ S
    rw [List.nil_append] at this
    show (Res.ok d S).bind (fun v S => (evEs P cf (ds.map .cst) ρ S).bind fun vs S => .ok (v :: vs) S) = _
    show (evEs P cf (ds.map .cst) ρ S).bind (fun vs S => .ok (d :: vs) S) = _
    rw [this]
    rfl
  | e :: es, ds, ρ, S => by
    show (evE P cf e ρ S).bind (fun v S => (evEs P cf (es ++ ds.map .cst) ρ S).bind fun vs S => .ok (v :: vs) S) = ((evE P cf e ρ S).bind fun v S => (evEs P cf es ρ S).bind fun vs S => .ok (v :: vs) S).bind fun vs S => .ok (vs ++ ds) S
    rw [bind_assoc]
    congr 1
    funext v S1
    rw [evEs_app es ds ρ S1, bind_assoc, bind_assoc]
    rfl
theorem evEs_len {P : Prog} {cf : CF} : ∀ {es : List ME} {ρ : Env} {S : Store} {vs : List MV} {S' : Store}, evEs P cf es ρ S = .ok vs S' → vs.length = es.length
  | [], _, _, _, _, h => by cases h; rfl
  | e :: es, ρ, S, vs, S', h => by
    have h : (evE P cf e ρ S).bind (fun v S => (evEs P cf es ρ S).bind fun vs S => .ok (v :: vs) S) = .ok vs S' := h
    cases h1 : evE P cf e ρ S with
    | ok v S1 =>
      rw [h1] at h
      have h : (evEs P cf es ρ S1).bind (fun vs S => .ok (v :: vs) S) = .ok vs S' := h
      cases h2 : evEs P cf es ρ S1 with
      | ok ws S2 =>
        rw [h2] at h
        cases h
        rw [List.length_cons, List.length_cons, evEs_len h2]
      | exc c fs S2 => rw [h2] at h; cases h
      | bad => rw [h2] at h; cases h
    | exc c fs S1 => rw [h1] at h; cases h
    | bad => rw [h1] at h; cases h
theorem cst_ok {c : Const} {j : Nat} {pos : Pos} {m : MV} (h : cC c = some m) : PE X (.Constant c j pos) (tE Γ X mcm W0 (evE P cf (.cst m))) := by
  cases c with
  | none => cases h; exact snd_cst pe_non fun _ _ => rfl
  | bool b => cases h; exact snd_cst pe_bl fun _ _ => rfl
  | int b => cases h; exact snd_cst pe_int fun _ _ => rfl
  | str b => cases h; exact snd_cst pe_str fun _ _ => rfl
  | _ => cases h
theorem cKV_ok {pos : Pos} (hE : ∀ e m, E e = some m → PE X e (tE Γ X mcm W0 (evE P cf m))) : ∀ {ks : List (Option Expr)} {vs : List Expr} {l : List (ME × ME)}, cKV E ks vs = some l →
    PPs X pos ks vs ((l.map fun p => (evE P cf p.1, evE P cf p.2)).map fun p => (tE Γ X mcm W0 p.1, tE Γ X mcm W0 p.2)) ∧ ks.all (·.isSome) = true ∧ ks.length = vs.length ∧ ks.length = l.length
  | [], [], l, h => by cases h; exact ⟨pps_nil, rfl, rfl, rfl⟩
  | some e :: ks, v :: vs, l, h => by
    unfold cKV at h
    split at h
    · rename_i m1 m2 r h1 h2 h3
      cases h
      obtain ⟨i1, i2, i3, i4⟩ := cKV_ok (pos := pos) hE h3
      exact ⟨pps_cons (hE e m1 h1) (hE v m2 h2) i1, by rw [List.all_cons, i2]; rfl, by rw [List.length_cons, List.length_cons, i3], by rw [List.length_cons, List.length_cons, i4]⟩
    · cases h
  | [], _ :: _, _, h => nomatch h
  | some _ :: _, [], _, h => nomatch h
  | none :: _, [], _, h => nomatch h
  | none :: _, _ :: _, _, h => nomatch h
theorem flat_ok {P : Prog} {cf : CF} : ∀ (l : List (ME × ME)) (ρ : Env) (S : Store), evEs P cf (flat l) ρ S = evPs (l.map fun p => (evE P cf p.1, evE P cf p.2)) ρ S
  | [], _, _ => rfl
  | (k, v) :: r, ρ, S => by
    show (evE P cf k ρ S).bind (fun x S => ((evE P cf v ρ S).bind fun y S => (evEs P cf (flat r) ρ S).bind fun vs S => .ok (y :: vs) S).bind fun vs S => .ok (x :: vs) S) = (evE P cf k ρ S).bind fun x S => (evE P cf v ρ S).bind fun y S => (evPs (r.map fun p => (evE P cf p.1, evE P cf p.2)) ρ S).bind fun vs S => .ok (x :: y :: vs) S
    congr 1
    funext x S1
    rw [bind_assoc]
    congr 1
    funext y S2
    rw [bind_assoc, flat_ok r ρ S2]
    rfl
theorem dict_ok {ks : List (Option Expr)} {vs : List Expr} {pos : Pos} {l : List (ME × ME)} (hE : ∀ e m, E e = some m → PE X e (tE Γ X mcm W0 (evE P cf m))) (h : cKV E ks vs = some l) (hl : l.length ≤ 15) :
    PE X (.Dict ks vs pos) (tE Γ X mcm W0 (evE P cf (.dic (flat l)))) := by
  obtain ⟨i1, i2, i3, i4⟩ := cKV_ok (pos := pos) hE h
  cases ks with
  | nil =>
    cases vs with
    | nil =>
      cases h
      exact snd_dnew
    | cons => cases h
  | cons e ks =>
    have e1 : evE P cf (.dic (flat l)) = fun ρ S => (evPs (l.map fun p => (evE P cf p.1, evE P cf p.2)) ρ S).bind fun vs S => dicM vs S := by
      funext ρ S
      show (evEs P cf (flat l) ρ S).bind (fun vs S => dicM vs S) = _
      rw [flat_ok]
    rw [e1]
    exact snd_dict i1 i2 i3 (List.cons_ne_nil _ _) (by rw [i4]; exact hl)
theorem andV_ok {pos : Pos} (hE : ∀ e m, E e = some m → PE X e (tE Γ X mcm W0 (evE P cf m))) : ∀ {es : List Expr} {m : ME}, cAndV E es = some m → PE X (.BoolOp .And es pos) (tE Γ X mcm W0 (evE P cf m))
  | [], _, h => nomatch h
  | [a], m, h => pe_one (hE a m h)
  | a :: b :: r, m, h => by
    unfold cAndV at h
    split at h
    · rename_i ma mb h1 h2
      cases h
      exact snd_andV (hE a ma h1) (andV_ok hE h2)
    · cases h
theorem orV_ok {pos : Pos} (hE : ∀ e m, E e = some m → PE X e (tE Γ X mcm W0 (evE P cf m))) : ∀ {es : List Expr} {m : ME}, cOrV E es = some m → PE X (.BoolOp .Or es pos) (tE Γ X mcm W0 (evE P cf m))
  | [], _, h => nomatch h
  | [a], m, h => pe_one (hE a m h)
  | a :: b :: r, m, h => by
    unfold cOrV at h
    split at h
    · rename_i ma mb h1 h2
      cases h
      exact snd_orV (hE a ma h1) (orV_ok hE h2)
    · cases h
theorem andT_ok {pos : Pos} (hT : ∀ e m, T e = some m → PT X e (tT Γ X mcm W0 (evT P cf m))) : ∀ {es : List Expr} {m : MT}, cAndT T es = some m → PW X (.BoolOp .And es pos) (tT Γ X mcm W0 (evT P cf m))
  | [], _, h => nomatch h
  | [a], m, h => pw_and1 (hT a m h)
  | a :: b :: r, m, h => by
    unfold cAndT at h
    split at h
    · rename_i ma mb h1 h2
      cases h
      exact snd_and (hT a ma h1) (andT_ok hT h2)
    · cases h
theorem orT_ok {pos : Pos} (hT : ∀ e m, T e = some m → PT X e (tT Γ X mcm W0 (evT P cf m))) : ∀ {es : List Expr} {m : MT}, cOrT T es = some m → PW X (.BoolOp .Or es pos) (tT Γ X mcm W0 (evT P cf m))
  | [], _, h => nomatch h
  | [a], m, h => pw_or1 (hT a m h)
  | a :: b :: r, m, h => by
    unfold cOrT at h
    split at h
    · rename_i ma mb h1 h2
      cases h
      exact snd_or (hT a ma h1) (orT_ok hT h2)
    · cases h
theorem part_ok (hE : ∀ e m, E e = some m → PE X e (tE Γ X mcm W0 (evE P cf m))) {o : Option Expr} {ms : List ME} (h : cPart E o = some ms) : Part Γ X mcm W0 o (evEs P cf ms) := by
  cases o with
  | none => cases h; exact .none
  | some e =>
    unfold cPart at h
    cases h1 : E e with
    | none => simp only [h1] at h; cases h
    | some m =>
      simp only [h1] at h
      cases h
      exact .some (hE e m h1)
theorem meth_ok {a : Expr} {m : Str} {ap pos : Pos} {as : List Expr} {r : ME} (h : XOk Γ P cf k cc X mcm W0) (hE : ∀ e m, E e = some m → PE X e (tE Γ X mcm W0 (evE P cf m))) (e : cMeth E a m ap as pos = some r) :
    PE X (.Call (.Attribute a m ap) as [] pos) (tE Γ X mcm W0 (evE P cf r)) := by
  unfold cMeth at e
  split at e
  · rename_i hc
    simp only [Bool.and_eq_true, decide_eq_true_eq] at hc
    obtain ⟨⟨h1, h2⟩, h3⟩ := hc
    split at e
    · rename_i mt ma ms e1 e2 e3
      cases e
      have em := mthOf_ok e1
      subst em
      obtain ⟨pa, st⟩ := cEs_ok hE e3
      cases as with
      | nil =>
        cases e3
        exact snd_meth0 mt h.hK h.u65 (hE a ma e2) (plainB_ok h1 _) h2
      | cons b r =>
        have s1 : PySem.W.isStarred b = false := by
          simp only [List.any_cons, Bool.or_eq_false_iff] at st
          exact st.1
        have s2 : r.any PySem.W.isStarred = false := by
          simp only [List.any_cons, Bool.or_eq_false_iff] at st
          exact st.2
        refine snd_meth mt h.hK h.u65 (hE a ma e2) pa (plainB_ok h1 _) ?_ h2 s1 (star_plain s2).1
        rw [(star_plain st).2]
        have : (b :: r).length + ([] : List Keyword).length + 0 < 30 := by show (b :: r).length + 0 + 0 < 30; omega
        simp only [Bool.true_and]
        show (true && decide ((b :: r).length + ([] : List Keyword).length + 0 < 30)) = true
        rw [decide_eq_true this]
        rfl
    · cases e
  · cases e
end
end Mini
namespace Mini
open PySem PySem.Spec PyProof.Rows L2
section
variable {Γ : Gm} {P : Prog} {cf : CF} {k : Nat} {cc : CC} {X : Cx} {mcm : List (Nat × Nat)} {W0 : WX} {E : Expr → Option ME} {T : Expr → Option MT}
theorem is_ok {a : Expr} {ma m : ME} {y : Str} {p q pos : Pos} (h : XOk Γ P cf k cc X mcm W0) (ha : PE X a (tE Γ X mcm W0 (evE P cf ma))) (hs : PySem.W.isStarred a = false) (hg : Gl X "isinstance") (hm : X.mg "isinstance" = none) (e : cIs cc ma y = some m) :
    PE X (.Call (.Name "isinstance" p) [a, .Name y q] [] pos) (tE Γ X mcm W0 (evE P cf m)) := by
  have pl : (backTo pos (starEach [.Name y q] X.env)).any (·.1) = false := rfl
  unfold cIs at e
  split at e
  · rename_i hc
    simp only [Bool.and_eq_true] at hc
    obtain ⟨d1, d2, d3⟩ := dnB_ok hc.2
    have gy := h.glob hc.1
    split at e
    · rename_i c n hk
      cases e
      obtain ⟨C, names, anc, g1, g2, g3, g4, g5, _⟩ := h.gl y _ hk
      have hx : isExc P c = true := by unfold isExc; rw [g4]
      exact snd_isX (kc := some c) (cv := .ref C) (cu := .ref C) h.hK h.eF hg hm ha (pe_glob gy g2 rfl d1) ⟨hx, C, g1, rfl, rfl⟩ hs rfl pl
    · rename_i c hk
      cases e
      obtain ⟨C, g1, g2⟩ := h.gl y _ hk
      exact snd_isin (t := .cls c) (cv := .ref C) (cu := .ref C) h.hK h.cF hg hm ha (pe_glob gy g2 rfl d1) ⟨C, g1, rfl, rfl⟩ hs rfl pl
    · rename_i hk
      have hn : X.mg y = none := h.gl y _ hk
      split at e
      · rename_i hy
        cases e
        rw [seqStr_eq] at hy
        have hy := of_decide_eq_true hy
        subst hy
        exact snd_isX (kc := none) (cv := .ty "ValueError") (cu := .type "ValueError") h.hK h.eF hg hm ha (pe_bltn gy hn (u := .type "ValueError") (by decide +kernel) rfl d3 d1) ⟨rfl, rfl⟩ hs rfl pl
      · cases ht : klook y tyTab with
        | none => rw [ht] at e; cases e
        | some t =>
          rw [ht] at e
          cases e
          obtain ⟨b1, b2⟩ := tyTab_ok _ (klook_mem ht)
          have cv : clsV Γ t (.ty (tyN t)) (.type (tyN t)) := by
            cases t with
            | cls c => exact absurd rfl (b2 c)
            | _ => exact ⟨rfl, rfl⟩
          exact snd_isin (t := t) h.hK h.cF hg hm ha (pe_bltn (v := .ty (tyN t)) gy hn b1 rfl d3 d1) cv hs rfl pl
    · cases e
  · cases e
theorem bi_ok' {x : Str} {p pos : Pos} {as : List Expr} {n : Nat} {b : Bi} {ms : List ME} (h : XOk Γ P cf k cc X mcm W0) (hE : ∀ e m, E e = some m → PE X e (tE Γ X mcm W0 (evE P cf m))) (hg : Gl X x) (hm : X.mg x = none) (hd : dnB x = true) (e : biOf x n = some b) (ea : cEs E as = some ms) (hne : as ≠ []) :
    PE X (.Call (.Name x p) as [] pos) (tE Γ X mcm W0 (evE P cf (.bi b ms))) := by
  obtain ⟨d1, d2, d3⟩ := dnB_ok hd
  obtain ⟨pa, st⟩ := cEs_ok hE ea
  cases as with
  | nil => exact absurd rfl hne
  | cons a r =>
    simp only [List.any_cons, Bool.or_eq_false_iff] at st
    exact snd_bi b h.hK h.calm h.gd h.u hg hm (biOf_ok e) pa d3 d1 st.1 (star_plain st.2).1
theorem calls_ok {x : Str} {p pos : Pos} {as : List Expr} {m : ME} (h : XOk Γ P cf k cc X mcm W0) (hE : ∀ e m, E e = some m → PE X e (tE Γ X mcm W0 (evE P cf m))) (e : cCall E cc x as pos = some m) :
    PE X (.Call (.Name x p) as [] pos) (tE Γ X mcm W0 (evE P cf m)) := by
  unfold cCall at e
  split at e
  · rename_i hc
    simp only [Bool.and_eq_true] at hc
    obtain ⟨d1, d2, d3⟩ := dnB_ok hc.2
    have gx := h.glob hc.1
    split at e
    · rename_i i np dfl hk
      split at e
      · rename_i hn
        simp only [Bool.and_eq_true, decide_eq_true_eq] at hn
        cases hes : cEs E as with
        | none => rw [hes] at e; cases e
        | some ms =>
          rw [hes] at e
          cases e
          obtain ⟨f, fd, ps, g1, g2, g3, g4, g5⟩ := h.gl x _ hk
          obtain ⟨ds, dvs, b1, b2, b3⟩ := g5 (dfl.length - (np - as.length)) (Nat.sub_le _ _)
          have C : Callee Γ X k f fd ps ds (dfl.drop (dfl.length - (np - as.length))) dvs (cf i) := ⟨g4, by rw [h.hK]; exact b1, b2, b3⟩
          have e1 : evE P cf (.call i (ms ++ (dfl.drop (dfl.length - (np - as.length))).map .cst)) = fun ρ S => (evEs P cf ms ρ S).bind fun vs S => callI cf i (vs ++ dfl.drop (dfl.length - (np - as.length))) S := by
            funext ρ S
            show (evEs P cf (ms ++ _) ρ S).bind (fun vs S => callI cf i vs S) = _
            rw [evEs_app, bind_assoc]
            rfl
          rw [e1]
          obtain ⟨pa, st⟩ := cEs_ok hE hes
          cases as with
          | nil =>
            cases hes
            exact snd_call0 C h.hK h.hr h.gd h.tk gx g1 (by rw [h.hK]; exact g2) d1
          | cons a r =>
            simp only [List.any_cons, Bool.or_eq_false_iff] at st
            exact snd_call C h.hK h.hr h.gd h.tk gx g1 (by rw [h.hK]; exact g2) pa d1 (star_ok st.1) (star_plain st.2).1
      · cases e
    · rename_i c n hk
      split at e
      · rename_i hn
        have hn := eq_of_beq hn
        cases hes : cEs E as with
        | none => rw [hes] at e; cases e
        | some ms =>
          rw [hes] at e
          cases e
          obtain ⟨C, names, anc, g1, g2, g3, g4, g5, g6⟩ := h.gl x _ hk
          rcases g6 with ⟨n0, B, newId, initId, bmB, q1, q2⟩ | ⟨n9, n0, q1, q2, fI, fd, ps, q3, q4, q5, q6⟩
          · have h0 : as = [] := List.length_eq_zero_iff.mp (by omega)
            subst h0
            cases hes
            have h1 : names = [] := List.length_eq_zero_iff.mp (by omega)
            subst h1
            exact snd_mkX0 q1 (by rw [h.hK]; exact q2) g4 g1 (by rw [h.hK]; exact g3) gx g2 d1
          · obtain ⟨pa, st⟩ := cEs_ok hE hes
            cases as with
            | nil => simp at hn; omega
            | cons a r =>
              simp only [List.any_cons, Bool.or_eq_false_iff] at st
              have k2 : Room (1 + 1) X.A := h.hr.mono (by have := h.k5; omega)
              exact snd_mkX g4 g1 (by rw [g5]; exact n9) (by rw [h.hK]; exact q1) (by rw [h.hK]; exact q2) (by rw [h.hK]; exact q3) (by rw [h.hK]; exact q4) (by rw [h.hK]; exact q6) k2 (by rw [h.hK]; exact q5) h.tk gx g2 pa d1 (star_ok st.1) (star_plain st.2).1
      · cases e
    · rename_i hk
      have hm : X.mg x = none := h.gl x _ hk
      split at e
      · cases e
      · rename_i a y q
        split at e
        · rename_i hi
          rw [seqStr_eq] at hi
          have hi := of_decide_eq_true hi
          subst hi
          split at e
          · cases e
          · rename_i hs
            cases hma : E a with
            | none => rw [hma] at e; cases e
            | some ma =>
              rw [hma] at e
              exact is_ok h (hE a ma hma) (Bool.eq_false_iff.mpr hs) gx hm e
        · split at e
          · rename_i b hb
            cases hes : cEs E [a, .Name y q] with
            | none => rw [hes] at e; cases e
            | some ms =>
              rw [hes] at e
              cases e
              exact bi_ok' h hE gx hm hc.2 hb hes (List.cons_ne_nil _ _)
          · cases e
      · rename_i a r _
        split at e
        · rename_i hl
          simp only [Bool.and_eq_true] at hl
          have hx := hl.1
          rw [seqStr_eq] at hx
          have hx := of_decide_eq_true hx
          subst hx
          have hr := List.isEmpty_iff.mp hl.2
          subst hr
          split at e
          · cases e
          · rename_i hs
            cases hma : E a with
            | none => rw [hma] at e; cases e
            | some ma =>
              rw [hma] at e
              cases e
              have hs := Bool.eq_false_iff.mpr hs
              exact snd_list (ms := evEs P cf [ma]) (kpB cc pos) h.hK gx hm (snd_cons hs (hE a ma hma) snd_nil) hs
        · split at e
          · rename_i b hb
            cases hes : cEs E (a :: r) with
            | none => rw [hes] at e; cases e
            | some ms =>
              rw [hes] at e
              cases e
              exact bi_ok' h hE gx hm hc.2 hb hes (List.cons_ne_nil _ _)
          · cases e
    · cases e
  · cases e
end
end Mini
namespace Mini
open PySem PySem.Spec PyProof.Rows L2
theorem own_ix {N : List Str} {scope : Scope} {i : Nat} (h : i ∈ (ownOf N scope).map (·.2)) : True := trivial
theorem subN_ok {l m : List Nat} (h : subN l m = true) : ∀ i ∈ l, i ∈ m := fun i hi => by
  have := List.all_eq_true.mp h i hi
  exact List.contains_iff_mem.mp this
theorem disN_ok {l m : List Nat} (h : disN l m = true) : ∀ i ∈ l, i ∉ m := fun i hi z => by
  have := List.all_eq_true.mp h i hi
  rw [List.contains_iff_mem.mpr z] at this
  cases this
section
variable {Γ : Gm} {P : Prog} {cf : CF} {k : Nat} {cc : CC} {X : Cx} {mcm : List (Nat × Nat)} {W0 : WX} {r : Rec}
theorem ifs_ok {T : Expr → Option MT} (hT : ∀ e m, T e = some m → PT X e (tT Γ X mcm W0 (evT P cf m))) {ifs : List Expr} {c : MT} (h : cIfs T ifs = some c) : PTs X ifs (tT Γ X mcm W0 (evT P cf c)) := by
  match ifs, h with
  | [], h => cases h; exact snd_ptsN
  | [a], h => exact snd_pts1 (hT a c h)
structure BlkIn (Γ : Gm) (P : Prog) (cf : CF) (cc : CC) (X : Cx) (mcm : List (Nat × Nat)) (W0 : WX) (tg iter : Expr) (ifs : List Expr) (scope : Scope) (b : Blk) : Prop where
  eo : b.own = (ownOf cc.N scope).map (·.2)
  ok : BlkOk X.N X.env.scope scope (ownOf cc.N scope)
  hi : PI X tg iter (tI Γ X mcm W0 (evI P cf b.it))
  bp : BlkP Γ X mcm scope tg ifs (tgS b.t) (assignG b.t) (evT P cf b.c)
  hts : ∀ i ∈ tgS b.t, i ∈ (ownOf cc.N scope).map (·.2)
  hmc : ∀ i k, (i, k) ∈ mcm → i ∉ (ownOf cc.N scope).map (·.2)
  ns : notSet iter = true
theorem blk_ok (R : RecOk r) (h : XOk Γ P cf k cc X mcm W0) {tg iter : Expr} {ifs : List Expr} {scope : Scope} {b : Blk} (e : cBlk r cc tg iter ifs scope = some b) : BlkIn Γ P cf cc X mcm W0 tg iter ifs scope b := by
  unfold cBlk at e
  split at e
  · rename_i hc
    simp only [Bool.and_eq_true] at hc
    obtain ⟨⟨h1, h2⟩, h3⟩ := hc
    split at e
    · rename_i it t c e1 e2 e3
      split at e
      · rename_i hs
        cases e
        have hts := subN_ok hs
        have hmc : ∀ i k, (i, k) ∈ mcm → i ∉ (ownOf cc.N scope).map (·.2) := fun i k hik => disN_ok h3 i (List.contains_iff_mem.mp ((h.mc i).mpr ⟨k, hik⟩))
        refine ⟨rfl, ?_, R.I Γ P cf k cc X mcm W0 h tg iter it e1, ⟨fun s3 H3 fp => ?_, fun s3 H3 fp => ?_⟩, hts, hmc, h2⟩
        · rw [h.nN, h.sc]; exact blkOk_by h1
        · refine cG_ok (h.bk s3 H3 scope fp) 9 tg t e2 (.inl fun i hi => ?_)
          have := hts i hi
          cases hq : (inCC cc scope).mc.contains i with
          | false => rfl
          | true => exact absurd this (disN_ok h3 i (List.contains_iff_mem.mp hq))
        · exact ifs_ok (R.T Γ P cf k (inCC cc scope) _ mcm noX (h.bk s3 H3 scope fp)) e3
      · cases e
    · cases e
  · cases e
structure BlkIn1 (Γ : Gm) (P : Prog) (cf : CF) (X : Cx) (mcm : List (Nat × Nat)) (own : List Nat) (tg iter : Expr) (ifs : List Expr) (scope : Scope) (b : Blk) : Prop where
  eo : b.own = tgS b.t
  hi : ∀ s3 H3 fp, PI (Cx.bk X s3 H3 scope fp) tg iter (tI Γ (Cx.bk X s3 H3 scope fp) mcm noX (evI P cf b.it))
  bp : BlkP Γ X mcm scope tg ifs (tgS b.t) (assignG b.t) (evT P cf b.c)
  ho : ∀ i ∈ tgS b.t, i ∈ own
  ns : notSet iter = true
theorem blk1_ok (R : RecOk r) (h : XOk Γ P cf k cc X mcm W0) {tg iter : Expr} {ifs : List Expr} {scope : Scope} {own : List Nat} {b : Blk} (hmc : ∀ i k, (i, k) ∈ mcm → i ∉ own) (e : cBlk1 r (inCC cc scope) own tg iter ifs = some b) : BlkIn1 Γ P cf X mcm own tg iter ifs scope b := by
  unfold cBlk1 at e
  split at e
  · rename_i h2
    split at e
    · rename_i it t c e1 e2 e3
      split at e
      · rename_i hs
        cases e
        have hts := subN_ok hs
        refine ⟨rfl, fun s3 H3 fp => R.I Γ P cf k (inCC cc scope) _ mcm noX (h.bk s3 H3 scope fp) tg iter it e1, ⟨fun s3 H3 fp => ?_, fun s3 H3 fp => ?_⟩, hts, h2⟩
        · refine cG_ok (h.bk s3 H3 scope fp) 9 tg t e2 (.inl fun i hi => ?_)
          have := hts i hi
          cases hq : (inCC cc scope).mc.contains i with
          | false => rfl
          | true =>
            obtain ⟨k', hk'⟩ := (h.mc i).mp hq
            exact absurd this (hmc i k' hk')
        · exact ifs_ok (R.T Γ P cf k (inCC cc scope) _ mcm noX (h.bk s3 H3 scope fp)) e3
      · cases e
    · cases e
  · cases e
theorem lc_ok {elt : Expr} {gens : List Comprehension} {scope : Scope} {pos : Pos} {m : ME} (R : RecOk r) (h : XOk Γ P cf k cc X mcm W0) (e : cLC r cc elt gens scope pos = some m) : ∃ (tg iter : Expr) (ifs : List Expr) (gs : List Comprehension) (mi : Env → Store → Res Plan) (own : List (Str × Nat)), gens = ⟨tg, iter, ifs, 0⟩ :: gs ∧
    PI X tg iter (tI Γ X mcm W0 mi) ∧ BlkOk X.N X.env.scope scope own ∧ (∀ x, foldedSetIterable iter X.env x = pure x) ∧
    ∀ σ H Q, tE Γ X mcm W0 (evE P cf m) σ H Q → tI Γ X mcm W0 mi σ H (BlkAsk X (.ListComp elt (⟨tg, iter, ifs, 0⟩ :: gs) scope pos) tg iter ifs scope own (.lst []) σ Q) := by
  unfold cLC at e
  split at e
  · rename_i tg iter ifs
    split at e
    · rename_i b me e1 e2
      cases e
      have B := blk_ok R h e1
      refine ⟨tg, iter, ifs, [], _, _, rfl, B.hi, B.ok, notSet_ok B.ns _, ?_⟩
      have := key_list1 (W0 := W0) (iter := iter) (elt := elt) (pos := pos) (mi := evI P cf b.it) (me := evE P cf me) (kpB cc pos) B.ok h.nN' B.hts B.hmc B.bp (fun s3 H3 fp => R.E Γ P cf k (inCC cc scope) _ mcm noX (h.bk s3 H3 scope fp) elt me e2)
      rw [← B.eo] at this
      exact this
    · cases e
  · rename_i tg iter ifs tg1 iter1 ifs1
    split at e
    · rename_i b e1
      split at e
      · rename_i b1 me e2 e3
        cases e
        have B := blk_ok R h e1
        have B1 := blk1_ok R h (own := b.own) (by rw [B.eo]; exact B.hmc) e2
        refine ⟨tg, iter, ifs, [⟨tg1, iter1, ifs1, 0⟩], _, _, rfl, B.hi, B.ok, notSet_ok B.ns _, ?_⟩
        have := key_list2 (W0 := W0) (iter := iter) (elt := elt) (pos := pos) (mi := evI P cf b.it) (me := evE P cf me) (mi1 := evI P cf b1.it) (own1 := b1.own) (kpB cc pos) h.calm B.ok h.nN' B.hts (by rw [B1.eo]; exact fun i hi => hi) (by rw [B1.eo, ← B.eo]; exact B1.ho) B.hmc B.bp B1.hi B1.bp (fun s3 H3 fp => R.E Γ P cf k (inCC cc scope) _ mcm noX (h.bk s3 H3 scope fp) elt me e3) (notSet_ok B1.ns)
        rw [← B.eo] at this
        exact this
      · cases e
    · cases e
  · cases e
theorem dc_ok {kx vx : Expr} {gens : List Comprehension} {scope : Scope} {pos : Pos} {m : ME} (R : RecOk r) (h : XOk Γ P cf k cc X mcm W0) (e : cDC r cc kx vx gens scope = some m) : ∃ (tg iter : Expr) (ifs : List Expr) (gs : List Comprehension) (mi : Env → Store → Res Plan) (own : List (Str × Nat)), gens = ⟨tg, iter, ifs, 0⟩ :: gs ∧
    PI X tg iter (tI Γ X mcm W0 mi) ∧ BlkOk X.N X.env.scope scope own ∧ (∀ x, foldedSetIterable iter X.env x = pure x) ∧
    ∀ σ H Q, tE Γ X mcm W0 (evE P cf m) σ H Q → tI Γ X mcm W0 mi σ H (BlkAsk X (.DictComp kx vx (⟨tg, iter, ifs, 0⟩ :: gs) scope pos) tg iter ifs scope own (.dK []) σ Q) := by
  unfold cDC at e
  split at e
  · rename_i tg iter ifs
    split at e
    · rename_i b mk mv e1 e2 e3
      cases e
      have B := blk_ok R h e1
      refine ⟨tg, iter, ifs, [], _, _, rfl, B.hi, B.ok, notSet_ok B.ns _, ?_⟩
      have := key_dict1 (W0 := W0) (iter := iter) (kx := kx) (vx := vx) (pos := pos) (mi := evI P cf b.it) (mk := evE P cf mk) (mv := evE P cf mv) h.u1 B.ok h.nN' B.hts B.hmc B.bp (fun s3 H3 fp => R.E Γ P cf k (inCC cc scope) _ mcm noX (h.bk s3 H3 scope fp) kx mk e2) (fun s3 H3 fp => R.E Γ P cf k (inCC cc scope) _ mcm noX (h.bk s3 H3 scope fp) vx mv e3)
      rw [← B.eo] at this
      exact this
    · cases e
  · rename_i tg iter ifs tg1 iter1 ifs1
    split at e
    · rename_i b e1
      split at e
      · rename_i b1 mk mv e2 e3 e4
        cases e
        have B := blk_ok R h e1
        have B1 := blk1_ok R h (own := b.own) (by rw [B.eo]; exact B.hmc) e2
        refine ⟨tg, iter, ifs, [⟨tg1, iter1, ifs1, 0⟩], _, _, rfl, B.hi, B.ok, notSet_ok B.ns _, ?_⟩
        have := key_dict2 (W0 := W0) (iter := iter) (kx := kx) (vx := vx) (pos := pos) (mi := evI P cf b.it) (mk := evE P cf mk) (mv := evE P cf mv) (mi1 := evI P cf b1.it) (own1 := b1.own) h.u1 h.calm B.ok h.nN' B.hts (by rw [B1.eo]; exact fun i hi => hi) (by rw [B1.eo, ← B.eo]; exact B1.ho) B.hmc B.bp B1.hi B1.bp (fun s3 H3 fp => R.E Γ P cf k (inCC cc scope) _ mcm noX (h.bk s3 H3 scope fp) kx mk e3) (fun s3 H3 fp => R.E Γ P cf k (inCC cc scope) _ mcm noX (h.bk s3 H3 scope fp) vx mv e4) (notSet_ok B1.ns)
        rw [← B.eo] at this
        exact this
      · cases e
    · cases e
  · cases e
end
end Mini
namespace Mini
open PySem PySem.Spec PyProof.Rows L2
section
variable {Γ : Gm} {P : Prog} {cf : CF} {k : Nat} {cc : CC} {X : Cx} {mcm : List (Nat × Nat)} {W0 : WX} {r : Rec}
theorem cmp_eq {op : CmpOp} {a b : ME} : evE P cf (.cmp (copI op) a b) = fun ρ S => (evE P cf a ρ S).bind fun x S => (evE P cf b ρ S).bind fun y S => Res.of ((cmpM (copI op) x y S).map .bl) S := rfl
theorem lcE_ok {elt : Expr} {gens : List Comprehension} {scope : Scope} {pos : Pos} {m : ME} (R : RecOk r) (h : XOk Γ P cf k cc X mcm W0) (e : cLC r cc elt gens scope pos = some m) : PE X (.ListComp elt gens scope pos) (tE Γ X mcm W0 (evE P cf m)) := by
  obtain ⟨tg, iter, ifs, gs, mi, own, rfl, h1, h2, h3, h4⟩ := lc_ok R h e
  exact snd_lc h.calm h.nN' h1 h2 h3 h4
theorem dcE_ok {kx vx : Expr} {gens : List Comprehension} {scope : Scope} {pos : Pos} {m : ME} (R : RecOk r) (h : XOk Γ P cf k cc X mcm W0) (e : cDC r cc kx vx gens scope = some m) : PE X (.DictComp kx vx gens scope pos) (tE Γ X mcm W0 (evE P cf m)) := by
  obtain ⟨tg, iter, ifs, gs, mi, own, rfl, h1, h2, h3, h4⟩ := dc_ok (pos := pos) R h e
  exact snd_dc h.calm h.nN' h1 h2 h3 h4
theorem cpE_ok (R : RecOk r) (h : XOk Γ P cf k cc X mcm W0) {e : Expr} {m : ME} (z : cpE r cc e = some m) : PE X e (tE Γ X mcm W0 (evE P cf m)) := by
  have hE := R.E Γ P cf k cc X mcm W0 h
  have hT := R.T Γ P cf k cc X mcm W0 h
  unfold cpE at z
  split at z
  · exact sn_name h z
  · rename_i c j pos
    cases hc : cC c with
    | none => rw [hc] at z; cases z
    | some v => rw [hc] at z; cases z; exact cst_ok hc
  · rename_i es kk pos
    cases hc : cEs (r.E cc) es with
    | none => rw [hc] at z; cases z
    | some ms => rw [hc] at z; cases z; exact snd_tup (cEs_ok hE hc).1
  · rename_i es pos
    cases hc : cEs (r.E cc) es with
    | none => rw [hc] at z; cases z
    | some ms => rw [hc] at z; cases z; exact snd_lst (cEs_ok hE hc).1
  · split at z
    · rename_i l hl
      split at z
      · rename_i h15
        cases z
        exact dict_ok hE hl h15
      · cases z
    · cases z
  · rename_i a op b pos
    split at z
    · rename_i o ma mb h1 h2 h3
      cases z
      rw [bopI_ok h1]
      exact snd_bin o h.hK (hE a ma h2) (hE b mb h3)
    · cases z
  · rename_i a pos
    cases hc : r.E cc a with
    | none => rw [hc] at z; cases z
    | some v => rw [hc] at z; cases z; exact snd_neg (hE a v hc)
  · rename_i a pos
    cases hc : r.E cc a with
    | none => rw [hc] at z; cases z
    | some v => rw [hc] at z; cases z; exact snd_notE h.hK (hE a v hc)
  · rename_i a op b pos
    split at z
    · rename_i hs
      split at z
      · rename_i ma mb h1 h2
        cases z
        have := snd_cmp (pos := pos) (copI op) h.hK h.u65 (hE a ma h1) (hE b mb h2) (notSet_mark hs _)
        rw [copI_ok] at this
        exact this
      · cases z
    · cases z
  · rename_i a op op' b c pos
    split at z
    · rename_i hs
      split at z
      · rename_i ma mb mc h1 h2 h3
        cases z
        have := snd_chain (pos := pos) (copI op) (copI op') h.hK h.u65 (hE a ma h1) (hE b mb h2) (hE c mc h3) (notSet_mark hs _)
        rw [copI_ok, copI_ok] at this
        exact this
      · cases z
    · cases z
  · exact andV_ok hE z
  · exact orV_ok hE z
  · rename_i c a b pos
    split at z
    · rename_i mc ma mb h1 h2 h3
      cases z
      exact snd_ifE (hT c mc h1) (hE a ma h2) (hE b mb h3)
    · cases z
  · rename_i a f pos
    split at z
    · rename_i hp
      cases hc : r.E cc a with
      | none => rw [hc] at z; cases z
      | some v =>
        rw [hc] at z
        dsimp only [Option.map] at z
        split at z
        · rename_i hx
          cases z
          exact snd_attrX h.hK h.eF (h.xf f hx) (hE a v hc) (plainB_ok hp _)
        · cases z
          exact snd_attr h.hK h.cF (hE a v hc) (plainB_ok hp _)
    · cases z
  · rename_i a lo hi p2 pos
    split at z
    · rename_i ma ml mh h1 h2 h3
      cases z
      exact snd_slice _ h.hK (hE a ma h1) (part_ok hE h2) (part_ok hE h3)
    · cases z
  · rename_i a i pos _
    split at z
    · rename_i hp
      split at z
      · rename_i ma mi h1 h2
        cases z
        exact snd_sub h.hK h.u1 (hE a ma h1) (hE i mi h2) (plainIx_ok hp)
      · cases z
    · cases z
  · exact calls_ok h hE z
  · exact meth_ok h hE z
  · exact lcE_ok R h z
  · exact dcE_ok R h z
  · cases z
theorem cpT_ok (R : RecOk r) (h : XOk Γ P cf k cc X mcm W0) {e : Expr} {m : MT} (z : cpT r cc e = some m) : PT X e (tT Γ X mcm W0 (evT P cf m)) := by
  have hE := R.E Γ P cf k cc X mcm W0 h
  have hT := R.T Γ P cf k cc X mcm W0 h
  unfold cpT at z
  split at z
  · rename_i a op b pos
    split at z
    · rename_i hs
      split at z
      · rename_i ma mb h1 h2
        cases z
        have := snd_cmpT (pos := pos) (copI op) h.hK h.u65 (hE a ma h1) (hE b mb h2) (notSet_mark hs _)
        rw [copI_ok] at this
        exact this
      · cases z
    · cases z
  · rename_i a op op' b c pos
    split at z
    · rename_i hs
      split at z
      · rename_i ma mb mc h1 h2 h3
        cases z
        have := snd_chainT (pos := pos) (copI op) (copI op') h.hK h.u65 (hE a ma h1) (hE b mb h2) (hE c mc h3) (notSet_mark hs _)
        rw [copI_ok, copI_ok] at this
        exact this
      · cases z
    · cases z
  · exact (andT_ok hT z).pt
  · exact (orT_ok hT z).pt
  · rename_i a pos
    cases hc : r.T cc a with
    | none => rw [hc] at z; cases z
    | some v => rw [hc] at z; cases z; exact snd_not (hT a v hc)
  · split at z
    · rename_i hp
      cases hc : r.E cc e with
      | none => rw [hc] at z; cases z
      | some v => rw [hc] at z; cases z; exact snd_val h.hK (hE e v hc) hp
    · cases z
theorem seq_ok (h : XOk Γ P cf k cc X mcm W0) (hE : ∀ e m, r.E cc e = some m → PE X e (tE Γ X mcm W0 (evE P cf m))) {tg e : Expr} {m : MI} (z : (r.E cc e).map MI.seq = some m) : PI X tg e (tI Γ X mcm W0 (evI P cf m)) := by
  cases hc : r.E cc e with
  | none => rw [hc] at z; cases z
  | some v => rw [hc] at z; cases z; exact sni_seq h.hK (hE e v hc)
theorem cpI_ok (R : RecOk r) (h : XOk Γ P cf k cc X mcm W0) {tg e : Expr} {m : MI} (z : cpI r cc tg e = some m) : PI X tg e (tI Γ X mcm W0 (evI P cf m)) := by
  have hE := R.E Γ P cf k cc X mcm W0 h
  unfold cpI at z
  split at z
  · rename_i x p as pos
    split at z
    · rename_i hc
      simp only [Bool.and_eq_true] at hc
      have gx := h.glob hc.1
      split at z
      · rename_i a hk
        have hm : X.mg x = none := h.gl x _ hk
        split at z
        · cases z
        · rename_i hs
          have hs := Bool.eq_false_iff.mpr hs
          split at z
          · rename_i hx
            rw [seqStr_eq] at hx
            have hx := of_decide_eq_true hx
            subst hx
            cases hc : r.E cc a with
            | none => rw [hc] at z; cases z
            | some v =>
              rw [hc] at z; cases z
              exact sni_range1 (ma := evEs P cf [v]) gx hm (snd_cons hs (hE a v hc) snd_nil) (star_ok hs) fun ρ S vs S' q => evEs_len q
          · split at z
            · rename_i hx
              rw [seqStr_eq] at hx
              have hx := of_decide_eq_true hx
              subst hx
              split at z
              · cases hc : r.E cc a with
                | none => rw [hc] at z; cases z
                | some v =>
                  rw [hc] at z; cases z
                  exact sni_enum h.hK gx hm (hE a v hc) (star_ok hs)
              · cases z
            · exact seq_ok h hE z
      · rename_i a b hk
        have hm : X.mg x = none := h.gl x _ hk
        split at z
        · cases z
        · rename_i hs
          simp only [Bool.or_eq_true, not_or, Bool.not_eq_true] at hs
          have s1 := hs.1
          have s2 := hs.2
          split at z
          · rename_i hx
            rw [seqStr_eq] at hx
            have hx := of_decide_eq_true hx
            subst hx
            split at z
            · rename_i va vb h1 h2
              cases z
              have st : starEach [a, b] X.env = [(false, eval a X.env), (false, eval b X.env)] := by rw [star_ok s1, star_ok s2]; rfl
              exact sni_range2 (ma := evEs P cf [va, vb]) gx hm (snd_cons s1 (hE a va h1) (snd_cons s2 (hE b vb h2) snd_nil)) st (star_ok s2) fun ρ S vs S' q => evEs_len q
            · cases z
          · split at z
            · rename_i hx
              rw [seqStr_eq] at hx
              have hx := of_decide_eq_true hx
              subst hx
              split at z
              · rename_i va vb h1 h2
                cases z
                refine sni_zip h.hK gx hm (hE a va h1) (hE b vb h2) s1 s2 ?_
                rw [star_ok s2]; rfl
              · cases z
            · exact seq_ok h hE z
      · exact seq_ok h hE z
    · exact seq_ok h hE z
  · exact seq_ok h hE z
end
theorem compR_ok : ∀ n, RecOk (compR n)
  | 0 => ⟨fun _ _ _ _ _ _ _ _ _ _ _ z => (nomatch z), fun _ _ _ _ _ _ _ _ _ _ _ z => (nomatch z), fun _ _ _ _ _ _ _ _ _ _ _ _ z => (nomatch z)⟩
  | n + 1 => ⟨fun _ _ _ _ _ _ _ _ h _ _ z => cpE_ok (compR_ok n) h z, fun _ _ _ _ _ _ _ _ h _ _ z => cpT_ok (compR_ok n) h z, fun _ _ _ _ _ _ _ _ h _ _ _ z => cpI_ok (compR_ok n) h z⟩
end Mini
namespace Mini
open PySem PySem.Spec PyProof.Rows L2
def swN (sc : Scope) (ts : List Expr) : List Str :=
  let line := (ts.head?.map (·.pos.line)).getD 0
  ts.filterMap fun
    | .Name id pos => if sc.names.lookup id == some .local && pos.line == line then some id else none
    | _ => none
/-- none: not served -/
def swF (sc : Scope) (ts vs : List Expr) : Option (Option (List Str)) :=
  if !(ts.length == 2 || ts.length == 3) || vs.length != ts.length then some none else
  if (vs.any fun | .Starred .. => true | _ => false) then some none else
  if (swN sc ts).length != ts.length || (swN sc ts).eraseDups.length != (swN sc ts).length then some none else
  if vs.all (foldedForSure 8) then some none else
  if vs.all (constantsAlone 8) then none else some (some (swN sc ts))
theorem swF_ok {sc : Scope} {env : PySem.Env} {ts vs : List Expr} {k k2 : Nat} {p p2 : Pos} {o : Option (List Str)} (hs : env.scope = sc) (hb : env.blockKind = .function) (h : swF sc ts vs = some o) : swappedStores [.Tuple ts k p] (.Tuple vs k2 p2) env = pure o := by
  have e : swappedStores [.Tuple ts k p] (.Tuple vs k2 p2) env = if !(ts.length == 2 || ts.length == 3) || vs.length != ts.length || env.blockKind != .function then pure none else
      if (vs.any fun | .Starred .. => true | _ => false) then pure none else
      if (swN sc ts).length != ts.length || (swN sc ts).eraseDups.length != (swN sc ts).length then pure none else
      if vs.all (foldedForSure 8) then pure none else
      if vs.all (constantsAlone 8) then (do let _ ← (unsupported "assign.tuple-of-constant-expressions:order-of-the-stores" : Sem Unit); pure (some (swN sc ts))) else pure (some (swN sc ts)) := by
    subst hs
    rfl
  rw [e, hb]
  unfold swF at h
  have e2 : (ScopeKind.function != ScopeKind.function) = false := rfl
  rw [e2, Bool.or_false]
  split at h
  · rename_i q; cases h; rw [if_pos q]
  · rename_i q
    rw [if_neg q]
    split at h
    · rename_i q; cases h; exact if_pos q
    · rename_i q2
      refine (if_neg q2).trans ?_
      split at h
      · rename_i q; cases h; rw [if_pos q]
      · rename_i q
        rw [if_neg q]
        split at h
        · rename_i q; cases h; rw [if_pos q]
        · rename_i q
          rw [if_neg q]
          split at h
          · cases h
          · rename_i q; cases h; rw [if_neg q]
def notComp : Expr → Bool
  | .ListComp _ _ _ _ => false
  | .SetComp _ _ _ _ => false
  | .DictComp _ _ _ _ _ => false
  | _ => true
theorem notComp_ok {e : Expr} {t : Option Expr} {l : Nat} {env : PySem.Env} (h : notComp e = true) : swapsWith e t l env = pure false := by
  cases e <;> first | rfl | cases h
def cSs (c : Stmt → Option MStm) : List Stmt → Option (List MStm)
  | [] => some []
  | s :: r => match c s, cSs c r with
    | some a, some b => some (a :: b)
    | _, _ => none
/-- the slots of plain names -/
def nmTs : List Tg → Option (List Nat)
  | [] => some []
  | .name i :: r => (nmTs r).map (i :: ·)
  | _ => none
/-- a, b = x, y -/
def cPar (r : Rec) (cc : CC) (ts vs : List Expr) : Option MStm :=
  match swF cc.sc ts vs, cG.go cc 8 ts, cEs (r.E cc) vs with
    | some none, some t, some es => some (.asg (.tup t) (.tup es))
    | some (some _), some t, some es => match nmTs t with
      | some [i, j] => if i == j then none else some (.par t es)
      | some [i, j, l] => if i == j || i == l || j == l then none else some (.par t es)
      | _ => none
    | _, _, _ => none
def cpS (r : Rec) : Nat → CC → Stmt → Option MStm
  | 0, _, _ => none
  | n + 1, cc, s => match s with
    | .Pass _ => some .pass
    | .Break _ => some .brk
    | .Continue _ => some .cont
    | .Return none _ => some .retN
    | .Return (some e) _ => (r.E cc e).map .ret
    | .Expr (.Constant (.str _) _ _) _ => some .pass
    | .Expr e _ => if notComp e then (r.E cc e).map .expr else none
    | .Assign [.Tuple ts _ _] (.Tuple vs _ _) _ => cPar r cc ts vs
    | .Assign [.Tuple ts k p] e _ => if notComp e then match cG cc 9 (.Tuple ts k p), r.E cc e with
        | some t, some e => some (.asg t e)
        | _, _ => none
      else none
    | .Assign [.Name x p] e _ => match cG cc 9 (.Name x p), r.E cc e with
      | some t, some e => some (.asg t e)
      | _, _ => none
    | .Assign [.Subscript a i _] e _ => if plainIx i && notComp e then match r.E cc a, r.E cc i, r.E cc e with
        | some a, some i, some e => some (.asgS a i e)
        | _, _, _ => none
      else none
    | .Assign [.Attribute a f _] e _ => if notComp e then match r.E cc a, r.E cc e with
        | some a, some e => some (.asgA a f e)
        | _, _ => none
      else none
    | .AugAssign (.Name x _) op e _ => match idx x cc.N 0, bopI op, r.E cc e with
      | some i, some o, some e => if locB cc.sc x && locB cc.sf x && !cc.mc.contains i && (decide (o = .add) || decide (o = .sub)) then some (.aug i o e) else none
      | _, _, _ => none
    | .If c a b _ => match r.T cc c, cSs (cpS r n cc) a, cSs (cpS r n cc) b with
      | some c, some a, some b => some (.ifS c a b)
      | _, _, _ => none
    | .For tg it b [] _ => if notSet it then match cG cc 9 tg, r.I cc tg it, cSs (cpS r n cc) b with
        | some t, some i, some b => some (.forS t i b)
        | _, _, _ => none
      else none
    | .While c b [] _ => match r.T cc c, cSs (cpS r n cc) b with
      | some c, some b => some (.whileS c b)
      | _, _ => none
    | _ => none
end Mini
namespace Mini
open PySem PySem.Spec PyProof.Rows L2
structure SOk (Γ : Gm) (P : Prog) (cf : CF) (k : Nat) (cc : CC) (X : Cx) (mcm : List (Nat × Nat)) (W0 : WX) : Prop extends XOk Γ P cf k cc X mcm W0 where
  po : PassesOwn (model X.prog X.w) X.A X.env X.xe
  mco : McOk X mcm
  bk : X.env.blockKind = .function
section
variable {Γ : Gm} {P : Prog} {cf : CF} {k : Nat} {cc : CC} {X : Cx} {mcm : List (Nat × Nat)} {W0 : WX} {r : Rec}
/-- a, b, c = x, y, z of plain local names -/
theorem sn_par3 {i j l : Nat} {x y z : Str} {a b c : Expr} {px py pz pt pos : Pos} {kt k2 : Nat} {pt2 : Pos} {ma : Env → Store → Res (List MV)} (hc : X.calm = true) (hN : X.N.Nodup) (hi : X.N[i]? = some x) (hj : X.N[j]? = some y) (hl : X.N[l]? = some z) (hij : i ≠ j) (hil : i ≠ l) (hjl : j ≠ l)
    (hx : X.env.scope.names.lookup x = some .local) (hy : X.env.scope.names.lookup y = some .local) (hz : X.env.scope.names.lookup z = some .local) (mi : ∀ k, (i, k) ∉ mcm) (mj : ∀ k, (j, k) ∉ mcm) (ml : ∀ k, (l, k) ∉ mcm) (ha : PA X [a, b, c] (tA Γ X mcm W0 ma))
    (hw : swappedStores [.Tuple [.Name x px, .Name y py, .Name z pz] kt pt] (.Tuple [a, b, c] k2 pt2) X.env = pure (some [x, y, z])) :
    PS X (.Assign [.Tuple [.Name x px, .Name y py, .Name z pz] kt pt] (.Tuple [a, b, c] k2 pt2) pos) (tS Γ X mcm W0 fun ρ S => (ma ρ S).thn ρ fun vs S => (assignGs [.name i, .name j, .name l] vs ρ S).bind fun ρ S => .ok (.nx ρ) S) := by
  refine PS.imp (ps_par3 hc hN hi hj hl hij hil hjl hx hy hz ha hw) fun D σ H h => ?_
  obtain ⟨W, ρ, S, R, w⟩ := h
  refine tA.mono (stepSA R w) ?_
  rintro vx H1 ⟨mv, W1, S1, rx, e1, R1, h1⟩
  have good : mv.length = 3 ∧ i < ρ.length ∧ j < ρ.length ∧ l < ρ.length := by
    by_cases li : i < ρ.length
    · by_cases lj : j < ρ.length
      · by_cases ll : l < ρ.length
        · refine ⟨?_, li, lj, ll⟩
          match mv, h1 with
          | [_, _, _], _ => rfl
          | [], h1 => exact h1.elim
          | [m], h1 => simp [assignGs, assignG, Res.bind, li, lj] at h1; exact h1.elim
          | [m, n], h1 => simp [assignGs, assignG, Res.bind, li, lj] at h1; exact h1.elim
          | m :: n :: o :: q :: t, h1 => simp [assignGs, assignG, Res.bind, li, lj, ll] at h1; exact h1.elim
        · exfalso
          match mv, h1 with
          | [], h1 => exact h1.elim
          | [m], h1 => simp [assignGs, assignG, Res.bind, li, lj, ll] at h1; exact h1.elim
          | [m, n], h1 => simp [assignGs, assignG, Res.bind, li, lj, ll] at h1; exact h1.elim
          | m :: n :: o :: t, h1 => simp [assignGs, assignG, Res.bind, li, lj, ll] at h1; exact h1.elim
      · exfalso
        match mv, h1 with
        | [], h1 => exact h1.elim
        | [m], h1 => simp [assignGs, assignG, Res.bind, li, lj] at h1; exact h1.elim
        | m :: n :: t, h1 => simp [assignGs, assignG, Res.bind, li, lj] at h1; exact h1.elim
    · exfalso
      match mv, h1 with
      | [], h1 => exact h1.elim
      | m :: t, h1 => simp [assignGs, assignG, Res.bind, li] at h1; exact h1.elim
  obtain ⟨hlen, li, lj, ll⟩ := good
  match mv, hlen, rx, h1 with
  | [m, n, o], _, rx, h1 =>
    obtain ⟨u, v, w, rfl, r1, r2, r3⟩ := vals_three rx
    refine ⟨u, v, w, rfl, ?_⟩
    have h2 : WnS Γ X mcm W0 W1 H1 (.ok (.nx (((ρ.set i (some m)).set j (some n)).set l (some o))) S1) D := by
      have e1 : assignGs [.name i, .name j, .name l] [m, n, o] ρ S1 = .ok (((ρ.set i (some m)).set j (some n)).set l (some o)) S1 := by
        simp [assignGs, assignG, Res.bind, li, lj, ll]
      rw [e1] at h1
      exact h1
    exact WnS.here R1 h2 _ (((R1.name mi r1).name mj r2).name ml r3)
theorem nmTs_ok : ∀ {ts : List Tg} {is : List Nat}, nmTs ts = some is → ts = is.map .name
  | [], is, h => by cases h; rfl
  | .name i :: r, is, h => by
    unfold nmTs at h
    cases hq : nmTs r with
    | none => rw [hq] at h; cases h
    | some js =>
      rw [hq] at h
      cases h
      rw [nmTs_ok hq]; rfl
  | .cell i :: r, is, h => nomatch h
  | .tup i :: r, is, h => nomatch h
theorem cG_name {n i : Nat} {e : Expr} (h : cG cc n e = some (.name i)) : ∃ x p, e = .Name x p ∧ idx x cc.N 0 = some i ∧ locB cc.sc x = true ∧ cc.mc.contains i = false := by
  cases n with
  | zero => unfold cG at h; cases h
  | succ n =>
    unfold cG at h
    split at h
    · rename_i x p
      split at h
      · rename_i j hj
        split at h
        · rename_i hl
          simp only [Bool.and_eq_true] at hl
          split at h
          · cases h
          · rename_i hc
            cases h
            exact ⟨x, p, rfl, hj, hl.1, Bool.eq_false_iff.mpr hc⟩
        · cases h
      · cases h
    · rename_i es k p
      cases hg : cG.go cc n es with
      | none => rw [hg] at h; cases h
      | some ts => rw [hg] at h; cases h
    · cases h
theorem go_names {n : Nat} : ∀ {es : List Expr} {is : List Nat}, cG.go cc n es = some (is.map .name) → es.length = is.length ∧ ∀ (j : Nat) (e : Expr) (i : Nat), es[j]? = some e → is[j]? = some i → ∃ x p, e = .Name x p ∧ idx x cc.N 0 = some i ∧ locB cc.sc x = true ∧ cc.mc.contains i = false
  | [], [], _ => ⟨rfl, fun j e i h => by simp at h⟩
  | [], _ :: _, h => by cases h
  | e :: es, is, h => by
    unfold cG.go at h
    split at h
    · cases h
    · split at h
      · rename_i t ts h1 h2
        cases is with
        | nil => cases h
        | cons i is =>
          have q : t :: ts = Tg.name i :: is.map .name := Option.some.inj h
          obtain ⟨q1, q2⟩ := List.cons.inj q
          subst q1 q2
          obtain ⟨l1, l2⟩ := go_names h2
          refine ⟨by rw [List.length_cons, List.length_cons, l1], fun j e' i' e1 e2 => ?_⟩
          cases j with
          | zero =>
            simp at e1 e2
            subst e1 e2
            exact cG_name h1
          | succ j => exact l2 j e' i' (by simpa using e1) (by simpa using e2)
      · cases h
end
end Mini
namespace Mini
open PySem PySem.Spec PyProof.Rows L2
section
variable {Γ : Gm} {P : Prog} {cf : CF} {k : Nat} {cc : CC} {X : Cx} {mcm : List (Nat × Nat)} {W0 : WX} {r : Rec}
theorem swF_some {sc : Scope} {ts vs : List Expr} {o : List Str} (h : swF sc ts vs = some (some o)) : o = swN sc ts ∧ (swN sc ts).length = ts.length ∧ vs.length = ts.length := by
  unfold swF at h
  split at h
  · cases h
  · rename_i q0
    split at h
    · cases h
    · split at h
      · cases h
      · rename_i q
        split at h
        · cases h
        · split at h
          · cases h
          · cases h
            simp only [Bool.or_eq_true, not_or, bne_iff_ne, ne_eq, Decidable.not_not] at q q0
            exact ⟨rfl, q.1, q0.2⟩
theorem swN2 {sc : Scope} {x y : Str} {px py : Pos} (h : (swN sc [.Name x px, .Name y py]).length = 2) : swN sc [.Name x px, .Name y py] = [x, y] ∧ sc.names.lookup x = some .local ∧ sc.names.lookup y = some .local := by
  unfold swN at h ⊢
  dsimp only at h ⊢
  rw [List.filterMap_cons, List.filterMap_cons, List.filterMap_nil] at h ⊢
  by_cases q1 : (List.lookup x sc.names == some NameKind.local && px.line == (Option.map (fun (x : Expr) => x.pos.line) [Expr.Name x px, .Name y py].head?).getD 0) = true
  · by_cases q2 : (List.lookup y sc.names == some NameKind.local && py.line == (Option.map (fun (x : Expr) => x.pos.line) [Expr.Name x px, .Name y py].head?).getD 0) = true
    · dsimp only at h ⊢
      rw [if_pos q1, if_pos q2]
      simp only [Bool.and_eq_true] at q1 q2
      exact ⟨rfl, eq_of_beq q1.1, eq_of_beq q2.1⟩
    · dsimp only at h
      rw [if_pos q1, if_neg q2] at h
      cases h
  · by_cases q2 : (List.lookup y sc.names == some NameKind.local && py.line == (Option.map (fun (x : Expr) => x.pos.line) [Expr.Name x px, .Name y py].head?).getD 0) = true
    · dsimp only at h
      rw [if_neg q1, if_pos q2] at h
      cases h
    · dsimp only at h
      rw [if_neg q1, if_neg q2] at h
      cases h
theorem swN_len (sc : Scope) (l : Nat) : ∀ (ts : List Expr), (ts.filterMap fun
    | .Name id pos => if sc.names.lookup id == some .local && pos.line == l then some id else none
    | _ => none).length ≤ ts.length := fun ts => List.length_filterMap_le _ _
theorem swN3 {sc : Scope} {x y z : Str} {px py pz : Pos} (h : (swN sc [.Name x px, .Name y py, .Name z pz]).length = 3) : swN sc [.Name x px, .Name y py, .Name z pz] = [x, y, z] ∧ sc.names.lookup x = some .local ∧ sc.names.lookup y = some .local ∧ sc.names.lookup z = some .local := by
  unfold swN at h ⊢
  dsimp only at h ⊢
  rw [List.filterMap_cons, List.filterMap_cons, List.filterMap_cons, List.filterMap_nil] at h ⊢
  generalize (Option.map (fun (x : Expr) => x.pos.line) [Expr.Name x px, .Name y py, .Name z pz].head?).getD 0 = l at h ⊢
  by_cases q1 : (List.lookup x sc.names == some NameKind.local && px.line == l) = true
  · by_cases q2 : (List.lookup y sc.names == some NameKind.local && py.line == l) = true
    · by_cases q3 : (List.lookup z sc.names == some NameKind.local && pz.line == l) = true
      · dsimp only at h ⊢
        rw [if_pos q1, if_pos q2, if_pos q3]
        simp only [Bool.and_eq_true] at q1 q2 q3
        exact ⟨rfl, eq_of_beq q1.1, eq_of_beq q2.1, eq_of_beq q3.1⟩
      · dsimp only at h
        rw [if_pos q1, if_pos q2, if_neg q3] at h
        cases h
    · dsimp only at h
      by_cases q3 : (List.lookup z sc.names == some NameKind.local && pz.line == l) = true
      · rw [if_pos q1, if_neg q2, if_pos q3] at h; cases h
      · rw [if_pos q1, if_neg q2, if_neg q3] at h; cases h
  · dsimp only at h
    rw [if_neg q1] at h
    have := swN_len sc l [.Name y py, .Name z pz]
    rw [List.filterMap_cons, List.filterMap_cons, List.filterMap_nil] at this
    dsimp only at this h
    exfalso
    have h2 : ([Expr.Name y py, .Name z pz] : List Expr).length = 2 := rfl
    rw [h2] at this
    have h := Nat.le_trans (Nat.le_of_eq h.symm) this
    omega
theorem par_ok (R : RecOk r) (h : SOk Γ P cf k cc X mcm W0) {ts vs : List Expr} {kt kv : Nat} {pt pv' pos : Pos} {m : MStm} (z : cPar r cc ts vs = some m) : PS X (.Assign [.Tuple ts kt pt] (.Tuple vs kv pv') pos) (tS Γ X mcm W0 (exS P cf m)) := by
  have hE := R.E Γ P cf k cc X mcm W0 h.toXOk
  unfold cPar at z
  split at z
  · rename_i t es h1 h2 h3
    cases z
    have hw := swF_ok (k := kt) (k2 := kv) (p := pt) (p2 := pv') (env := X.env) h.sc h.bk h1
    obtain ⟨i1, i2, i3⟩ := cG_many h.toXOk (cG_ok h.toXOk 8) ts t h2 (.inr h.mco)
    obtain ⟨j1, j2⟩ := each_star (env := X.env) i2
    exact sn_asg (ts := tgSs t) (f := assignG (.tup t)) (snd_tup (cEs_ok hE h3).1) (pg_tp h.calm h.hK i1 (by rw [j2, i3]) j1) rfl hw rfl
  · rename_i ns t es h1 h2 h3
    have hw := swF_ok (k := kt) (k2 := kv) (p := pt) (p2 := pv') (env := X.env) h.sc h.bk h1
    obtain ⟨e1, e2, e3⟩ := swF_some h1
    subst e1
    split at z
    · rename_i i j hn
      split at z
      · cases z
      · rename_i hij
        cases z
        have hij : i ≠ j := fun q => hij (beq_iff_eq.mpr q)
        have et := nmTs_ok hn
        subst et
        obtain ⟨l1, l2⟩ := go_names h2
        match ts, l1, e2, e3, h1, h2, hw, l2 with
        | [a, b], _, e2, e3, h1, h2, hw, l2 =>
          obtain ⟨x, px, rfl, x1, x2, x3⟩ := l2 0 a i rfl rfl
          obtain ⟨y, py, rfl, y1, y2, y3⟩ := l2 1 b j rfl rfl
          obtain ⟨s1, s2, s3⟩ := swN2 e2
          rw [s1] at hw
          match vs, e3, h3, hw with
          | [v1, v2], _, h3, hw =>
            exact sn_par h.calm h.nN' (h.at x1) (h.at y1) hij (by rw [h.sc]; exact s2) (by rw [h.sc]; exact s3) (h.noc x3) (h.noc y3) (cEs_ok hE h3).1 hw rfl
    · rename_i i j l hn
      split at z
      · cases z
      · rename_i hij
        cases z
        simp only [Bool.or_eq_true, beq_iff_eq, not_or] at hij
        obtain ⟨⟨n1, n2⟩, n3⟩ := hij
        have et := nmTs_ok hn
        subst et
        obtain ⟨l1, l2⟩ := go_names h2
        match ts, l1, e2, e3, h1, h2, hw, l2 with
        | [a, b, c], _, e2, e3, h1, h2, hw, l2 =>
          obtain ⟨x, px, rfl, x1, x2, x3⟩ := l2 0 a i rfl rfl
          obtain ⟨y, py, rfl, y1, y2, y3⟩ := l2 1 b j rfl rfl
          obtain ⟨w, pw, rfl, w1, w2, w3⟩ := l2 2 c l rfl rfl
          obtain ⟨s1, s2, s3, s4⟩ := swN3 e2
          rw [s1] at hw
          match vs, e3, h3, hw with
          | [v1, v2, v3], _, h3, hw =>
            exact sn_par3 h.calm h.nN' (h.at x1) (h.at y1) (h.at w1) n1 n2 n3 (by rw [h.sc]; exact s2) (by rw [h.sc]; exact s3) (by rw [h.sc]; exact s4) (h.noc x3) (h.noc y3) (h.noc w3) (cEs_ok hE h3).1 hw
    · cases z
  · cases z
end
end Mini
namespace Mini
open PySem PySem.Spec PyProof.Rows L2
theorem sole_ok {tg e : Expr} {l : Nat} {env : PySem.Env} (h : notComp e = true) : swapsWithSole [tg] e l env = pure false := notComp_ok (t := some tg) (l := l) (env := env) h
theorem swapsWith_lc {elt : Expr} {gens : List Comprehension} {scope : Scope} {p px : Pos} {x : Str} {l : Nat} {env : PySem.Env} : ∃ b, swapsWith (.ListComp elt gens scope p) (some (.Name x px)) l env = pure b ∧ (b = true → env.scope.names.lookup x = some .local) := by
  refine ⟨_, rfl, fun h => ?_⟩
  simp only [Bool.and_eq_true] at h
  exact eq_of_beq h.1.1.2
theorem swapsWith_dc {kx vx : Expr} {gens : List Comprehension} {scope : Scope} {p px : Pos} {x : Str} {l : Nat} {env : PySem.Env} : ∃ b, swapsWith (.DictComp kx vx gens scope p) (some (.Name x px)) l env = pure b ∧ (b = true → env.scope.names.lookup x = some .local) := by
  refine ⟨_, rfl, fun h => ?_⟩
  simp only [Bool.and_eq_true] at h
  exact eq_of_beq h.1.1.2
theorem compR_lc {r : Rec} (hr : ∃ n, r = compR n) {cc : CC} {elt : Expr} {gens : List Comprehension} {scope : Scope} {p : Pos} {m : ME} (h : r.E cc (.ListComp elt gens scope p) = some m) : ∃ n, cLC (compR n) cc elt gens scope p = some m := by
  obtain ⟨n, rfl⟩ := hr
  cases n with
  | zero => cases h
  | succ n => exact ⟨n, h⟩
theorem compR_dc {r : Rec} (hr : ∃ n, r = compR n) {cc : CC} {kx vx : Expr} {gens : List Comprehension} {scope : Scope} {p : Pos} {m : ME} (h : r.E cc (.DictComp kx vx gens scope p) = some m) : ∃ n, cDC (compR n) cc kx vx gens scope = some m := by
  obtain ⟨n, rfl⟩ := hr
  cases n with
  | zero => cases h
  | succ n => exact ⟨n, h⟩
section
variable {Γ : Gm} {P : Prog} {cf : CF} {k : Nat} {cc : CC} {X : Cx} {mcm : List (Nat × Nat)} {W0 : WX} {r : Rec}
/-- x = e -/
theorem asgN_ok (hr : ∃ n, r = compR n) (h : SOk Γ P cf k cc X mcm W0) {x : Str} {p pos : Pos} {e : Expr} {t : Tg} {m : ME} (ht : cG cc 9 (.Name x p) = some t) (he : r.E cc e = some m) : PS X (.Assign [.Name x p] e pos) (tS Γ X mcm W0 (exS P cf (.asg t m))) := by
  have R : RecOk r := by obtain ⟨n, rfl⟩ := hr; exact compR_ok n
  have hE := R.E Γ P cf k cc X mcm W0 h.toXOk
  have pg := cG_ok h.toXOk 9 _ t ht (.inr h.mco)
  have plain : swapsWith e (some (.Name x p)) pos.line X.env = pure false → PS X (.Assign [.Name x p] e pos) (tS Γ X mcm W0 (exS P cf (.asg t m))) := fun hs => sn_asg (ts := tgS t) (f := assignG t) (hE e m he) pg hs rfl rfl
  have own : X.env.scope.names.lookup x = some .local → ∃ i, t = .name i ∧ X.N[i]? = some x ∧ ∀ k, (i, k) ∉ mcm := fun hl => by
    unfold cG at ht
    dsimp only at ht
    split at ht
    · rename_i i hi
      split at ht
      · rename_i hv
        split at ht
        · rename_i hc
          exfalso
          obtain ⟨k', hk⟩ := (h.mc i).mp hc
          obtain ⟨y, c, q1, q2, q3, q4⟩ := h.mco.own i k' hk
          rw [h.at hi] at q1
          cases q1
          rcases q4 with q4 | q4 <;> (rw [hl] at q4; cases q4)
        · rename_i hc
          cases ht
          exact ⟨i, rfl, h.at hi, h.noc (Bool.eq_false_iff.mpr hc)⟩
      · cases ht
    · cases ht
  by_cases hn : notComp e = true
  · exact plain (notComp_ok hn)
  · cases e with
    | ListComp elt gens scope p2 =>
      obtain ⟨b, hb, hl⟩ := swapsWith_lc (elt := elt) (gens := gens) (scope := scope) (p := p2) (px := p) (x := x) (l := pos.line) (env := X.env)
      cases b with
      | false => exact plain hb
      | true =>
        obtain ⟨i, rfl, hi, hm⟩ := own (hl rfl)
        obtain ⟨n, hn⟩ := compR_lc hr he
        obtain ⟨tg, iter, ifs, gs, mi, own, rfl, h1, h2, h3, h4⟩ := lc_ok (compR_ok n) h.toXOk hn
        exact sn_setLc h.calm h.nN' hi (hl rfl) hm h1 h2 h3 hb h4
    | DictComp kx vx gens scope p2 =>
      obtain ⟨b, hb, hl⟩ := swapsWith_dc (kx := kx) (vx := vx) (gens := gens) (scope := scope) (p := p2) (px := p) (x := x) (l := pos.line) (env := X.env)
      cases b with
      | false => exact plain hb
      | true =>
        obtain ⟨i, rfl, hi, hm⟩ := own (hl rfl)
        obtain ⟨n, hn⟩ := compR_dc hr he
        obtain ⟨tg, iter, ifs, gs, mi, own, rfl, h1, h2, h3, h4⟩ := dc_ok (pos := p2) (compR_ok n) h.toXOk hn
        exact sn_setDc h.calm h.nN' hi (hl rfl) hm h1 h2 h3 hb h4
    | SetComp elt gens scope p2 =>
      obtain ⟨n, rfl⟩ := hr
      cases n with
      | zero => cases he
      | succ n => cases he
    | _ => exact absurd rfl hn
theorem cSs_ok {c : Stmt → Option MStm} (hS : ∀ s m, c s = some m → PS X s (tS Γ X mcm W0 (exS P cf m))) : ∀ {l : List Stmt} {ms : List MStm}, cSs c l = some ms → PSs X l (tS Γ X mcm W0 (exSs P cf ms))
  | [], ms, h => by cases h; exact sns_nil
  | s :: l, ms, h => by
    unfold cSs at h
    split at h
    · rename_i a b h1 h2
      cases h
      exact sns_cons (hS s a h1) (cSs_ok hS h2)
    · cases h
theorem cpS_ok (hr : ∃ n, r = compR n) (h : SOk Γ P cf k cc X mcm W0) : ∀ (n : Nat) (s : Stmt) (m : MStm), cpS r n cc s = some m → PS X s (tS Γ X mcm W0 (exS P cf m)) := by
  have R : RecOk r := by obtain ⟨n, rfl⟩ := hr; exact compR_ok n
  have hE := R.E Γ P cf k cc X mcm W0 h.toXOk
  have hT := R.T Γ P cf k cc X mcm W0 h.toXOk
  have hI := R.I Γ P cf k cc X mcm W0 h.toXOk
  intro n
  induction n with
  | zero => intro s m z; unfold cpS at z; cases z
  | succ n ih =>
    intro s m z
    unfold cpS at z
    split at z
    · cases z; exact sn_pass
    · cases z; exact sn_brk
    · cases z; exact sn_cont
    · cases z; exact sn_retN
    · rename_i e pos
      cases hc : r.E cc e with
      | none => rw [hc] at z; cases z
      | some v => rw [hc] at z; cases z; exact sn_ret (hE e v hc)
    · cases z; exact sn_doc
    · rename_i e pos _
      split at z
      · rename_i hn
        cases hc : r.E cc e with
        | none => rw [hc] at z; cases z
        | some v => rw [hc] at z; cases z; exact sn_expr (hE e v hc) (notComp_ok hn)
      · cases z
    · exact par_ok R h z
    · rename_i ts kk p e pos hne
      split at z
      · rename_i hn
        split at z
        · rename_i t v h1 h2
          cases z
          refine sn_asg (ts := tgS t) (f := assignG t) (hE e v h2) (cG_ok h.toXOk 9 _ t h1 (.inr h.mco)) (sole_ok hn) ?_ rfl
          cases e <;> first | rfl | exact absurd rfl (hne _ _ _)
        · cases z
      · cases z
    · split at z
      · rename_i t v h1 h2
        cases z
        exact asgN_ok hr h h1 h2
      · cases z
    · rename_i a i p e pos
      split at z
      · rename_i hn
        simp only [Bool.and_eq_true] at hn
        split at z
        · rename_i ma mi me h1 h2 h3
          cases z
          refine sn_asgS h.u1 (hE e me h3) (hE a ma h1) (hE i mi h2) (sole_ok hn.2) rfl rfl fun v => ?_
          cases i <;> first | rfl | (cases hn.1)
        · cases z
      · cases z
    · rename_i a f p e pos
      split at z
      · rename_i hn
        split at z
        · rename_i ma me h1 h2
          cases z
          exact sn_asgA h.hK h.cF (hE e me h2) (hE a ma h1) (notComp_ok hn)
        · cases z
      · cases z
    · rename_i x p op e pos
      split at z
      · rename_i i o me h1 h2 h3
        split at z
        · rename_i hc
          simp only [Bool.and_eq_true, Bool.or_eq_true, decide_eq_true_eq, Bool.not_eq_true'] at hc
          obtain ⟨⟨⟨c1, c2⟩, c3⟩, c4⟩ := hc
          cases z
          rw [bopI_ok h2]
          exact sn_augA o c4 h.nN' (h.at h1) (h.loc c1) (h.fn x (locB_ok c2)) (h.noc c3) (hE e me h3)
        · cases z
      · cases z
    · rename_i c a b pos
      split at z
      · rename_i mc ma mb h1 h2 h3
        cases z
        exact sn_if (hT c mc h1) (cSs_ok ih h2) (cSs_ok ih h3)
      · cases z
    · rename_i tg it b pos
      split at z
      · rename_i hn
        split at z
        · rename_i t i mb h1 h2 h3
          cases z
          exact sn_for (f := assignG t) (mi := evI P cf i) (mb := exSs P cf mb) h.po h.calm (hI tg it i h2) (cG_ok h.toXOk 9 tg t h1 (.inr h.mco)) (cSs_ok ih h3) (notSet_ok hn _)
        · cases z
      · cases z
    · rename_i c b pos
      split at z
      · rename_i mc mb h1 h2
        cases z
        exact sn_while (mc := evT P cf mc) (mb := exSs P cf mb) h.po (hT c mc h1) (cSs_ok ih h2)
      · cases z
    · cases z
end
end Mini
namespace Mini
open PySem PySem.Spec PyProof.Rows L2
/-- a def of the text: names by slot, its parameters, its own cells -/
structure DefM where
  d : He.DefD
  N : List Str
  ps : List Str
  mc : List Nat
  xf : List Str
  kp : List (Nat × Nat)
abbrev Gls := List (Str × GK)
def DefM.cc (D : DefM) (gl : Gls) : CC := ⟨D.N, D.mc, D.d.scope, D.d.scope, gl, D.xf, D.kp⟩
def DefM.body (D : DefM) (gl : Gls) : Option (List MStm) := cSs (cpS (compR 40) 20 (D.cc gl)) D.d.body
def DefM.fd (D : DefM) (gl : Gls) : FDef := ⟨D.ps.length, D.N.length, D.mc, (D.body gl).getD []⟩
def scopeB (N ps : List Str) (sc : Scope) : Bool :=
  (match sc.kind with | .function => true | _ => false) && (!sc.isCoroutine && (!sc.isGenerator && (decide N.Nodup && (decide (N.take ps.length = ps) && (ps.all (locB sc) && sc.names.all fun y => match y.2 with | .free => false | _ => true)))))
theorem scopeB_ok {N ps : List Str} {sc : Scope} (h : scopeB N ps sc = true) : FnScope N ps sc := by
  unfold scopeB at h
  simp only [Bool.and_eq_true, decide_eq_true_eq, Bool.not_eq_true'] at h
  obtain ⟨h1, h2, h3, h4, h5, h6, h7⟩ := h
  refine ⟨?_, h2, h3, h4, h5, fun x hx => locB_ok (List.all_eq_true.mp h6 x hx), fun y hy z => ?_⟩
  · split at h1
    · assumption
    · cases h1
  · have q := List.all_eq_true.mp h7 y hy
    rw [z] at q
    cases q
def DefM.ok (D : DefM) (gl : Gls) : Bool := scopeB D.N D.ps D.d.scope && ((D.body gl).isSome && (decide D.mc.Nodup && D.mc.all fun i => match D.N[i]? with
  | some y => (match klook y D.d.scope.names with | some .cell => true | _ => false)
  | none => false))
structure DefM.Ok (D : DefM) (gl : Gls) : Prop where
  sc : FnScope D.N D.ps D.d.scope
  body : cSs (cpS (compR 40) 20 (D.cc gl)) D.d.body = some (D.fd gl).body
  mnd : D.mc.Nodup
  mcs : ∀ i ∈ D.mc, ∃ y, D.N[i]? = some y ∧ D.d.scope.names.lookup y = some .cell
theorem DefM.ok_ok {D : DefM} {gl : Gls} (h : D.ok gl = true) : D.Ok gl := by
  unfold DefM.ok at h
  simp only [Bool.and_eq_true, decide_eq_true_eq] at h
  obtain ⟨h1, h2, h3, h4⟩ := h
  refine ⟨scopeB_ok h1, ?_, h3, fun i hi => ?_⟩
  · show D.body gl = some ((D.body gl).getD [])
    obtain ⟨b, hb⟩ := Option.isSome_iff_exists.mp h2
    rw [hb]; rfl
  · have q := List.all_eq_true.mp h4 i hi
    split at q
    · rename_i y hy
      refine ⟨y, hy, ?_⟩
      rw [klook_eq] at q
      split at q
      · assumption
      · cases q
    · cases q
section
variable {Γ : Gm} {P : Prog} {prog : Program} {w : World} {mg : Str → Option Value} {base : Heap}
theorem mcAt_iff : ∀ {cells : List Nat} {n i : Nat}, cells.contains i = true ↔ ∃ k, (i, k) ∈ mcAt n cells
  | [], n, i => ⟨fun h => (by simp at h), fun ⟨k, h⟩ => (by cases h)⟩
  | j :: r, n, i => by
    constructor
    · intro h
      rcases List.mem_cons.mp (List.contains_iff_mem.mp h) with h | h
      · exact ⟨n, by rw [h]; exact List.mem_cons_self⟩
      · obtain ⟨k, hk⟩ := (mcAt_iff (n := n + 1)).mp (List.contains_iff_mem.mpr h)
        exact ⟨k, List.mem_cons_of_mem _ hk⟩
    · rintro ⟨k, hk⟩
      rcases List.mem_cons.mp hk with h | h
      · cases h; exact List.contains_iff_mem.mpr List.mem_cons_self
      · exact List.contains_iff_mem.mpr (List.mem_cons_of_mem _ (List.contains_iff_mem.mp ((mcAt_iff (n := n + 1)).mpr ⟨k, h⟩)))
/-- the facts that all defs share -/
structure Base (Γ : Gm) (P : Prog) : Prop where
  cF : ClsF Γ P Γ.K
  eF : ExnF Γ P Γ.K
def XfOk (Γ : Gm) (P : Prog) (xf : List Str) : Prop := ∀ f, xf.any (seqStr f) = true → ∀ c C, isExc P c = true → Γ.cad c = some C → PySem.W.findIn Γ.K (.ref C) f = some none
theorem sok_of {D : DefM} {gl : Gls} {cf : CF} {k n : Nat} {f : Addr} {cd : Value} {A : Around} {outer : List PySem.Env} {s : Shared} {H : Hp} {E : XK} (B : Base Γ P) (hxf : XfOk Γ P D.xf) (o : D.Ok gl)
    (hgl : ∀ x g, klook x gl = some g → GOk Γ P cf k prog w mg base x g) (k5 : 5 ≤ k)
    (ok : (cxF Γ prog w mg base D.N D.d.qual D.d.scope f cd A outer s H E).Ok) (hr : Room k (cxF Γ prog w mg base D.N D.d.qual D.d.scope f cd A outer s H E).A) (hg : (cxF Γ prog w mg base D.N D.d.qual D.d.scope f cd A outer s H E).A.guards = some []) :
    SOk Γ P cf k (D.cc gl) (cxF Γ prog w mg base D.N D.d.qual D.d.scope f cd A outer s H E) (mcAt n D.mc) (wX E) := by
  refine ⟨⟨rfl, rfl, o.sc.nd, rfl, rfl, hg, hr, k5, cxF_takes, fun i => mcAt_iff, fun x hx => .inl rfl, hgl, B.cF, B.eF, hxf⟩, passes_of rfl, ⟨fun i j hij => ?_, ok.inj, o.sc.nd⟩, ?_⟩
  · obtain ⟨hi, _, _⟩ := mcAt_mem hij
    obtain ⟨y, hy, hk⟩ := o.mcs i hi
    obtain ⟨c, hc⟩ := ok.has y (.inl hk)
    refine ⟨y, c, hy, hc, fun z => ?_, .inl hk⟩
    have above := ok.cab y c rfl hc
    obtain ⟨_, u, hu, _⟩ := ok.funs.mem z
    exact absurd (Heap.lt_size hu) (Nat.not_lt.mpr above)
  · show (if D.d.scope.kind.isAnnotationScope then ScopeKind.function else D.d.scope.kind) = .function
    rw [o.sc.kind]; rfl
/-- what is known of the function objects -/
abbrev FunM (Γ : Gm) (D : DefM) (f : Addr) (fd : FuncData) : Prop := FunD Γ.K D.d.name D.d.qual D.d.params D.d.body D.d.scope (D.d.dvs Γ.K) (D.d.kws Γ.K) f fd
theorem defs_ok {ds : List DefM} {gl : Gls} (hP : P.funs = ds.map fun D => D.fd gl) (hck : ∀ D ∈ ds, D.ok gl = true) (B : Base Γ P) (hxf : ∀ D ∈ ds, XfOk Γ P D.xf)
    (hG : ∀ x g, klook x gl = some g → GOkF Γ P (fun i f fd ps => ∃ D, ds[i]? = some D ∧ ps = D.ps ∧ FunM Γ D f fd) prog w mg base x g) :
    ∀ (d i : Nat) (D : DefM) (f : Addr) (fd : FuncData), ds[i]? = some D → FunM Γ D f fd → MFn Γ prog w mg base (d + 5) f fd D.ps (callAt P d i) := by
  intro d
  induction d with
  | zero =>
    intro i D f fd hD hF
    exact ⟨fun ms S h => absurd rfl h, fun A outer s H args us vs ms W S CRel Q E _ _ _ _ _ _ _ _ _ h => h.elim⟩
  | succ d ih =>
    intro i D f fd hD hF
    have mem := List.mem_of_getElem? hD
    have o := DefM.ok_ok (hck D mem)
    have e : callAt P (d + 1) i = runF P (callAt P d) (D.fd gl) := by
      funext vs S
      unfold callAt
      rw [hP, List.getElem?_map, hD]
      rfl
    rw [e]
    obtain ⟨oc, od, dV, kV, doc, pm, an, cdv, ct, osl, rfl, lk, hcd, _, _⟩ := hF.ex
    refine mfn_of (k := d + 5) lk hcd o.sc rfl rfl o.mnd o.mcs fun A outer s H E n ok hr hg => ?_
    have S := sok_of (cf := callAt P d) (n := n) B (hxf D mem) o (fun x g hx => (hG x g hx).imp fun i f fd ps ⟨D', h1, h2, h3⟩ => h2 ▸ ih i D' f fd h1 h3) (Nat.le_add_left 5 d) ok hr hg
    exact cSs_ok (cpS_ok ⟨40, rfl⟩ S 20) o.body
end
end Mini
namespace Mini
open PySem PySem.Spec PyProof.Rows L2
/-- the heap behind the top: the script, the code tables -/
def H0 (a : Addr) (o : Obj) (xs : List V) (tb : List Addr) : Hp := fun b => if b = a then some (.frz o (.lst xs)) else if b ∈ tb then some (.tbl #[]) else none
section
variable {a : Addr} {o : Obj} {xs : List V} {tb : List Addr}
theorem H0_a : H0 a o xs tb a = some (.frz o (.lst xs)) := if_pos rfl
theorem H0_t {b : Addr} (h1 : b ≠ a) (h2 : b ∈ tb) : H0 a o xs tb b = some (.tbl #[]) := (if_neg h1).trans (if_pos h2)
theorem H0_n {b : Addr} (h1 : b ≠ a) (h2 : b ∉ tb) : H0 a o xs tb b = none := (if_neg h1).trans (if_neg h2)
theorem H0_some {b : Addr} {u : HO} (h : H0 a o xs tb b = some u) : (b = a ∧ u = .frz o (.lst xs)) ∨ (b ≠ a ∧ b ∈ tb ∧ u = .tbl #[]) := by
  by_cases h1 : b = a
  · rw [h1, H0_a] at h
    exact .inl ⟨h1, (Option.some.inj h).symm⟩
  · by_cases h2 : b ∈ tb
    · rw [H0_t h1 h2] at h
      exact .inr ⟨h1, h2, (Option.some.inj h).symm⟩
    · rw [H0_n h1 h2] at h; cases h
end
theorem cx_false {P : Program} {w : World} {outer : List PySem.Env} {H : Hp} {s s' : Shared} {e : Value} (h : L2.CX P w outer H s (fun _ _ _ => False) e s') : False := by
  obtain ⟨_, _, _, _, _, _, _, _, _, _, _, _, z⟩ := h
  exact z
theorem end_call {P : Program} {w : World} {K : PySem.W.Frag} {mg mb : Str → Option Value} {fa a : Addr} {cs : List (Addr × Addr)} {s₁ : Shared} {vs : List Value} {ns : List Int}
    (KX : K.In s₁.heap) (hns : s₁.heap.Ns mainGlobals mg) (hb : s₁.heap.Ns builtinsNs mb) (hbb : ∀ x : Str, x ≠ "__name__" → mb x = bootBuiltins x) (hlim : s₁.heap.NoLimit) (hg : s₁.gens = #[])
    (hT : ∀ p ∈ cs, s₁.heap.get? p.2 = some { cls := .none, data := .fields #[] }) (nT : ∀ p ∈ cs, K.lookup p.2 = none) (C : ∀ p ∈ cs, PySem.W.CodeHd s₁.heap p.1 p.2)
    (hbm : ∃ (bm : Addr) (ob : Obj), mg "__builtins__" = some (.ref bm) ∧ bm ≠ builtinsNs ∧ s₁.heap.get? bm = some ob ∧ ob.cls = .type "module" ∧ ob.dict = some builtinsNs ∧ ob.data = .plain)
    (ha : s₁.heap.get? a = some { cls := .type "list", data := .seq vs.toArray }) (hi : IntsAre vs ns) (hl : ns.length ≤ sizeLine) (nl : K.lookup a = none)
    (F : ∀ (base : Heap) (H : Hp), Env0 P w K mg base callerA [] s₁ H → (∀ p ∈ cs, LamX.TabB base mg p.1 p.2) → (∃ o, H a = some (.frz o (.lst (ns.map V.int)))) → (∀ p ∈ cs, H p.2 = some (.tbl #[])) →
      codeAny (model P w) callerA (.call (.ref fa) ⟨[.ref a], []⟩) (CR (L2.CX P w) [] P w H s₁ (fun v _ => v = .bl true) fun _ _ _ => False) s₁) :
    codeAny (model P w) callerA (.call (.ref fa) ⟨[.ref a], []⟩) (fun r s' => r = .ok (.ret (.bool true)) ∧ OldK s₁.heap s'.heap ∧ s'.os = s₁.os ∧ AllBare s'.gens) s₁ := by
  generalize hH : H0 a { cls := .type "list", data := .seq vs.toArray } (ns.map V.int) (cs.map (·.2)) = H
  have tabs : ∀ b ∈ cs.map (·.2), s₁.heap.get? b = some { cls := .none, data := .fields #[] } := fun b q => by
    obtain ⟨p, hp, rfl⟩ := List.mem_map.mp q
    exact hT p hp
  have na : ∀ b ∈ cs.map (·.2), b ≠ a := fun b q z => by
    have t := tabs b q
    rw [z, ha] at t
    have t' : Data.seq vs.toArray _ = Data.fields #[] := congrArg Obj.data (Option.some.inj t)
    cases t'
  have hT' : ∀ p ∈ cs, H p.2 = some (.tbl #[]) := fun p hp => by
    have m : p.2 ∈ cs.map (·.2) := List.mem_map.mpr ⟨p, hp, rfl⟩
    rw [← hH]; exact H0_t (na _ m) m
  have some' : ∀ {b u}, H b = some u → (b = a ∧ u = .frz { cls := .type "list", data := .seq vs.toArray } (.lst (ns.map V.int))) ∨ (b ≠ a ∧ b ∈ cs.map (·.2) ∧ u = .tbl #[]) := fun {b u} q => by
    rw [← hH] at q; exact H0_some q
  have hok : HOk P w H s₁.heap := fun b u q => by
    rcases some' q with ⟨rfl, rfl⟩ | ⟨_, m, rfl⟩
    · exact ⟨ha, by rw [List.length_map]; exact hl, vs, _, vals_ints hi, ha⟩
    · exact tabs b m
  -- what is neither a list nor a table is in the base
  have free : ∀ {b : Addr} {o : Obj}, s₁.heap.get? b = some o → (∀ l n, o.data ≠ .seq l n) → o.data ≠ .fields #[] → H b = none := fun {b o} q d1 d2 => by
    cases hb : H b with
    | none => rfl
    | some u =>
      rcases some' hb with ⟨rfl, _⟩ | ⟨_, m, _⟩
      · rw [ha] at q; cases q; exact absurd rfl (d1 _ _)
      · rw [tabs b m] at q; cases q; exact absurd rfl d2
  have dict : ∀ {b : Addr} {o : Obj} {es : Array DictEntry} {ep : Nat}, s₁.heap.get? b = some o → o.data = .dict es ep → H b = none := fun {b o es ep} q d => free q (fun l n z => by rw [d] at z; cases z) fun z => by rw [d] at z; cases z
  have ns' : ∀ {b : Addr} {m : Str → Option Value}, s₁.heap.Ns b m → (hidT s₁.heap H).Ns b m := fun {b m} ⟨o, es, ep, e, d, r⟩ => ⟨o, es, ep, hidT_get e (dict e d), d, r⟩
  have kin : K.In (hidT s₁.heap H) := fun b o q => hidT_get (KX b o q) (by
    cases hb : H b with
    | none => rfl
    | some u =>
      rcases some' hb with ⟨rfl, _⟩ | ⟨_, m, _⟩
      · rw [nl] at q; cases q
      · obtain ⟨p, hp, rfl⟩ := List.mem_map.mp m
        rw [nT p hp] at q; cases q)
  have e0 : Env0 P w K mg (hidT s₁.heap H) callerA [] s₁ H :=
    { frames := rfl
      mod := ⟨kin, ns' hns, ⟨mb, ns' hb, hbb⟩, hlim.elim fun mc z => ⟨mc, ns' z.1, z.2⟩⟩
      bs := fun b o q => of_hidT q
      bsz := Nat.le_of_eq (hidT_size _ _)
      funs := trivial
      frf := fun b z => absurd z List.not_mem_nil
      hok := hok
      bare := .of_eq hg }
  have TB : ∀ p ∈ cs, LamX.TabB (hidT s₁.heap H) mg p.1 p.2 := fun p hp => by
    have t := hT p hp
    obtain ⟨o, us, file, tf, flags, tg, inF, text, tt, c1, c2, c3, cr⟩ := C p hp
    obtain ⟨bm, ob, b1, b2, b3, b4, b5, b6⟩ := hbm
    refine ⟨⟨o, us, file, tf, flags, tg, inF, text, tt, hidT_get c1 (free c1 (fun l n z => ?_) fun z => ?_), c2, c3, cr⟩, ⟨bm, ob, b1, b2, fun q => ?_, fun q => ?_, hidT_get b3 (free b3 (fun l n z => ?_) fun z => ?_), b4, b5, b6⟩, fun z => ?_⟩
    · rw [c3] at z; cases z
    · have c4 := cr.1
      rw [c3] at z
      cases z
      simp at c4
    · obtain ⟨og, es, ep, e, hd, _⟩ := hns
      rw [q, e] at b3
      cases b3
      rw [hd] at b6; cases b6
    · rw [q, t] at b3
      cases b3
      cases b6
    · rw [b6] at z; cases z
    · rw [b6] at z; cases z
    · obtain ⟨og, es, ep, e, hd, _⟩ := hns
      rw [z, t] at e
      cases e
      cases hd
  refine codeAny_mono (F _ H e0 TB ⟨_, by rw [← hH]; exact H0_a⟩ hT') fun r s' h => ?_
  cases r with
  | error e => exact (cx_false h).elim
  | ok fl =>
    cases fl with
    | next => exact h.elim
    | brk => exact h.elim
    | cont => exact h.elim
    | ret u =>
      obtain ⟨v, H', os, bare, un, hok', rv, rfl⟩ := h
      have hu : u = Value.bool true := rv
      subst hu
      have plain : ∀ b o, b ∉ cs.map (·.2) → s₁.heap.get? b = some o → s'.heap.get? b = some o := fun b o nb q => by
        cases hb : H b with
        | none => exact un.keep b o q hb List.not_mem_nil List.not_mem_nil
        | some u =>
          rcases some' hb with ⟨rfl, rfl⟩ | ⟨_, m, _⟩
          · rw [ha] at q
            cases q
            exact (hok' b _ (un.frzs b _ _ hb)).1
          · exact absurd m nb
      have tab : ∀ p ∈ cs, ∃ more : Array Value, s'.heap.get? p.2 = some { cls := .none, data := .fields more } := fun p hp => by
        obtain ⟨more, z⟩ := un.tbls p.2 #[] (hT' p hp)
        exact ⟨_, hok' p.2 _ z⟩
      refine ⟨rfl, ⟨fun b o q => ?_, fun b o q => ?_⟩, os, bare⟩
      · by_cases m : b ∈ cs.map (·.2)
        · obtain ⟨p, hp, rfl⟩ := List.mem_map.mp m
          obtain ⟨more, z⟩ := tab p hp
          rw [hT p hp] at q
          cases q
          exact .inr (.inl ⟨((C p hp).tab (hT p hp)).isCodeTable, rfl, #[], more, rfl, by rw [Array.empty_append]; exact z⟩)
        · exact .inl (plain b o m q)
      · by_cases m : b ∈ cs.map (·.2)
        · obtain ⟨p, hp, rfl⟩ := List.mem_map.mp m
          obtain ⟨more, z⟩ := tab p hp
          exact ⟨_, z⟩
        · exact ⟨o, plain b o m q⟩
end Mini
namespace Mini
open PySem PySem.Spec PyProof.Rows L2
/-- no list stands in the written part -/
def noLists (K : PySem.W.Frag) : Bool := K.all fun q => match q.2.cls with
  | .type c => !(c == "list")
  | _ => true
theorem noLists_ok {K : PySem.W.Frag} {h : Heap} {a : Addr} {vs : Array Value} (c : noLists K = true) (X : K.In h) (ha : h.get? a = some { cls := .type "list", data := .seq vs }) : K.lookup a = none := by
  cases q : K.lookup a with
  | none => rfl
  | some o =>
    have e := X a o q
    rw [ha] at e
    cases e
    have := List.all_eq_true.mp c _ (He.lookup_mem q)
    simp at this
/-- what is known of a law behind the head -/
structure LawM (l : PySem.W.OpenLaw) (w : World) (K : PySem.W.Frag) (n : Nat) (mg : Str → Option Value) (fa : Addr) (h : Heap) (cs : List (Addr × Addr)) : Prop where
  kin : K.In h
  nl : noLists K = true
  hT : ∀ p ∈ cs, h.get? p.2 = some { cls := .none, data := .fields #[] }
  nT : ∀ p ∈ cs, K.lookup p.2 = none
  C : ∀ p ∈ cs, PySem.W.CodeHd h p.1 p.2
  run : ∀ base : Heap, Mod K mg base → (∀ p ∈ cs, LamX.TabB base mg p.1 p.2) → ∃ (Γ : Gm) (k : Nat) (fd : FuncData) (x : Str) (m : List MV → Store → Res MV),
    Γ.K = K ∧ (∀ H : Hp, (∀ p ∈ cs, H p.2 = some (.tbl #[])) → LamX.Tabs Γ.T H) ∧ Room k callerA ∧ (∀ (s : Shared) (u : Value), BindsTo s fd ⟨[u], []⟩ [(x, u)]) ∧ MFn Γ l.prog w mg base k fa fd [x] m ∧
    ∀ ns : List Int, ns.length ≤ n → (∀ z ∈ ns, Builtin.Int.intBits z ≤ 1048576) → ∃ S, m [.scr (ns.map .int)] [] = .ok (.bl true) S
/-- nothing yet -/
def Wd.nil : Wd := ⟨fun _ => False, fun _ => none, fun _ => none, 0, fun _ => none⟩
theorem rps_ints {Γ : Gm} {Av : Addr → Prop} {H : Hp} : ∀ ns : List Int, RPs Γ Av H (ns.map .int) (ns.map V.int)
  | [] => rfl
  | i :: r => ⟨.int i, r.map V.int, rfl, rfl, rps_ints r⟩
theorem mini_walk {l : PySem.W.OpenLaw} {n : Nat} {q : Program} {loose : List Str} {XP : (Str → Option Value) → Heap → Prop} {YP : World → Heap → Prop} {d : DefRec}
    (hn : l.most = some n) (hn2 : n ≤ sizeLine) (hdf : d.params.defaults = [])
    (F : ∀ (w : World) (mg : Str → Option Value) (fa : Addr) (h : Heap), YP w h → h.Ns mainGlobals mg → mg d.name = some (.ref fa) → ∃ K cs, LawM l w K n mg fa h cs) :
    PySem.W.WalkO q loose XP YP l.row.toRowW d [] (fun f vs => PySem.call f vs) := by
  refine Att.attach_callB hn hdf fun w s₀ s₁ mg mb fa o pm cd doc a vs ns G Y ho hd hcd hmg hobj hints hlen hbits hg => ?_
  obtain ⟨K, cs, L⟩ := F w mg fa _ Y G.T.g hmg
  refine end_call L.kin G.T.g G.T.b G.T.builtins G.T.nolimit hg L.hT L.nT L.C G.T.bmain hobj hints (Nat.le_trans hlen hn2) (noLists_ok L.nl L.kin hobj) fun base H e0 tb ⟨ob, hA⟩ ht => ?_
  obtain ⟨Γ, k, fd, x, m, hK, tabs, hr, hb, fn, hm⟩ := L.run base e0.mod tb
  obtain ⟨S, hS⟩ := hm ns hlen hbits
  subst hK
  have rs : RS Γ (fun _ _ => False) Wd.nil [] H :=
    ⟨rfl, fun _ _ => rfl, fun _ _ => rfl, (fun i o a z => by simp at z), (fun i o z => by simp at z), (fun _ _ _ z => nomatch z), (fun i v z => by simp at z), (fun _ _ z => nomatch z), (fun _ _ _ z => nomatch z), (fun _ z => z.elim), tabs H ht, (fun _ _ z => nomatch z)⟩
  have rv : RVs Γ Wd.nil H [.scr (ns.map .int)] [.ref a] := ⟨.ref a, [], rfl, ⟨a, ns.map V.int, rfl, .inr ⟨ob, hA⟩, ⟨fun z => z, (fun _ z => nomatch z)⟩, rps_ints ns⟩, rfl⟩
  refine fn.run callerA [] s₁ H ⟨[.ref a], []⟩ [.ref a] [.ref a] [.scr (ns.map .int)] Wd.nil [] (fun _ _ => False) _ _ hr rfl e0 (hb s₁ (.ref a)) (.cons rfl .nil) rv rs (fun _ _ z => z.elim) (fun i v z => by simp at z) ?_
  rw [hS]
  intro W' H' e rs' v r
  exact r
end Mini
namespace Mini
open PySem PySem.Spec PyProof.Rows L2
/-- a class of the text; an error's own __init__ -/
structure ClD where
  x : Str
  k : CDef
  ini : Option He.DefD
def isX : CDef → Bool
  | .exc _ _ => true
  | _ => false
def exNames : CDef → List Str
  | .exc ns _ => ns
  | _ => []
def eqB {α : Type} [DecidableEq α] (a b : α) : Bool := decide (a = b)
theorem eqB_ok {α : Type} [DecidableEq α] {a b : α} (h : eqB a b = true) : a = b := of_decide_eq_true h
/-- the class object of an error over ValueError -/
def xobjB (K : PySem.W.Frag) (C : Addr) : Bool := match K.lookup C with
  | some ⟨.type "type", _, .cls cd, sl⟩ => (match cd.mro, sl.toList with
    | .ref C' :: bm, [_, _, _, _, some (.builtin n), _] => C' == C && n == "ValueError.__new__" && !cd.hasDel && cd.hasDict && PySem.HandSPX.refsVE bm
    | _, _ => false)
  | _ => false
theorem xobjB_ok {K : PySem.W.Frag} {C : Addr} (q : xobjB K C = true) : ∃ nm qn N bs bm sn sub ab col dd k0 k1 k2 k3 k5, K.lookup C = some (excClassObj nm qn C N bs bm true sn sub ab col dd k0 k1 k2 k3 k5 "ValueError.__new__") ∧ PySem.HandSPX.refsVE bm = true := by
  unfold xobjB at q
  split at q
  · rename_i dd cd sl ho
    split at q
    · rename_i C' bm k0 k1 k2 k3 n k5 hm hs
      simp only [Bool.and_eq_true, beq_iff_eq, Bool.not_eq_true'] at q
      obtain ⟨⟨⟨⟨rfl, rfl⟩, hdel⟩, hdic⟩, hv⟩ := q
      obtain ⟨nm, bs, mro, ns, qn, hd, sn, sub, ab, col, del⟩ := cd
      dsimp only at hm hdel hdic
      subst hm hdel hdic
      have hsl : sl = #[k0, k1, k2, k3, some (.builtin "ValueError.__new__"), k5] := by
        obtain ⟨l⟩ := sl
        simp only at hs
        rw [hs]
      subst hsl
      exact ⟨nm, qn, ns, bs, bm, sn, sub, ab, col, dd, k0, k1, k2, k3, k5, ho, hv⟩
    · cases q
  · cases q
def initA (K : PySem.W.Frag) (x : Str) : Addr := He.ma K (He.ga K x) "__init__"
/-- an error class -/
def excB (K : PySem.W.Frag) (D : ClD) : Bool :=
  let C := He.ga K D.x
  eqB (PySem.W.findIn K (.ref C) "__getattribute__") (some (some (.builtin "BaseException.__getattribute__"))) && (eqB (PySem.W.findIn K (.ref C) "__getattr__") (some none) && (eqB (PySem.W.subIn K (.ref C) (.type "BaseException")) (some true) && (PySem.W.hasDictIn K C && (eqB (PySem.W.findIn K (.ref C) "__class__") (some (some (.builtin "object.__class__"))) &&
    (eqB (PySem.W.mroIn K C (.type "object")) (some true) && (eqB (PySem.W.kitOne K (.ref C) (.type "ValueError")) (some true) && (PySem.W.keepIn K (.ref C) && (match exNames D.k with
      | [] => PySem.W.excIn K C He.veBase "ValueError.__new__"
      | f :: r => xobjB K C && (eqB (PySem.W.findIn K (.ref C) "__setattr__") (some (some (.builtin "object.__setattr__"))) && (eqB (PySem.W.typeIn K (.ref C)) (some (.type "type")) && ((f :: r).all (fun f => eqB (PySem.W.findIn K (.ref C) f) (some none)) &&
          (eqB (PySem.W.findIn K (.ref C) "__init__") (some (some (.ref (initA K D.x)))) && eqB (PySem.W.typeIn K (.ref (initA K D.x))) (some (.type "function"))))))))))))))
structure ExcFx (K : PySem.W.Frag) (D : ClD) : Prop where
  C : ExcC K (He.ga K D.x)
  kv : PySem.W.kitOne K (.ref (He.ga K D.x)) (.type "ValueError") = some true
  kp : PySem.W.keepIn K (.ref (He.ga K D.x)) = true
  no : exNames D.k = [] → PySem.W.excIn K (He.ga K D.x) He.veBase "ValueError.__new__" = true
  ow : exNames D.k ≠ [] → OexC K (He.ga K D.x) ∧ (∀ f ∈ exNames D.k, PySem.W.findIn K (.ref (He.ga K D.x)) f = some none) ∧ PySem.W.findIn K (.ref (He.ga K D.x)) "__init__" = some (some (.ref (initA K D.x))) ∧ PySem.W.typeIn K (.ref (initA K D.x)) = some (.type "function")
theorem excB_ok {K : PySem.W.Frag} {D : ClD} (hn : PySem.W.specialIn K (.builtin "object.__class__") "__get__" = some (some (.builtin "getset_descriptor.__get__"))) (ht : PySem.W.takesIn K (.builtin "object.__class__") = some true) (h : excB K D = true) : ExcFx K D := by
  unfold excB at h
  simp only [Bool.and_eq_true] at h
  obtain ⟨h1, h2, h3, h4, h5, h6, h7, h8, h9⟩ := h
  have a1 := eqB_ok h1
  have a2 := eqB_ok h2
  have a3 := eqB_ok h3
  have a5 := eqB_ok h5
  have a6 := eqB_ok h6
  refine ⟨⟨a1, a2, a3, h4, a5, hn, ht, a6⟩, eqB_ok h7, h8, fun e => ?_, fun e => ?_⟩
  · rw [e] at h9
    exact h9
  · cases q : exNames D.k with
    | nil => exact absurd q e
    | cons f r =>
      rw [q] at h9
      simp only [Bool.and_eq_true] at h9
      obtain ⟨b1, b2, b3, b4, b5, b6⟩ := h9
      exact ⟨⟨xobjB_ok b1, eqB_ok b2, a3, eqB_ok b3, h8⟩, fun f hf => eqB_ok (List.all_eq_true.mp b4 f hf), eqB_ok b5, eqB_ok b6⟩
/-- where classes stand -/
def cadOf (cls : List ClD) (K : PySem.W.Frag) : Nat → Option Addr := fun c => (cls[c]?).map fun D => He.ga K D.x
def kitB (K : PySem.W.Frag) (P : Prog) (cls : List ClD) : Bool := (List.range cls.length).all fun i => (List.range cls.length).all fun j => match cls[i]?, cls[j]? with
  | some D, some D' => !isX D.k || (!isX D'.k || eqB (PySem.W.kitOne K (.ref (He.ga K D.x)) (.ref (He.ga K D'.x))) (some (isAnc P i j)))
  | _, _ => true
def hnB (K : PySem.W.Frag) : Bool := eqB (PySem.W.specialIn K (.builtin "object.__class__") "__get__") (some (some (.builtin "getset_descriptor.__get__"))) && eqB (PySem.W.takesIn K (.builtin "object.__class__")) (some true)
/-- all that is asked of the fragment but the defs: (xf: fields of errors that are read) -/
def factsB (P : Prog) (cls : List ClD) (xf : List Str) (K : PySem.W.Frag) : Bool :=
  noLists K && (hnB K && (cls.all (fun D => !isX D.k || (excB K D && xf.all fun f => eqB (PySem.W.findIn K (.ref (He.ga K D.x)) f) (some none))) && (kitB K P cls && decide ((cls.map fun D => He.ga K D.x).Nodup))))
section
variable {K : PySem.W.Frag} {P : Prog} {cls : List ClD} {xf : List Str}
theorem exc_at (hP : P.clss = cls.map (·.k)) {c : Nat} (h : isExc P c = true) : ∃ D, cls[c]? = some D ∧ isX D.k = true := by
  unfold isExc at h
  rw [hP, List.getElem?_map] at h
  cases q : cls[c]? with
  | none => rw [q] at h; cases h
  | some D =>
    rw [q] at h
    refine ⟨D, rfl, ?_⟩
    dsimp only [Option.map] at h
    cases hk : D.k with
    | exc a b => rfl
    | inst a b c d => rw [hk] at h; cases h
theorem cad_at {c : Nat} {C : Addr} {D : ClD} (h : cls[c]? = some D) (e : cadOf cls K c = some C) : C = He.ga K D.x := by
  unfold cadOf at e
  rw [h] at e
  exact (Option.some.inj e).symm
theorem facts_exc (h : factsB P cls xf K = true) {c : Nat} {D : ClD} (hD : cls[c]? = some D) (hx : isX D.k = true) : ExcFx K D ∧ ∀ f ∈ xf, PySem.W.findIn K (.ref (He.ga K D.x)) f = some none := by
  unfold factsB at h
  simp only [Bool.and_eq_true] at h
  obtain ⟨_, h2, h3, _, _⟩ := h
  have q := List.all_eq_true.mp h3 D (List.mem_of_getElem? hD)
  rw [hx] at q
  simp only [Bool.not_true, Bool.false_or, Bool.and_eq_true] at q
  unfold hnB at h2
  simp only [Bool.and_eq_true] at h2
  exact ⟨excB_ok (eqB_ok h2.1) (eqB_ok h2.2) q.1, fun f hf => eqB_ok (List.all_eq_true.mp q.2 f hf)⟩
theorem facts_eF {Γ : Gm} (hP : P.clss = cls.map (·.k)) (hΓ : Γ.cad = cadOf cls Γ.K) (h : factsB P cls xf Γ.K = true) : ExnF Γ P Γ.K := by
  refine ⟨fun c C hx hc => ?_, fun c C c' C' hx hx' hc hc' => ?_, fun c C hx hc => ?_⟩
  · obtain ⟨D, hD, xD⟩ := exc_at hP hx
    rw [hΓ] at hc
    rw [cad_at hD hc]
    exact (facts_exc h hD xD).1.C
  · obtain ⟨D, hD, xD⟩ := exc_at hP hx
    obtain ⟨D', hD', xD'⟩ := exc_at hP hx'
    rw [hΓ] at hc hc'
    rw [cad_at hD hc, cad_at hD' hc']
    unfold factsB at h
    simp only [Bool.and_eq_true] at h
    have k := h.2.2.2.1
    unfold kitB at k
    have k1 := List.all_eq_true.mp k c (List.mem_range.mpr (List.getElem?_eq_some_iff.mp hD).1)
    have k2 := List.all_eq_true.mp k1 c' (List.mem_range.mpr (List.getElem?_eq_some_iff.mp hD').1)
    rw [hD, hD'] at k2
    dsimp only at k2
    rw [xD, xD'] at k2
    simp only [Bool.not_true, Bool.false_or] at k2
    exact eqB_ok k2
  · obtain ⟨D, hD, xD⟩ := exc_at hP hx
    rw [hΓ] at hc
    rw [cad_at hD hc]
    exact (facts_exc h hD xD).1.kv
theorem facts_xf {Γ : Gm} (hP : P.clss = cls.map (·.k)) (hΓ : Γ.cad = cadOf cls Γ.K) (h : factsB P cls xf Γ.K = true) : XfOk Γ P xf := by
  intro f hf c C hx hc
  obtain ⟨D, hD, xD⟩ := exc_at hP hx
  rw [hΓ] at hc
  rw [cad_at hD hc]
  obtain ⟨g, hg, e⟩ := List.any_eq_true.mp hf
  rw [seqStr_eq] at e
  rw [of_decide_eq_true e]
  exact (facts_exc h hD xD).2 g hg
theorem facts_inj (h : factsB P cls xf K = true) : ∀ c c' C, cadOf cls K c = some C → cadOf cls K c' = some C → c = c' := by
  unfold factsB at h
  simp only [Bool.and_eq_true, decide_eq_true_eq] at h
  intro c c' C h1 h2
  have e1 : (cls.map fun D => He.ga K D.x)[c]? = some C := by rw [List.getElem?_map]; exact h1
  have e2 : (cls.map fun D => He.ga K D.x)[c']? = some C := by rw [List.getElem?_map]; exact h2
  exact nodup_at h.2.2.2.2 e1 e2
/-- no class but errors -/
theorem facts_cF0 {Γ : Gm} (hP : P.clss = cls.map (·.k)) (hΓ : Γ.cad = cadOf cls Γ.K) (h : factsB P cls xf Γ.K = true) (hno : cls.all (fun D => isX D.k) = true) : ClsF Γ P Γ.K := by
  have no : ∀ c, isInst P c = true → False := fun c hc => by
    unfold isInst at hc
    rw [hP, List.getElem?_map] at hc
    cases q : cls[c]? with
    | none => rw [q] at hc; cases hc
    | some D =>
      rw [q] at hc
      have x := List.all_eq_true.mp hno D (List.mem_of_getElem? q)
      dsimp only [Option.map] at hc
      cases hk : D.k with
      | exc a b => rw [hk] at hc; cases hc
      | inst a b c d => rw [hk] at x; cases x
  have hh := h
  unfold factsB at hh
  simp only [Bool.and_eq_true] at hh
  have h2 := hh.2.1
  unfold hnB at h2
  simp only [Bool.and_eq_true] at h2
  exact ⟨fun c C _ z => (no c z).elim, fun c C f _ z => (no c (hasFld_inst z)).elim, fun c C _ z => (no c z).elim, eqB_ok h2.1, eqB_ok h2.2, fun c C _ z => (no c z).elim, by rw [hΓ]; exact facts_inj h, fun c C c' C' _ _ z _ => (no c z).elim, fun c C t _ z _ => (no c z).elim, fun c C n _ z _ => (no c z).elim⟩
theorem facts_nl (h : factsB P cls xf K = true) : noLists K = true := by
  unfold factsB at h
  simp only [Bool.and_eq_true] at h
  exact h.1
end
end Mini
namespace Mini
open PySem PySem.Spec PyProof.Rows L2
/-- a def binds so many values -/
def BindsD (d : He.DefD) (ps : List Str) : Prop := ∀ (kV doc pm : Value) (an : Option Addr) (cdv ct : Value) (us : List Value), us.length = ps.length →
  bindArgs (PySem.W.fnOf d.name d.qual d.params d.body d.scope .none kV doc pm an cdv ct) ⟨us, []⟩ = pure (ps.zip us)
/-- an error's __init__ keeps its one field, its two fields -/
def iniPs (d : He.DefD) : List Str := match d.body with
  | [.Assign [.Attribute (.Name _ _) _ _] (.Name y _) _] => ["self", y]
  | [.Assign [.Attribute (.Name _ _) _ _] (.Name y _) _, .Assign [.Attribute (.Name _ _) _ _] (.Name z _) _] => ["self", y, z]
  | _ => []
def iniB (d : He.DefD) (names : List Str) : Bool := match d.body, names with
  | [.Assign [.Attribute (.Name s _) f _] (.Name y _) _], [g] => seqStr s "self" && (seqStr f g && (scopeB ["self", y] ["self", y] d.scope && (lclB d.scope "self" && (lclB d.scope y && dnB y))))
  | [.Assign [.Attribute (.Name s _) f _] (.Name y _) _, .Assign [.Attribute (.Name s2 _) f2 _] (.Name z _) _], [g, g2] => seqStr s "self" && (seqStr f g && (seqStr s2 "self" && (seqStr f2 g2 &&
      (scopeB ["self", y, z] ["self", y, z] d.scope && (lclB d.scope "self" && (lclB d.scope y && (dnB y && (lclB d.scope z && dnB z))))))))
  | _, _ => false
theorem seq_of {a b : Str} (h : seqStr a b = true) : a = b := by
  rw [seqStr_eq] at h
  exact of_decide_eq_true h
theorem ini_ok {P : Program} {w : World} {K : PySem.W.Frag} {mg : Str → Option Value} {base : Heap} {CX : CXT} {k : Nat} {fI : Addr} {fd : FuncData} {d : He.DefD} {names : List Str} (h : iniB d names = true) (F : FunD K d.name d.qual d.params d.body d.scope (d.dvs K) (d.kws K) fI fd) :
    FnOk P w K mg base CX (k + 1) fI fd (iniPs d) (exI K names) := by
  obtain ⟨at_, name, qual, params, body, scope, dfl, kwd⟩ := d
  obtain ⟨oc, od, dV, kV, doc, pm, an, cdv, ct, osl, rfl, lk, hcd, _, _⟩ := F.ex
  dsimp only at lk hcd ⊢
  unfold iniB at h
  dsimp only at h
  split at h
  · rename_i s p1 f p2 y p3 p4 g
    simp only [Bool.and_eq_true] at h
    obtain ⟨h1, h2, h3, h4, h5, h6⟩ := h
    have e1 := seq_of h1
    have e2 := seq_of h2
    subst e1 e2
    obtain ⟨d1, d2, _⟩ := dnB_ok h6
    exact exi1 lk hcd (scopeB_ok h3) (lclB_ok h4) (lclB_ok h5) d1 d2
  · rename_i s p1 f p2 y p3 p4 s2 p5 f2 p6 z p7 p8 g g2
    simp only [Bool.and_eq_true] at h
    obtain ⟨h1, h2, h3, h4, h5, h6, h7, h8, h9, h10⟩ := h
    have e1 := seq_of h1
    have e2 := seq_of h2
    have e3 := seq_of h3
    have e4 := seq_of h4
    subst e1 e2 e3 e4
    obtain ⟨d1, d2, _⟩ := dnB_ok h8
    obtain ⟨d3, d4, _⟩ := dnB_ok h10
    exact exi2 lk hcd (scopeB_ok h5) (lclB_ok h6) (lclB_ok h7) (lclB_ok h9) d1 d2 d3 d4
  · cases h
/-- the head's facts that the names want -/
def faOf (gl : Gls) : List He.Fa := gl.map fun p => match p.2 with
  | .blt => .free p.1
  | _ => .glo p.1
def fnOf' (ds : List DefM) (cls : List ClD) : List He.DefD := ds.map (·.d) ++ cls.filterMap (·.ini)
def glB' (ds : List DefM) (cls : List ClD) (gl : Gls) : Bool := gl.all fun p => match p.2 with
  | .blt => true
  | .fn i np dfl => (match ds[i]? with
    | some D => seqStr D.d.at_.1 p.1 && (D.d.at_.2.isNone && (D.ps.length == np && (dfl.isEmpty && (D.d.dfl.isEmpty && D.d.kwd.isEmpty))))
    | none => false)
  | .cls c => (match cls[c]? with
    | some E => seqStr E.x p.1
    | none => false)
  | .exc c n => (match cls[c]? with
    | some E => seqStr E.x p.1 && (isX E.k && ((exNames E.k).length == n && (n == 0 || (decide (n ≤ 900) && (match E.ini with
      | some d => seqStr d.at_.1 p.1 && ((match d.at_.2 with
        | some m => seqStr m "__init__"
        | none => false) && (iniB d (exNames E.k) && (d.dfl.isEmpty && d.kwd.isEmpty)))
      | none => false)))))
    | none => false)
section
variable {Γ : Gm} {P : Prog} {prog : Program} {w : World} {mg : Str → Option Value} {base : Heap} {ds : List DefM} {cls : List ClD} {gl : Gls} {xf : List Str}
theorem gl_mem {x : Str} {g : GK} (h : klook x gl = some g) : (x, g) ∈ gl := klook_mem h
theorem gl_ok (hP : P.clss = cls.map (·.k)) (hΓ : Γ.cad = cadOf cls Γ.K) (KX : Γ.K.In base) (G : base.Ns mainGlobals mg) (c : He.SaysD (faOf gl) (fnOf' ds cls) Γ.K) (hf : factsB P cls xf Γ.K = true) (hgl : glB' ds cls gl = true)
    (hbd : ∀ D ∈ ds, BindsD D.d D.ps) (hbx : ∀ E ∈ cls, ∀ d, E.ini = some d → BindsD d (iniPs d)) :
    ∀ x g, klook x gl = some g → GOkF Γ P (fun i f fd ps => ∃ D, ds[i]? = some D ∧ ps = D.ps ∧ FunM Γ D f fd) prog w mg base x g := by
  intro x g hx
  have mem := gl_mem hx
  have q := List.all_eq_true.mp hgl _ mem
  have glo : ∀ {x' : Str} {g' : GK}, (x', g') ∈ gl → g' ≠ .blt → mg x' = some (.ref (He.ga Γ.K x')) := fun {x' g'} m hne => by
    have : He.Fa.glo x' ∈ faOf gl := by
      refine List.mem_map.mpr ⟨_, m, ?_⟩
      cases g' with
      | blt => exact absurd rfl hne
      | _ => rfl
    exact He.glo_ok KX G (c.facts this)
  cases g with
  | blt =>
    have : He.Fa.free x ∈ faOf gl := List.mem_map.mpr ⟨_, mem, rfl⟩
    exact He.free_ok KX G (c.facts this)
  | fn i np dfl =>
    have m := glo mem (fun z => nomatch z)
    dsimp only at q
    split at q
    · rename_i D hD
      simp only [Bool.and_eq_true] at q
      obtain ⟨q1, q2, q3, q4, q5, q6⟩ := q
      have e1 := seq_of q1
      have e2 : D.d.at_.2 = none := Option.isNone_iff_eq_none.mp q2
      have mD := List.mem_of_getElem? hD
      obtain ⟨fd, F⟩ := c.defs (d := D.d) (List.mem_append_left _ (List.mem_map.mpr ⟨D, mD, rfl⟩))
      have ea : He.fAd Γ.K D.d.at_ = He.ga Γ.K x := by
        unfold He.fAd
        rw [e2, e1]
      rw [ea] at F
      have z : dfl = [] := List.isEmpty_iff.mp q4
      subst z
      have n1 : D.d.dvs Γ.K = [] := by unfold He.DefD.dvs; rw [List.isEmpty_iff.mp q5]; rfl
      have n2 : D.d.kws Γ.K = [] := by unfold He.DefD.kws; rw [List.isEmpty_iff.mp q6]; rfl
      refine ⟨He.ga Γ.K x, fd, D.ps, m, F.kp, eq_of_beq q3, ⟨D, hD, rfl, F⟩, fun j hj => ⟨[], [], ?_, .nil, fun W H => ?_⟩⟩
      · rw [n1, n2] at F
        exact F.bindsN (hbd D mD)
      · rw [List.drop_nil]; rfl
    · cases q
  | cls i =>
    have m := glo mem (fun z => nomatch z)
    dsimp only at q
    split at q
    · rename_i E hE
      refine ⟨He.ga Γ.K x, ?_, m⟩
      rw [hΓ]
      unfold cadOf
      rw [hE, ← seq_of q]; rfl
    · cases q
  | exc i n =>
    have m := glo mem (fun z => nomatch z)
    dsimp only at q
    split at q
    · rename_i E hE
      simp only [Bool.and_eq_true] at q
      obtain ⟨q1, q2, q3, q4⟩ := q
      have e1 := seq_of q1
      subst e1
      have mE := List.mem_of_getElem? hE
      obtain ⟨X, nx⟩ := facts_exc hf hE q2
      obtain ⟨names, anc, hk⟩ : ∃ names anc, E.k = .exc names anc := by
        cases hk : E.k with
        | exc a b => exact ⟨a, b, rfl⟩
        | inst a b c d => rw [hk] at q2; cases q2
      have en : exNames E.k = names := by rw [hk]; rfl
      have el : names.length = n := by rw [← en]; exact eq_of_beq q3
      refine ⟨He.ga Γ.K E.x, names, anc, ?_, m, X.kp, ?_, el, ?_⟩
      · rw [hΓ]
        unfold cadOf
        rw [hE]; rfl
      · rw [hP, List.getElem?_map, hE, ← hk]; rfl
      · by_cases n0 : n = 0
        · exact .inl ⟨n0, "ValueError", "ValueError.__new__", _, _, PySem.F.excBase_ValueError, X.no (by rw [en]; exact List.length_eq_zero_iff.mp (by omega))⟩
        · refine .inr ?_
          rcases Bool.or_eq_true_iff.mp q4 with z | z
          · exact absurd (eq_of_beq z) n0
          · simp only [Bool.and_eq_true, decide_eq_true_eq] at z
            obtain ⟨z1, z2⟩ := z
            split at z2
            · rename_i d hd
              simp only [Bool.and_eq_true] at z2
              obtain ⟨y1, y2, y3, y4, y5⟩ := z2
              obtain ⟨o1, o2, o3, o4⟩ := X.ow (by rw [en]; intro z; rw [z] at el; exact n0 el.symm)
              obtain ⟨fd, F⟩ := c.defs (d := d) (List.mem_append_right _ (List.mem_filterMap.mpr ⟨E, mE, hd⟩))
              have ea : He.fAd Γ.K d.at_ = initA Γ.K E.x := by
                unfold He.fAd initA
                split at y2
                · rename_i mm hmm
                  rw [hmm, seq_of y1, seq_of y2]
                · cases y2
              rw [ea] at F
              have n1 : d.dvs Γ.K = [] := by unfold He.DefD.dvs; rw [List.isEmpty_iff.mp y4]; rfl
              have n2 : d.kws Γ.K = [] := by unfold He.DefD.kws; rw [List.isEmpty_iff.mp y5]; rfl
              have F1 : FnOk prog w Γ.K mg base (L2.CX prog w) 1 (initA Γ.K E.x) fd (iniPs d) (exI Γ.K names) := by
                rw [← en]
                exact ini_ok (k := 0) y3 F
              refine ⟨z1, n0, o1, by rw [← en]; exact o2, initA Γ.K E.x, fd, iniPs d, o3, o4, ?_, F1⟩
              rw [n1, n2] at F
              exact F.bindsN (hbx E mE d hd)
            · cases z2
    · cases q
end
end Mini
namespace Mini
open PySem PySem.Spec PyProof.Rows L2
/-- a text as Mini has it -/
structure Txt where
  ds : List DefM
  cls : List ClD
  gl : Gls
  xf : List Str
  li : Nat
def Txt.P (t : Txt) : Prog := ⟨t.ds.map fun D => D.fd t.gl, [], t.cls.map (·.k)⟩
/-- what is looked at by running: each def compiles, the names are as told -/
def Txt.okB (t : Txt) : Bool := t.ds.all (fun D => D.ok t.gl) && (glB' t.ds t.cls t.gl && (t.cls.all (fun D => isX D.k) && (t.ds.all (fun D => decide (D.xf = t.xf)) && (match t.ds[t.li]? with
  | some D => decide (D.ps = [("script" : Str)]) && (D.d.dfl.isEmpty && (D.d.kwd.isEmpty && D.d.at_.2.isNone))
  | none => false))))
def Txt.gm (t : Txt) (K : PySem.W.Frag) : Gm := ⟨K, cadOf t.cls K, [], fun _ => none⟩
theorem law_of {t : Txt} {l : PySem.W.OpenLaw} {w : World} {K : PySem.W.Frag} {n d : Nat} {mg : Str → Option Value} {fa : Addr} {h : Heap} {D : DefM} (hok : t.okB = true)
    (hbd : ∀ D ∈ t.ds, BindsD D.d D.ps) (hbx : ∀ E ∈ t.cls, ∀ d, E.ini = some d → BindsD d (iniPs d)) (KX : K.In h) (G : h.Ns mainGlobals mg) (c : He.SaysD (faOf t.gl) (fnOf' t.ds t.cls) K) (hf : factsB t.P t.cls t.xf K = true)
    (hD : t.ds[t.li]? = some D) (hfa : mg D.d.at_.1 = some (.ref fa)) (hglo : klook D.d.at_.1 t.gl = some (.fn t.li 1 [])) (hr : Room (d + 5) callerA)
    (hrun : ∀ ns : List Int, ns.length ≤ n → (∀ z ∈ ns, Builtin.Int.intBits z ≤ 1048576) → ∃ S, callAt t.P d t.li [.scr (ns.map .int)] [] = .ok (.bl true) S) :
    LawM l w K n mg fa h [] := by
  unfold Txt.okB at hok
  simp only [Bool.and_eq_true] at hok
  obtain ⟨k1, k2, k3, k4, k5⟩ := hok
  rw [hD] at k5
  simp only [Bool.and_eq_true, decide_eq_true_eq] at k5
  obtain ⟨p1, p2, p3, p4⟩ := k5
  have mD := List.mem_of_getElem? hD
  have hP : (t.gm K).K = K := rfl
  refine ⟨KX, facts_nl hf, fun p hp => absurd hp List.not_mem_nil, fun p hp => absurd hp List.not_mem_nil, fun p hp => absurd hp List.not_mem_nil, fun base M _ => ?_⟩
  have cF : ClsF (t.gm K) t.P K := facts_cF0 (Γ := t.gm K) rfl rfl hf k3
  have eF : ExnF (t.gm K) t.P K := facts_eF (Γ := t.gm K) rfl rfl hf
  have X0 : XfOk (t.gm K) t.P t.xf := facts_xf (Γ := t.gm K) rfl rfl hf
  have GO := gl_ok (Γ := t.gm K) (P := t.P) (prog := l.prog) (w := w) (mg := mg) (base := base) (ds := t.ds) (cls := t.cls) (gl := t.gl) (xf := t.xf) rfl rfl M.kin M.glob c hf k2 hbd hbx
  have run := defs_ok (Γ := t.gm K) (P := t.P) (prog := l.prog) (w := w) (mg := mg) (base := base) (ds := t.ds) (gl := t.gl) rfl (fun D hD => List.all_eq_true.mp k1 D hD) ⟨cF, eF⟩
    (fun D hD => by have := of_decide_eq_true (List.all_eq_true.mp k4 D hD); rw [this]; exact X0) GO
  obtain ⟨f, fd, ps, g1, g2, g3, ⟨D', q1, q2, q3⟩, _⟩ := GO _ _ hglo
  rw [hD] at q1
  cases q1
  rw [hfa] at g1
  cases g1
  have m := run d t.li D fa fd hD q3
  rw [p1] at m
  refine ⟨t.gm K, d + 5, fd, "script", callAt t.P d t.li, rfl, fun H _ p hp => absurd hp List.not_mem_nil, hr, fun s u => ?_, m, hrun⟩
  have n1 : D.d.dvs K = [] := by unfold He.DefD.dvs; rw [List.isEmpty_iff.mp p2]; rfl
  have n2 : D.d.kws K = [] := by unfold He.DefD.kws; rw [List.isEmpty_iff.mp p3]; rfl
  have F : FunD K D.d.name D.d.qual D.d.params D.d.body D.d.scope (D.d.dvs K) (D.d.kws K) fa fd := q3
  rw [n1, n2] at F
  have b := F.bindsA (hbd D mD) s [u] (by rw [p1]; rfl)
  rw [p1] at b
  exact b
end Mini
namespace K00
open PySem Mini
def bodyB : Stmt → List Stmt
  | .ClassDef _ _ _ b _ _ _ _ _ _ _ => b
  | _ => []
def top (i : Nat) : Stmt := PySem.Challenge.pw_primesteps_k00_errors.main.body.getD i (.Pass ⟨0, 0, 0, 0⟩)
def mth (i j : Nat) : Stmt := (bodyB (top i)).getD j (.Pass ⟨0, 0, 0, 0⟩)
def dD (st : Stmt) (x : Str) : He.DefD := ⟨(x, none), x, x, L2.defArgs st, L2.defBody st, L2.defScope st, [], []⟩
def dM (st : Stmt) (C m qu : Str) : He.DefD := ⟨(C, some m), m, qu, L2.defArgs st, L2.defBody st, L2.defScope st, [], []⟩
def xf : List Str := ["line", "column", "what", "number", "name", "table", "group", "part", "row", "led", "paper", "promise", "witness"]
def cls : List ClD := [⟨"GroupError", .exc [] [], none⟩,
  ⟨"BadText", .exc ["line", "column"] [0], some (dM (mth 2 0) "BadText" "__init__" "BadText.__init__")⟩,
  ⟨"BadNumber", .exc ["what", "number"] [0], some (dM (mth 3 0) "BadNumber" "__init__" "BadNumber.__init__")⟩,
  ⟨"BadName", .exc ["name"] [0], some (dM (mth 4 0) "BadName" "__init__" "BadName.__init__")⟩,
  ⟨"NoName", .exc ["name"] [0], some (dM (mth 5 0) "NoName" "__init__" "NoName.__init__")⟩,
  ⟨"TakenName", .exc ["name"] [0], some (dM (mth 6 0) "TakenName" "__init__" "TakenName.__init__")⟩,
  ⟨"BadTable", .exc ["table"] [0], some (dM (mth 7 0) "BadTable" "__init__" "BadTable.__init__")⟩,
  ⟨"BadGroup", .exc ["group"] [0], some (dM (mth 8 0) "BadGroup" "__init__" "BadGroup.__init__")⟩,
  ⟨"BadPart", .exc ["part"] [0], some (dM (mth 9 0) "BadPart" "__init__" "BadPart.__init__")⟩,
  ⟨"BadRow", .exc ["row"] [0], some (dM (mth 10 0) "BadRow" "__init__" "BadRow.__init__")⟩,
  ⟨"BadMap", .exc ["led"] [0], some (dM (mth 11 0) "BadMap" "__init__" "BadMap.__init__")⟩,
  ⟨"BadPaper", .exc ["paper"] [0], some (dM (mth 12 0) "BadPaper" "__init__" "BadPaper.__init__")⟩,
  ⟨"NotKept", .exc ["promise", "witness"] [0], some (dM (mth 13 0) "NotKept" "__init__" "NotKept.__init__")⟩,
  ⟨"NothingToUndo", .exc [] [0], none⟩,
  ⟨"NothingToRedo", .exc [] [0], none⟩]
def ds : List DefM := [⟨dD (top 17) "_law_pen", ["script", "fold", "cell"], ["script"], [], xf, []⟩,
  ⟨dD (top 18) "_law_draw", ["pen", "many", "cell", "digit", "blend"], ["pen", "many"], [], xf, []⟩,
  ⟨dD (top 19) "_law_pick", ["pen", "some"], ["pen", "some"], [], xf, []⟩,
  ⟨dD (top 20) "_law_one", ["kind", "a", "b", "e"], ["kind", "a", "b"], [], xf, []⟩,
  ⟨dD (top 21) "_law_which", ["e", "found"], ["e"], [], xf, []⟩,
  ⟨dD (top 22) "law", ["script", "pen", "menu", "kind", "a", "b", "dues", "e", "fields", "many", "k"], ["script"], [], xf, [(121, 11)]⟩]
def gl : Gls := [("GroupError", .exc 0 0),
  ("BadText", .exc 1 2),
  ("BadNumber", .exc 2 2),
  ("BadName", .exc 3 1),
  ("NoName", .exc 4 1),
  ("TakenName", .exc 5 1),
  ("BadTable", .exc 6 1),
  ("BadGroup", .exc 7 1),
  ("BadPart", .exc 8 1),
  ("BadRow", .exc 9 1),
  ("BadMap", .exc 10 1),
  ("BadPaper", .exc 11 1),
  ("NotKept", .exc 12 2),
  ("NothingToUndo", .exc 13 0),
  ("NothingToRedo", .exc 14 0),
  ("_law_pen", .fn 0 1 []),
  ("_law_draw", .fn 1 2 []),
  ("_law_pick", .fn 2 2 []),
  ("_law_one", .fn 3 3 []),
  ("_law_which", .fn 4 1 []),
  ("law", .fn 5 1 []),
  ("ValueError", .blt),
  ("int", .blt),
  ("isinstance", .blt),
  ("len", .blt),
  ("list", .blt),
  ("range", .blt),
  ("repr", .blt)]
def lawAt : Nat := 22
def li : Nat := 5
def t : Txt := ⟨ds, cls, gl, xf, li⟩
theorem ok : t.okB = true := by decide +kernel
end K00
set_option maxHeartbeats 0
namespace K00
open PySem PySem.Spec PyProof.Rows L2 Mini
abbrev R : PySem.W.OpenRow := PySem.W.OpenLaw.row PySem.Challenge.rw_primesteps_k00_errors
def ex (K : PySem.W.Frag) : Bool := factsB t.P cls xf K
abbrev hk : PySem.W.Hook := He.hookX 6 (faOf gl) (fnOf' ds cls) [] [] ex
def ob (s : PySem.W.SharedT) : He.AlX := He.obsX 6 (faOf gl) (fnOf' ds cls) [] [] ex (HandSHeadRun.getT s)
theorem ob_eq (s : PySem.W.SharedT) : ob s = hk.obs s.abs := He.obsX_eq (HandSHeadRun.getT_eq s)
def loose : List PySem.Str := ["GroupError", "BadText", "BadNumber", "BadName", "NoName", "TakenName", "BadTable", "BadGroup", "BadPart", "BadRow", "BadMap", "BadPaper", "NotKept", "NothingToUndo", "NothingToRedo", "_law_pen", "_law_draw", "_law_pick", "_law_one", "_law_which"]
theorem run (w : World) : HandSHeadRun.RunEq R (PySem.W.view R.prog [22]) hk ob 4000 loose w := by
  intro os
  kernel_rfl
end K00
namespace Mini
open PySem L2
/-- the constants of a law's draws -/
structure DC where
  (k1 m1 k2 m2 k3 k4 e m3 sh : Int)
def penB (c : DC) : List MStm := [
  .asg (.name 1) (.cst (.int 0)),
  .forS (.name 2) (.seq (.var 0))
    [.asg (.name 1) (.bin .mod (.bi .int [(.bin .add (.bin .mul (.var 1) (.cst (.int c.k1))) (.var 2))]) (.cst (.int c.m1)))],
  .ret (.dic [(.cst (.str "cells")), (.biL false .list [(.var 0)]), (.cst (.str "at")), (.cst (.int 0)), (.cst (.str "digits")), (.cst (.int 0)), (.cst (.str "count")), (.cst (.int 0)), (.cst (.str "fold")), (.var 1)])]
def drawB (c : DC) : List MStm := [
  .asgS (.var 0) (.cst (.str "count")) (.bin .add (.sub (.var 0) (.cst (.str "count"))) (.cst (.int 1))),
  .ifS (.and (.cmp .eq (.sub (.var 0) (.cst (.str "digits"))) (.cst (.int 0))) (.cmp .lt (.sub (.var 0) (.cst (.str "at"))) (.bi .len [(.sub (.var 0) (.cst (.str "cells")))])))
    [.asg (.name 2) (.sub (.sub (.var 0) (.cst (.str "cells"))) (.sub (.var 0) (.cst (.str "at")))),
      .asgS (.var 0) (.cst (.str "at")) (.bin .add (.sub (.var 0) (.cst (.str "at"))) (.cst (.int 1))),
      .ifS (.cmp .ge (.var 2) (.bin .pow (.cst (.int 10)) (.cst (.int 18))))
        [.asgS (.var 0) (.cst (.str "digits")) (.bin .sub (.var 2) (.bin .pow (.cst (.int 10)) (.cst (.int 18))))]
        [.asgS (.var 0) (.cst (.str "fold")) (.bin .mod (.bi .int [(.bin .add (.bin .mul (.sub (.var 0) (.cst (.str "fold"))) (.cst (.int c.k2))) (.var 2))]) (.cst (.int c.m2)))]]
    [],
  .ifS (.cmp .gt (.sub (.var 0) (.cst (.str "digits"))) (.cst (.int 0)))
    [.asg (.name 3) (.bin .mod (.bi .int [(.sub (.var 0) (.cst (.str "digits")))]) (.var 1)),
      .asgS (.var 0) (.cst (.str "digits")) (.bin .fdiv (.sub (.var 0) (.cst (.str "digits"))) (.var 1)),
      .ret (.var 3)]
    [],
  .asg (.name 4) (.bin .add (.bin .add (.sub (.var 0) (.cst (.str "fold"))) (.bin .mul (.sub (.var 0) (.cst (.str "count"))) (.cst (.int c.k3)))) (.cst (.int c.k4))),
  .ret (.bin .mod (.bin .fdiv (.bi .int [(.bin .mod (.bin .pow (.var 4) (.cst (.int c.e))) (.cst (.int c.m3)))]) (.cst (.int c.sh))) (.var 1))]
structure Pen where
  cells : List Int
  at' : Nat
  dig : Int
  cnt : Int
  fold : Int
def penK (p : Pen) : List (Key × MV) := [(.inr "cells", .fls (p.cells.map .int)), (.inr "at", .int p.at'), (.inr "digits", .int p.dig), (.inr "count", .int p.cnt), (.inr "fold", .int p.fold)]
structure PenAt (S : Store) (l : Nat) (p : Pen) : Prop where
  hl : S[l]? = some (.dK false (penK p))
  len : p.cells.length ≤ 63
  dig : 0 ≤ p.dig
  cnt : 0 ≤ p.cnt ∧ p.cnt < 1000000000000
  fold : 0 ≤ p.fold ∧ p.fold < 4294967296
theorem seq_kk : seqStr "cells" "cells" = true ∧ seqStr "cells" "at" = false ∧ seqStr "cells" "digits" = false ∧ seqStr "cells" "count" = false ∧ seqStr "cells" "fold" = false ∧
  seqStr "at" "at" = true ∧ seqStr "at" "digits" = false ∧ seqStr "at" "count" = false ∧ seqStr "at" "fold" = false ∧
  seqStr "digits" "digits" = true ∧ seqStr "digits" "count" = false ∧ seqStr "digits" "fold" = false ∧ seqStr "count" "count" = true ∧ seqStr "count" "fold" = false ∧ seqStr "fold" "fold" = true := by decide +kernel
section
variable {S : Store} {l : Nat} {p : Pen}
theorem PenAt.g_cells (h : PenAt S l p) : subM (.loc l) (.str "cells") S = some (.fls (p.cells.map .int)) := by
  obtain ⟨s1, s2, s3, s4, s5, s6, s7, s8, s9, s10, s11, s12, s13, s14, s15⟩ := seq_kk
  simp [subM, asSeq, asTup, asScr, asList, h.hl, dGet, keyOf, tkeyOf, penK, gGet, kEq, s1]
theorem PenAt.g_at (h : PenAt S l p) : subM (.loc l) (.str "at") S = some (.int p.at') := by
  obtain ⟨s1, s2, s3, s4, s5, s6, s7, s8, s9, s10, s11, s12, s13, s14, s15⟩ := seq_kk
  simp [subM, asSeq, asTup, asScr, asList, h.hl, dGet, keyOf, tkeyOf, penK, gGet, kEq, s2, s6]
theorem PenAt.g_dig (h : PenAt S l p) : subM (.loc l) (.str "digits") S = some (.int p.dig) := by
  obtain ⟨s1, s2, s3, s4, s5, s6, s7, s8, s9, s10, s11, s12, s13, s14, s15⟩ := seq_kk
  simp [subM, asSeq, asTup, asScr, asList, h.hl, dGet, keyOf, tkeyOf, penK, gGet, kEq, s3, s7, s10]
theorem PenAt.g_cnt (h : PenAt S l p) : subM (.loc l) (.str "count") S = some (.int p.cnt) := by
  obtain ⟨s1, s2, s3, s4, s5, s6, s7, s8, s9, s10, s11, s12, s13, s14, s15⟩ := seq_kk
  simp [subM, asSeq, asTup, asScr, asList, h.hl, dGet, keyOf, tkeyOf, penK, gGet, kEq, s4, s8, s11, s13]
theorem PenAt.g_fold (h : PenAt S l p) : subM (.loc l) (.str "fold") S = some (.int p.fold) := by
  obtain ⟨s1, s2, s3, s4, s5, s6, s7, s8, s9, s10, s11, s12, s13, s14, s15⟩ := seq_kk
  simp [subM, asSeq, asTup, asScr, asList, h.hl, dGet, keyOf, tkeyOf, penK, gGet, kEq, s5, s9, s12, s14, s15]
theorem PenAt.s_at (h : PenAt S l p) (n : Nat) : setM (.loc l) (.str "at") (.int n) S = some (S.set l (.dK false (penK { p with at' := n }))) := by
  obtain ⟨s1, s2, s3, s4, s5, s6, s7, s8, s9, s10, s11, s12, s13, s14, s15⟩ := seq_kk
  simp [setM, h.hl, dPut, keyOf, tkeyOf, penK, gPut, kEq, s2, s6, line]
theorem PenAt.s_dig (h : PenAt S l p) (n : Int) : setM (.loc l) (.str "digits") (.int n) S = some (S.set l (.dK false (penK { p with dig := n }))) := by
  obtain ⟨s1, s2, s3, s4, s5, s6, s7, s8, s9, s10, s11, s12, s13, s14, s15⟩ := seq_kk
  simp [setM, h.hl, dPut, keyOf, tkeyOf, penK, gPut, kEq, s3, s7, s10, line]
theorem PenAt.s_cnt (h : PenAt S l p) (n : Int) : setM (.loc l) (.str "count") (.int n) S = some (S.set l (.dK false (penK { p with cnt := n }))) := by
  obtain ⟨s1, s2, s3, s4, s5, s6, s7, s8, s9, s10, s11, s12, s13, s14, s15⟩ := seq_kk
  simp [setM, h.hl, dPut, keyOf, tkeyOf, penK, gPut, kEq, s4, s8, s11, s13, line]
theorem PenAt.s_fold (h : PenAt S l p) (n : Int) : setM (.loc l) (.str "fold") (.int n) S = some (S.set l (.dK false (penK { p with fold := n }))) := by
  obtain ⟨s1, s2, s3, s4, s5, s6, s7, s8, s9, s10, s11, s12, s13, s14, s15⟩ := seq_kk
  simp [setM, h.hl, dPut, keyOf, tkeyOf, penK, gPut, kEq, s5, s9, s12, s14, s15, line]
theorem PenAt.upd (h : PenAt S l p) {p' : Pen} (e : p'.cells = p.cells) (d : 0 ≤ p'.dig) (c : 0 ≤ p'.cnt ∧ p'.cnt < 1000000000000) (f : 0 ≤ p'.fold ∧ p'.fold < 4294967296) : PenAt (S.set l (.dK false (penK p'))) l p' :=
  ⟨List.getElem?_set_self (List.getElem?_eq_some_iff.mp h.hl).1, by rw [e]; exact h.len, d, c, f⟩
end
end Mini
namespace Mini
open PySem L2
section
variable {P : Prog} {cf : CF} {ρ ρ1 ρ2 : Env} {S S1 S2 S3 S4 : Store} {v x y z : MV} {vs ws : List MV} {e a b c i : ME} {es : List ME} {f : Str}
theorem ev_var {i : Nat} (h : ρ[i]? = some (some v)) : evE P cf (.var i) ρ S = .ok v S := by
  show (match ρ[i]? with | some (some v) => Res.ok v S | _ => .bad) = _
  rw [h]
theorem ev_cvar {i k : Nat} (h : getLoc ρ i = some k) (h2 : S[k]? = some (.cell (some v))) : evE P cf (.cvar i) ρ S = .ok v S := by
  show (match getLoc ρ i with | some k => (match S[k]? with | some (.cell (some v)) => Res.ok v S | _ => .bad) | none => .bad) = _
  rw [h]
  show (match S[k]? with | some (.cell (some v)) => Res.ok v S | _ => .bad) = _
  rw [h2]
theorem ev_cst : evE P cf (.cst v) ρ S = .ok v S := rfl
theorem evs_nil : evEs P cf [] ρ S = .ok [] S := rfl
theorem evs_cons (h : evE P cf e ρ S = .ok v S1) (h2 : evEs P cf es ρ S1 = .ok vs S2) : evEs P cf (e :: es) ρ S = .ok (v :: vs) S2 := by
  show (evE P cf e ρ S).bind (fun v S => (evEs P cf es ρ S).bind fun vs S => .ok (v :: vs) S) = _
  rw [h]
  show (evEs P cf es ρ S1).bind (fun vs S => .ok (v :: vs) S) = _
  rw [h2]; rfl
theorem ev_tup (h : evEs P cf es ρ S = .ok vs S1) (hl : vs.length ≤ line) : evE P cf (.tup es) ρ S = .ok (mkTup vs) S1 := by
  show (evEs P cf es ρ S).bind (fun vs S => if vs.length ≤ line then .ok (mkTup vs) S else .bad) = _
  rw [h]
  exact if_pos hl
theorem ev_lst {k : Bool} {r : Res MV} (h : evEs P cf es ρ S = .ok vs S1) (h2 : mkL k vs S1 = r) : evE P cf (.lst k es) ρ S = r := by
  show (evEs P cf es ρ S).bind (fun vs S => mkL k vs S) = _
  rw [h]; exact h2
theorem ev_dic {r : Res MV} (h : evEs P cf es ρ S = .ok vs S1) (h2 : dicM vs S1 = r) : evE P cf (.dic es) ρ S = r := by
  show (evEs P cf es ρ S).bind (fun vs S => dicM vs S) = _
  rw [h]; exact h2
theorem ev_bin {op : Bop} {r : Res MV} (h : evE P cf a ρ S = .ok x S1) (h2 : evE P cf b ρ S1 = .ok y S2) (h3 : binM op x y S2 = r) : evE P cf (.bin op a b) ρ S = r := by
  show (evE P cf a ρ S).bind (fun x S => (evE P cf b ρ S).bind fun y S => binM op x y S) = _
  rw [h]
  show (evE P cf b ρ S1).bind (fun y S => binM op x y S) = _
  rw [h2]; exact h3
theorem ev_neg {n : Int} (h : evE P cf a ρ S = .ok (.int n) S1) : evE P cf (.neg a) ρ S = .ok (.int (-n)) S1 := by
  show (evE P cf a ρ S).bind _ = _
  rw [h]; rfl
theorem ev_cmp {op : Cop} {t : Bool} (h : evE P cf a ρ S = .ok x S1) (h2 : evE P cf b ρ S1 = .ok y S2) (h3 : cmpM op x y S2 = some t) : evE P cf (.cmp op a b) ρ S = .ok (.bl t) S2 := by
  show (evE P cf a ρ S).bind (fun x S => (evE P cf b ρ S).bind fun y S => Res.of ((cmpM op x y S).map MV.bl) S) = _
  rw [h]
  show (evE P cf b ρ S1).bind (fun y S => Res.of ((cmpM op x y S).map MV.bl) S) = _
  rw [h2]
  show Res.of ((cmpM op x y S2).map MV.bl) S2 = _
  rw [h3]; rfl
theorem ev_notE {t : Bool} (h : evE P cf a ρ S = .ok x S1) (h2 : truth x S1 = some t) : evE P cf (.notE a) ρ S = .ok (.bl (!t)) S1 := by
  show (evE P cf a ρ S).bind (fun x S => Res.of ((truth x S).map fun b => MV.bl (!b)) S) = _
  rw [h]
  show Res.of ((truth x S1).map fun b => MV.bl (!b)) S1 = _
  rw [h2]; rfl
theorem ev_and1 {r : Res MV} (h : evE P cf a ρ S = .ok (.bl true) S1) (h2 : evE P cf b ρ S1 = r) : evE P cf (.andV a b) ρ S = r := by
  show (evE P cf a ρ S).bind _ = _
  rw [h]; exact h2
theorem ev_and0 (h : evE P cf a ρ S = .ok (.bl false) S1) : evE P cf (.andV a b) ρ S = .ok (.bl false) S1 := by
  show (evE P cf a ρ S).bind _ = _
  rw [h]; rfl
theorem ev_or0 {r : Res MV} (h : evE P cf a ρ S = .ok (.bl false) S1) (h2 : evE P cf b ρ S1 = r) : evE P cf (.orV a b) ρ S = r := by
  show (evE P cf a ρ S).bind _ = _
  rw [h]; exact h2
theorem ev_or1 (h : evE P cf a ρ S = .ok (.bl true) S1) : evE P cf (.orV a b) ρ S = .ok (.bl true) S1 := by
  show (evE P cf a ρ S).bind _ = _
  rw [h]; rfl
theorem ev_if {t : MT} {k : Bool} {r : Res MV} (h : evT P cf t ρ S = .ok k S1) (h2 : (if k then evE P cf a ρ S1 else evE P cf b ρ S1) = r) : evE P cf (.ifE t a b) ρ S = r := by
  show (evT P cf t ρ S).bind (fun t S => if t then evE P cf a ρ S else evE P cf b ρ S) = _
  rw [h]; exact h2
theorem ev_call {f : Nat} {r : Res MV} (h : evEs P cf es ρ S = .ok vs S1) (h2 : callI cf f vs S1 = r) : evE P cf (.call f es) ρ S = r := by
  show (evEs P cf es ρ S).bind (fun vs S => callI cf f vs S) = _
  rw [h]; exact h2
theorem ev_attr (h : evE P cf a ρ S = .ok x S1) (h2 : attrM P x f S1 = some v) : evE P cf (.attr a f) ρ S = .ok v S1 := by
  show (evE P cf a ρ S).bind (fun x S => Res.of (attrM P x f S) S) = _
  rw [h]
  show Res.of (attrM P x f S1) S1 = _
  rw [h2]; rfl
theorem ev_attrX (h : evE P cf a ρ S = .ok x S1) (h2 : exnG P x f = some v) : evE P cf (.attrX a f) ρ S = .ok v S1 := by
  show (evE P cf a ρ S).bind (fun x S => Res.of (exnG P x f) S) = _
  rw [h]
  show Res.of (exnG P x f) S1 = _
  rw [h2]; rfl
theorem ev_isX {k : Option Nat} {t : Bool} (h : evE P cf a ρ S = .ok x S1) (h2 : exnIs P x k = some t) : evE P cf (.isX a k) ρ S = .ok (.bl t) S1 := by
  show (evE P cf a ρ S).bind (fun x S => Res.of ((exnIs P x k).map MV.bl) S) = _
  rw [h]
  show Res.of ((exnIs P x k).map MV.bl) S1 = _
  rw [h2]; rfl
theorem ev_isin {t : Ty} {k : Bool} (h : evE P cf a ρ S = .ok x S1) (h2 : isTy P x S1 t = some k) : evE P cf (.isin a t) ρ S = .ok (.bl k) S1 := by
  show (evE P cf a ρ S).bind (fun x S => Res.of ((isTy P x S t).map MV.bl) S) = _
  rw [h]
  show Res.of ((isTy P x S1 t).map MV.bl) S1 = _
  rw [h2]; rfl
theorem ev_mkX {c : Nat} {fs : Flds} (h : evEs P cf es ρ S = .ok vs S1) (hp : vs.all pureV = true) (h2 : exnF P c vs = some fs) : evE P cf (.mkX c es) ρ S = .ok (.exn c fs) S1 := by
  show (evEs P cf es ρ S).bind (fun vs S => if vs.all pureV then Res.of ((exnF P c vs).map (MV.exn c)) S else .bad) = _
  rw [h]
  show (if vs.all pureV then Res.of ((exnF P c vs).map (MV.exn c)) S1 else .bad) = _
  rw [if_pos hp, h2]; rfl
theorem ev_sub (h : evE P cf a ρ S = .ok x S1) (h2 : evE P cf i ρ S1 = .ok y S2) (h3 : subM x y S2 = some v) : evE P cf (.sub a i) ρ S = .ok v S2 := by
  show (evE P cf a ρ S).bind (fun x S => (evE P cf i ρ S).bind fun y S => Res.of (subM x y S) S) = _
  rw [h]
  show (evE P cf i ρ S1).bind (fun y S => Res.of (subM x y S) S) = _
  rw [h2]
  show Res.of (subM x y S2) S2 = _
  rw [h3]; rfl
theorem ev_slice {k : Bool} {lo hi : List ME} {ls hs : List MV} {l h : Option Int} {r : Res MV} (h1 : evE P cf a ρ S = .ok x S1) (h2 : evEs P cf lo ρ S1 = .ok ls S2) (h3 : optInt ls.head? = some l) (h4 : evEs P cf hi ρ S2 = .ok hs S3) (h5 : optInt hs.head? = some h) (h6 : sliceM k x l h S3 = r) :
    evE P cf (.slice k a lo hi) ρ S = r := by
  show (evE P cf a ρ S).bind (fun x S => (evEs P cf lo ρ S).bind fun l S => match optInt l.head? with
    | some l => (evEs P cf hi ρ S).bind fun h S => match optInt h.head? with
      | some h => sliceM k x l h S
      | none => .bad
    | none => .bad) = _
  rw [h1]
  show (evEs P cf lo ρ S1).bind _ = _
  rw [h2]
  show (match optInt ls.head? with
    | some l => (evEs P cf hi ρ S2).bind fun h S => match optInt h.head? with
      | some h => sliceM k x l h S
      | none => .bad
    | none => .bad) = _
  rw [h3]
  show (evEs P cf hi ρ S2).bind _ = _
  rw [h4]
  show (match optInt hs.head? with
      | some h => sliceM k x l h S3
      | none => .bad) = _
  rw [h5]; exact h6
theorem ev_bi {b : Bi} (h : evEs P cf es ρ S = .ok vs S1) (h2 : biM b vs S1 = some v) : evE P cf (.bi b es) ρ S = .ok v S1 := by
  show (evEs P cf es ρ S).bind (fun vs S => Res.of (biM b vs S) S) = _
  rw [h]
  show Res.of (biM b vs S1) S1 = _
  rw [h2]; rfl
theorem ev_biL {k : Bool} {b : BiL} {r : Res MV} (h : evEs P cf es ρ S = .ok vs S1) (h2 : biLM b vs S1 = some ws) (h3 : mkL k ws S1 = r) : evE P cf (.biL k b es) ρ S = r := by
  show (evEs P cf es ρ S).bind (fun vs S => match biLM b vs S with
    | some xs => mkL k xs S
    | none => .bad) = _
  rw [h]
  show (match biLM b vs S1 with
    | some xs => mkL k xs S1
    | none => .bad) = _
  rw [h2]; exact h3
theorem ev_meth {m : Mth} {r : Res MV} (h : evE P cf a ρ S = .ok x S1) (h2 : recvOk m x S1 = true) (h3 : evEs P cf es ρ S1 = .ok vs S2) (h4 : methM m x vs S2 = r) : evE P cf (.meth m a es) ρ S = r := by
  show (evE P cf a ρ S).bind (fun x S => if recvOk m x S then (evEs P cf es ρ S).bind fun vs S => methM m x vs S else .bad) = _
  rw [h]
  show (if recvOk m x S1 then (evEs P cf es ρ S1).bind fun vs S => methM m x vs S else .bad) = _
  rw [if_pos h2, h3]; exact h4
variable {s t : MT} {k : Bool} {r : Res Bool}
theorem et_yes : evT P cf .yes ρ S = .ok true S := rfl
theorem et_val (h : evE P cf e ρ S = .ok x S1) (h2 : truth x S1 = some k) : evT P cf (.val e) ρ S = .ok k S1 := by
  show (evE P cf e ρ S).bind (fun x S => Res.of (truth x S) S) = _
  rw [h]
  show Res.of (truth x S1) S1 = _
  rw [h2]; rfl
theorem et_cmp {op : Cop} (h : evE P cf a ρ S = .ok x S1) (h2 : evE P cf b ρ S1 = .ok y S2) (h3 : cmpM op x y S2 = some k) : evT P cf (.cmp op a b) ρ S = .ok k S2 := by
  show (evE P cf a ρ S).bind (fun x S => (evE P cf b ρ S).bind fun y S => Res.of (cmpM op x y S) S) = _
  rw [h]
  show (evE P cf b ρ S1).bind (fun y S => Res.of (cmpM op x y S) S) = _
  rw [h2]
  show Res.of (cmpM op x y S2) S2 = _
  rw [h3]; rfl
theorem et_and1 (h : evT P cf s ρ S = .ok true S1) (h2 : evT P cf t ρ S1 = r) : evT P cf (.and s t) ρ S = r := by
  show (evT P cf s ρ S).bind (fun k S => if k then evT P cf t ρ S else .ok false S) = _
  rw [h]; exact h2
theorem et_and0 (h : evT P cf s ρ S = .ok false S1) : evT P cf (.and s t) ρ S = .ok false S1 := by
  show (evT P cf s ρ S).bind (fun k S => if k then evT P cf t ρ S else .ok false S) = _
  rw [h]; rfl
theorem et_or0 (h : evT P cf s ρ S = .ok false S1) (h2 : evT P cf t ρ S1 = r) : evT P cf (.or s t) ρ S = r := by
  show (evT P cf s ρ S).bind (fun k S => if k then .ok true S else evT P cf t ρ S) = _
  rw [h]; exact h2
theorem et_or1 (h : evT P cf s ρ S = .ok true S1) : evT P cf (.or s t) ρ S = .ok true S1 := by
  show (evT P cf s ρ S).bind (fun k S => if k then .ok true S else evT P cf t ρ S) = _
  rw [h]; rfl
theorem et_not (h : evT P cf s ρ S = .ok k S1) : evT P cf (.not s) ρ S = .ok (!k) S1 := by
  show (evT P cf s ρ S).bind (fun t S => .ok (!t) S) = _
  rw [h]; rfl
variable {p : Plan}
theorem ei_seq (h : evE P cf e ρ S = .ok x S1) (h2 : seqPlan x S1 = some p) : evI P cf (.seq e) ρ S = .ok p S1 := by
  show (evE P cf e ρ S).bind (fun x S => Res.of (seqPlan x S) S) = _
  rw [h]
  show Res.of (seqPlan x S1) S1 = _
  rw [h2]; rfl
theorem ei_range (h : evEs P cf es ρ S = .ok vs S1) (h2 : rangeM vs = some ws) : evI P cf (.range es) ρ S = .ok (.fx ws) S1 := by
  show (evEs P cf es ρ S).bind (fun vs S => Res.of ((rangeM vs).map Plan.fx) S) = _
  rw [h]
  show Res.of ((rangeM vs).map Plan.fx) S1 = _
  rw [h2]; rfl
theorem ei_enum {s : Src} (h : evE P cf e ρ S = .ok x S1) (h2 : srcOf x S1 = some s) : evI P cf (.enum e) ρ S = .ok (.en s) S1 := by
  show (evE P cf e ρ S).bind (fun x S => Res.of ((srcOf x S).map Plan.en) S) = _
  rw [h]
  show Res.of ((srcOf x S1).map Plan.en) S1 = _
  rw [h2]; rfl
variable {ss ss2 : List MStm} {st : MStm} {fl : Res Fl}
theorem xs_nil : exSs P cf [] ρ S = .ok (.nx ρ) S := rfl
theorem xs_cons (h : exS P cf st ρ S = .ok (.nx ρ1) S1) (h2 : exSs P cf ss ρ1 S1 = fl) : exSs P cf (st :: ss) ρ S = fl := by
  show (exS P cf st ρ S).bind _ = _
  rw [h]; exact h2
theorem xs_rt (h : exS P cf st ρ S = .ok (.rt v) S1) : exSs P cf (st :: ss) ρ S = .ok (.rt v) S1 := by
  show (exS P cf st ρ S).bind _ = _
  rw [h]; rfl
theorem x_expr (h : evE P cf e ρ S = .ok v S1) : exS P cf (.expr e) ρ S = .ok (.nx ρ) S1 := by
  show (evE P cf e ρ S).thn ρ (fun _ S => .ok (Fl.nx ρ) S) = _
  rw [h]; rfl
theorem x_asg {t : Tg} (h : evE P cf e ρ S = .ok v S1) (h2 : assignG t v ρ S1 = .ok ρ1 S2) : exS P cf (.asg t e) ρ S = .ok (.nx ρ1) S2 := by
  show (evE P cf e ρ S).thn ρ (fun v S => (assignG t v ρ S).bind fun ρ S => .ok (Fl.nx ρ) S) = _
  rw [h]
  show (assignG t v ρ S1).bind (fun ρ S => .ok (Fl.nx ρ) S) = _
  rw [h2]; rfl
theorem x_par {ts : List Tg} (h : evEs P cf es ρ S = .ok vs S1) (h2 : assignGs ts vs ρ S1 = .ok ρ1 S2) : exS P cf (.par ts es) ρ S = .ok (.nx ρ1) S2 := by
  show (evEs P cf es ρ S).thn ρ (fun vs S => (assignGs ts vs ρ S).bind fun ρ S => .ok (Fl.nx ρ) S) = _
  rw [h]
  show (assignGs ts vs ρ S1).bind (fun ρ S => .ok (Fl.nx ρ) S) = _
  rw [h2]; rfl
theorem x_asgS (h : evE P cf e ρ S = .ok v S1) (h2 : evE P cf a ρ S1 = .ok x S2) (h3 : evE P cf i ρ S2 = .ok y S3) (h4 : setM x y v S3 = some S4) : exS P cf (.asgS a i e) ρ S = .ok (.nx ρ) S4 := by
  show (evE P cf e ρ S).thn ρ (fun v S => (evE P cf a ρ S).thn ρ fun x S => (evE P cf i ρ S).thn ρ fun y S => match setM x y v S with
    | some S => .ok (Fl.nx ρ) S
    | none => .bad) = _
  rw [h]
  show (evE P cf a ρ S1).thn ρ _ = _
  rw [h2]
  show (evE P cf i ρ S2).thn ρ _ = _
  rw [h3]
  show (match setM x y v S3 with
    | some S => Res.ok (Fl.nx ρ) S
    | none => .bad) = _
  rw [h4]
theorem x_ret (h : evE P cf e ρ S = .ok v S1) : exS P cf (.ret e) ρ S = .ok (.rt v) S1 := by
  show (evE P cf e ρ S).thn ρ (fun v S => .ok (.rt v) S) = _
  rw [h]; rfl
theorem x_if {t : MT} (h : evT P cf t ρ S = .ok k S1) (h2 : (if k then exSs P cf ss ρ S1 else exSs P cf ss2 ρ S1) = fl) : exS P cf (.ifS t ss ss2) ρ S = fl := by
  show (evT P cf t ρ S).thn ρ (fun t S => if t then exSs P cf ss ρ S else exSs P cf ss2 ρ S) = _
  rw [h]; exact h2
theorem x_if1 {t : MT} (h : evT P cf t ρ S = .ok true S1) (h2 : exSs P cf ss ρ S1 = fl) : exS P cf (.ifS t ss ss2) ρ S = fl := x_if h h2
theorem x_if0 {t : MT} (h : evT P cf t ρ S = .ok false S1) (h2 : exSs P cf ss2 ρ S1 = fl) : exS P cf (.ifS t ss ss2) ρ S = fl := x_if h h2
theorem x_for {t : Tg} {it : MI} (h : evI P cf it ρ S = .ok p S1) (h2 : loopPlan p (fun v ρ S => (assignG t v ρ S).bind fun ρ S => exSs P cf ss ρ S) ρ S1 = fl) : exS P cf (.forS t it ss) ρ S = fl := by
  show (evI P cf it ρ S).thn ρ (fun p S => loopPlan p (fun v ρ S => (assignG t v ρ S).bind fun ρ S => exSs P cf ss ρ S) ρ S) = _
  rw [h]; exact h2
theorem x_while {t : MT} (h : whileM (fun ρ S => evT P cf t ρ S) (fun ρ S => exSs P cf ss ρ S) fuel ρ S = fl) : exS P cf (.whileS t ss) ρ S = fl := h
theorem as_name {i : Nat} (h : i < ρ.length) : assignG (.name i) v ρ S = .ok (ρ.set i (some v)) S := if_pos h
/-- a def's run without cells -/
theorem run_rt {fd : FDef} (hn : vs.length = fd.np) (hc : fd.cells = []) (h : exSs P cf fd.body (vs.map some ++ List.replicate (fd.ns - fd.np) none) S = .ok (.rt v) S1) : runF P cf fd vs S = .ok v S1 := by
  unfold runF
  rw [if_pos hn, hc]
  show (match exSs P cf fd.body (vs.map some ++ List.replicate (fd.ns - fd.np) none) S with
    | .ok (.rt v) S2 => Res.ok v (killS S.length 0 S2)
    | .ok (.nx _) S2 => .ok .non (killS S.length 0 S2)
    | .ok (.xc c fs _) S2 => .exc c fs (killS S.length 0 S2)
    | _ => .bad) = _
  rw [h]; rfl
theorem run_nx {fd : FDef} (hn : vs.length = fd.np) (hc : fd.cells = []) (h : exSs P cf fd.body (vs.map some ++ List.replicate (fd.ns - fd.np) none) S = .ok (.nx ρ1) S1) : runF P cf fd vs S = .ok .non S1 := by
  unfold runF
  rw [if_pos hn, hc]
  show (match exSs P cf fd.body (vs.map some ++ List.replicate (fd.ns - fd.np) none) S with
    | .ok (.rt v) S2 => Res.ok v (killS S.length 0 S2)
    | .ok (.nx _) S2 => .ok .non (killS S.length 0 S2)
    | .ok (.xc c fs _) S2 => .exc c fs (killS S.length 0 S2)
    | _ => .bad) = _
  rw [h]; rfl
/-- turns that all go on -/
theorem loop_inv {F : MV → Env → Store → Res Fl} (I : List MV → Env → Store → Prop) (st : ∀ v r ρ S, I (v :: r) ρ S → ∃ ρ1 S1, F v ρ S = .ok (.nx ρ1) S1 ∧ I r ρ1 S1) : ∀ (l : List MV) (ρ : Env) (S : Store), I l ρ S → ∃ ρ1 S1, loopFix F l ρ S = .ok (.nx ρ1) S1 ∧ I [] ρ1 S1
  | [], ρ, S, h => ⟨ρ, S, rfl, h⟩
  | v :: r, ρ, S, h => by
    obtain ⟨ρ1, S1, e, h1⟩ := st v r ρ S h
    obtain ⟨ρ2, S2, e2, h2⟩ := loop_inv I st r ρ1 S1 h1
    refine ⟨ρ2, S2, ?_, h2⟩
    show (F v ρ S).bind _ = _
    rw [e]; exact e2
end
end Mini
namespace Mini
open PySem L2
/-- what is asked of the constants -/
structure DC.Ok (c : DC) : Prop where
  m1 : 0 < c.m1 ∧ c.m1 < 4294967296
  m2 : 0 < c.m2 ∧ c.m2 < 4294967296
  m3 : 0 < c.m3
  k1 : c.k1.natAbs < 18446744073709551616
  k2 : c.k2.natAbs < 18446744073709551616
  k3 : 0 ≤ c.k3 ∧ c.k3 < 100000
  k4 : 0 ≤ c.k4 ∧ c.k4 < 100000
  e : 0 ≤ c.e ∧ c.e ≤ 1000000
  sh : 0 < c.sh ∧ c.sh < 1073741824
theorem get_len {xs : List Int} {i : Nat} (h : i < xs.length) : L2.atI (xs.map MV.int) (i : Nat) = some (.int xs[i]) := by
  unfold L2.atI ixN
  simp [h]
section
variable {P : Prog} {cf : CF} {ρ : Env} {S : Store} {l : Nat} {p : Pen} {c : DC}
theorem binM_add {i j : Int} : binM .add (.int i) (.int j) S = .ok (.int (i + j)) S := rfl
theorem binM_sub {i j : Int} : binM .sub (.int i) (.int j) S = .ok (.int (i - j)) S := rfl
theorem binM_mul {i j : Int} (h : j.natAbs < 18446744073709551616) : binM .mul (.int i) (.int j) S = .ok (.int (i * j)) S := by
  show (if small i || small j then _ else _) = _
  rw [if_pos (by unfold small; rw [decide_eq_true h, Bool.or_true])]
theorem binM_mod {i j : Int} (h : 0 < j) : binM .mod (.int i) (.int j) S = .ok (.int (i % j)) S := by
  show (if j != 0 then _ else _) = _
  rw [if_pos (by simp; omega), Int.fmod_eq_emod_of_nonneg _ (by omega)]
theorem binM_fdiv {i j : Int} (h : 0 < j) (h2 : j < 1073741824) : binM .fdiv (.int i) (.int j) S = .ok (.int (i / j)) S := by
  show (if j != 0 && decide (j.natAbs < 1073741824) then _ else _) = _
  rw [if_pos (by simp; omega), Int.fdiv_eq_ediv_of_nonneg _ (by omega)]
theorem binM_pow {i j : Int} (h : 0 ≤ j) (h2 : j ≤ 1000000) (h3 : i.natAbs < 18446744073709551616) : binM .pow (.int i) (.int j) S = .ok (.int (i ^ j.toNat)) S := by
  show (if decide (0 ≤ j) && decide (j ≤ 1000000) && small i then _ else _) = _
  rw [if_pos (by unfold small; simp [h, h2, h3])]
/-- one step of the pen -/
structure Drawn (S : Store) (l : Nat) (p : Pen) (many r : Int) (S' : Store) (p' : Pen) : Prop where
  lo : 0 ≤ r
  hi : r < many
  st : S' = S.set l (.dK false (penK p'))
  at' : PenAt S' l p'
  cnt : p'.cnt = p.cnt + 1
theorem set_set' {S : Store} {o o' : MO} : (S.set l o).set l o' = S.set l o' := by simp
theorem cmp_eq0 {i : Int} {k : Bool} (h : (i == 0) = k) : cmpM .eq (.int i) (.int 0) S = some k := by
  show eqM (.int i) (.int 0) S = _
  unfold eqM
  rw [if_pos (show (scalM (.int i) && scalM (.int 0)) = true from rfl)]
  exact congrArg some h
theorem cmp_eqI {i j : Int} {k : Bool} (h : (i == j) = k) : cmpM .eq (.int i) (.int j) S = some k := by
  show eqM (.int i) (.int j) S = _
  unfold eqM
  rw [if_pos (show (scalM (.int i) && scalM (.int j)) = true from rfl)]
  exact congrArg some h
theorem cmp_neI {i j : Int} {k : Bool} (h : (i == j) = k) : cmpM .ne (.int i) (.int j) S = some (!k) := by
  show (eqM (.int i) (.int j) S).map (!·) = _
  have e : eqM (.int i) (.int j) S = some k := cmp_eqI (S := S) h
  rw [e]; rfl
theorem cmp_neS {x y : Str} {k : Bool} (h : seqStr x y = k) : cmpM .ne (.str x) (.str y) S = some (!k) := by
  show (eqM (.str x) (.str y) S).map (!·) = _
  have e : eqM (.str x) (.str y) S = some (seqStr x y) := by
    unfold eqM
    rw [if_pos (show (scalM (.str x) && scalM (.str y)) = true from rfl)]
    rfl
  rw [e, h]; rfl
theorem cmp_eqS {x y : Str} {k : Bool} (h : seqStr x y = k) : cmpM .eq (.str x) (.str y) S = some k := by
  show eqM (.str x) (.str y) S = _
  unfold eqM
  rw [if_pos (show (scalM (.str x) && scalM (.str y)) = true from rfl)]
  exact congrArg some h
theorem cmp_lt {i j : Int} {k : Bool} (h : decide (i < j) = k) : cmpM .lt (.int i) (.int j) S = some k := congrArg some h
theorem cmp_gt {i j : Int} {k : Bool} (h : decide (j < i) = k) : cmpM .gt (.int i) (.int j) S = some k := congrArg some h
theorem cmp_ge {i j : Int} {k : Bool} (h : decide (j ≤ i) = k) : cmpM .ge (.int i) (.int j) S = some k := congrArg some h
theorem draw_run (hc : c.Ok) {many : Int} (h : PenAt S l p) (hm : 0 < many) (hm2 : many < 1073741824) (hn : p.cnt < 900000000000) :
    ∃ r S' p', runF P cf ⟨2, 5, [], drawB c⟩ [.loc l, .int many] S = .ok (.int r) S' ∧ Drawn S l p many r S' p' := by
  have h1 : PenAt (S.set l (.dK false (penK { p with cnt := p.cnt + 1 }))) l { p with cnt := p.cnt + 1 } := h.upd rfl h.dig ⟨by have := h.cnt; show 0 ≤ p.cnt + 1; omega, by show p.cnt + 1 < _; omega⟩ h.fold
  -- the end, from any state
  have fin : ∀ (S2 : Store) (p2 : Pen) (o2 : Option MV), S2 = S.set l (.dK false (penK p2)) → PenAt S2 l p2 → p2.cnt = p.cnt + 1 → ∃ r S' p', exSs P cf ((drawB c).drop 2) [some (.loc l), some (.int many), o2, none, none] S2 = .ok (.rt (.int r)) S' ∧ Drawn S l p many r S' p' := by
    intro S2 p2 o2 e2 h2 hc2
    subst e2
    by_cases hd : 0 < p2.dig
    · have h3 : PenAt ((S.set l (.dK false (penK p2))).set l (.dK false (penK { p2 with dig := p2.dig / many }))) l { p2 with dig := p2.dig / many } := h2.upd rfl (Int.ediv_nonneg h2.dig (Int.le_of_lt hm)) h2.cnt h2.fold
      refine ⟨p2.dig % many, _, { p2 with dig := p2.dig / many }, ?_, Int.emod_nonneg _ (by omega), Int.emod_lt_of_pos _ hm, by rw [set_set'], h3, hc2⟩
      exact xs_rt (x_if1 (et_cmp (ev_sub (ev_var rfl) ev_cst h2.g_dig) ev_cst (cmp_gt (decide_eq_true hd)))
        (xs_cons (x_asg (ev_bin (ev_bi (evs_cons (ev_sub (ev_var rfl) ev_cst h2.g_dig) evs_nil) rfl) (ev_var rfl) (binM_mod hm)) (as_name (by decide : 3 < 5)))
          (xs_cons (x_asgS (ev_bin (ev_sub (ev_var rfl) ev_cst h2.g_dig) (ev_var rfl) (binM_fdiv hm hm2)) (ev_var rfl) ev_cst (h2.s_dig _)) (xs_rt (x_ret (ev_var rfl))))))
    · refine ⟨(p2.fold + p2.cnt * c.k3 + c.k4) ^ c.e.toNat % c.m3 / c.sh % many, _, p2, ?_, Int.emod_nonneg _ (by omega), Int.emod_lt_of_pos _ hm, rfl, h2, hc2⟩
      have b1 := hc.k3
      have b2 := hc.k4
      have b3 := h2.cnt
      have b4 := h2.fold
      have q1 : 0 ≤ p2.cnt * c.k3 := Int.mul_nonneg b3.1 b1.1
      have q2 : p2.cnt * c.k3 ≤ 1000000000000 * 100000 := Int.mul_le_mul (by omega) (by omega) b1.1 (by omega)
      have b5 : (p2.fold + p2.cnt * c.k3 + c.k4).natAbs < 18446744073709551616 := by omega
      have b6 : c.k3.natAbs < 18446744073709551616 := by omega
      exact xs_cons (x_if0 (et_cmp (ev_sub (ev_var rfl) ev_cst h2.g_dig) ev_cst (cmp_gt (decide_eq_false hd))) xs_nil)
        (xs_cons (x_asg (ev_bin (ev_bin (ev_sub (ev_var rfl) ev_cst h2.g_fold) (ev_bin (ev_sub (ev_var rfl) ev_cst h2.g_cnt) ev_cst (binM_mul b6)) binM_add) ev_cst binM_add) (as_name (by decide : 4 < 5)))
          (xs_rt (x_ret (ev_bin (ev_bin (ev_bi (evs_cons (ev_bin (ev_bin (ev_var rfl) ev_cst (binM_pow hc.e.1 hc.e.2 b5)) ev_cst (binM_mod hc.m3)) evs_nil) rfl) ev_cst (binM_fdiv hc.sh.1 hc.sh.2)) (ev_var rfl) (binM_mod hm)))))
  have st1 : exS P cf ((drawB c).headD .pass) [some (.loc l), some (.int many), none, none, none] S = .ok (.nx [some (.loc l), some (.int many), none, none, none]) (S.set l (.dK false (penK { p with cnt := p.cnt + 1 }))) :=
    x_asgS (ev_bin (ev_sub (ev_var rfl) ev_cst h.g_cnt) ev_cst binM_add) (ev_var rfl) ev_cst (h.s_cnt _)
  generalize hS1 : S.set l (.dK false (penK { p with cnt := p.cnt + 1 })) = S1 at h1 st1
  generalize hp1 : ({ p with cnt := p.cnt + 1 } : Pen) = p1 at h1
  have pw : ∀ T : Store, binM .pow (.int 10) (.int 18) T = .ok (.int (10 ^ 18)) T := fun T => binM_pow (by decide) (by decide) (by decide)
  have dg : p1.cnt = p.cnt + 1 := by rw [← hp1]
  -- the second statement
  have st2 : ∃ S2 p2 o2, S2 = S.set l (.dK false (penK p2)) ∧ PenAt S2 l p2 ∧ p2.cnt = p.cnt + 1 ∧ exS P cf (((drawB c).drop 1).headD .pass) [some (.loc l), some (.int many), none, none, none] S1 = .ok (.nx [some (.loc l), some (.int many), o2, none, none]) S2 := by
    have ln : lenM (.fls (p1.cells.map .int)) S1 = some p1.cells.length := by
      simp [lenM, asSeq, asTup, asScr, asList]
    have bl : biM .len [.fls (p1.cells.map .int)] S1 = some (.int (p1.cells.length : Nat)) := by
      simp [biM, ln]
    by_cases hd : p1.dig = 0
    · by_cases ha : p1.at' < p1.cells.length
      · have h2 : PenAt (S1.set l (.dK false (penK { p1 with at' := p1.at' + 1 }))) l { p1 with at' := p1.at' + 1 } := h1.upd rfl h1.dig h1.cnt h1.fold
        have gc : subM (.fls (p1.cells.map .int)) (.int (p1.at' : Nat)) S1 = some (.int p1.cells[p1.at']) := by
          simp [subM, asSeq, asTup, asScr, asList, get_len ha]
        by_cases hb : (10 : Int) ^ 18 ≤ p1.cells[p1.at']
        · refine ⟨_, { p1 with at' := p1.at' + 1, dig := p1.cells[p1.at'] - 10 ^ 18 }, some (.int p1.cells[p1.at']), ?_, h2.upd rfl (by show 0 ≤ _ - _; omega) h2.cnt h2.fold, dg, ?_⟩
          · rw [← hS1, set_set', set_set']
          · exact x_if1 (et_and1 (et_cmp (ev_sub (ev_var rfl) ev_cst h1.g_dig) ev_cst (cmp_eq0 (by rw [hd]; rfl))) (et_cmp (ev_sub (ev_var rfl) ev_cst h1.g_at) (ev_bi (evs_cons (ev_sub (ev_var rfl) ev_cst h1.g_cells) evs_nil) bl) (cmp_lt (decide_eq_true (by omega)))))
              (xs_cons (x_asg (ev_sub (ev_sub (ev_var rfl) ev_cst h1.g_cells) (ev_sub (ev_var rfl) ev_cst h1.g_at) gc) (as_name (by decide : 2 < 5)))
                (xs_cons (x_asgS (ev_bin (ev_sub (ev_var rfl) ev_cst h1.g_at) ev_cst binM_add) (ev_var rfl) ev_cst (h1.s_at (p1.at' + 1)))
                  (xs_cons (x_if1 (et_cmp (ev_var rfl) (ev_bin ev_cst ev_cst (pw _)) (cmp_ge (decide_eq_true hb))) (xs_cons (x_asgS (ev_bin (ev_var rfl) (ev_bin ev_cst ev_cst (pw _)) binM_sub) (ev_var rfl) ev_cst (h2.s_dig _)) xs_nil)) xs_nil)))
        · refine ⟨_, { p1 with at' := p1.at' + 1, fold := (p1.fold * c.k2 + p1.cells[p1.at']) % c.m2 }, some (.int p1.cells[p1.at']), ?_, h2.upd rfl h2.dig h2.cnt ⟨Int.emod_nonneg _ (by have := hc.m2; omega), Int.lt_trans (Int.emod_lt_of_pos _ hc.m2.1) hc.m2.2⟩, dg, ?_⟩
          · rw [← hS1, set_set', set_set']
          · exact x_if1 (et_and1 (et_cmp (ev_sub (ev_var rfl) ev_cst h1.g_dig) ev_cst (cmp_eq0 (by rw [hd]; rfl))) (et_cmp (ev_sub (ev_var rfl) ev_cst h1.g_at) (ev_bi (evs_cons (ev_sub (ev_var rfl) ev_cst h1.g_cells) evs_nil) bl) (cmp_lt (decide_eq_true (by omega)))))
              (xs_cons (x_asg (ev_sub (ev_sub (ev_var rfl) ev_cst h1.g_cells) (ev_sub (ev_var rfl) ev_cst h1.g_at) gc) (as_name (by decide : 2 < 5)))
                (xs_cons (x_asgS (ev_bin (ev_sub (ev_var rfl) ev_cst h1.g_at) ev_cst binM_add) (ev_var rfl) ev_cst (h1.s_at (p1.at' + 1)))
                  (xs_cons (x_if0 (et_cmp (ev_var rfl) (ev_bin ev_cst ev_cst (pw _)) (cmp_ge (decide_eq_false hb))) (xs_cons (x_asgS (ev_bin (ev_bi (evs_cons (ev_bin (ev_bin (ev_sub (ev_var rfl) ev_cst h2.g_fold) ev_cst (binM_mul hc.k2)) (ev_var rfl) binM_add) evs_nil) rfl) ev_cst (binM_mod hc.m2.1)) (ev_var rfl) ev_cst (h2.s_fold _)) xs_nil)) xs_nil)))
      · refine ⟨S1, p1, none, by rw [← hS1, ← hp1], h1, dg, ?_⟩
        exact x_if0 (et_and1 (et_cmp (ev_sub (ev_var rfl) ev_cst h1.g_dig) ev_cst (cmp_eq0 (by rw [hd]; rfl))) (et_cmp (ev_sub (ev_var rfl) ev_cst h1.g_at) (ev_bi (evs_cons (ev_sub (ev_var rfl) ev_cst h1.g_cells) evs_nil) bl) (cmp_lt (decide_eq_false (by omega))))) xs_nil
    · refine ⟨S1, p1, none, by rw [← hS1, ← hp1], h1, dg, ?_⟩
      exact x_if0 (et_and0 (et_cmp (ev_sub (ev_var rfl) ev_cst h1.g_dig) ev_cst (cmp_eq0 (beq_eq_false_iff_ne.mpr hd)))) xs_nil
  obtain ⟨S2, p2, o2, e2, h2, c2, z2⟩ := st2
  obtain ⟨r, S', p', z3, D⟩ := fin S2 p2 o2 e2 h2 c2
  exact ⟨r, S', p', run_rt rfl rfl (xs_cons st1 (xs_cons z2 z3)), D⟩
/-- the pen -/
theorem pen_run (hc : c.Ok) {ns : List Int} (hl : ns.length ≤ 63) : ∃ f, runF P cf ⟨1, 3, [], penB c⟩ [.scr (ns.map .int)] [] = .ok (.loc 0) [.dK false (penK ⟨ns, 0, 0, 0, f⟩)] ∧ 0 ≤ f ∧ f < 4294967296 := by
  have loop : ∀ (l : List Int) (f : Int) (o : Option MV), 0 ≤ f ∧ f < 4294967296 → ∃ f' o', 0 ≤ f' ∧ f' < 4294967296 ∧
      loopFix (fun v ρ S => (assignG (.name 2) v ρ S).bind fun ρ S => exSs P cf [.asg (.name 1) (.bin .mod (.bi .int [(.bin .add (.bin .mul (.var 1) (.cst (.int c.k1))) (.var 2))]) (.cst (.int c.m1)))] ρ S) (l.map .int) [some (.scr (ns.map .int)), some (.int f), o] [] = .ok (.nx [some (.scr (ns.map .int)), some (.int f'), o']) [] := by
    intro l
    induction l with
    | nil => intro f o hf; exact ⟨f, o, hf.1, hf.2, rfl⟩
    | cons i r ih =>
      intro f o hf
      have hf2 : 0 ≤ (f * c.k1 + i) % c.m1 ∧ (f * c.k1 + i) % c.m1 < 4294967296 := ⟨Int.emod_nonneg _ (by have := hc.m1; omega), Int.lt_trans (Int.emod_lt_of_pos _ hc.m1.1) hc.m1.2⟩
      obtain ⟨f', o', h1, h2, h3⟩ := ih _ (some (.int i)) hf2
      refine ⟨f', o', h1, h2, ?_⟩
      have e : exSs P cf [.asg (.name 1) (.bin .mod (.bi .int [(.bin .add (.bin .mul (.var 1) (.cst (.int c.k1))) (.var 2))]) (.cst (.int c.m1)))] [some (.scr (ns.map .int)), some (.int f), some (.int i)] [] = .ok (.nx [some (.scr (ns.map .int)), some (.int ((f * c.k1 + i) % c.m1)), some (.int i)]) [] :=
        xs_cons (x_asg (ev_bin (ev_bi (evs_cons (ev_bin (ev_bin (ev_var rfl) ev_cst (binM_mul hc.k1)) (ev_var rfl) binM_add) evs_nil) rfl) ev_cst (binM_mod hc.m1.1)) (as_name (by decide : 1 < 3))) xs_nil
      show ((assignG (.name 2) (.int i) [some (.scr (ns.map .int)), some (.int f), o] []).bind fun ρ S => exSs P cf _ ρ S).bind _ = _
      rw [as_name (by decide : 2 < 3)]
      show (exSs P cf _ [some (.scr (ns.map .int)), some (.int f), some (.int i)] []).bind _ = _
      rw [e]
      exact h3
  obtain ⟨f, o, h1, h2, h3⟩ := loop ns 0 none ⟨by decide, by decide⟩
  have mk : mkL false (ns.map MV.int) [] = .ok (.fls (ns.map .int)) [] := by
    unfold mkL
    rw [if_pos (by rw [List.length_map]; exact Nat.le_trans hl (by decide)), if_neg (by simp [pureV])]
  have dc : dicM [.str "cells", .fls (ns.map .int), .str "at", .int 0, .str "digits", .int 0, .str "count", .int 0, .str "fold", .int f] [] = .ok (.loc 0) [.dK false (penK ⟨ns, 0, 0, 0, f⟩)] := by
    obtain ⟨s1, s2, s3, s4, s5, s6, s7, s8, s9, s10, s11, s12, s13, s14, s15⟩ := seq_kk
    simp [dicM, turns, keyed, keyOf, mergeM, gPut, kEq, s2, s3, s4, s5, s7, s8, s9, s11, s12, s14, penK]
  exact ⟨f, run_rt rfl rfl (xs_cons (x_asg ev_cst (as_name (by decide : 1 < 3))) (xs_cons (x_for (ei_seq (ev_var rfl) rfl) h3) (xs_rt (x_ret (ev_dic
    (evs_cons ev_cst (evs_cons (ev_biL (evs_cons (ev_var rfl) evs_nil) rfl mk) (evs_cons ev_cst (evs_cons ev_cst (evs_cons ev_cst (evs_cons ev_cst (evs_cons ev_cst (evs_cons ev_cst (evs_cons ev_cst (evs_cons (ev_var rfl) evs_nil)))))))))) dc))))), h1, h2⟩
end
end Mini
namespace Mini
open PySem PyProof.Rows L2
def pickB : List MStm := [.ret (.sub (.var 1) (.call 1 [(.var 0), (.bi .len [(.var 1)])]))]
/-- what stands at the other places stays -/
theorem Drawn.other {S S' : Store} {l m : Nat} {p p' : Pen} {many r : Int} (D : Drawn S l p many r S' p') (h : m ≠ l) : S'[m]? = S[m]? := by
  rw [D.st, List.getElem?_set_ne (Ne.symm h)]
theorem Drawn.len {S S' : Store} {l : Nat} {p p' : Pen} {many r : Int} (D : Drawn S l p many r S' p') : S'.length = S.length := by
  rw [D.st, List.length_set]
theorem loc_seq {S : Store} {m : Nat} {xs : List MV} (h : S[m]? = some (.lst xs)) : asSeq (.loc m) S = some xs := by
  simp [asSeq, asTup, asScr, asList, h]
theorem loc_len {S : Store} {m : Nat} {xs : List MV} (h : S[m]? = some (.lst xs)) : biM .len [.loc m] S = some (.int (xs.length : Nat)) := by
  simp [biM, lenM, loc_seq h]
theorem atI_nat' {α : Type} {xs : List α} {i : Nat} (h : i < xs.length) : L2.atI xs (i : Nat) = some xs[i] := by
  unfold L2.atI L2.ixN
  simp [h]
theorem loc_sub {S : Store} {m : Nat} {xs : List MV} (h : S[m]? = some (.lst xs)) {i : Int} (h0 : 0 ≤ i) (h1 : i < xs.length) : ∃ x ∈ xs, subM (.loc m) (.int i) S = some x := by
  obtain ⟨n, rfl⟩ := Int.eq_ofNat_of_zero_le h0
  have hn : n < xs.length := by omega
  refine ⟨xs[n], List.getElem_mem hn, ?_⟩
  show (match asSeq (.loc m) S, MV.int (n : Nat) with
    | some xs, .int i => L2.atI xs i
    | some _, _ => none
    | none, i => _) = _
  rw [loc_seq h]
  exact atI_nat' hn
section
variable {P : Prog} {cf : CF} {S : Store} {l m : Nat} {p : Pen} {c : DC} {xs : List MV}
/-- a pick of a kept list -/
theorem pick_run (hc : c.Ok) (hcf : cf 1 = runF P (fun a b c => .bad) ⟨2, 5, [], drawB c⟩ ∨ ∃ cf', cf 1 = runF P cf' ⟨2, 5, [], drawB c⟩) (h : PenAt S l p) (hm : S[m]? = some (.lst xs)) (hne : m ≠ l) (h0 : xs ≠ []) (h1 : xs.length < 1000000) (hn : p.cnt < 900000000000) :
    ∃ x ∈ xs, ∃ r S' p', runF P cf ⟨2, 2, [], pickB⟩ [.loc l, .loc m] S = .ok x S' ∧ Drawn S l p xs.length r S' p' := by
  have hl : 0 < xs.length := List.length_pos_iff.mpr h0
  obtain ⟨cf', hcf⟩ : ∃ cf', cf 1 = runF P cf' ⟨2, 5, [], drawB c⟩ := hcf.elim (fun h => ⟨_, h⟩) id
  obtain ⟨r, S', p', e, D⟩ := draw_run (P := P) (cf := cf') hc (many := (xs.length : Nat)) h (by omega) (by omega) hn
  have hm' : S'[m]? = some (.lst xs) := by rw [D.other hne]; exact hm
  obtain ⟨x, hx, ex⟩ := loc_sub hm' D.lo D.hi
  refine ⟨x, hx, r, S', p', run_rt rfl rfl (xs_rt (x_ret (ev_sub (ev_var rfl) (ev_call (evs_cons (ev_var rfl) (evs_cons (ev_bi (evs_cons (ev_var rfl) evs_nil) (loc_len hm)) evs_nil)) ?_) ex))), D⟩
  show callI cf 1 [.loc l, .int (xs.length : Nat)] S = .ok (.int r) S'
  unfold callI
  rw [if_neg (by simp [pureV]), hcf]
  exact e
end
/-- data whose text is short -/
structure Sm (n k : Nat) (d : PyData) : Prop where
  show' : d.showable = true
  nod : d.hasDict = false
  dep : d.depth ≤ k
  len : d.shown.length ≤ n
theorem Sm.repr {n k : Nat} {d : PyData} {v : MV} {S : Store} (h : Sm n k d) (e : toD S 64 v = some d) (hn : n ≤ line) (hk : k ≤ 64) : reprM v S = some d.shown := by
  unfold reprM
  rw [e]
  dsimp only
  rw [if_pos]
  rw [h.show', h.nod, decide_eq_true (Nat.le_trans h.len hn), decide_eq_true (Nat.le_trans h.dep hk)]
  rfl
structure Sms (n k : Nat) (ds : List PyData) : Prop where
  show' : PyData.showableAll ds = true
  nod : PyData.hasDictAll ds = false
  dep : PyData.depthAll ds ≤ k
  len : piled (PyData.shownAll ds) ≤ n
theorem Sms.nil {k : Nat} : Sms 0 k [] := ⟨by simp [PyData.showableAll], by simp [PyData.hasDictAll], by simp [PyData.depthAll], by simp [PyData.shownAll, piled]⟩
theorem Sms.cons {n m k : Nat} {d : PyData} {ds : List PyData} (h : Sm n k d) (h2 : Sms m k ds) : Sms (n + 2 + m) k (d :: ds) := by
  refine ⟨by simp [PyData.showableAll, h.show', h2.show'], by simp [PyData.hasDictAll, h.nod, h2.nod], ?_, ?_⟩
  · have a := h.dep
    have b := h2.dep
    simp only [PyData.depthAll]
    omega
  · have a := h.len
    have b := h2.len
    simp only [PyData.shownAll, piled_cons]
    omega
theorem Sm.mono {n m k j : Nat} {d : PyData} (h : Sm n k d) (hn : n ≤ m) (hk : k ≤ j) : Sm m j d := ⟨h.show', h.nod, Nat.le_trans h.dep hk, Nat.le_trans h.len hn⟩
theorem tupleText_le (ts : List Str) : (tupleText ts).length ≤ piled ts + 3 := by
  unfold tupleText
  rw [strLen_append, strLen_append]
  have e1 : ((("(" : String) : Str)).length = 1 := rfl
  have e3 : (((if ts.length == 1 then ",)" else ")" : String) : Str)).length ≤ 2 := by split <;> decide
  rw [e1]
  by_cases h : ts = []
  · subst h
    have e2 : (Str.join ", " []).length = 0 := rfl
    rw [e2]
    omega
  · have := join_length_add ts h
    omega
theorem Sms.tup {n k : Nat} {ds : List PyData} (h : Sms n k ds) : Sm (n + 3) (k + 1) (.tuple ds) := by
  refine ⟨by simp only [PyData.showable]; exact h.show', by simp only [PyData.hasDict]; exact h.nod, by simp only [PyData.depth]; exact Nat.succ_le_succ h.dep, ?_⟩
  have := tupleText_le (PyData.shownAll ds)
  have := h.len
  simp only [PyData.shown]
  omega
theorem textFrom_le : ∀ (ts : List Str) (k : Nat) (acc : Str), (textFrom k acc ts).length ≤ acc.length + piled ts
  | [], k, acc => Nat.le_add_right _ _
  | t :: r, k, acc => by
    have ih := textFrom_le r (k + 1) (acc ++ (if k > 0 then ", " else "" : String) ++ t)
    have e : (acc ++ (if k > 0 then ", " else "" : String) ++ t).length ≤ acc.length + 2 + t.length := by
      rw [strLen_append, strLen_append]
      have : (((if k > 0 then ", " else "" : String)) : Str).length ≤ 2 := by split <;> decide
      omega
    rw [piled_cons]
    show (textFrom (k + 1) (acc ++ (if k > 0 then ", " else "" : String) ++ t) r).length ≤ _
    omega
theorem Sms.list {n k : Nat} {ds : List PyData} (h : Sms n k ds) : Sm (n + 2) (k + 1) (.list ds) := by
  refine ⟨by simp only [PyData.showable]; exact h.show', by simp only [PyData.hasDict]; exact h.nod, by simp only [PyData.depth]; exact Nat.succ_le_succ h.dep, ?_⟩
  have a := textFrom_le (PyData.shownAll ds) 0 "["
  have b := h.len
  simp only [PyData.shown]
  unfold listText
  rw [strLen_append]
  have e1 : ((("[" : String) : Str)).length = 1 := rfl
  have e2 : ((("]" : String) : Str)).length = 1 := rfl
  rw [e2]
  rw [e1] at a
  omega
end Mini
namespace Mini
open PySem L2
theorem mapFix_emit {F : MV → LA → Store → Res LA} {g : MV → MV} {S : Store} : ∀ (vs : List MV) (n : Nat) (acc : List MV), n + vs.length ≤ line → (∀ v ∈ vs, ∀ a : LA, a.1 < line → F v a S = .ok (a.1 + 1, g v :: a.2) S) →
    mapFix F vs (n, acc) S = .ok (n + vs.length, (vs.map g).reverse ++ acc) S
  | [], n, acc, _, _ => rfl
  | v :: r, n, acc, hl, h => by
    have hl' : n + (r.length + 1) ≤ line := hl
    show (F v (n, acc) S).calm.bind (fun a S => mapFix F r a S) = _
    rw [h v List.mem_cons_self (n, acc) (by show n < line; omega)]
    show mapFix F r (n + 1, g v :: acc) S = _
    rw [mapFix_emit r (n + 1) (g v :: acc) (by omega) fun w hw => h w (List.mem_cons_of_mem _ hw)]
    simp only [List.length_cons, List.map_cons, List.reverse_cons, List.append_assoc, List.cons_append, List.nil_append]
    congr 2
    omega
section
variable {P : Prog} {cf : CF} {ρ : Env} {S S1 : Store} {own : List Nat} {t : Tg} {it : MI} {c : MT} {e : ME} {k : Bool} {vs : List MV}
/-- a comprehension that changes nothing -/
theorem ev_compF (g : MV → MV) (hi : evI P cf it ρ S = .ok (.fx vs) S1) (hl : vs.length ≤ line)
    (h : ∀ v ∈ vs, ∃ ρ1, assignG t v (wipe ρ own) S1 = .ok ρ1 S1 ∧ evT P cf c ρ1 S1 = .ok true S1 ∧ evE P cf e ρ1 S1 = .ok (g v) S1) : evE P cf (.comp k own t it c e) ρ S = mkL k (vs.map g) S1 := by
  show (evI P cf it ρ S).bind (fun p S => (mapPlan p (clauseM own (assignG t) (evT P cf c) (fun ρ a S => (evE P cf e ρ S).bind fun y S => emitL a y S) ρ) (0, []) S).bind fun a S => mkL k a.2.reverse S) = _
  rw [hi]
  show (mapFix (clauseM own (assignG t) (evT P cf c) (fun ρ a S => (evE P cf e ρ S).bind fun y S => emitL a y S) ρ) vs (0, []) S1).bind (fun a S => mkL k a.2.reverse S) = _
  rw [mapFix_emit (g := g) vs 0 [] (by omega) fun v hv a ha => ?_]
  · show mkL k ((vs.map g).reverse ++ []).reverse S1 = _
    rw [List.append_nil, List.reverse_reverse]
  · obtain ⟨ρ1, h1, h2, h3⟩ := h v hv
    unfold clauseM
    rw [h1]
    show (evT P cf c ρ1 S1).bind _ = _
    rw [h2]
    show (evE P cf e ρ1 S1).bind _ = _
    rw [h3]
    exact if_pos ha
end
end Mini
namespace K00
open PySem Mini
def c0 : DC := ⟨113, 1000000033, 73009, 2147483543, 9017, 113, 23, 2305843009213693951, 128⟩
theorem c0_ok : c0.Ok := by constructor <;> decide
theorem f0 : t.P.funs[0]? = some ⟨1, 3, [], penB c0⟩ := by kernel_rfl
theorem f1 : t.P.funs[1]? = some ⟨2, 5, [], drawB c0⟩ := by kernel_rfl
theorem f2 : t.P.funs[2]? = some ⟨2, 2, [], pickB⟩ := by kernel_rfl
theorem call_at {d i : Nat} {fd : FDef} (h : t.P.funs[i]? = some fd) : callAt t.P (d + 1) i = runF t.P (callAt t.P d) fd := by
  funext vs S
  show (match t.P.funs[i]? with
    | some fd => runF t.P (callAt t.P d) fd vs S
    | none => _) = _
  rw [h]
def oneB : List MStm := [
  .ifS (.cmp .lt (.var 0) (.cst (.int 3)))
    [.asg (.name 3) (.sub (.lst false [(.mkX 3 [(.var 1)]), (.mkX 4 [(.var 1)]), (.mkX 5 [(.var 1)])]) (.var 0)),
      .ret (.tup [(.var 3), (.tup [(.attrX (.var 3) "name")])])]
    [],
  .ifS (.cmp .eq (.var 0) (.cst (.int 3))) [.asg (.name 3) (.mkX 6 [(.var 1)]), .ret (.tup [(.var 3), (.tup [(.attrX (.var 3) "table")])])] [],
  .ifS (.cmp .eq (.var 0) (.cst (.int 4))) [.asg (.name 3) (.mkX 7 [(.var 1)]), .ret (.tup [(.var 3), (.tup [(.attrX (.var 3) "group")])])] [],
  .ifS (.cmp .eq (.var 0) (.cst (.int 5))) [.asg (.name 3) (.mkX 8 [(.var 1)]), .ret (.tup [(.var 3), (.tup [(.attrX (.var 3) "part")])])] [],
  .ifS (.cmp .eq (.var 0) (.cst (.int 6))) [.asg (.name 3) (.mkX 9 [(.var 1)]), .ret (.tup [(.var 3), (.tup [(.attrX (.var 3) "row")])])] [],
  .ifS (.cmp .eq (.var 0) (.cst (.int 7))) [.asg (.name 3) (.mkX 10 [(.var 1)]), .ret (.tup [(.var 3), (.tup [(.attrX (.var 3) "led")])])] [],
  .ifS (.cmp .eq (.var 0) (.cst (.int 8))) [.asg (.name 3) (.mkX 11 [(.var 1)]), .ret (.tup [(.var 3), (.tup [(.attrX (.var 3) "paper")])])] [],
  .ifS (.cmp .eq (.var 0) (.cst (.int 9))) [.asg (.name 3) (.mkX 1 [(.var 1), (.var 2)]), .ret (.tup [(.var 3), (.tup [(.attrX (.var 3) "line"), (.attrX (.var 3) "column")])])] [],
  .ifS (.cmp .eq (.var 0) (.cst (.int 10))) [.asg (.name 3) (.mkX 2 [(.var 1), (.var 2)]), .ret (.tup [(.var 3), (.tup [(.attrX (.var 3) "what"), (.attrX (.var 3) "number")])])] [],
  .ifS (.cmp .eq (.var 0) (.cst (.int 11))) [.asg (.name 3) (.mkX 12 [(.var 1), (.var 2)]), .ret (.tup [(.var 3), (.tup [(.attrX (.var 3) "promise"), (.attrX (.var 3) "witness")])])] [],
  .ret (.tup [(.ifE (.cmp .eq (.var 0) (.cst (.int 12))) (.mkX 13 []) (.mkX 14 [])), (.tup [])])]
theorem f3 : t.P.funs[3]? = some ⟨3, 4, [], oneB⟩ := by kernel_rfl
/-- the class of a kind, its fields, how many -/
def kc : Nat → Nat := fun k => [3, 4, 5, 6, 7, 8, 9, 10, 11, 1, 2, 12, 13, 14].getD k 0
def kn : Nat → Nat := fun k => [1, 1, 1, 1, 1, 1, 1, 1, 1, 2, 2, 2, 0, 0].getD k 0
theorem isx : ∀ k : Nat, k < 15 → ∃ n a, t.P.clss[k]? = some (.exc n a) := by
  intro k hk
  have e : t.P.clss = cls.map (·.k) := rfl
  match k, hk with
  | 0, _ => exact ⟨_, _, rfl⟩
  | 1, _ => exact ⟨_, _, rfl⟩
  | 2, _ => exact ⟨_, _, rfl⟩
  | 3, _ => exact ⟨_, _, rfl⟩
  | 4, _ => exact ⟨_, _, rfl⟩
  | 5, _ => exact ⟨_, _, rfl⟩
  | 6, _ => exact ⟨_, _, rfl⟩
  | 7, _ => exact ⟨_, _, rfl⟩
  | 8, _ => exact ⟨_, _, rfl⟩
  | 9, _ => exact ⟨_, _, rfl⟩
  | 10, _ => exact ⟨_, _, rfl⟩
  | 11, _ => exact ⟨_, _, rfl⟩
  | 12, _ => exact ⟨_, _, rfl⟩
  | 13, _ => exact ⟨_, _, rfl⟩
  | 14, _ => exact ⟨_, _, rfl⟩
section
variable {cf : CF} {a b : MV}
theorem ne0 {i j : Int} {S : Store} (h : (i == j) = false) : cmpM .eq (.int i) (.int j) S = some false := by
  show eqM (.int i) (.int j) S = _
  unfold eqM
  rw [if_pos (show (scalM (.int i) && scalM (.int j)) = true from rfl)]
  exact congrArg some h
theorem eq1 {i j : Int} {S : Store} (h : (i == j) = true) : cmpM .eq (.int i) (.int j) S = some true := by
  show eqM (.int i) (.int j) S = _
  unfold eqM
  rw [if_pos (show (scalM (.int i) && scalM (.int j)) = true from rfl)]
  exact congrArg some h
theorem exnG_ok {c : Nat} {fs : Flds} {f : Str} (h : isExc t.P c = true) : exnG t.P (.exn c fs) f = fGet fs f := by
  unfold exnG
  exact if_pos h
theorem isExc_of {c : Nat} {ns : List Str} {anc : List Nat} (h : t.P.clss[c]? = some (.exc ns anc)) : isExc t.P c = true := by
  unfold isExc
  rw [h]
theorem arm1 {k : Int} {c : Nat} {f : Str} {anc : List Nat} (ha : pureV a = true) (hc : t.P.clss[c]? = some (.exc [f] anc)) :
    exSs t.P cf [.asg (.name 3) (.mkX c [(.var 1)]), .ret (.tup [(.var 3), (.tup [(.attrX (.var 3) f)])])] [some (.int k), some a, some b, none] [] = .ok (.rt (.tup [.exn c [(f, a)], .tup [a]])) [] := by
  have e1 : exnF t.P c [a] = some [(f, a)] := by
    unfold exnF
    rw [hc]; rfl
  have e2 : exnG t.P (.exn c [(f, a)]) f = some a := by
    rw [exnG_ok (isExc_of hc)]
    simp [fGet, seqStr_eq]
  have e3 : mkTup [a] = .tup [a] := by simp [mkTup, ha]
  have e4 : mkTup [.exn c [(f, a)], .tup [a]] = .tup [.exn c [(f, a)], .tup [a]] := by simp [mkTup, pureV]
  refine xs_cons (x_asg (ev_mkX (evs_cons (ev_var rfl) evs_nil) (by simp [ha]) e1) (as_name (by decide : 3 < 4))) (xs_rt (x_ret ?_))
  have h1 : evE t.P cf (.tup [(.attrX (.var 3) f)]) [some (.int k), some a, some b, some (.exn c [(f, a)])] [] = .ok (.tup [a]) [] := by
    rw [← e3]
    exact ev_tup (evs_cons (ev_attrX (ev_var rfl) e2) evs_nil) (Nat.le_of_ble_eq_true rfl)
  have := ev_tup (P := t.P) (cf := cf) (evs_cons (ρ := [some (.int k), some a, some b, some (.exn c [(f, a)])]) (S := []) (ev_var (i := 3) (v := .exn c [(f, a)]) rfl) (evs_cons h1 evs_nil)) (Nat.le_of_ble_eq_true rfl)
  rw [e4] at this
  exact this
theorem arm2 {k : Int} {c : Nat} {f g : Str} {anc : List Nat} (ha : pureV a = true) (hb : pureV b = true) (hc : t.P.clss[c]? = some (.exc [f, g] anc)) (hfg : seqStr g f = false) :
    exSs t.P cf [.asg (.name 3) (.mkX c [(.var 1), (.var 2)]), .ret (.tup [(.var 3), (.tup [(.attrX (.var 3) f), (.attrX (.var 3) g)])])] [some (.int k), some a, some b, none] [] = .ok (.rt (.tup [.exn c [(g, b), (f, a)], .tup [a, b]])) [] := by
  have e1 : exnF t.P c [a, b] = some [(g, b), (f, a)] := by
    unfold exnF
    rw [hc]; rfl
  have e2 : exnG t.P (.exn c [(g, b), (f, a)]) f = some a := by
    rw [exnG_ok (isExc_of hc)]
    simp only [fGet, hfg]
    simp [seqStr_eq]
  have e2' : exnG t.P (.exn c [(g, b), (f, a)]) g = some b := by
    rw [exnG_ok (isExc_of hc)]
    simp [fGet, seqStr_eq]
  have e3 : mkTup [a, b] = .tup [a, b] := by simp [mkTup, ha, hb]
  have e4 : mkTup [.exn c [(g, b), (f, a)], .tup [a, b]] = .tup [.exn c [(g, b), (f, a)], .tup [a, b]] := by simp [mkTup, pureV]
  refine xs_cons (x_asg (ev_mkX (evs_cons (ev_var rfl) (evs_cons (ev_var rfl) evs_nil)) (by simp [ha, hb]) e1) (as_name (by decide : 3 < 4))) (xs_rt (x_ret ?_))
  have h1 : evE t.P cf (.tup [(.attrX (.var 3) f), (.attrX (.var 3) g)]) [some (.int k), some a, some b, some (.exn c [(g, b), (f, a)])] [] = .ok (.tup [a, b]) [] := by
    rw [← e3]
    exact ev_tup (evs_cons (ev_attrX (ev_var rfl) e2) (evs_cons (ev_attrX (ev_var rfl) e2') evs_nil)) (Nat.le_of_ble_eq_true rfl)
  have := ev_tup (P := t.P) (cf := cf) (evs_cons (ρ := [some (.int k), some a, some b, some (.exn c [(g, b), (f, a)])]) (S := []) (ev_var (i := 3) (v := .exn c [(g, b), (f, a)]) rfl) (evs_cons h1 evs_nil)) (Nat.le_of_ble_eq_true rfl)
  rw [e4] at this
  exact this
theorem first3 {k : Int} {c : Nat} (ha : pureV a = true) (hk : L2.atI [MV.exn 3 [("name", a)], .exn 4 [("name", a)], .exn 5 [("name", a)]] k = some (.exn c [("name", a)])) (hc : isExc t.P c = true) :
    exSs t.P cf [.asg (.name 3) (.sub (.lst false [(.mkX 3 [(.var 1)]), (.mkX 4 [(.var 1)]), (.mkX 5 [(.var 1)])]) (.var 0)), .ret (.tup [(.var 3), (.tup [(.attrX (.var 3) "name")])])] [some (.int k), some a, some b, none] [] = .ok (.rt (.tup [.exn c [("name", a)], .tup [a]])) [] := by
  have e2 : exnG t.P (.exn c [("name", a)]) "name" = some a := by
    rw [exnG_ok hc]
    simp [fGet, seqStr_eq]
  have e3 : mkTup [a] = .tup [a] := by simp [mkTup, ha]
  have e4 : mkTup [.exn c [("name", a)], .tup [a]] = .tup [.exn c [("name", a)], .tup [a]] := by simp [mkTup, pureV]
  refine xs_cons (x_asg (ev_sub (ev_lst (evs_cons (ev_mkX (evs_cons (ev_var rfl) evs_nil) (by simp [ha]) rfl) (evs_cons (ev_mkX (evs_cons (ev_var rfl) evs_nil) (by simp [ha]) rfl) (evs_cons (ev_mkX (evs_cons (ev_var rfl) evs_nil) (by simp [ha]) rfl) evs_nil))) rfl) (ev_var rfl) hk) (as_name (by decide : 3 < 4))) (xs_rt (x_ret ?_))
  have h1 : evE t.P cf (.tup [(.attrX (.var 3) "name")]) [some (.int k), some a, some b, some (.exn c [("name", a)])] [] = .ok (.tup [a]) [] := by
    rw [← e3]
    exact ev_tup (evs_cons (ev_attrX (ev_var rfl) e2) evs_nil) (Nat.le_of_ble_eq_true rfl)
  have := ev_tup (P := t.P) (cf := cf) (evs_cons (ρ := [some (.int k), some a, some b, some (.exn c [("name", a)])]) (S := []) (ev_var (i := 3) (v := .exn c [("name", a)]) rfl) (evs_cons h1 evs_nil)) (Nat.le_of_ble_eq_true rfl)
  rw [e4] at this
  exact this
theorem one_run (ha : pureV a = true) (hb : pureV b = true) : ∀ k : Nat, k < 14 → ∃ fs, runF t.P cf ⟨3, 4, [], oneB⟩ [.int k, a, b] [] = .ok (.tup [.exn (kc k) fs, .tup ([a, b].take (kn k))]) [] := by
  intro k hk
  match k, hk with
  | 0, _ => exact ⟨_, run_rt rfl rfl (xs_rt (x_if1 (et_cmp (ev_var rfl) ev_cst (cmp_lt rfl)) (first3 ha rfl rfl)))⟩
  | 1, _ => exact ⟨_, run_rt rfl rfl (xs_rt (x_if1 (et_cmp (ev_var rfl) ev_cst (cmp_lt rfl)) (first3 ha rfl rfl)))⟩
  | 2, _ => exact ⟨_, run_rt rfl rfl (xs_rt (x_if1 (et_cmp (ev_var rfl) ev_cst (cmp_lt rfl)) (first3 ha rfl rfl)))⟩
  | 3, _ =>
    refine ⟨[("table", a)], run_rt rfl rfl (xs_cons (x_if0 (et_cmp (ev_var rfl) ev_cst (cmp_lt rfl)) xs_nil) ?_)⟩
    repeat (refine xs_cons (x_if0 (et_cmp (ev_var rfl) ev_cst (ne0 rfl)) xs_nil) ?_)
    exact xs_rt (x_if1 (et_cmp (ev_var rfl) ev_cst (eq1 rfl)) (arm1 ha rfl))
  | 4, _ =>
    refine ⟨[("group", a)], run_rt rfl rfl (xs_cons (x_if0 (et_cmp (ev_var rfl) ev_cst (cmp_lt rfl)) xs_nil) ?_)⟩
    repeat (refine xs_cons (x_if0 (et_cmp (ev_var rfl) ev_cst (ne0 rfl)) xs_nil) ?_)
    exact xs_rt (x_if1 (et_cmp (ev_var rfl) ev_cst (eq1 rfl)) (arm1 ha rfl))
  | 5, _ =>
    refine ⟨[("part", a)], run_rt rfl rfl (xs_cons (x_if0 (et_cmp (ev_var rfl) ev_cst (cmp_lt rfl)) xs_nil) ?_)⟩
    repeat (refine xs_cons (x_if0 (et_cmp (ev_var rfl) ev_cst (ne0 rfl)) xs_nil) ?_)
    exact xs_rt (x_if1 (et_cmp (ev_var rfl) ev_cst (eq1 rfl)) (arm1 ha rfl))
  | 6, _ =>
    refine ⟨[("row", a)], run_rt rfl rfl (xs_cons (x_if0 (et_cmp (ev_var rfl) ev_cst (cmp_lt rfl)) xs_nil) ?_)⟩
    repeat (refine xs_cons (x_if0 (et_cmp (ev_var rfl) ev_cst (ne0 rfl)) xs_nil) ?_)
    exact xs_rt (x_if1 (et_cmp (ev_var rfl) ev_cst (eq1 rfl)) (arm1 ha rfl))
  | 7, _ =>
    refine ⟨[("led", a)], run_rt rfl rfl (xs_cons (x_if0 (et_cmp (ev_var rfl) ev_cst (cmp_lt rfl)) xs_nil) ?_)⟩
    repeat (refine xs_cons (x_if0 (et_cmp (ev_var rfl) ev_cst (ne0 rfl)) xs_nil) ?_)
    exact xs_rt (x_if1 (et_cmp (ev_var rfl) ev_cst (eq1 rfl)) (arm1 ha rfl))
  | 8, _ =>
    refine ⟨[("paper", a)], run_rt rfl rfl (xs_cons (x_if0 (et_cmp (ev_var rfl) ev_cst (cmp_lt rfl)) xs_nil) ?_)⟩
    repeat (refine xs_cons (x_if0 (et_cmp (ev_var rfl) ev_cst (ne0 rfl)) xs_nil) ?_)
    exact xs_rt (x_if1 (et_cmp (ev_var rfl) ev_cst (eq1 rfl)) (arm1 ha rfl))
  | 9, _ =>
    refine ⟨[("column", b), ("line", a)], run_rt rfl rfl (xs_cons (x_if0 (et_cmp (ev_var rfl) ev_cst (cmp_lt rfl)) xs_nil) ?_)⟩
    repeat (refine xs_cons (x_if0 (et_cmp (ev_var rfl) ev_cst (ne0 rfl)) xs_nil) ?_)
    exact xs_rt (x_if1 (et_cmp (ev_var rfl) ev_cst (eq1 rfl)) (arm2 ha hb rfl (by decide +kernel)))
  | 10, _ =>
    refine ⟨[("number", b), ("what", a)], run_rt rfl rfl (xs_cons (x_if0 (et_cmp (ev_var rfl) ev_cst (cmp_lt rfl)) xs_nil) ?_)⟩
    repeat (refine xs_cons (x_if0 (et_cmp (ev_var rfl) ev_cst (ne0 rfl)) xs_nil) ?_)
    exact xs_rt (x_if1 (et_cmp (ev_var rfl) ev_cst (eq1 rfl)) (arm2 ha hb rfl (by decide +kernel)))
  | 11, _ =>
    refine ⟨[("witness", b), ("promise", a)], run_rt rfl rfl (xs_cons (x_if0 (et_cmp (ev_var rfl) ev_cst (cmp_lt rfl)) xs_nil) ?_)⟩
    repeat (refine xs_cons (x_if0 (et_cmp (ev_var rfl) ev_cst (ne0 rfl)) xs_nil) ?_)
    exact xs_rt (x_if1 (et_cmp (ev_var rfl) ev_cst (eq1 rfl)) (arm2 ha hb rfl (by decide +kernel)))
  | 12, _ =>
    refine ⟨[], run_rt rfl rfl (xs_cons (x_if0 (et_cmp (ev_var rfl) ev_cst (cmp_lt rfl)) xs_nil) ?_)⟩
    repeat (refine xs_cons (x_if0 (et_cmp (ev_var rfl) ev_cst (ne0 rfl)) xs_nil) ?_)
    exact xs_rt (x_ret (ev_tup (vs := [.exn 13 [], .tup []]) (evs_cons (ev_if (et_cmp (ev_var rfl) ev_cst (eq1 rfl)) (ev_mkX evs_nil rfl rfl)) (evs_cons (ev_tup evs_nil (Nat.le_of_ble_eq_true rfl)) evs_nil)) (Nat.le_of_ble_eq_true rfl)))
  | 13, _ =>
    refine ⟨[], run_rt rfl rfl (xs_cons (x_if0 (et_cmp (ev_var rfl) ev_cst (cmp_lt rfl)) xs_nil) ?_)⟩
    repeat (refine xs_cons (x_if0 (et_cmp (ev_var rfl) ev_cst (ne0 rfl)) xs_nil) ?_)
    exact xs_rt (x_ret (ev_tup (vs := [.exn 14 [], .tup []]) (evs_cons (ev_if (et_cmp (ev_var rfl) ev_cst (ne0 rfl)) (ev_mkX evs_nil rfl rfl)) (evs_cons (ev_tup evs_nil (Nat.le_of_ble_eq_true rfl)) evs_nil)) (Nat.le_of_ble_eq_true rfl)))
end
def whichB : List MStm := [
  .asg (.name 1) (.lst false [(.isX (.var 0) (some 3)), (.isX (.var 0) (some 4)), (.isX (.var 0) (some 5)), (.isX (.var 0) (some 6))]),
  .asg (.name 1) (.bin .add (.var 1) (.lst false [(.isX (.var 0) (some 7)), (.isX (.var 0) (some 8)), (.isX (.var 0) (some 9)), (.isX (.var 0) (some 10))])),
  .asg (.name 1) (.bin .add (.var 1) (.lst false [(.isX (.var 0) (some 11)), (.isX (.var 0) (some 1)), (.isX (.var 0) (some 2)), (.isX (.var 0) (some 12))])),
  .ret (.bin .add (.var 1) (.lst false [(.isX (.var 0) (some 13)), (.isX (.var 0) (some 14))]))]
theorem f4 : t.P.funs[4]? = some ⟨1, 2, [], whichB⟩ := by kernel_rfl
def bools (k : Nat) : List MV := (List.range 14).map fun j => .bl (j == k)
theorem which_run {cf : CF} {fs : Flds} : ∀ k : Nat, k < 14 → runF t.P cf ⟨1, 2, [], whichB⟩ [.exn (kc k) fs] [] = .ok (.loc 2) [.lst ((bools k).take 8), .lst ((bools k).take 12), .lst (bools k)] := by
  intro k hk
  match k, hk with
  | 0, _ => kernel_rfl
  | 1, _ => kernel_rfl
  | 2, _ => kernel_rfl
  | 3, _ => kernel_rfl
  | 4, _ => kernel_rfl
  | 5, _ => kernel_rfl
  | 6, _ => kernel_rfl
  | 7, _ => kernel_rfl
  | 8, _ => kernel_rfl
  | 9, _ => kernel_rfl
  | 10, _ => kernel_rfl
  | 11, _ => kernel_rfl
  | 12, _ => kernel_rfl
  | 13, _ => kernel_rfl
def turnB : List MStm := [
  .asg (.tup [(.name 4), (.name 5)]) (.tup [(.call 2 [(.var 1), (.var 2)]), (.call 2 [(.var 1), (.var 2)])]),
  .asg (.name 6) (.comp false [9] (.name 9) (.range [(.cst (.int 3))]) .yes (.bi .repr [(.slice false (.tup [(.var 4), (.var 5)]) [] [(.var 9)])])),
  .asg (.tup [(.name 7), (.name 8)]) (.call 3 [(.var 3), (.var 4), (.var 5)]),
  .ifS (.cmp .ne (.bi .repr [(.var 8)]) (.sub (.var 6) (.bi .len [(.var 8)]))) [.ret (.cst (.bl false))] [],
  .ifS (.or (.not (.val (.isX (.var 7) (some 0)))) (.not (.val (.isX (.var 7) none)))) [.ret (.cst (.bl false))] [],
  .ifS (.cmp .ne (.call 4 [(.var 7)]) (.comp false [10] (.name 10) (.range [(.cst (.int 14))]) .yes (.cmp .eq (.var 10) (.var 3)))) [.ret (.cst (.bl false))] []]
def menuE : List ME := [(.cst .non), (.cst (.bl true)), (.cst (.int 0)), (.bin .sub (.neg (.cst (.int 1))) (.call 1 [(.var 1), (.cst (.int 9))])), (.bin .add (.bin .pow (.cst (.int 10)) (.cst (.int 40))) (.call 1 [(.var 1), (.cst (.int 99))])), (.cst (.str "")), (.cst (.str "log")), (.tup [(.cst (.int 1)), (.cst (.int 2))]), (.lst false [(.cst (.int 3))]), (.tup [(.cst (.str "b")), (.cst (.str "c"))])]
def lawB : List MStm := [
  .asg (.name 1) (.call 0 [(.var 0)]),
  .asg (.name 2) (.lst true menuE),
  .expr (.meth .append (.var 2) [(.tup [(.tup [(.cst (.int 0)), (.cst (.int 0))])])]),
  .forS (.name 3) (.range [(.cst (.int 14))]) turnB,
  .ret (.cst (.bl true))]
theorem f5 : t.P.funs[5]? = some ⟨1, 11, [], lawB⟩ := by kernel_rfl
/-- the menu -/
def menu0 (r s : Int) : List MV := [.non, .bl true, .int 0, .int (-1 - r), .int (10 ^ 40 + s), .str "", .str "log", .tup [.int 1, .int 2], .fls [.int 3], .tup [.str "b", .str "c"]]
def menu (r s : Int) : List MV := menu0 r s ++ [.tup [.tup [.int 0, .int 0]]]
theorem len_r : ∀ r : Fin 9, (PyData.shown (.int (-1 - (r.val : Int)))).length ≤ 60 ∧ PyData.showable (.int (-1 - (r.val : Int))) = true := by decide +kernel
theorem len_s : ∀ s : Fin 99, (PyData.shown (.int (10 ^ 40 + (s.val : Int)))).length ≤ 60 ∧ PyData.showable (.int (10 ^ 40 + (s.val : Int))) = true := by decide +kernel
/-- what is in the menu has a short text -/
structure Item (v : MV) (d : PyData) : Prop where
  pure' : pureV v = true
  dat : ∀ S n, toD S (n + 8) v = some d
  sm : Sm 60 5 d
theorem item_of {r s : Int} (hr : 0 ≤ r ∧ r < 9) (hs : 0 ≤ s ∧ s < 99) : ∀ v ∈ menu r s, ∃ d, Item v d := by
  have i0 : ∀ {v : MV} {d : PyData}, pureV v = true → (∀ S n, toD S (n + 8) v = some d) → d.showable = true → d.hasDict = false → d.depth ≤ 5 → d.shown.length ≤ 60 → ∃ d, Item v d := fun {v d} h1 h2 h3 h4 h5 h6 => ⟨d, h1, h2, h3, h4, h5, h6⟩
  intro v hv
  simp only [menu, menu0, List.cons_append, List.nil_append, List.mem_cons, List.not_mem_nil, or_false] at hv
  rcases hv with h | h | h | h | h | h | h | h | h | h | h <;> subst h
  · exact i0 (d := .none) rfl (fun _ _ => rfl) (by decide +kernel) (by decide +kernel) (by decide +kernel) (by decide +kernel)
  · exact i0 (d := .bool true) rfl (fun _ _ => rfl) (by decide +kernel) (by decide +kernel) (by decide +kernel) (by decide +kernel)
  · exact i0 (d := .int 0) rfl (fun _ _ => rfl) (by decide +kernel) (by decide +kernel) (by decide +kernel) (by decide +kernel)
  · obtain ⟨n, rfl⟩ := Int.eq_ofNat_of_zero_le hr.1
    have h := len_r ⟨n, by omega⟩
    exact i0 (d := .int (-1 - (n : Int))) rfl (fun _ _ => rfl) h.2 (by simp [PyData.hasDict]) (by simp [PyData.depth]) h.1
  · obtain ⟨n, rfl⟩ := Int.eq_ofNat_of_zero_le hs.1
    have h := len_s ⟨n, by omega⟩
    exact i0 (d := .int (10 ^ 40 + (n : Int))) rfl (fun _ _ => rfl) h.2 (by simp [PyData.hasDict]) (by simp [PyData.depth]) h.1
  · exact i0 (d := .str "") rfl (fun _ _ => rfl) (by decide +kernel) (by decide +kernel) (by decide +kernel) (by decide +kernel)
  · exact i0 (d := .str "log") rfl (fun _ _ => rfl) (by decide +kernel) (by decide +kernel) (by decide +kernel) (by decide +kernel)
  · exact i0 (d := .tuple [.int 1, .int 2]) rfl (fun _ _ => rfl) (by decide +kernel) (by decide +kernel) (by decide +kernel) (by decide +kernel)
  · exact i0 (d := .list [.int 3]) rfl (fun _ _ => rfl) (by decide +kernel) (by decide +kernel) (by decide +kernel) (by decide +kernel)
  · exact i0 (d := .tuple [.str "b", .str "c"]) rfl (fun _ _ => rfl) (by decide +kernel) (by decide +kernel) (by decide +kernel) (by decide +kernel)
  · exact i0 (d := .tuple [.tuple [.int 0, .int 0]]) rfl (fun _ _ => rfl) (by decide +kernel) (by decide +kernel) (by decide +kernel) (by decide +kernel)
/-- the texts of the fields -/
def txt (a b : PyData) (n : Nat) : Str := (PyData.tuple ([a, b].take n)).shown
theorem repr_ok {a b : MV} {x y : PyData} {S : Store} (ha : Item a x) (hb : Item b y) (n : Nat) : biM .repr [.tup ([a, b].take n)] S = some (.str (txt x y n)) := by
  have key : ∀ ms ds m, ms.mapM (toD S 63) = some ds → Sms m 5 ds → m + 3 ≤ line → biM .repr [.tup ms] S = some (.str (PyData.tuple ds).shown) := fun ms ds m h1 h2 h3 => by
    show (reprM (.tup ms) S).map MV.str = _
    have e : toD S 64 (.tup ms) = some (.tuple ds) := by
      show (ms.mapM (toD S 63)).map PyData.tuple = _
      rw [h1]; rfl
    rw [(Sms.tup h2).repr e h3 (by decide)]; rfl
  have ea : toD S 63 a = some x := ha.dat S 55
  have eb : toD S 63 b = some y := hb.dat S 55
  unfold txt
  match n with
  | 0 => exact key [] [] 0 rfl Sms.nil (by decide)
  | 1 => exact key [a] [x] (60 + 2 + 0) (by simp [ea]) (Sms.cons ha.sm Sms.nil) (by decide)
  | n + 2 =>
    have e1 : ([a, b] : List MV).take (n + 2) = [a, b] := by simp
    have e2 : ([x, y] : List PyData).take (n + 2) = [x, y] := by simp
    rw [e1, e2]
    exact key [a, b] [x, y] (60 + 2 + (60 + 2 + 0)) (by simp [ea, eb]) (Sms.cons ha.sm (Sms.cons hb.sm Sms.nil)) (by decide)
end K00
namespace K00
open PySem Mini
/-- the names in a turn, and behind it -/
def rhoT (sc : List MV) (o3 o4 o5 o6 o7 o8 o9 o10 : Option MV) : Mini.Env := [some (.scr sc), some (.loc 0), some (.loc 1), o3, o4, o5, o6, o7, o8, o9, o10]
structure Inv (sc : List MV) (r s : Int) (ρ : Mini.Env) (S : Store) (n : Int) : Prop where
  ρ : ∃ o3 o4 o5 o6 o7 o8 o9 o10, ρ = rhoT sc o3 o4 o5 o6 o7 o8 o9 o10
  pen : ∃ p, PenAt S 0 p ∧ p.cnt ≤ n
  mn : S[1]? = some (.lst (menu r s))
theorem anc0 {fs : Flds} : ∀ k : Nat, k < 14 → exnIs t.P (.exn (kc k) fs) (some 0) = some true ∧ exnIs t.P (.exn (kc k) fs) none = some true := by
  intro k hk
  match k, hk with
  | 0, _ => exact ⟨rfl, rfl⟩
  | 1, _ => exact ⟨rfl, rfl⟩
  | 2, _ => exact ⟨rfl, rfl⟩
  | 3, _ => exact ⟨rfl, rfl⟩
  | 4, _ => exact ⟨rfl, rfl⟩
  | 5, _ => exact ⟨rfl, rfl⟩
  | 6, _ => exact ⟨rfl, rfl⟩
  | 7, _ => exact ⟨rfl, rfl⟩
  | 8, _ => exact ⟨rfl, rfl⟩
  | 9, _ => exact ⟨rfl, rfl⟩
  | 10, _ => exact ⟨rfl, rfl⟩
  | 11, _ => exact ⟨rfl, rfl⟩
  | 12, _ => exact ⟨rfl, rfl⟩
  | 13, _ => exact ⟨rfl, rfl⟩
theorem kn_le : ∀ k : Nat, k < 14 → kn k ≤ 2 := by decide
theorem seq_self (x : Str) : seqStr x x = true := by rw [seqStr_eq]; exact decide_eq_true rfl
theorem bools_eqv : ∀ k : Nat, k < 14 → PyData.eqv (.list ((List.range 14).map fun j => .bool (j == k))) (.list ((List.range 14).map fun j => .bool (j == k))) = true ∧ SeqAt.shaped (.list ((List.range 14).map fun j => .bool (j == k))) = true := by decide +kernel
theorem bools_dat {S : Store} {n : Nat} (k : Nat) : (bools k).mapM (toD S (n + 1)) = some ((List.range 14).map fun j => .bool (j == k)) := by
  kernel_rfl
section
variable {d : Nat} {sc : List MV} {r s : Int}
theorem cf1 : ∃ cf', callAt t.P (d + 1) 1 = runF t.P cf' ⟨2, 5, [], drawB c0⟩ := ⟨_, call_at f1⟩
theorem pick_call {S : Store} {p : Pen} {n : Int} (hr : 0 ≤ r ∧ r < 9) (hp : PenAt S 0 p) (hn : p.cnt ≤ n) (hn2 : n < 900000000000) (hm : S[1]? = some (.lst (menu r s))) :
    ∃ x ∈ menu r s, ∃ S' p', callI (callAt t.P (d + 2)) 2 [.loc 0, .loc 1] S = .ok x S' ∧ PenAt S' 0 p' ∧ p'.cnt ≤ n + 1 ∧ S'[1]? = some (.lst (menu r s)) := by
  obtain ⟨x, hx, q, S', p', e, D⟩ := pick_run (P := t.P) (cf := callAt t.P (d + 1)) (m := 1) c0_ok (.inr cf1) hp hm (by decide) (by simp [menu, menu0]) (by simp [menu, menu0]) (by omega)
  refine ⟨x, hx, S', p', ?_, D.at', by rw [D.cnt]; omega, by rw [D.other (by decide)]; exact hm⟩
  unfold callI
  rw [if_neg (by simp [pureV]), call_at f2]
  exact e
theorem turn_ok (hr : 0 ≤ r ∧ r < 9) (hs : 0 ≤ s ∧ s < 99) {k : Nat} (hk : k < 14) {n : Int} (hn : n < 800000000000) {ρ : Mini.Env} {S : Store} (I : Inv sc r s ρ S n) :
    ∃ ρ1 S1, (assignG (.name 3) (.int k) ρ S).bind (fun ρ S => exSs t.P (callAt t.P (d + 2)) turnB ρ S) = .ok (.nx ρ1) S1 ∧ Inv sc r s ρ1 S1 (n + 2) := by
  obtain ⟨o3, o4, o5, o6, o7, o8, o9, o10, rfl⟩ := I.ρ
  obtain ⟨p, hp, hpn⟩ := I.pen
  obtain ⟨a, ha, S1, p1, e1, hp1, hn1, hm1⟩ := pick_call (d := d) hr hp hpn (by omega) I.mn
  obtain ⟨b, hb, S2, p2, e2, hp2, hn2, hm2⟩ := pick_call (d := d) hr hp1 hn1 (by omega) hm1
  obtain ⟨x, ia⟩ := item_of hr hs a ha
  obtain ⟨y, ib⟩ := item_of hr hs b hb
  have pa := ia.pure'
  have pb := ib.pure'
  obtain ⟨fs, ho⟩ := one_run (cf := callAt t.P (d + 1)) pa pb k hk
  -- the fields
  have mk : mkTup [a, b] = .tup [a, b] := by simp [mkTup, pa, pb]
  have s1 : exS t.P (callAt t.P (d + 2)) (.asg (.tup [(.name 4), (.name 5)]) (.tup [(.call 2 [(.var 1), (.var 2)]), (.call 2 [(.var 1), (.var 2)])])) (rhoT sc (some (.int k)) o4 o5 o6 o7 o8 o9 o10) S = .ok (.nx (rhoT sc (some (.int k)) (some a) (some b) o6 o7 o8 o9 o10)) S2 := by
    have h1 : evE t.P (callAt t.P (d + 2)) (.tup [(.call 2 [(.var 1), (.var 2)]), (.call 2 [(.var 1), (.var 2)])]) (rhoT sc (some (.int k)) o4 o5 o6 o7 o8 o9 o10) S = .ok (.tup [a, b]) S2 := by
      rw [← mk]
      exact ev_tup (evs_cons (ev_call (evs_cons (ev_var rfl) (evs_cons (ev_var rfl) evs_nil)) e1) (evs_cons (ev_call (evs_cons (ev_var rfl) (evs_cons (ev_var rfl) evs_nil)) e2) evs_nil)) (Nat.le_of_ble_eq_true rfl)
    exact x_asg h1 rfl
  have sl : ∀ m : Nat, m < 3 → sliceM false (.tup [a, b]) none (some (m : Nat)) S2 = .ok (.tup ([a, b].take m)) S2 := by
    intro m hm
    match m, hm with
    | 0, _ => rfl
    | 1, _ => show Res.ok (mkTup [a]) S2 = _; simp [mkTup, pa]
    | 2, _ => rfl
  have s2 : exS t.P (callAt t.P (d + 2)) (.asg (.name 6) (.comp false [9] (.name 9) (.range [(.cst (.int 3))]) .yes (.bi .repr [(.slice false (.tup [(.var 4), (.var 5)]) [] [(.var 9)])]))) (rhoT sc (some (.int k)) (some a) (some b) o6 o7 o8 o9 o10) S2 =
      .ok (.nx (rhoT sc (some (.int k)) (some a) (some b) (some (.fls [.str (txt x y 0), .str (txt x y 1), .str (txt x y 2)])) o7 o8 o9 o10)) S2 := by
    refine x_asg (v := .fls [.str (txt x y 0), .str (txt x y 1), .str (txt x y 2)]) ((ev_compF (fun v => match v with | .int i => .str (txt x y i.toNat) | _ => .non) (ei_range (evs_cons ev_cst evs_nil) rfl) (Nat.le_of_ble_eq_true rfl) fun v hv => ?_).trans rfl) rfl
    have hv : ∃ m : Nat, m < 3 ∧ v = .int m := by
      have : v ∈ [MV.int 0, .int 1, .int 2] := hv
      simp only [List.mem_cons, List.not_mem_nil, or_false] at this
      rcases this with h | h | h
      · exact ⟨0, by decide, h⟩
      · exact ⟨1, by decide, h⟩
      · exact ⟨2, by decide, h⟩
    obtain ⟨m, hm, rfl⟩ := hv
    refine ⟨rhoT sc (some (.int k)) (some a) (some b) o6 o7 o8 (some (.int m)) o10, rfl, rfl, ?_⟩
    have h1 : evE t.P (callAt t.P (d + 2)) (.tup [(.var 4), (.var 5)]) (rhoT sc (some (.int k)) (some a) (some b) o6 o7 o8 (some (.int m)) o10) S2 = .ok (.tup [a, b]) S2 := by
      rw [← mk]
      exact ev_tup (evs_cons (ev_var rfl) (evs_cons (ev_var rfl) evs_nil)) (Nat.le_of_ble_eq_true rfl)
    exact ev_bi (evs_cons (ev_slice h1 evs_nil rfl (evs_cons (ev_var rfl) evs_nil) rfl (sl m hm)) evs_nil) (repr_ok ia ib m)
  have s3 : exS t.P (callAt t.P (d + 2)) (.asg (.tup [(.name 7), (.name 8)]) (.call 3 [(.var 3), (.var 4), (.var 5)])) (rhoT sc (some (.int k)) (some a) (some b) (some (.fls [.str (txt x y 0), .str (txt x y 1), .str (txt x y 2)])) o7 o8 o9 o10) S2 =
      .ok (.nx (rhoT sc (some (.int k)) (some a) (some b) (some (.fls [.str (txt x y 0), .str (txt x y 1), .str (txt x y 2)])) (some (.exn (kc k) fs)) (some (.tup ([a, b].take (kn k)))) o9 o10)) S2 := by
    refine x_asg (ev_call (evs_cons (ev_var rfl) (evs_cons (ev_var rfl) (evs_cons (ev_var rfl) evs_nil))) (r := .ok (.tup [.exn (kc k) fs, .tup ([a, b].take (kn k))]) S2) ?_) rfl
    unfold callI
    rw [if_pos (by rw [List.all_cons, List.all_cons, List.all_cons, pa, pb]; rfl), call_at f3, ho]
    rfl
  have s4 : exS t.P (callAt t.P (d + 2)) (.ifS (.cmp .ne (.bi .repr [(.var 8)]) (.sub (.var 6) (.bi .len [(.var 8)]))) [.ret (.cst (.bl false))] []) (rhoT sc (some (.int k)) (some a) (some b) (some (.fls [.str (txt x y 0), .str (txt x y 1), .str (txt x y 2)])) (some (.exn (kc k) fs)) (some (.tup ([a, b].take (kn k)))) o9 o10) S2 =
      .ok (.nx (rhoT sc (some (.int k)) (some a) (some b) (some (.fls [.str (txt x y 0), .str (txt x y 1), .str (txt x y 2)])) (some (.exn (kc k) fs)) (some (.tup ([a, b].take (kn k)))) o9 o10)) S2 := by
    have hl : biM .len [.tup ([a, b].take (kn k))] S2 = some (.int (kn k : Nat)) := by
      have := kn_le k hk
      show some (MV.int ((([a, b].take (kn k)).length : Nat) : Int)) = _
      rw [List.length_take]
      have e : min (kn k) [a, b].length = kn k := Nat.min_eq_left this
      rw [e]
    have hd : subM (.fls [.str (txt x y 0), .str (txt x y 1), .str (txt x y 2)]) (.int (kn k : Nat)) S2 = some (.str (txt x y (kn k))) := by
      have := kn_le k hk
      generalize kn k = m at this ⊢
      match m, this with
      | 0, _ => rfl
      | 1, _ => rfl
      | 2, _ => rfl
    refine x_if0 (et_cmp (ev_bi (evs_cons (ev_var rfl) evs_nil) (repr_ok ia ib (kn k))) (ev_sub (ev_var rfl) (ev_bi (evs_cons (ev_var rfl) evs_nil) hl) hd) (cmp_neS (seq_self _))) xs_nil
  have s5 : ∀ ρ : Mini.Env, ρ[7]? = some (some (.exn (kc k) fs)) → exS t.P (callAt t.P (d + 2)) (.ifS (.or (.not (.val (.isX (.var 7) (some 0)))) (.not (.val (.isX (.var 7) none)))) [.ret (.cst (.bl false))] []) ρ S2 = .ok (.nx ρ) S2 := fun ρ hρ =>
    x_if0 (et_or0 (et_not (k := true) (et_val (ev_isX (ev_var hρ) (anc0 k hk).1) rfl)) (et_not (k := true) (et_val (ev_isX (ev_var hρ) (anc0 k hk).2) rfl))) xs_nil
  have s6 : ∀ ρ : Mini.Env, (∃ o10, ρ = rhoT sc (some (.int k)) (some a) (some b) (some (.fls [.str (txt x y 0), .str (txt x y 1), .str (txt x y 2)])) (some (.exn (kc k) fs)) (some (.tup ([a, b].take (kn k)))) o9 o10) →
      exS t.P (callAt t.P (d + 2)) (.ifS (.cmp .ne (.call 4 [(.var 7)]) (.comp false [10] (.name 10) (.range [(.cst (.int 14))]) .yes (.cmp .eq (.var 10) (.var 3)))) [.ret (.cst (.bl false))] []) ρ S2 = .ok (.nx ρ) (S2 ++ [.lst (bools k)]) := by
    rintro ρ ⟨o10, rfl⟩
    have c4 : callI (callAt t.P (d + 2)) 4 [.exn (kc k) fs] S2 = .ok (.loc S2.length) (S2 ++ [.lst (bools k)]) := by
      unfold callI
      rw [if_pos (by simp [pureV]), call_at f4, which_run k hk]
      rfl
    have cm : evE t.P (callAt t.P (d + 2)) (.comp false [10] (.name 10) (.range [(.cst (.int 14))]) .yes (.cmp .eq (.var 10) (.var 3))) (rhoT sc (some (.int k)) (some a) (some b) (some (.fls [.str (txt x y 0), .str (txt x y 1), .str (txt x y 2)])) (some (.exn (kc k) fs)) (some (.tup ([a, b].take (kn k)))) o9 o10) (S2 ++ [.lst (bools k)]) = .ok (.fls (bools k)) (S2 ++ [.lst (bools k)]) := by
      refine (ev_compF (fun v => match v with | .int i => .bl (i.toNat == k) | _ => .non) (ei_range (evs_cons ev_cst evs_nil) rfl) (Nat.le_of_ble_eq_true rfl) fun v hv => ?_).trans ?_
      · have hv : v ∈ (List.range 14).map fun (i : Nat) => MV.int i := hv
        obtain ⟨j, hj, rfl⟩ := List.mem_map.mp hv
        refine ⟨rhoT sc (some (.int k)) (some a) (some b) (some (.fls [.str (txt x y 0), .str (txt x y 1), .str (txt x y 2)])) (some (.exn (kc k) fs)) (some (.tup ([a, b].take (kn k)))) o9 (some (.int j)), rfl, rfl, ?_⟩
        have q : ((j : Int) == (k : Int)) = (j == k) := by
          by_cases h : j = k
          · subst h; simp
          · have h2 : ¬ (j : Int) = k := by omega
            rw [beq_eq_false_iff_ne.mpr h, beq_eq_false_iff_ne.mpr h2]
        exact ev_cmp (ev_var rfl) (ev_var rfl) (cmp_eqI q)
      · show mkL false (bools k) _ = _
        unfold mkL
        rw [if_pos (by simp [bools, line]), if_neg (by simp [bools, pureV])]
    refine x_if0 (et_cmp (ev_call (evs_cons (ev_var rfl) evs_nil) c4) cm ?_) xs_nil
    have e1 : toD (S2 ++ [.lst (bools k)]) 64 (.loc S2.length) = some (.list ((List.range 14).map fun j => .bool (j == k))) := by
      show (match (S2 ++ [MO.lst (bools k)])[S2.length]? with
        | some (.lst vs) => (vs.mapM (toD (S2 ++ [MO.lst (bools k)]) 63)).map PyData.list
        | _ => none) = _
      rw [List.getElem?_append_right (Nat.le_refl _), Nat.sub_self]
      show ((bools k).mapM (toD (S2 ++ [MO.lst (bools k)]) 63)).map PyData.list = _
      rw [bools_dat]; rfl
    have e2 : toD (S2 ++ [.lst (bools k)]) 64 (.fls (bools k)) = some (.list ((List.range 14).map fun j => .bool (j == k))) := by
      show ((bools k).mapM (toD (S2 ++ [MO.lst (bools k)]) 63)).map PyData.list = _
      rw [bools_dat]; rfl
    show (eqM (.loc S2.length) (.fls (bools k)) _).map (!·) = _
    unfold eqM
    rw [if_neg (by simp [scalM]), e1, e2]
    show (if SeqAt.shaped _ && SeqAt.shaped _ then some (PyData.eqv _ _) else none).map (!·) = _
    rw [(bools_eqv k hk).2, (bools_eqv k hk).1]
    rfl
  have run : exSs t.P (callAt t.P (d + 2)) turnB (rhoT sc (some (.int k)) o4 o5 o6 o7 o8 o9 o10) S = .ok (.nx (rhoT sc (some (.int k)) (some a) (some b) (some (.fls [.str (txt x y 0), .str (txt x y 1), .str (txt x y 2)])) (some (.exn (kc k) fs)) (some (.tup ([a, b].take (kn k)))) o9 o10)) (S2 ++ [.lst (bools k)]) :=
    xs_cons s1 (xs_cons s2 (xs_cons s3 (xs_cons s4 (xs_cons (s5 _ rfl) (xs_cons (s6 _ ⟨_, rfl⟩) xs_nil)))))
  have keep : ∀ {i : Nat} {o : MO}, S2[i]? = some o → (S2 ++ [MO.lst (bools k)])[i]? = some o := fun {i o} h => by
    rw [List.getElem?_append_left (List.getElem?_eq_some_iff.mp h).1]; exact h
  exact ⟨_, _, run, ⟨_, _, _, _, _, _, _, _, rfl⟩, ⟨p2, ⟨keep hp2.hl, hp2.len, hp2.dig, hp2.cnt, hp2.fold⟩, by omega⟩, keep hm2⟩
theorem loop_ok (hr : 0 ≤ r ∧ r < 9) (hs : 0 ≤ s ∧ s < 99) : ∀ (l : List Nat) (n : Int) (ρ : Mini.Env) (S : Store), (∀ k ∈ l, k < 14) → n + 2 * l.length < 800000000000 → Inv sc r s ρ S n →
    ∃ ρ1 S1, loopFix (fun v ρ S => (assignG (.name 3) v ρ S).bind fun ρ S => exSs t.P (callAt t.P (d + 2)) turnB ρ S) (l.map fun (i : Nat) => MV.int i) ρ S = .ok (.nx ρ1) S1 ∧ Inv sc r s ρ1 S1 (n + 2 * l.length)
  | [], n, ρ, S, _, _, I => ⟨ρ, S, rfl, by simpa using I⟩
  | k :: l, n, ρ, S, hk, hn, I => by
    have hl : ((k :: l).length : Int) = l.length + 1 := by simp
    rw [hl] at hn
    obtain ⟨ρ1, S1, e1, I1⟩ := turn_ok (d := d) hr hs (hk k List.mem_cons_self) (by omega) I
    obtain ⟨ρ2, S2, e2, I2⟩ := loop_ok hr hs l (n + 2) ρ1 S1 (fun j hj => hk j (List.mem_cons_of_mem _ hj)) (by omega) I1
    refine ⟨ρ2, S2, ?_, by rw [hl]; have : n + 2 * ((l.length : Int) + 1) = n + 2 + 2 * l.length := by omega
                           rw [this]; exact I2⟩
    show ((assignG (.name 3) (.int k) ρ S).bind fun ρ S => exSs t.P (callAt t.P (d + 2)) turnB ρ S).bind _ = _
    rw [e1]; exact e2
end
theorem law_run {ns : List Int} (hl : ns.length ≤ 63) : ∃ S, callAt t.P 3 5 [.scr (ns.map .int)] [] = .ok (.bl true) S := by
  obtain ⟨f, e0, f1', f2'⟩ := pen_run (P := t.P) (cf := callAt t.P 1) c0_ok hl
  have c0' : callI (callAt t.P 2) 0 [.scr (ns.map .int)] [] = .ok (.loc 0) [.dK false (penK ⟨ns, 0, 0, 0, f⟩)] := by
    unfold callI
    rw [if_pos (by simp [pureV]), call_at f0, e0]
    rfl
  have p0 : PenAt [.dK false (penK ⟨ns, 0, 0, 0, f⟩)] 0 ⟨ns, 0, 0, 0, f⟩ := ⟨rfl, hl, Int.le_refl _, ⟨Int.le_refl _, by show (0 : Int) < 1000000000000; decide⟩, ⟨f1', f2'⟩⟩
  obtain ⟨r, S1, p1, e1, D1⟩ := draw_run (P := t.P) (cf := callAt t.P 1) c0_ok (many := 9) p0 (by decide) (by decide) (by show (0 : Int) < 900000000000; decide)
  obtain ⟨s, S2, p2, e2, D2⟩ := draw_run (P := t.P) (cf := callAt t.P 1) c0_ok (many := 99) D1.at' (by decide) (by decide) (by rw [D1.cnt]; show (0 : Int) + 1 < 900000000000; decide)
  have c1 : callI (callAt t.P 2) 1 [.loc 0, .int 9] [.dK false (penK ⟨ns, 0, 0, 0, f⟩)] = .ok (.int r) S1 := by
    unfold callI
    rw [if_neg (by simp [pureV]), call_at K00.f1]
    exact e1
  have c2 : callI (callAt t.P 2) 1 [.loc 0, .int 99] S1 = .ok (.int s) S2 := by
    unfold callI
    rw [if_neg (by simp [pureV]), call_at K00.f1]
    exact e2
  have l2 : S2.length = 1 := by rw [D2.len, D1.len]; rfl
  have pw : binM .pow (.int 10) (.int 40) S1 = .ok (.int (10 ^ 40)) S1 := binM_pow (by decide) (by decide) (by decide)
  have hm : evE t.P (callAt t.P 2) (.lst true menuE) (some (.scr (ns.map .int)) :: some (.loc 0) :: List.replicate 9 none) [.dK false (penK ⟨ns, 0, 0, 0, f⟩)] = .ok (.loc 1) (S2 ++ [.lst (menu0 r s)]) := by
    have t1 : ∀ (ρ : Mini.Env) (S : Store), evE t.P (callAt t.P 2) (.tup [(.cst (.int 1)), (.cst (.int 2))]) ρ S = .ok (.tup [.int 1, .int 2]) S := fun _ _ => rfl
    have t2 : ∀ (ρ : Mini.Env) (S : Store), evE t.P (callAt t.P 2) (.lst false [(.cst (.int 3))]) ρ S = .ok (.fls [.int 3]) S := fun _ _ => rfl
    have t3 : ∀ (ρ : Mini.Env) (S : Store), evE t.P (callAt t.P 2) (.tup [(.cst (.str "b")), (.cst (.str "c"))]) ρ S = .ok (.tup [.str "b", .str "c"]) S := fun _ _ => rfl
    refine ev_lst (vs := menu0 r s) (S1 := S2) (evs_cons ev_cst (evs_cons ev_cst (evs_cons ev_cst (evs_cons (ev_bin (ev_neg ev_cst) (ev_call (evs_cons (ev_var rfl) (evs_cons ev_cst evs_nil)) c1) binM_sub)
      (evs_cons (ev_bin (ev_bin ev_cst ev_cst pw) (ev_call (evs_cons (ev_var rfl) (evs_cons ev_cst evs_nil)) c2) binM_add) (evs_cons ev_cst (evs_cons ev_cst (evs_cons (t1 _ _) (evs_cons (t2 _ _) (evs_cons (t3 _ _) evs_nil)))))))))) ?_
    · show (if (menu0 r s).length ≤ line then _ else _) = _
      rw [if_pos (Nat.le_of_ble_eq_true rfl)]
      show Res.ok (MV.loc S2.length) (S2 ++ [.lst (menu0 r s)]) = _
      rw [l2]
  have at1 : (S2 ++ [MO.lst (menu0 r s)])[1]? = some (.lst (menu0 r s)) := by
    rw [List.getElem?_append_right (Nat.le_of_eq l2), l2]; rfl
  have ap : methM .append (.loc 1) [.tup [.tup [.int 0, .int 0]]] (S2 ++ [.lst (menu0 r s)]) = .ok .non (S2 ++ [.lst (menu r s)]) := by
    show (match (S2 ++ [MO.lst (menu0 r s)])[1]? with
      | some (.lst xs) => if xs.length < line then Res.ok MV.non ((S2 ++ [MO.lst (menu0 r s)]).set 1 (.lst (xs ++ [MV.tup [MV.tup [.int 0, .int 0]]]))) else .bad
      | _ => .bad) = _
    rw [at1]
    show (if (menu0 r s).length < line then _ else _) = _
    rw [if_pos (Nat.lt_of_lt_of_le (show (menu0 r s).length < 11 from Nat.lt_succ_self 10) (by decide))]
    rw [List.set_append_right _ _ (Nat.le_of_eq l2), l2]
    rfl
  have re : recvOk .append (.loc 1) (S2 ++ [.lst (menu0 r s)]) = true := by
    unfold recvOk
    have : asList (.loc 1) (S2 ++ [MO.lst (menu0 r s)]) = some (menu0 r s) := by
      show (match (S2 ++ [MO.lst (menu0 r s)])[1]? with
        | some (.lst vs) => some vs
        | _ => none) = _
      rw [at1]
    rw [this]; rfl
  have at2 : (S2 ++ [MO.lst (menu r s)])[1]? = some (.lst (menu r s)) := by
    rw [List.getElem?_append_right (Nat.le_of_eq l2), l2]; rfl
  have pe : PenAt (S2 ++ [.lst (menu r s)]) 0 p2 := ⟨by rw [List.getElem?_append_left (by rw [l2]; decide)]; exact D2.at'.hl, D2.at'.len, D2.at'.dig, D2.at'.cnt, D2.at'.fold⟩
  obtain ⟨ρ1, S3, e3, _⟩ := loop_ok (d := 0) (sc := ns.map .int) ⟨D1.lo, D1.hi⟩ ⟨D2.lo, D2.hi⟩ (List.range 14) 2 (rhoT (ns.map .int) none none none none none none none none) _ (fun k hk => List.mem_range.mp hk) (by decide)
    ⟨⟨_, _, _, _, _, _, _, _, rfl⟩, ⟨p2, pe, by rw [D2.cnt, D1.cnt]; show (0 : Int) + 1 + 1 ≤ 2; decide⟩, at2⟩
  refine ⟨S3, ?_⟩
  rw [call_at f5]
  exact run_rt rfl rfl (xs_cons (x_asg (ev_call (evs_cons (ev_var rfl) evs_nil) c0') rfl) (xs_cons (x_asg hm rfl) (xs_cons (x_expr (ev_meth (ev_var rfl) re (evs_cons (v := .tup [.tup [.int 0, .int 0]]) (ev_tup (evs_cons (v := .tup [.int 0, .int 0]) (ev_tup (evs_cons ev_cst (evs_cons ev_cst evs_nil)) (Nat.le_of_ble_eq_true rfl)) evs_nil) (Nat.le_of_ble_eq_true rfl)) evs_nil) ap))
    (xs_cons (x_for (ei_range (evs_cons ev_cst evs_nil) rfl) e3) (xs_rt (x_ret ev_cst))))))
end K00
set_option maxHeartbeats 0
namespace K00
open PySem PySem.Spec PyProof.Rows L2 Mini
theorem bd : ∀ D ∈ t.ds, BindsD D.d D.ps := by
  intro D h
  simp only [t, ds, List.mem_cons, List.not_mem_nil, or_false] at h
  rcases h with h | h | h | h | h | h <;> subst h <;> first
    | exact fun _ _ _ _ _ _ us hl => match us, hl with | [_], _ => rfl
    | exact fun _ _ _ _ _ _ us hl => match us, hl with | [_, _], _ => rfl
    | exact fun _ _ _ _ _ _ us hl => match us, hl with | [_, _, _], _ => rfl
theorem bx : ∀ E ∈ t.cls, ∀ d, E.ini = some d → BindsD d (iniPs d) := by
  intro E h d hd
  simp only [t, cls, List.mem_cons, List.not_mem_nil, or_false] at h
  rcases h with h | h | h | h | h | h | h | h | h | h | h | h | h | h | h <;> subst h <;> cases hd <;> first
    | exact fun _ _ _ _ _ _ us hl => match us, hl with | [_, _], _ => rfl
    | exact fun _ _ _ _ _ _ us hl => match us, hl with | [_, _, _], _ => rfl
end K00
open PySem PySem.W PySem.Calls PyProof.Rows
theorem PySem.Challenge.cw_primesteps_k00_errors_holds : PySem.Challenge.rw_primesteps_k00_errors.Holds := by
  w_on; o_law
  refine HandSHeadRun.head_any (r := OpenLaw.row PySem.Challenge.rw_primesteps_k00_errors) (q := view (OpenLaw.row PySem.Challenge.rw_primesteps_k00_errors).prog [22]) (H := K00.hk) (ob := K00.ob) (M := 4000) (loose := K00.loose) (d := HandSHeadRun.topDef (OpenLaw.row PySem.Challenge.rw_primesteps_k00_errors).prog 22) (kwd := []) K00.ob_eq
    (by kernel_rfl) (fun s => by kernel_rfl) K00.run (by kernel_rfl) (by kernel_rfl) (by kernel_rfl) (by rfl) (by first | assumption | decide +kernel) (by decide +kernel) ⟨rfl, rfl, rfl, rfl, rfl, by decide +kernel⟩ ?hw ?hc
  case hw => w_witness2
  case hc =>
    refine Mini.mini_walk (l := PySem.Challenge.rw_primesteps_k00_errors) (n := 63) rfl (by decide) (by kernel_rfl) ?_
    intro w mg fa h Y G hmg0
    obtain ⟨K, KX, c⟩ := Y
    have hmg : mg ("law" : PySem.Str) = some (.ref fa) := by
      have e : (HandSHeadRun.topDef (OpenLaw.row PySem.Challenge.rw_primesteps_k00_errors).prog 22).name = ("law" : PySem.Str) := by kernel_rfl
      rw [← e]
      exact hmg0
    exact ⟨K, [], Mini.law_of (t := K00.t) (d := 3) K00.ok K00.bd K00.bx KX G c.t.d c.more (show K00.t.ds[K00.t.li]? = some _ from rfl) hmg (by rfl) ⟨rfl, by decide, by decide⟩ fun ns hl _ => K00.law_run hl⟩
