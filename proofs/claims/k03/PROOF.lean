import PyProof.Rows.All
import Wide.All
import OpenK.AllK
import Wide.FinOn
import HandS.ForMost
import HandS.IsInst
import HandS.TupAny
import HandS.TupMul
import HandS.Flow
import HandS.Style
import HandS.Deep
import HandS.Zip
import HandS.Defaults
import HandS.NoneIn
import HandS.HeadWalk
import KE.KStateDown
import HandS.Head0
import HandS.Head1
import HandS.Head2
import HandS.HeadEnd
import HandS.HeadHook1
import PySem.Challenge.RW_nobodyspeaks_k03_names
set_option Elab.async false
set_option linter.all false
set_option maxRecDepth 100000
set_option maxHeartbeats 0
section
/-! PyA: a small interpreter of our own for the Python that stands in these programs (values are trees, objects stand in a list). -/
namespace Py
open PySem

/-- values: texts are their codes, tuples are trees, `ref n` is the n-th object -/
inductive W where
  | non | bl (b : Bool) | int (i : Int) | str (s : List Nat) | tup (xs : List W) | ref (n : Nat)
  deriving Inhabited

/-- objects: a list, the script (never written), a dict with text keys, an instance -/
inductive O where
  | lst (xs : List W) | fro (xs : List W) | dic (kvs : List (List Nat × W)) | ins (c : Nat) (fs : List (Nat × W))
  deriving Inhabited

abbrev Hm := List O
abbrev Env := List (Option W)
def SZ : Nat := 16777216

inductive R (α : Type) where
  | ok (a : α) (h : Hm) | ex (c : Nat) (v : W) (h : Hm) | no

def R.bind {α β : Type} : R α → (α → Hm → R β) → R β
  | .ok a h, f => f a h
  | .ex c v h, _ => .ex c v h
  | .no, _ => .no
@[simp] theorem R.bind_ok {α β : Type} (a : α) (h : Hm) (f : α → Hm → R β) : (R.ok a h).bind f = f a h := rfl
@[simp] theorem R.bind_ex {α β : Type} (c : Nat) (v : W) (h : Hm) (f : α → Hm → R β) : (R.ex c v h).bind f = .ex c v h := rfl
@[simp] theorem R.bind_no {α β : Type} (f : α → Hm → R β) : (R.no).bind f = .no := rfl

/-! ### data: what == reads -/
inductive D where
  | non | bl (b : Bool) | int (i : Int) | str (s : List Nat) | tup (xs : List D) | lst (xs : List D)
  deriving Inhabited
mutual
def eqD : D → D → Bool
  | .non, .non => true
  | .bl a, .bl b => a == b
  | .bl a, .int j => (if a then 1 else 0) == j
  | .int i, .bl b => i == (if b then 1 else 0)
  | .int i, .int j => i == j
  | .str x, .str y => x == y
  | .tup xs, .tup ys => eqDs xs ys
  | .lst xs, .lst ys => eqDs xs ys
  | _, _ => false
def eqDs : List D → List D → Bool
  | [], [] => true
  | x :: xs, y :: ys => eqD x y && eqDs xs ys
  | _, _ => false
end
def lstAt (h : Hm) (n : Nat) : Option (List W) := match h[n]? with
  | some (.lst xs) => some xs
  | some (.fro xs) => some xs
  | _ => none
def mapO {α β : Type} (f : α → Option β) : List α → Option (List β)
  | [] => some []
  | x :: xs => match f x, mapO f xs with
    | some y, some ys => some (y :: ys)
    | _, _ => none
def toD (h : Hm) : Nat → W → Option D
  | 0, _ => none
  | n + 1, w => match w with
    | .non => some .non
    | .bl b => some (.bl b)
    | .int i => some (.int i)
    | .str s => some (.str s)
    | .tup xs => (mapO (toD h n) xs).map .tup
    | .ref m => match lstAt h m with
      | some xs => (mapO (toD h n) xs).map .lst
      | none => none
/-- the depth that == looks into -/
def DD : Nat := 30
def eqW (h : Hm) (x y : W) : Option Bool := match toD h DD x, toD h DD y with
  | some d, some e => some (eqD d e)
  | _, _ => none
def tru (h : Hm) : W → Option Bool
  | .non => some false
  | .bl b => some b
  | .int i => some (i != 0)
  | .str s => some (s.length != 0)
  | .tup xs => some (!xs.isEmpty)
  | .ref n => match h[n]? with
    | some (.lst xs) => some (!xs.isEmpty)
    | some (.fro xs) => some (!xs.isEmpty)
    | some (.dic kvs) => some (!kvs.isEmpty)
    | _ => none
def truR (w : W) (h : Hm) : R Bool := match tru h w with
  | some b => .ok b h
  | none => .no

/-! ### operators -/
inductive BOp where
  | add | sub | mul | fdiv | mod | pow | bor | band | shl | shr
inductive COp where
  | eq | ne | lt | le | gt | ge | in_ | nin
def newL (xs : List W) (h : Hm) : R W := .ok (.ref h.length) (h ++ [.lst xs])
def addW (x y : W) (h : Hm) : R W := match x with
  | .int i => (match y with
    | .int j => .ok (.int (i + j)) h
    | _ => .no)
  | .str s => (match y with
    | .str t => if s.length + t.length ≤ SZ then .ok (.str (s ++ t)) h else .no
    | _ => .no)
  | .tup xs => (match y with
    | .tup ys => if xs.length + ys.length ≤ SZ then .ok (.tup (xs ++ ys)) h else .no
    | _ => .no)
  | .ref m => (match y with
    | .ref n => (match h[m]?, h[n]? with
      | some (.lst xs), some (.lst ys) => if xs.length + ys.length ≤ SZ then newL (xs ++ ys) h else .no
      | _, _ => .no)
    | _ => .no)
  | _ => .no
def in64 (i : Int) : Bool := decide (-(2 ^ 64) < i) && decide (i < 2 ^ 64)
def in63 (i : Int) : Bool := decide (-(2 ^ 63) ≤ i) && decide (i < 2 ^ 63)
def in62 (i : Int) : Bool := decide (-(2 ^ 62) ≤ i) && decide (i < 2 ^ 62)
def rep {α : Type} (xs : List α) (k : Nat) : List α := (List.replicate k xs).flatten
def mulW (x y : W) (h : Hm) : R W := match x with
  | .int i => (match y with
    | .int j => if in64 i || in64 j then .ok (.int (i * j)) h else .no
    | _ => .no)
  | .ref m => (match y with
    | .int j => (match h[m]? with
      | some (.lst xs) => if in62 j && decide (xs.length * j.toNat ≤ SZ) then newL (rep xs j.toNat) h else .no
      | _ => .no)
    | _ => .no)
  | _ => .no
def intOp (c : Int → Int → Bool) (f : Int → Int → Int) (x y : W) (h : Hm) : R W := match x with
  | .int i => (match y with
    | .int j => if c i j then .ok (.int (f i j)) h else .no
    | _ => .no)
  | _ => .no
def cDiv (_ j : Int) : Bool := decide (0 < j) && decide (j < 1073741824)
def cMod (_ j : Int) : Bool := decide (0 < j)
def cPow (i j : Int) : Bool := decide (0 ≤ j) && (decide (j ≤ 1000000) && decide (i.natAbs < 2 ^ 64))
def cShr (_ j : Int) : Bool := decide (0 ≤ j)
def cAny (_ _ : Int) : Bool := true
def binop (op : BOp) (x y : W) (h : Hm) : R W := match op with
  | .add => addW x y h
  | .sub => intOp cAny (fun i j => i - j) x y h
  | .mul => mulW x y h
  | .fdiv => intOp cDiv (fun i j => i / j) x y h
  | .mod => intOp cMod (fun i j => i % j) x y h
  | .pow => intOp cPow (fun i j => i ^ j.toNat) x y h
  | .bor => intOp cAny Builtin.bitOr x y h
  | .band => intOp cAny Builtin.bitAnd x y h
  | .shl => intOp cPow (fun i j => i * 2 ^ j.toNat) x y h
  | .shr => intOp cShr (fun i j => i / 2 ^ j.toNat) x y h
def cmpI (p : Int → Int → Bool) (x y : W) (h : Hm) : R W := match x with
  | .int i => (match y with
    | .int j => .ok (.bl (p i j)) h
    | _ => .no)
  | _ => .no
def eqR (neg : Bool) (x y : W) (h : Hm) : R W := match eqW h x y with
  | some b => .ok (.bl (if neg then !b else b)) h
  | none => .no
def inW (h : Hm) (x y : W) : Option Bool := match y with
  | .str t => (match x with
    | .str [c] => some (decide (c ∈ t))
    | _ => none)
  | y => (match toD h DD x, toD h DD y with
    | some d, some (.lst ds) => some (ds.any fun z => eqD z d)
    | some d, some (.tup ds) => some (ds.any fun z => eqD z d)
    | _, _ => none)
def inR (neg : Bool) (x y : W) (h : Hm) : R W := match inW h x y with
  | some b => .ok (.bl (if neg then !b else b)) h
  | none => .no
def cmpop (op : COp) (x y : W) (h : Hm) : R W := match op with
  | .eq => eqR false x y h
  | .ne => eqR true x y h
  | .lt => cmpI (fun i j => decide (i < j)) x y h
  | .le => cmpI (fun i j => decide (i ≤ j)) x y h
  | .gt => cmpI (fun i j => decide (j < i)) x y h
  | .ge => cmpI (fun i j => decide (j ≤ i)) x y h
  | .in_ => inR false x y h
  | .nin => inR true x y h
def isNon : W → Bool
  | .non => true
  | _ => false

/-! ### items, slices, calls of what is built in -/
def ixN (n : Nat) (i : Int) : Option Nat := if 0 ≤ i then (if i < n then some i.toNat else none) else if -(n : Int) ≤ i then some (i + n).toNat else none
def atI {α : Type} (xs : List α) (i : Int) : Option α := (ixN xs.length i).bind fun j => xs[j]?
def retO (o : Option W) (h : Hm) : R W := match o with
  | some w => .ok w h
  | none => .no
def look {α : Type} (k : List Nat) : List (List Nat × α) → Option α
  | [] => none
  | (a, b) :: r => if a = k then some b else look k r
def ixL (xs : List W) (i : W) (h : Hm) : R W := match i with
  | .int j => retO (atI xs j) h
  | _ => .no
def ixD (kvs : List (List Nat × W)) (i : W) (h : Hm) : R W := match i with
  | .str k => retO (look k kvs) h
  | _ => .no
def ixS (s : List Nat) (i : W) (h : Hm) : R W := match i with
  | .int j => retO ((atI s j).map fun c => .str [c]) h
  | _ => .no
def ixR (x i : W) (h : Hm) : R W := match x with
  | .tup xs => ixL xs i h
  | .str s => ixS s i h
  | .ref n => (match h[n]? with
    | some (.lst xs) => ixL xs i h
    | some (.fro xs) => ixL xs i h
    | some (.dic kvs) => ixD kvs i h
    | _ => .no)
  | _ => .no
def sIx (n d : Nat) : Option Int → Nat
  | none => d
  | some v => if v < 0 then (v + (n : Int)).toNat else min v.toNat n
def cut {α : Type} (xs : List α) (lo hi : Option Int) : List α := (xs.drop (sIx xs.length 0 lo)).take (sIx xs.length xs.length hi - sIx xs.length 0 lo)
def slR (x : W) (lo hi : Option Int) (h : Hm) : R W := match x with
  | .tup xs => .ok (.tup (cut xs lo hi)) h
  | .str s => .ok (.str (cut s lo hi)) h
  | .ref n => (match h[n]? with
    | some (.lst xs) => newL (cut xs lo hi) h
    | some (.fro xs) => newL (cut xs lo hi) h
    | _ => .no)
  | _ => .no
/-- the kinds that isinstance asks for -/
inductive Ty where
  | bool | int | str | list | tuple
def Ty.ofBl : Ty → Bool
  | .bool => true
  | .int => true
  | _ => false
def Ty.ofInt : Ty → Bool
  | .int => true
  | _ => false
def Ty.ofStr : Ty → Bool
  | .str => true
  | _ => false
def Ty.ofTup : Ty → Bool
  | .tuple => true
  | _ => false
def Ty.ofLst : Ty → Bool
  | .list => true
  | _ => false
def isTy (h : Hm) (t : Ty) : W → Option Bool
  | .non => some false
  | .bl _ => some t.ofBl
  | .int _ => some t.ofInt
  | .str _ => some t.ofStr
  | .tup _ => some t.ofTup
  | .ref n => match h[n]? with
    | some (.lst _) => some t.ofLst
    | some (.fro _) => some t.ofLst
    | _ => none
inductive BI where
  | len | list | tuple | int | str | min | max | sum | all | any | isi (t : Ty)
def lenO (h : Hm) : W → Option Nat
  | .str s => some s.length
  | .tup xs => some xs.length
  | .ref n => match h[n]? with
    | some (.lst xs) => some xs.length
    | some (.fro xs) => some xs.length
    | _ => none
  | _ => none
def seqO (h : Hm) : W → Option (List W)
  | .tup xs => some xs
  | .ref n => lstAt h n
  | _ => none
def intsO : List W → Option (List Int)
  | [] => some []
  | .int i :: r => (intsO r).map (i :: ·)
  | _ => none
def blsO : List W → Option (List Bool)
  | [] => some []
  | .bl b :: r => (blsO r).map (b :: ·)
  | _ => none
def digits (n : Nat) : List Nat := (Nat.toDigits 10 n).map Char.toNat
def biR (b : BI) (ws : List W) (h : Hm) : R W := match ws with
  | [x] => (match b with
    | .len => (match lenO h x with
      | some n => .ok (.int n) h
      | none => .no)
    | .list => (match seqO h x with
      | some xs => newL xs h
      | none => .no)
    | .tuple => (match seqO h x with
      | some xs => .ok (.tup xs) h
      | none => .no)
    | .int => (match x with
      | .int i => .ok (.int i) h
      | .bl k => .ok (.int (if k then 1 else 0)) h
      | _ => .no)
    | .str => (match x with
      | .int i => if decide (0 ≤ i) && decide (i < 10000000000) then .ok (.str (digits i.toNat)) h else .no
      | _ => .no)
    | .sum => (match seqO h x with
      | some xs => (match x with
        | .ref _ => (match intsO xs with
          | some ns => .ok (.int ns.sum) h
          | none => .no)
        | _ => .no)
      | none => .no)
    | .all => (match x with
      | .ref n => (match (lstAt h n).bind blsO with
        | some bs => .ok (.bl (bs.all id)) h
        | none => .no)
      | _ => .no)
    | .any => (match x with
      | .ref n => (match (lstAt h n).bind blsO with
        | some bs => .ok (.bl (bs.any id)) h
        | none => .no)
      | _ => .no)
    | .isi t => (match isTy h t x with
      | some k => .ok (.bl k) h
      | none => .no)
    | _ => .no)
  | [x, y] => (match b, x, y with
    | .min, .int i, .int j => .ok (.int (if j < i then j else i)) h
    | .max, .int i, .int j => .ok (.int (if j > i then j else i)) h
    | _, _, _ => .no)
  | _ => .no
/-! ### methods of what is built in -/
inductive BM where
  | append | pop | popAt | extend | insert | split | upper | join | index
def splitW (sep : Nat) : List Nat → List (List Nat)
  | [] => [[]]
  | c :: r => if c = sep then [] :: splitW sep r else match splitW sep r with
    | x :: xs => (c :: x) :: xs
    | [] => [[c]]
def upC (c : Nat) : Nat := if 97 ≤ c ∧ c ≤ 122 then c - 32 else c
def ascii (s : List Nat) : Bool := s.all fun c => decide (c < 128)
def joinW (sep : List Nat) : List (List Nat) → List Nat
  | [] => []
  | [x] => x
  | x :: r => x ++ (sep ++ joinW sep r)
def strsO : List W → Option (List (List Nat))
  | [] => some []
  | .str s :: r => (strsO r).map (s :: ·)
  | _ => none
def joinSz (sep : List Nat) (xs : List (List Nat)) : Nat := (xs.map List.length).sum + sep.length * xs.length
section
variable {α : Type}
def arg0 (r : R α) (ws : List W) : R α := match ws with
  | [] => r
  | _ => .no
def arg1 (f : W → R α) (ws : List W) : R α := match ws with
  | [y] => f y
  | _ => .no
def strA (f : List Nat → R α) (x : W) : R α := match x with
  | .str s => f s
  | _ => .no
def intA (f : Int → R α) (x : W) : R α := match x with
  | .int s => f s
  | _ => .no
def refA (f : Nat → R α) (x : W) : R α := match x with
  | .ref n => f n
  | _ => .no
def lstA (h : Hm) (n : Nat) (f : List W → R α) : R α := match h[n]? with
  | some (.lst xs) => f xs
  | _ => .no
def optA {β : Type} (o : Option β) (f : β → R α) : R α := match o with
  | some b => f b
  | none => .no
def signA (f : Nat → R α) (s : List Nat) : R α := match s with
  | [c] => f c
  | _ => .no
def ifA (c : Bool) (r : R α) : R α := match c with
  | true => r
  | false => .no
end
def bmT (m : BM) (h : Hm) (x : W) : Bool := match m with
  | .split => (match x with
    | .str _ => true
    | _ => false)
  | .upper => (match x with
    | .str _ => true
    | _ => false)
  | .join => (match x with
    | .str _ => true
    | _ => false)
  | _ => (match x with
    | .ref n => (lstAt h n).isSome
    | _ => false)
def bmR (m : BM) (x : W) (ws : List W) (h : Hm) : R W := match m with
  | .append => refA (fun n => arg1 (fun y => lstA h n fun xs => ifA (decide (xs.length < SZ)) (.ok .non (h.set n (.lst (xs ++ [y]))))) ws) x
  | .pop => refA (fun n => arg0 (lstA h n fun xs => optA xs[xs.length - 1]? fun y => .ok y (h.set n (.lst xs.dropLast))) ws) x
  | .popAt => refA (fun n => arg1 (fun i => intA (fun i => lstA h n fun xs => optA (ixN xs.length i) fun k => optA xs[k]? fun y => .ok y (h.set n (.lst (xs.eraseIdx k)))) i) ws) x
  | .extend => refA (fun n => arg1 (fun y => refA (fun k => lstA h n fun xs => lstA h k fun ys => ifA (decide (xs.length + ys.length ≤ SZ)) (.ok .non (h.set n (.lst (xs ++ ys))))) y) ws) x
  | .split => strA (fun s => arg1 (fun y => strA (fun t => signA (fun c => ifA (decide (s.length + 2 ≤ SZ) && decide (c < 256)) (newL ((splitW c s).map .str) h)) t) y) ws) x
  | .upper => strA (fun s => arg0 (ifA (decide (s.length ≤ 5592405) && ascii s) (.ok (.str (s.map upC)) h)) ws) x
  | .join => strA (fun s => arg1 (fun y => refA (fun n => optA ((lstAt h n).bind strsO) fun ys => ifA (decide (joinSz s ys ≤ SZ)) (.ok (.str (joinW s ys)) h)) y) ws) x
  | _ => .no

/-! ### syntax -/
inductive Tg where
  | nm (i : Nat) | tp (is : List Nat)
mutual
inductive E where
  | v (i : Nat) | k (w : W) | g (i : Nat)
  | bin (op : BOp) (a b : E) | neg (a : E) | cmp (op : COp) (a b : E) | chain (op op' : COp) (a b c : E)
  | isN (a : E) | notN (a : E) | isB (neg b : Bool) (a : E)
  | and_ (a b : E) | or_ (a b : E) | not_ (a : E) | ite (t a b : E)
  | call (f : Nat) (as : Es) | mk (c : Nat) (as : Es) | meth (m : Nat) (o : E) (as : Es) | fld (o : E) (f : Nat)
  | bi (b : BI) (as : Es) | bm (m : BM) (o : E) (as : Es)
  | ix (a i : E) | sl (a : E) (lo hi : Eo)
  | lst (as : Es) | tup (as : Es) | dic (ks : List (List Nat)) (vs : Es)
  | lc (e : E) (t : Tg) (it : It) (c : Eo) (own : List Nat)
inductive Es where
  | nil | cons (a : E) (r : Es)
inductive Eo where
  | none | some (a : E)
inductive It where
  | val (a : E) | r1 (a : E) | r2 (a b : E) | r3 (a b c : E) | zip (a b : E) | enum (a : E)
end
mutual
inductive S where
  | asg (t : Tg) (e : E) | setIx (o i e : E) | setF (o : E) (f : Nat) (e : E) | augF (o : E) (f : Nat) (e : E) | augV (i : Nat) (e : E)
  | ex (e : E) | ret (e : E) | retN | if_ (t : E) (a b : Ss) | for_ (t : Tg) (it : It) (b : Ss) | while_ (t : E) (b : Ss)
  | brk | cont | pass | nev | raise_ (c : Nat) (as : Es) | try_ (b : Ss) (c : Nat) (i : Option Nat) (s : Ss)
inductive Ss where
  | nil | cons (s : S) (r : Ss)
end
structure FnD where
  np : Nat
  nl : Nat
  body : Ss
/-- functions, methods (class, name), constants of the top, the fields of a class -/
structure Prog where
  fn : Nat → Option FnD
  meth : Nat → Nat → Option Nat
  init : Nat → Option Nat
  glob : Nat → Option W
  flds : Nat → List Nat

/-! ### running -/
inductive Fl where
  | nx (σ : Env) | ct (σ : Env) | bk (σ : Env) | rt (w : W)
inductive Src where
  | pure (xs : List W) | live (n : Nat)
def setAll : Env → List Nat → List W → Env
  | σ, i :: is, w :: ws => setAll (σ.set i (some w)) is ws
  | σ, _, _ => σ
def asgT (t : Tg) (w : W) (σ : Env) (h : Hm) : Option Env := match t with
  | .nm i => some (σ.set i (some w))
  | .tp is => (match seqO h w with
    | some ws => if ws.length = is.length then some (setAll σ is ws) else none
    | none => none)
def wipe : Env → List Nat → Env
  | σ, [] => σ
  | σ, i :: is => (wipe σ is).set i none
def getV (σ : Env) (i : Nat) (h : Hm) : R W := match σ[i]? with
  | some (some w) => .ok w h
  | _ => .no
def rangeW (lo : Int) (n : Nat) : List W := (List.range n).map fun i => .int (lo + (i : Nat))
def rangeC (lo c : Int) (n : Nat) : List W := (List.range n).map fun i => .int (lo + (i : Nat) * c)
section
variable (t : Tg) (body : Env → Hm → R Fl)
def forP : List W → Env → Hm → R Fl
  | [], σ, h => .ok (.nx σ) h
  | x :: xs, σ, h => match asgT t x σ h with
    | none => .no
    | some σ1 => match body σ1 h with
      | .ok (.nx σ2) h2 => forP xs σ2 h2
      | .ok (.ct σ2) h2 => forP xs σ2 h2
      | .ok (.bk σ2) h2 => .ok (.nx σ2) h2
      | r => r
def forL (n : Nat) : Nat → Nat → Env → Hm → R Fl
  | 0, _, _, _ => .no
  | f + 1, i, σ, h => match lstAt h n with
    | none => .no
    | some xs => match xs[i]? with
      | none => .ok (.nx σ) h
      | some x => match asgT t x σ h with
        | none => .no
        | some σ1 => match body σ1 h with
          | .ok (.nx σ2) h2 => forL n f (i + 1) σ2 h2
          | .ok (.ct σ2) h2 => forL n f (i + 1) σ2 h2
          | .ok (.bk σ2) h2 => .ok (.nx σ2) h2
          | r => r
def whileF (c : Env → Hm → R Bool) : Nat → Env → Hm → R Fl
  | 0, _, _ => .no
  | f + 1, σ, h => (c σ h).bind fun b h1 => match b with
    | false => .ok (.nx σ) h1
    | true => match body σ h1 with
      | .ok (.nx σ2) h2 => whileF c f σ2 h2
      | .ok (.ct σ2) h2 => whileF c f σ2 h2
      | .ok (.bk σ2) h2 => .ok (.nx σ2) h2
      | r => r
end
section
variable (t : Tg) (c : Env → Hm → R Bool) (e : Env → Hm → R W) (σ : Env)
def lcP : List W → List W → Hm → R (List W)
  | [], acc, h => .ok acc h
  | x :: xs, acc, h => match asgT t x σ h with
    | none => .no
    | some σ1 => (c σ1 h).bind fun b h1 => match b with
      | false => lcP xs acc h1
      | true => (e σ1 h1).bind fun y h2 => if acc.length < SZ then lcP xs (acc ++ [y]) h2 else .no
def lcL (n : Nat) : Nat → Nat → List W → Hm → R (List W)
  | 0, _, _, _ => .no
  | f + 1, i, acc, h => match lstAt h n with
    | none => .no
    | some xs => match xs[i]? with
      | none => .ok acc h
      | some x => match asgT t x σ h with
        | none => .no
        | some σ1 => (c σ1 h).bind fun b h1 => match b with
          | false => lcL n f (i + 1) acc h1
          | true => (e σ1 h1).bind fun y h2 => if acc.length < SZ then lcL n f (i + 1) (acc ++ [y]) h2 else .no
end
def fuelL (h : Hm) (n : Nat) : Nat := match lstAt h n with
  | some xs => xs.length + 1
  | none => 0
/-- turns of a while -/
def WF : Nat := 1000000
def insAt (h : Hm) : W → Option (Nat × Nat × List (Nat × W))
  | .ref n => match h[n]? with
    | some (.ins c fs) => some (n, c, fs)
    | _ => none
  | _ => none
def clsAt (h : Hm) (x : W) : Option Nat := (insAt h x).map (·.2.1)
def lookF (f : Nat) : List (Nat × W) → Option W
  | [] => none
  | (g, w) :: r => if g = f then some w else lookF f r
def putF (f : Nat) (w : W) : List (Nat × W) → List (Nat × W)
  | [] => [(f, w)]
  | (g, x) :: r => if g = f then (g, w) :: r else (g, x) :: putF f w r
def brB {α : Type} (k : Bool) (a b : R α) : R α := match k with
  | true => a
  | false => b
def isBl (neg k : Bool) (x : W) (h : Hm) : R W := match x with
  | .bl b => .ok (.bl (if neg then b != k else b == k)) h
  | _ => .no
def chK (op' : COp) (y : W) (mc : Hm → R W) (r : W) (h : Hm) : R W := match r with
  | .bl true => (mc h).bind fun z h4 => cmpop op' y z h4
  | .bl false => .ok (.bl false) h
  | _ => .no
def negR (x : W) (h : Hm) : R W := intA (fun i => .ok (.int (-i)) h) x
def augI (x y : W) (h : Hm) : R W := intA (fun i => intA (fun j => .ok (.int (i + j)) h) y) x
def asgR (t : Tg) (σ : Env) (w : W) (h : Hm) : R Fl := optA (asgT t w σ h) fun σ1 => .ok (.nx σ1) h
def seqF (k : Env → Hm → R Fl) : Fl → Hm → R Fl
  | .nx σ, h => k σ h
  | f, h => .ok f h
def lcS (t : Tg) (c : Env → Hm → R Bool) (e : Env → Hm → R W) (σ : Env) (s : Src) (h : Hm) : R (List W) := match s with
  | .pure xs => lcP t c e σ xs [] h
  | .live n => lcL t c e σ n (fuelL h n) 0 [] h
def forS (t : Tg) (body : Env → Hm → R Fl) (σ : Env) (s : Src) (h : Hm) : R Fl := match s with
  | .pure xs => forP t body xs σ h
  | .live n => forL t body n (fuelL h n) 0 σ h
section
variable (P : Prog)
def methF (m : Nat) (x : W) (h : Hm) : Option Nat := match insAt h x with
  | some (_, c, fs) => (match lookF m fs with
    | none => P.meth c m
    | some _ => none)
  | none => none
def fldR (f : Nat) (x : W) (h : Hm) : R W := optA (insAt h x) fun z => ifA ((P.flds z.2.1).contains f) (retO (lookF f z.2.2) h)
def setFR (f : Nat) (x y : W) (h : Hm) : R Unit := optA (insAt h x) fun z => ifA ((P.flds z.2.1).contains f && decide (z.2.2.length < 100)) (.ok () (h.set z.1 (.ins z.2.1 (putF f y z.2.2))))
end
def setIxR (o i y : W) (h : Hm) : R Unit := refA (fun n => lstA h n fun xs => intA (fun k => optA (ixN xs.length k) fun j => .ok () (h.set n (.lst (xs.set j y)))) i) o
def srcV (w : W) (h : Hm) : R Src := match w with
  | .tup xs => .ok (.pure xs) h
  | .str s => .ok (.pure (s.map fun c => .str [c])) h
  | .ref n => (match lstAt h n with
    | some _ => .ok (.live n) h
    | none => .no)
  | _ => .no
def srcR1 (w : W) (h : Hm) : R Src := match w with
  | .int j => if in62 j then .ok (.pure (rangeW 0 j.toNat)) h else .no
  | _ => .no
def srcR2 (x y : W) (h : Hm) : R Src := match x, y with
  | .int i, .int j => if in62 i && in62 j then .ok (.pure (rangeW i (j - i).toNat)) h else .no
  | _, _ => .no
def mkDic : List (List Nat) → List W → List (List Nat × W)
  | k :: ks, w :: ws => (k, w) :: mkDic ks ws
  | _, _ => []
section
variable (P : Prog) (cl : Nat → List W → Hm → R W)
mutual
def evE : E → Env → Hm → R W
  | .v i, σ, h => getV σ i h
  | .k w, _, h => .ok w h
  | .g i, _, h => retO (P.glob i) h
  | .bin op a b, σ, h => (evE a σ h).bind fun x h1 => (evE b σ h1).bind fun y h2 => binop op x y h2
  | .neg a, σ, h => (evE a σ h).bind fun x h1 => negR x h1
  | .cmp op a b, σ, h => (evE a σ h).bind fun x h1 => (evE b σ h1).bind fun y h2 => cmpop op x y h2
  | .chain op op' a b c, σ, h => (evE a σ h).bind fun x h1 => (evE b σ h1).bind fun y h2 => (cmpop op x y h2).bind fun r h3 => chK op' y (fun h => evE c σ h) r h3
  | .isN a, σ, h => (evE a σ h).bind fun x h1 => .ok (.bl (isNon x)) h1
  | .notN a, σ, h => (evE a σ h).bind fun x h1 => .ok (.bl (!isNon x)) h1
  | .isB neg k a, σ, h => (evE a σ h).bind fun x h1 => isBl neg k x h1
  | .and_ a b, σ, h => (evE a σ h).bind fun x h1 => (truR x h1).bind fun k h2 => brB k (evE b σ h2) (.ok x h2)
  | .or_ a b, σ, h => (evE a σ h).bind fun x h1 => (truR x h1).bind fun k h2 => brB k (.ok x h2) (evE b σ h2)
  | .not_ a, σ, h => (evE a σ h).bind fun x h1 => (truR x h1).bind fun k h2 => .ok (.bl (!k)) h2
  | .ite t a b, σ, h => (evE t σ h).bind fun x h1 => (truR x h1).bind fun k h2 => brB k (evE a σ h2) (evE b σ h2)
  | .call f as, σ, h => (evEs as σ h).bind fun ws h1 => cl f ws h1
  | .mk c as, σ, h => (evEs as σ h).bind fun ws h1 => optA (P.init c) fun f => (cl f (.ref h1.length :: ws) (h1 ++ [.ins c []])).bind fun v h2 => ifA (isNon v) (.ok (.ref h1.length) h2)
  | .meth m o as, σ, h => (evE o σ h).bind fun x h1 => optA (methF P m x h1) fun f => (evEs as σ h1).bind fun ws h2 => cl f (x :: ws) h2
  | .fld o f, σ, h => (evE o σ h).bind fun x h1 => fldR P f x h1
  | .bi b as, σ, h => (evEs as σ h).bind fun ws h1 => biR b ws h1
  | .bm m o as, σ, h => (evE o σ h).bind fun x h1 => ifA (bmT m h1 x) ((evEs as σ h1).bind fun ws h2 => bmR m x ws h2)
  | .ix a i, σ, h => (evE a σ h).bind fun x h1 => (evE i σ h1).bind fun y h2 => ixR x y h2
  | .sl a lo hi, σ, h => (evE a σ h).bind fun x h1 => (evEo lo σ h1).bind fun l h2 => (evEo hi σ h2).bind fun u h3 => slR x l u h3
  | .lst as, σ, h => (evEs as σ h).bind fun ws h1 => newL ws h1
  | .tup as, σ, h => (evEs as σ h).bind fun ws h1 => .ok (.tup ws) h1
  | .dic ks vs, σ, h => (evEs vs σ h).bind fun ws h1 => .ok (.ref h1.length) (h1 ++ [.dic (mkDic ks ws)])
  | .lc e t it c own, σ, h => (evIt it σ h).bind fun s h1 => (lcS t (fun σ h => evC c σ h) (fun σ h => evE e σ h) (wipe σ own) s h1).bind fun ws h2 => newL ws h2
def evEs : Es → Env → Hm → R (List W)
  | .nil, _, h => .ok [] h
  | .cons a r, σ, h => (evE a σ h).bind fun x h1 => (evEs r σ h1).bind fun xs h2 => .ok (x :: xs) h2
def evEo : Eo → Env → Hm → R (Option Int)
  | .none, _, h => .ok none h
  | .some a, σ, h => (evE a σ h).bind fun x h1 => intA (fun i => .ok (some i) h1) x
def evC : Eo → Env → Hm → R Bool
  | .none, _, h => .ok true h
  | .some a, σ, h => (evE a σ h).bind fun x h1 => truR x h1
def evIt : It → Env → Hm → R Src
  | .val a, σ, h => (evE a σ h).bind fun x h1 => srcV x h1
  | .r1 a, σ, h => (evE a σ h).bind fun x h1 => srcR1 x h1
  | .r2 a b, σ, h => (evE a σ h).bind fun x h1 => (evE b σ h1).bind fun y h2 => srcR2 x y h2
  | _, _, _ => .no
end
def evT (e : E) (σ : Env) (h : Hm) : R Bool := (evE P cl e σ h).bind fun x h1 => truR x h1
mutual
def evS : S → Env → Hm → R Fl
  | .asg t e, σ, h => (evE P cl e σ h).bind fun w h1 => asgR t σ w h1
  | .setIx o i e, σ, h => (evE P cl e σ h).bind fun y h1 => (evE P cl o σ h1).bind fun x h2 => (evE P cl i σ h2).bind fun j h3 => (setIxR x j y h3).bind fun _ h4 => .ok (.nx σ) h4
  | .setF o f e, σ, h => (evE P cl e σ h).bind fun y h1 => (evE P cl o σ h1).bind fun x h2 => (setFR P f x y h2).bind fun _ h3 => .ok (.nx σ) h3
  | .augF o f e, σ, h => (evE P cl o σ h).bind fun x h1 => (fldR P f x h1).bind fun z h2 => (evE P cl e σ h2).bind fun y h3 => ifA (clsAt h1 x == clsAt h3 x) ((augI z y h3).bind fun r h4 => (setFR P f x r h4).bind fun _ h5 => .ok (.nx σ) h5)
  | .augV i e, σ, h => (getV σ i h).bind fun x h1 => (evE P cl e σ h1).bind fun y h2 => (augI x y h2).bind fun z h3 => .ok (.nx (σ.set i (some z))) h3
  | .ex e, σ, h => (evE P cl e σ h).bind fun _ h1 => .ok (.nx σ) h1
  | .ret e, σ, h => (evE P cl e σ h).bind fun w h1 => .ok (.rt w) h1
  | .retN, _, h => .ok (.rt .non) h
  | .if_ t a b, σ, h => (evT P cl t σ h).bind fun k h1 => brB k (evSs a σ h1) (evSs b σ h1)
  | .for_ t it b, σ, h => (evIt P cl it σ h).bind fun s h1 => forS t (fun σ h => evSs b σ h) σ s h1
  | .while_ c b, σ, h => whileF (fun σ h => evSs b σ h) (fun σ h => evT P cl c σ h) WF σ h
  | .brk, σ, h => .ok (.bk σ) h
  | .cont, σ, h => .ok (.ct σ) h
  | .pass, σ, h => .ok (.nx σ) h
  | _, _, _ => .no
def evSs : Ss → Env → Hm → R Fl
  | .nil, σ, h => .ok (.nx σ) h
  | .cons s r, σ, h => (evS s σ h).bind fun f h1 => seqF (fun σ h => evSs r σ h) f h1
end
end
def fin (r : R Fl) : R W := r.bind fun f h => match f with
  | .nx _ => .ok .non h
  | .rt w => .ok w h
  | _ => .no
def start (np nl : Nat) (ws : List W) : Env := ws.map some ++ List.replicate (nl - np) none
def run (P : Prog) : Nat → Nat → List W → Hm → R W
  | 0, _, _, _ => .no
  | k + 1, f, ws, h => match P.fn f with
    | some d => if ws.length = d.np then fin (evSs P (run P k) d.body (start d.np d.nl ws) h) else .no
    | none => .no
end Py
end
section
/-! PyB: what the interpreter's values and objects stand for in the layer's heap. -/
namespace Py
open PySem PySem.Spec PyProof.Rows L2

/-- the module's written part, the classes' addresses, the fields' names -/
structure Lk where
  K : PySem.W.Frag
  ca : Nat → Addr
  fn : Nat → Str
  inj : ∀ a b, fn a = fn b → a = b

mutual
def Rel (L : Lk) (ρ : List Addr) (H : Hp) : W → V → Prop
  | .non, v => v = .non
  | .bl b, v => v = .bl b
  | .int i, v => v = .int i
  | .str s, v => (s.length ≤ SZ ∧ ∀ c ∈ s, c < 1114112) ∧ v = .str ⟨s.toArray⟩
  | .tup xs, v => ∃ a vs, v = .ref a ∧ SqT L.K H a vs ∧ xs.length ≤ SZ ∧ Rels L ρ H xs vs
  | .ref n, v => ∃ a, ρ[n]? = some a ∧ v = .ref a
def Rels (L : Lk) (ρ : List Addr) (H : Hp) : List W → List V → Prop
  | [], vs => vs = []
  | x :: xs, vs => ∃ v r, vs = v :: r ∧ Rel L ρ H x v ∧ Rels L ρ H xs r
end
section
variable {L : Lk} {ρ ρ' : List Addr} {H H' : Hp}
theorem Rels.nil : Rels L ρ H [] [] := rfl
theorem Rels.cons {x : W} {v : V} {xs : List W} {vs : List V} (h : Rel L ρ H x v) (t : Rels L ρ H xs vs) : Rels L ρ H (x :: xs) (v :: vs) := ⟨v, vs, rfl, h, t⟩
theorem Rels.length : ∀ {xs : List W} {vs : List V}, Rels L ρ H xs vs → xs.length = vs.length
  | [], vs, h => by
    have e : vs = [] := h
    rw [e]
    rfl
  | _ :: _, _, ⟨_, _, e, _, t⟩ => by rw [e, List.length_cons, List.length_cons, Rels.length t]
theorem Rels.get : ∀ {xs : List W} {vs : List V} {i : Nat} {x : W}, Rels L ρ H xs vs → xs[i]? = some x → ∃ v, vs[i]? = some v ∧ Rel L ρ H x v
  | [], _, i, _, _, e => by simp at e
  | y :: ys, _, 0, x, ⟨v, r, e1, h, t⟩, e => by
    simp at e
    subst e
    exact ⟨v, by rw [e1]; rfl, h⟩
  | y :: ys, _, i + 1, x, ⟨v, r, e1, h, t⟩, e => by
    obtain ⟨u, e2, h2⟩ := Rels.get t (i := i) (by simpa using e)
    exact ⟨u, by rw [e1]; simpa using e2, h2⟩
theorem Rels.of_get : ∀ {xs : List W} {vs : List V}, xs.length = vs.length → (∀ (i : Nat) x v, xs[i]? = some x → vs[i]? = some v → Rel L ρ H x v) → Rels L ρ H xs vs
  | [], [], _, _ => rfl
  | [], _ :: _, e, _ => by simp at e
  | _ :: _, [], e, _ => by simp at e
  | x :: xs, v :: vs, e, h => ⟨v, vs, rfl, h 0 x v rfl rfl, Rels.of_get (by simpa using e) fun i y u e1 e2 => h (i + 1) y u (by simpa using e1) (by simpa using e2)⟩
theorem Rels.none_of {xs : List W} {vs : List V} (r : Rels L ρ H xs vs) {i : Nat} (e : xs[i]? = none) : vs[i]? = none := by
  rw [List.getElem?_eq_none_iff] at e ⊢
  rw [← r.length]
  exact e
theorem Rels.get' {xs : List W} {vs : List V} {i : Nat} {x : W} {v : V} (r : Rels L ρ H xs vs) (e : xs[i]? = some x) (e' : vs[i]? = some v) : Rel L ρ H x v := by
  obtain ⟨u, e2, h⟩ := r.get e
  rw [e'] at e2
  cases e2
  exact h
theorem Rels.append : ∀ {xs ys : List W} {vs us : List V}, Rels L ρ H xs vs → Rels L ρ H ys us → Rels L ρ H (xs ++ ys) (vs ++ us)
  | [], ys, _, us, h, k => by
    rw [show _ = [] from h]
    exact k
  | x :: xs, ys, _, us, ⟨v, r, e, h, t⟩, k => by
    rw [e]
    exact ⟨v, r ++ us, rfl, h, Rels.append t k⟩
theorem Rels.take {xs : List W} {vs : List V} (r : Rels L ρ H xs vs) (n : Nat) : Rels L ρ H (xs.take n) (vs.take n) := by
  refine Rels.of_get (by rw [List.length_take, List.length_take, r.length]) fun i x v e1 e2 => ?_
  rw [List.getElem?_take] at e1 e2
  by_cases h : i < n
  · rw [if_pos h] at e1 e2
    exact r.get' e1 e2
  · rw [if_neg h] at e1
    cases e1
theorem Rels.drop {xs : List W} {vs : List V} (r : Rels L ρ H xs vs) (n : Nat) : Rels L ρ H (xs.drop n) (vs.drop n) := by
  refine Rels.of_get (by rw [List.length_drop, List.length_drop, r.length]) fun i x v e1 e2 => ?_
  rw [List.getElem?_drop] at e1 e2
  exact r.get' e1 e2
theorem Rels.set {xs : List W} {vs : List V} (r : Rels L ρ H xs vs) {x : W} {v : V} (h : Rel L ρ H x v) (n : Nat) : Rels L ρ H (xs.set n x) (vs.set n v) := by
  refine Rels.of_get (by rw [List.length_set, List.length_set, r.length]) fun i y u e1 e2 => ?_
  rw [List.getElem?_set] at e1 e2
  by_cases hn : n = i
  · subst hn
    rw [if_pos rfl] at e1 e2
    rw [r.length] at e1
    split at e1
    · rename_i hl
      rw [if_pos hl] at e2
      cases e1
      cases e2
      exact h
    · cases e1
  · rw [if_neg hn] at e1 e2
    exact r.get' e1 e2
theorem Rels.dropLast {xs : List W} {vs : List V} (r : Rels L ρ H xs vs) : Rels L ρ H xs.dropLast vs.dropLast := by
  rw [List.dropLast_eq_take, List.dropLast_eq_take, r.length]
  exact r.take _
theorem Rels.eraseIdx {xs : List W} {vs : List V} (r : Rels L ρ H xs vs) (n : Nat) : Rels L ρ H (xs.eraseIdx n) (vs.eraseIdx n) := by
  rw [List.eraseIdx_eq_take_drop_succ, List.eraseIdx_eq_take_drop_succ]
  exact (r.take n).append (r.drop (n + 1))
theorem Rels.one {x : W} {vs : List V} (r : Rels L ρ H [x] vs) : ∃ v, vs = [v] ∧ Rel L ρ H x v := by
  obtain ⟨v, t, e, h, k⟩ := r
  rw [show t = [] from k] at e
  exact ⟨v, e, h⟩
theorem Rels.two {x y : W} {vs : List V} (r : Rels L ρ H [x, y] vs) : ∃ v u, vs = [v, u] ∧ Rel L ρ H x v ∧ Rel L ρ H y u := by
  obtain ⟨v, t, e, h, k⟩ := r
  obtain ⟨u, e2, h2⟩ := Rels.one k
  rw [e2] at e
  exact ⟨v, u, e, h, h2⟩
theorem Rels.rep {xs : List W} {vs : List V} (r : Rels L ρ H xs vs) : ∀ k : Nat, Rels L ρ H (Py.rep xs k) (List.replicate k vs).flatten
  | 0 => rfl
  | k + 1 => by
    unfold Py.rep
    rw [List.replicate_succ, List.replicate_succ, List.flatten_cons, List.flatten_cons]
    exact r.append (Rels.rep r k)
theorem Rels.isEmpty {xs : List W} {vs : List V} (r : Rels L ρ H xs vs) : xs.isEmpty = vs.isEmpty := by
  have := r.length
  cases xs <;> cases vs <;> first | rfl | (simp at this)

/-! ### objects -/
def FldR (L : Lk) (ρ : List Addr) (H : Hp) : List (Nat × W) → List (Str × V) → Prop
  | [], vs => vs = []
  | x :: xs, vs => ∃ v r, vs = v :: r ∧ v.1 = L.fn x.1 ∧ Rel L ρ H x.2 v.2 ∧ FldR L ρ H xs r
def DicR (L : Lk) (ρ : List Addr) (H : Hp) : List (List Nat × W) → List (L2.Key × V) → Prop
  | [], vs => vs = []
  | x :: xs, vs => ∃ v r, vs = v :: r ∧ v.1 = Sum.inr ⟨x.1.toArray⟩ ∧ Rel L ρ H x.2 v.2 ∧ DicR L ρ H xs r
def ObjR (L : Lk) (ρ : List Addr) (H : Hp) (o : O) (a : Addr) : Prop := match o with
  | .lst xs => ∃ vs, H a = some (.lst vs) ∧ xs.length ≤ SZ ∧ Rels L ρ H xs vs
  | .fro xs => ∃ ob vs, H a = some (.frz ob (.lst vs)) ∧ xs.length ≤ SZ ∧ Rels L ρ H xs vs
  | .dic kvs => ∃ dvs, H a = some (.dK dvs) ∧ DicR L ρ H kvs dvs
  | .ins c fs => ∃ dx fvs, H a = some (.ins (L.ca c) dx fvs) ∧ FldR L ρ H fs fvs
structure RelH (L : Lk) (ρ : List Addr) (H : Hp) (h : Hm) : Prop where
  len : ρ.length = h.length
  nd : ρ.Nodup
  obj : ∀ (n : Nat) (o : O) (a : Addr), h[n]? = some o → ρ[n]? = some a → ObjR L ρ H o a
/-- H' behind H: new objects, changed ones of ρ alone -/
structure Ext (ρ : List Addr) (H : Hp) (ρ' : List Addr) (H' : Hp) : Prop where
  pre : ∃ t, ρ' = ρ ++ t
  frame : ∀ (p : Addr) (o : HO), H p = some o → p ∉ ρ → H' p = some o ∧ p ∉ ρ'
theorem Ext.refl : Ext ρ H ρ H := ⟨⟨[], by simp⟩, fun _ _ h n => ⟨h, n⟩⟩
theorem Ext.trans {ρ1 ρ2 : List Addr} {H1 H2 : Hp} (a : Ext ρ H ρ1 H1) (b : Ext ρ1 H1 ρ2 H2) : Ext ρ H ρ2 H2 := by
  obtain ⟨t, e⟩ := a.pre
  obtain ⟨u, e'⟩ := b.pre
  exact ⟨⟨t ++ u, by rw [e', e, List.append_assoc]⟩, fun p o h n => by
    obtain ⟨h1, n1⟩ := a.frame p o h n
    exact b.frame p o h1 n1⟩
theorem Ext.get (a : Ext ρ H ρ' H') {n : Nat} {x : Addr} (e : ρ[n]? = some x) : ρ'[n]? = some x := by
  obtain ⟨t, e'⟩ := a.pre
  rw [e', List.getElem?_append_left]
  · exact e
  · exact (List.getElem?_eq_some_iff.mp e).1
theorem RelH.at {h : Hm} (r : RelH L ρ H h) {n : Nat} {o : O} (e : h[n]? = some o) : ∃ a, ρ[n]? = some a ∧ ObjR L ρ H o a := by
  have hl : n < ρ.length := by
    rw [r.len]
    exact (List.getElem?_eq_some_iff.mp e).1
  exact ⟨ρ[n], by simp [hl], r.obj n o _ e (by simp [hl])⟩
theorem ObjR.some {o : O} {a : Addr} (r : ObjR L ρ H o a) : ∃ u, H a = some u ∧ (∀ vs, u ≠ .tup vs) ∧ ∀ ob vs, u ≠ .frz ob (.tup vs) := by
  cases o with
  | lst xs =>
    obtain ⟨vs, e, _⟩ := r
    exact ⟨_, e, fun _ q => (by cases q), fun _ _ q => (by cases q)⟩
  | fro xs =>
    obtain ⟨ob, vs, e, _⟩ := r
    exact ⟨_, e, fun _ q => (by cases q), fun _ _ q => (by cases q)⟩
  | dic kvs =>
    obtain ⟨vs, e, _⟩ := r
    exact ⟨_, e, fun _ q => (by cases q), fun _ _ q => (by cases q)⟩
  | ins c fs =>
    obtain ⟨dx, vs, e, _⟩ := r
    exact ⟨_, e, fun _ q => (by cases q), fun _ _ q => (by cases q)⟩
theorem RelH.mem {h : Hm} (r : RelH L ρ H h) {a : Addr} (m : a ∈ ρ) : ∃ u, H a = some u ∧ (∀ vs, u ≠ .tup vs) ∧ ∀ ob vs, u ≠ .frz ob (.tup vs) := by
  obtain ⟨n, hn, e⟩ := List.mem_iff_getElem.mp m
  have hn' : n < h.length := by
    rw [← r.len]
    exact hn
  exact (r.obj n h[n] a (by simp [hn']) (by simp [hn, e])).some
theorem RelH.fresh {h : Hm} (r : RelH L ρ H h) {a : Addr} (e : H a = none) : a ∉ ρ := fun m => by
  obtain ⟨u, e', _⟩ := r.mem m
  rw [e] at e'
  cases e'
theorem RelH.tupOut {h : Hm} (r : RelH L ρ H h) {a : Addr} {vs : List V} (e : Rd H a (.tup vs)) : a ∉ ρ := fun m => by
  obtain ⟨u, e', n1, n2⟩ := r.mem m
  rcases e with e | ⟨ob, e⟩
  · rw [e] at e'
    cases e'
    exact n1 _ rfl
  · rw [e] at e'
    cases e'
    exact n2 _ _ rfl
theorem sqt_ext {h : Hm} {a : Addr} {vs : List V} (e : Ext ρ H ρ' H') (r : RelH L ρ H h) (q : SqT L.K H a vs) : SqT L.K H' a vs := by
  rcases q with q | q
  · have n := r.tupOut q
    rcases q with q | ⟨ob, q⟩
    · exact .inl (.inl (e.frame _ _ q n).1)
    · exact .inl (.inr ⟨ob, (e.frame _ _ q n).1⟩)
  · exact .inr q
mutual
theorem Rel.mono {h : Hm} (e : Ext ρ H ρ' H') (r : RelH L ρ H h) : ∀ {w : W} {v : V}, Rel L ρ H w v → Rel L ρ' H' w v
  | .non, _, q => q
  | .bl _, _, q => q
  | .int _, _, q => q
  | .str _, _, q => q
  | .tup _, _, ⟨a, vs, e1, q, z, rs⟩ => ⟨a, vs, e1, sqt_ext e r q, z, Rels.mono e r rs⟩
  | .ref _, _, ⟨a, q, e1⟩ => ⟨a, e.get q, e1⟩
theorem Rels.mono {h : Hm} (e : Ext ρ H ρ' H') (r : RelH L ρ H h) : ∀ {ws : List W} {vs : List V}, Rels L ρ H ws vs → Rels L ρ' H' ws vs
  | [], _, q => q
  | _ :: _, _, ⟨v, t, e1, q, rs⟩ => ⟨v, t, e1, Rel.mono e r q, Rels.mono e r rs⟩
end
theorem FldR.mono {h : Hm} (e : Ext ρ H ρ' H') (r : RelH L ρ H h) : ∀ {ws : List (Nat × W)} {vs : List (Str × V)}, FldR L ρ H ws vs → FldR L ρ' H' ws vs
  | [], _, q => q
  | _ :: _, _, ⟨v, t, e1, e2, q, rs⟩ => ⟨v, t, e1, e2, q.mono e r, FldR.mono e r rs⟩
theorem DicR.mono {h : Hm} (e : Ext ρ H ρ' H') (r : RelH L ρ H h) : ∀ {ws : List (List Nat × W)} {vs : List (L2.Key × V)}, DicR L ρ H ws vs → DicR L ρ' H' ws vs
  | [], _, q => q
  | _ :: _, _, ⟨v, t, e1, e2, q, rs⟩ => ⟨v, t, e1, e2, q.mono e r, DicR.mono e r rs⟩
theorem ObjR.mono {h : Hm} {o : O} {a : Addr} (e : Ext ρ H ρ' H') (r : RelH L ρ H h) (ha : H' a = H a) (q : ObjR L ρ H o a) : ObjR L ρ' H' o a := by
  cases o with
  | lst xs =>
    obtain ⟨vs, e1, z, rs⟩ := q
    exact ⟨vs, ha.trans e1, z, rs.mono e r⟩
  | fro xs =>
    obtain ⟨ob, vs, e1, z, rs⟩ := q
    exact ⟨ob, vs, ha.trans e1, z, rs.mono e r⟩
  | dic kvs =>
    obtain ⟨vs, e1, rs⟩ := q
    exact ⟨vs, ha.trans e1, rs.mono e r⟩
  | ins c fs =>
    obtain ⟨dx, vs, e1, rs⟩ := q
    exact ⟨dx, vs, ha.trans e1, rs.mono e r⟩

/-! ### steps of the heap -/
/-- a new object that is one of ours -/
theorem ext_new {h : Hm} (r : RelH L ρ H h) {p : Addr} {u : HO} (hp : H p = none) : Ext ρ H (ρ ++ [p]) (upd H p u) :=
  ⟨⟨[p], rfl⟩, fun q o e n => by
    have hq : q ≠ p := ne_of_none e hp
    exact ⟨by rw [upd_ne hq]; exact e, by simp [n, hq]⟩⟩
theorem RelH.new {h : Hm} (r : RelH L ρ H h) {p : Addr} {u : HO} {o : O} (hp : H p = none) (ho : ObjR L (ρ ++ [p]) (upd H p u) o p) : RelH L (ρ ++ [p]) (upd H p u) (h ++ [o]) := by
  have hf := r.fresh hp
  refine ⟨by simp [r.len], ?_, fun n o' a e1 e2 => ?_⟩
  · rw [List.nodup_append]
    refine ⟨r.nd, by simp, fun x hx y hy => ?_⟩
    have : y = p := by simpa using hy
    subst this
    rintro rfl
    exact hf hx
  · by_cases hn : n < h.length
    · rw [List.getElem?_append_left hn] at e1
      rw [List.getElem?_append_left (by rw [r.len]; exact hn)] at e2
      have hne : a ≠ p := by
        rintro rfl
        exact hf (List.mem_of_getElem? e2)
      exact (r.obj n o' a e1 e2).mono (ext_new r hp) r (upd_ne hne)
    · have hn' : n = h.length := by
        have := (List.getElem?_eq_some_iff.mp e1).1
        simp at this
        omega
      subst hn'
      rw [List.getElem?_append_right (Nat.le_refl _)] at e1
      rw [List.getElem?_append_right (by rw [r.len]; exact Nat.le_refl _)] at e2
      simp [r.len] at e1 e2
      subst e1 e2
      exact ho
theorem new_at {h : Hm} (r : RelH L ρ H h) {p : Addr} : (ρ ++ [p])[h.length]? = some p := by
  rw [← r.len]
  simp
/-- a new object that is none of ours (a tuple) -/
theorem ext_tup {p : Addr} {u : HO} (hp : H p = none) (hn : p ∉ ρ) : Ext ρ H ρ (upd H p u) :=
  ⟨⟨[], by simp⟩, fun q o e n => ⟨by rw [upd_ne (ne_of_none e hp)]; exact e, n⟩⟩
theorem RelH.beside {h : Hm} (r : RelH L ρ H h) {p : Addr} {u : HO} (hp : H p = none) : RelH L ρ (upd H p u) h :=
  ⟨r.len, r.nd, fun n o a e1 e2 => by
    have hne : a ≠ p := by
      rintro rfl
      exact r.fresh hp (List.mem_of_getElem? e2)
    exact (r.obj n o a e1 e2).mono (ext_tup hp (r.fresh hp)) r (upd_ne hne)⟩
/-- one of ours is written -/
theorem ext_wr {a : Addr} {u : HO} {n : Nat} (e : ρ[n]? = some a) : Ext ρ H ρ (upd H a u) :=
  ⟨⟨[], by simp⟩, fun q o e1 n1 => by
    have hq : q ≠ a := by
      rintro rfl
      exact n1 (List.mem_of_getElem? e)
    exact ⟨by rw [upd_ne hq]; exact e1, n1⟩⟩
theorem RelH.wr {h : Hm} (r : RelH L ρ H h) {a : Addr} {u : HO} {n : Nat} {o : O} (e : ρ[n]? = some a) (ho : ObjR L ρ (upd H a u) o a) : RelH L ρ (upd H a u) (h.set n o) := by
  refine ⟨by simp [r.len], r.nd, fun m o' b e1 e2 => ?_⟩
  by_cases hm : n = m
  · subst hm
    have hb : b = a := by
      rw [e] at e2
      cases e2
      rfl
    subst hb
    rw [List.getElem?_set] at e1
    rw [if_pos rfl] at e1
    split at e1
    · cases e1
      exact ho
    · cases e1
  · rw [List.getElem?_set_ne hm] at e1
    have hne : b ≠ a := by
      rintro rfl
      obtain ⟨h1, e1'⟩ := List.getElem?_eq_some_iff.mp e
      obtain ⟨h2, e2'⟩ := List.getElem?_eq_some_iff.mp e2
      exact hm ((List.getElem_inj r.nd).mp (e1'.trans e2'.symm))
    exact (r.obj m o' b e1 e2).mono (ext_wr e) r (upd_ne hne)
end

/-! ### slots -/
def RelS (L : Lk) (ρ : List Addr) (H : Hp) (sm : Env) (σ : L2.St) : Prop :=
  sm.length = σ.length ∧ ∀ (i : Nat) (w : W), sm[i]? = some (some w) → ∃ v, σ[i]? = some (some v) ∧ Rel L ρ H w v
section
variable {L : Lk} {ρ ρ' : List Addr} {H H' : Hp} {h : Hm} {sm : Env} {σ : L2.St}
theorem RelS.mono (e : Ext ρ H ρ' H') (r : RelH L ρ H h) (q : RelS L ρ H sm σ) : RelS L ρ' H' sm σ :=
  ⟨q.1, fun i w e1 => by
    obtain ⟨v, e2, r2⟩ := q.2 i w e1
    exact ⟨v, e2, r2.mono e r⟩⟩
theorem RelS.set (q : RelS L ρ H sm σ) {w : W} {v : V} (r : Rel L ρ H w v) (i : Nat) : RelS L ρ H (sm.set i (some w)) (σ.set i (some v)) := by
  refine ⟨by rw [List.length_set, List.length_set, q.1], fun j x e => ?_⟩
  rw [List.getElem?_set] at e ⊢
  by_cases hj : i = j
  · subst hj
    rw [if_pos rfl] at e ⊢
    rw [q.1] at e
    split at e
    · rename_i hl
      rw [if_pos hl]
      cases e
      exact ⟨v, rfl, r⟩
    · cases e
  · rw [if_neg hj] at e ⊢
    exact q.2 j x e
theorem RelS.clr (q : RelS L ρ H sm σ) (i : Nat) : RelS L ρ H (sm.set i none) (σ.set i none) := by
  refine ⟨by rw [List.length_set, List.length_set, q.1], fun j x e => ?_⟩
  rw [List.getElem?_set] at e ⊢
  by_cases hj : i = j
  · subst hj
    rw [if_pos rfl] at e
    split at e <;> cases e
  · rw [if_neg hj] at e ⊢
    exact q.2 j x e
theorem RelS.wipe (q : RelS L ρ H sm σ) : ∀ is : List Nat, RelS L ρ H (Py.wipe sm is) (L2.wipe σ is)
  | [] => q
  | i :: is => RelS.clr (RelS.wipe q is) i
theorem RelS.setAll : ∀ (is : List Nat) (ws : List W) (vs : List V) (sm : Env) (σ : L2.St), RelS L ρ H sm σ → Rels L ρ H ws vs → is.length = ws.length →
    RelS L ρ H (Py.setAll sm is ws) ((is.zip vs).foldl (fun s p => s.set p.1 (some p.2)) σ)
  | [], [], vs, _, _, q, _, _ => by
    simpa [Py.setAll] using q
  | [], _ :: _, _, _, _, _, _, e => by simp at e
  | _ :: _, [], _, _, _, _, _, e => by simp at e
  | i :: is, w :: ws, vs, sm, σ, q, ⟨v, r, e1, r1, rs⟩, e => by
    rw [e1]
    exact RelS.setAll is ws r _ _ (RelS.set q r1 i) rs (by simpa using e)
end

/-! ### what is wanted behind a piece -/
def Post {α β : Type} (L : Lk) (RR : List Addr → Hp → α → β → Prop) (ρ : List Addr) (H : Hp) (Q : β → Hp → Prop) : R α → Prop
  | .ok a h' => ∀ ρ' H' b, Ext ρ H ρ' H' → RelH L ρ' H' h' → RR ρ' H' a b → Q b H'
  | _ => False
section
variable {L : Lk} {ρ ρ' : List Addr} {H H' : Hp} {h : Hm} {α β α' β' : Type} {RR : List Addr → Hp → α → β → Prop} {RR' : List Addr → Hp → α' → β' → Prop} {Q Q' : β → Hp → Prop} {Q2 : β' → Hp → Prop}
theorem Post.ext {r : R α} (e : Ext ρ H ρ' H') (q : Post L RR ρ H Q r) : Post L RR ρ' H' Q r := by
  cases r with
  | ok a h1 => exact fun ρ2 H2 b e2 => q ρ2 H2 b (e.trans e2)
  | ex c v h1 => exact q
  | no => exact q
theorem Post.imp {r : R α} (q : Post L RR ρ H Q r) (f : ∀ b H1, Q b H1 → Q' b H1) : Post L RR ρ H Q' r := by
  cases r with
  | ok a h1 => exact fun ρ2 H2 b e r1 r2 => f _ _ (q ρ2 H2 b e r1 r2)
  | ex c v h1 => exact q
  | no => exact q
theorem Post.bind {r : R α} {f : α → Hm → R α'} (q : Post L RR' ρ H Q2 (r.bind f)) :
    Post L RR ρ H (fun b H1 => ∃ ρ1 a h1, Ext ρ H ρ1 H1 ∧ RelH L ρ1 H1 h1 ∧ RR ρ1 H1 a b ∧ Post L RR' ρ1 H1 Q2 (f a h1)) r := by
  cases r with
  | ok a h1 => exact fun ρ2 H2 b e r1 r2 => ⟨ρ2, a, h1, e, r1, r2, Post.ext e q⟩
  | ex c v h1 => exact q
  | no => exact q
theorem Post.now {a : α} {b : β} (rh : RelH L ρ H h) (q : Post L RR ρ H Q (.ok a h)) (r : RR ρ H a b) : Q b H := q ρ H b Ext.refl rh r
end
abbrev PostV (L : Lk) := Post L (Rel L)
def EqB {α : Type} (_ : List Addr) (_ : Hp) (a b : α) : Prop := a = b

def tE (L : Lk) (m : Env → Hm → R W) : TE := fun σ H Q => ∃ ρ sm h, RelH L ρ H h ∧ RelS L ρ H sm σ ∧ Post L (Rel L) ρ H Q (m sm h)
def tT (L : Lk) (m : Env → Hm → R Bool) : TT := fun σ H Q => ∃ ρ sm h, RelH L ρ H h ∧ RelS L ρ H sm σ ∧ Post L EqB ρ H Q (m sm h)
def tA (L : Lk) (m : Env → Hm → R (List W)) : TA := fun σ H Q => ∃ ρ sm h, RelH L ρ H h ∧ RelS L ρ H sm σ ∧ Post L (Rels L) ρ H Q (m sm h)
/-- by values -/
def r2 (L : Lk) (m : W → W → Hm → R W) : R2 := fun x y H Q => ∃ ρ h wx wy, RelH L ρ H h ∧ Rel L ρ H wx x ∧ Rel L ρ H wy y ∧ Post L (Rel L) ρ H Q (m wx wy h)
def r1 (L : Lk) (m : W → Hm → R W) : V → Hp → VK → Prop := fun x H Q => ∃ ρ h wx, RelH L ρ H h ∧ Rel L ρ H wx x ∧ Post L (Rel L) ρ H Q (m wx h)
def rs (L : Lk) (m : List W → Hm → R W) : List V → Hp → VK → Prop := fun xs H Q => ∃ ρ h ws, RelH L ρ H h ∧ Rels L ρ H ws xs ∧ Post L (Rel L) ρ H Q (m ws h)
def rxs (L : Lk) (m : W → List W → Hm → R W) : V → List V → Hp → VK → Prop := fun x xs H Q => ∃ ρ h wx ws, RelH L ρ H h ∧ Rel L ρ H wx x ∧ Rels L ρ H ws xs ∧ Post L (Rel L) ρ H Q (m wx ws h)
theorem PE.imp {X : Cx} {e : Expr} {t t' : TE} (h : PE X e t) (f : ∀ σ H Q, t' σ H Q → t σ H Q) : PE X e t' := ⟨fun pins s σ H Q I q => h.run pins s σ H Q I (f σ H Q q)⟩
theorem PT.imp {X : Cx} {e : Expr} {t t' : TT} (h : PT X e t) (f : ∀ σ H Q, t' σ H Q → t σ H Q) : PT X e t' := ⟨fun pins s σ H Q I q => h.run pins s σ H Q I (f σ H Q q)⟩
theorem PA.imp {X : Cx} {e : List Expr} {t t' : TA} (h : PA X e t) (f : ∀ σ H Q, t' σ H Q → t σ H Q) : PA X e t' := ⟨fun pos pins s σ H Q I q => h.run pos pins s σ H Q I (f σ H Q q)⟩
theorem PS.imp {X : Cx} {e : Stmt} {t t' : TS} (h : PS X e t) (f : ∀ D σ H, t' D σ H → t D σ H) : PS X e t' := ⟨fun pins s σ H D I q => h.run pins s σ H D I (f D σ H q)⟩
theorem PSs.imp {X : Cx} {e : List Stmt} {t t' : TS} (h : PSs X e t) (f : ∀ D σ H, t' D σ H → t D σ H) : PSs X e t' := ⟨fun pins s σ H D I q => h.run pins s σ H D I (f D σ H q)⟩
end Py
end
section
/-! PyC: each operator, item, slice, call and method of what is built in: the layer's rule says what ours says. -/
namespace Py
open PySem PySem.Spec PyProof.Rows L2

theorem SZ_eq : SZ = sizeLine := by rw [sizeLine_eq]; rfl
section
variable {L : Lk} {ρ : List Addr} {H : Hp} {h : Hm} {Q : VK}
/-- a new list of ours -/
theorem post_new {xs : List W} {vs : List V} (rh : RelH L ρ H h) (r : Rels L ρ H xs vs) (hz : xs.length ≤ SZ) (q : Post L (Rel L) ρ H Q (newL xs h)) : ∀ p, H p = none → Q (.ref p) (upd H p (.lst vs)) := fun p hp => by
  have e := ext_new (u := .lst vs) rh hp
  exact q _ _ _ e (rh.new hp ⟨vs, upd_same, hz, r.mono e rh⟩) ⟨p, new_at rh, rfl⟩
/-- a tuple that is new -/
theorem post_tup {xs : List W} {vs : List V} (rh : RelH L ρ H h) (r : Rels L ρ H xs vs) (hz : xs.length ≤ SZ) (q : Post L (Rel L) ρ H Q (.ok (.tup xs) h)) : ∀ p, H p = none → Q (.ref p) (upd H p (.tup vs)) := fun p hp => by
  have e := ext_tup (u := .tup vs) hp (rh.fresh hp)
  exact q _ _ _ e (rh.beside hp) ⟨p, vs, rfl, SqT.of upd_same, hz, r.mono e rh⟩
theorem Rel.lst {n : Nat} {xs : List W} {v : V} (rh : RelH L ρ H h) (r : Rel L ρ H (.ref n) v) (e : h[n]? = some (.lst xs)) : ∃ a vs, v = .ref a ∧ ρ[n]? = some a ∧ H a = some (.lst vs) ∧ xs.length ≤ SZ ∧ Rels L ρ H xs vs := by
  obtain ⟨a, e1, e2⟩ := r
  obtain ⟨vs, e3, z, rs⟩ := rh.obj n _ a e e1
  exact ⟨a, vs, e2, e1, e3, z, rs⟩
theorem Rel.lstAt {n : Nat} {xs : List W} {v : V} (rh : RelH L ρ H h) (r : Rel L ρ H (.ref n) v) (e : Py.lstAt h n = some xs) : ∃ a vs, v = .ref a ∧ ρ[n]? = some a ∧ SqL L.K H a vs ∧ xs.length ≤ SZ ∧ Rels L ρ H xs vs := by
  obtain ⟨a, e1, e2⟩ := r
  unfold Py.lstAt at e
  split at e
  · rename_i ys hy
    cases e
    obtain ⟨vs, e3, z, rs⟩ := rh.obj n _ a hy e1
    exact ⟨a, vs, e2, e1, SqL.of e3, z, rs⟩
  · rename_i ys hy
    cases e
    obtain ⟨ob, vs, e3, z, rs⟩ := rh.obj n _ a hy e1
    exact ⟨a, vs, e2, e1, .inl (.inr ⟨ob, e3⟩), z, rs⟩
  · cases e
theorem Rel.seqO {x : W} {xs : List W} {v : V} (rh : RelH L ρ H h) (r : Rel L ρ H x v) (e : Py.seqO h x = some xs) : ∃ a vs, v = .ref a ∧ (SqL L.K H a vs ∨ SqT L.K H a vs) ∧ xs.length ≤ SZ ∧ Rels L ρ H xs vs := by
  unfold Py.seqO at e
  split at e
  · cases e
    obtain ⟨a, vs, e1, q, z, rs⟩ := r
    exact ⟨a, vs, e1, .inr q, z, rs⟩
  · obtain ⟨a, vs, e1, _, q, z, rs⟩ := Rel.lstAt rh r e
    exact ⟨a, vs, e1, .inl q, z, rs⟩
  · cases e
theorem str_app (s t : List Nat) : ((⟨s.toArray⟩ : Str) ++ (⟨t.toArray⟩ : Str)) = ⟨(s ++ t).toArray⟩ := by
  show (Str.append _ _ : Str) = _
  unfold Str.append
  simp
theorem str_len (s : List Nat) : (⟨s.toArray⟩ : Str).length = s.length := by
  unfold Str.length
  simp
end

section
variable {X : Cx} {L : Lk} (hK : X.K = L.K)
include hK
theorem or_add : OpR X (binaryOp .Add) (r2 L addW) := by
  intro pins s σ H x y v u Q I rx ry hq
  obtain ⟨ρ, h, wx, wy, rh, r1, r2, q⟩ := hq
  cases wx with
  | int i =>
    cases wy with
    | int j => exact op_add pins s σ H x y v u Q I rx ry ⟨i, j, r1, r2, q.now rh rfl⟩
    | _ => exact q.elim
  | str s1 =>
    cases wy with
    | str t1 =>
      have q : Post L (Rel L) ρ H Q (if s1.length + t1.length ≤ SZ then .ok (.str (s1 ++ t1)) h else .no) := q
      split at q
      · rename_i hz
        refine op_add_str pins s σ H x y v u Q I rx ry ⟨_, _, r1.2, r2.2, ?_, ?_⟩
        · rw [str_len, str_len, ← SZ_eq]
          exact hz
        · rw [str_app]
          exact q.now rh ⟨⟨by rw [List.length_append]; exact hz, fun c hc => (List.mem_append.mp hc).elim (r1.1.2 c) (r2.1.2 c)⟩, rfl⟩
      · exact q.elim
    | _ => exact q.elim
  | tup xs =>
    cases wy with
    | tup ys =>
      have q : Post L (Rel L) ρ H Q (if xs.length + ys.length ≤ SZ then .ok (.tup (xs ++ ys)) h else .no) := q
      split at q
      · rename_i hz
        have hz' : (xs ++ ys).length ≤ SZ := by rw [List.length_append]; exact hz
        obtain ⟨a, vs, e1, k1, z1, rs1⟩ := r1
        obtain ⟨b, us, e2, k2, z2, rs2⟩ := r2
        refine op_catA pins s σ H x y v u Q I rx ry ⟨a, b, vs, us, e1, e2, hK ▸ k1, hK ▸ k2, ?_, fun hx => ?_, fun _ hy => ?_, fun _ _ => ?_⟩
        · rw [← rs1.length, ← rs2.length, ← SZ_eq]
          exact hz
        · subst hx
          have ex : xs = [] := List.eq_nil_of_length_eq_zero rs1.length
          subst ex
          exact q.now rh ⟨b, us, rfl, k2, z2, rs2⟩
        · subst hy
          have ey : ys = [] := List.eq_nil_of_length_eq_zero rs2.length
          subst ey
          rw [List.append_nil] at q
          exact q.now rh ⟨a, vs, rfl, k1, z1, rs1⟩
        · exact post_tup rh (rs1.append rs2) hz' q
      · exact q.elim
    | _ => exact q.elim
  | ref m =>
    cases wy with
    | ref n =>
      have q : Post L (Rel L) ρ H Q (match h[m]?, h[n]? with
        | some (.lst xs), some (.lst ys) => if xs.length + ys.length ≤ SZ then newL (xs ++ ys) h else .no
        | _, _ => .no) := q
      split at q
      · rename_i xs ys hx hy
        split at q
        · rename_i hz
          obtain ⟨a, vs, e1, _, k1, z1, rs1⟩ := Rel.lst rh r1 hx
          obtain ⟨b, us, e2, _, k2, z2, rs2⟩ := Rel.lst rh r2 hy
          refine op_cat pins s σ H x y v u Q I rx ry ⟨a, b, vs, us, e1, e2, k1, k2, ?_, ?_⟩
          · rw [← rs1.length, ← rs2.length, ← SZ_eq]
            exact hz
          · exact post_new rh (rs1.append rs2) (by rw [List.length_append]; exact hz) q
        · exact q.elim
      · exact q.elim
    | _ => exact q.elim
  | _ => exact q.elim
omit hK in
theorem or_int {o : Operator} {c : Int → Int → Bool} {C : Int → Int → Prop} {f : Int → Int → Int} (h : OpR X (binaryOp o) (rI C fun i j => .int (f i j))) (hc : ∀ i j, c i j = true → C i j) : OpR X (binaryOp o) (r2 L (intOp c f)) := by
  intro pins s σ H x y v u Q I rx ry hq
  obtain ⟨ρ, hm, wx, wy, rh, r1, r2, q⟩ := hq
  cases wx with
  | int i =>
    cases wy with
    | int j =>
      have q : Post L (Rel L) ρ H Q (if c i j then .ok (.int (f i j)) hm else .no) := q
      split at q
      · rename_i hz
        exact h pins s σ H x y v u Q I rx ry ⟨i, j, r1, r2, hc _ _ hz, q.now rh rfl⟩
      · exact q.elim
    | _ => exact q.elim
  | _ => exact q.elim
omit hK in
theorem rI_of {g : Int → Int → V} {C : Int → Int → Prop} {f : Value → Value → Sem Value} (h : OpR X f (rI0 g)) : OpR X f (rI C g) := fun pins s σ H x y v u Q I rx ry ⟨i, j, e1, e2, _, q⟩ => h pins s σ H x y v u Q I rx ry ⟨i, j, e1, e2, q⟩
omit hK in
theorem cDiv_ok (i j : Int) (h : cDiv i j = true) : L2.CDiv i j := by
  unfold cDiv at h
  simp at h
  exact h
omit hK in
theorem cMod_ok (i j : Int) (h : cMod i j = true) : 0 < j := by
  unfold cMod at h
  simpa using h
omit hK in
theorem cPow_ok (i j : Int) (h : cPow i j = true) : L2.CPow i j := by
  unfold cPow at h
  simp only [Bool.and_eq_true, decide_eq_true_eq] at h
  exact ⟨h.1, h.2.1, h.2.2⟩
omit hK in
theorem cShr_ok (i j : Int) (h : cShr i j = true) : 0 ≤ j := by
  unfold cShr at h
  simpa using h
omit hK in
theorem in64_ok {i : Int} (h : in64 i = true) : -(2 ^ 64) < i ∧ i < 2 ^ 64 := by
  unfold in64 at h
  simpa using h
omit hK in
theorem in62_ok {i : Int} (h : in62 i = true) : -(2 ^ 62) ≤ i ∧ i < 2 ^ 62 := by
  unfold in62 at h
  simpa using h
/-- products: two ints, a list by an int -/
theorem or_mul : OpR X (binaryOp .Mult) (r2 L mulW) := by
  intro pins s σ H x y v u Q I rx ry hq
  obtain ⟨ρ, h, wx, wy, rh, r1, r2, q⟩ := hq
  cases wx with
  | int i =>
    cases wy with
    | int j =>
      have q : Post L (Rel L) ρ H Q (if in64 i || in64 j then .ok (.int (i * j)) h else .no) := q
      split at q
      · rename_i hz
        refine op_mul pins s σ H x y v u Q I rx ry ⟨i, j, r1, r2, ?_, q.now rh rfl⟩
        rcases Bool.or_eq_true_iff.mp hz with hz | hz
        · exact .inl (in64_ok hz)
        · exact .inr (in64_ok hz)
      · exact q.elim
    | _ => exact q.elim
  | ref m =>
    cases wy with
    | int k =>
      have q : Post L (Rel L) ρ H Q (match h[m]? with
        | some (.lst xs) => if in62 k && decide (xs.length * k.toNat ≤ SZ) then newL (rep xs k.toNat) h else .no
        | _ => .no) := q
      split at q
      · rename_i xs hx
        split at q
        · rename_i hz
          obtain ⟨h1, h2⟩ := Bool.and_eq_true_iff.mp hz
          have h2' := of_decide_eq_true h2
          obtain ⟨hl, hu⟩ := in62_ok h1
          obtain ⟨a, vs, e1, _, k1, z1, rs1⟩ := Rel.lst rh r1 hx
          refine op_rep pins s σ H x y v u Q I rx ry ⟨a, k, vs, e1, r2, k1, by omega, by omega, ?_, ?_⟩
          · rw [← rs1.length, ← SZ_eq]
            exact h2'
          · refine post_new rh (rs1.rep k.toNat) ?_ q
            unfold rep
            simp only [List.length_flatten, List.map_replicate, List.sum_replicate_nat]
            rw [Nat.mul_comm]
            exact h2'
        · exact q.elim
      · exact q.elim
    | _ => exact q.elim
  | _ => exact q.elim
omit hK in
theorem or_cmpI {o : CmpOp} {p : Int → Int → Bool} (h : OpR X (compareOp o) (rI0 fun i j => .bl (p i j))) : OpR X (compareOp o) (r2 L (cmpI p)) := by
  intro pins s σ H x y v u Q I rx ry hq
  obtain ⟨ρ, hm, wx, wy, rh, r1, r2, q⟩ := hq
  cases wx with
  | int i =>
    cases wy with
    | int j => exact h pins s σ H x y v u Q I rx ry ⟨i, j, r1, r2, q.now rh rfl⟩
    | _ => exact q.elim
  | _ => exact q.elim
end

/-! ### ==, in: what stands for data -/
mutual
def pd : D → PyData
  | .non => .none
  | .bl b => .bool b
  | .int i => .int i
  | .str s => .str ⟨s.toArray⟩
  | .tup xs => .tuple (pds xs)
  | .lst xs => .list (pds xs)
def pds : List D → List PyData
  | [] => []
  | x :: xs => pd x :: pds xs
end
theorem str_beq (x y : List Nat) : ((⟨x.toArray⟩ : Str) == (⟨y.toArray⟩ : Str)) = (x == y) := by
  rw [Bool.eq_iff_iff]
  simp
mutual
theorem eqv_pd : ∀ (d e : D), PyData.eqv (pd d) (pd e) = eqD d e
  | .non, e => by cases e <;> simp [pd, PyData.eqv, eqD]
  | .bl _, e => by cases e <;> simp [pd, PyData.eqv, eqD]
  | .int _, e => by cases e <;> simp [pd, PyData.eqv, eqD]
  | .str x, e => by
    cases e with
    | str y => simp only [pd, PyData.eqv, eqD]; exact str_beq x y
    | _ => simp [pd, PyData.eqv, eqD]
  | .tup xs, e => by
    cases e with
    | tup ys => simp only [pd, PyData.eqv, eqD]; exact eqv_pds xs ys
    | _ => simp [pd, PyData.eqv, eqD]
  | .lst xs, e => by
    cases e with
    | lst ys => simp only [pd, PyData.eqv, eqD]; exact eqv_pds xs ys
    | _ => simp [pd, PyData.eqv, eqD]
theorem eqv_pds : ∀ (d e : List D), PyData.eqvAll (pds d) (pds e) = eqDs d e
  | [], [] => by simp [pds, PyData.eqvAll, eqDs]
  | [], _ :: _ => by simp [pds, PyData.eqvAll, eqDs]
  | _ :: _, [] => by simp [pds, PyData.eqvAll, eqDs]
  | x :: xs, y :: ys => by simp only [pds, PyData.eqvAll, eqDs, eqv_pd x y, eqv_pds xs ys]
end
theorem pds_map : ∀ xs : List D, pds xs = xs.map pd
  | [] => rfl
  | x :: xs => by rw [pds, pds_map xs, List.map_cons]
section
variable {L : Lk} {ρ : List Addr} {H : Hp} {h : Hm}
theorem depthAll_le {n : Nat} : ∀ {ds : List PyData}, (∀ d ∈ ds, d.depth ≤ n) → PyData.depthAll ds ≤ n
  | [], _ => by simp [PyData.depthAll]
  | d :: ds, q => by
    have h1 := q d List.mem_cons_self
    have h2 := depthAll_le (ds := ds) fun x hx => q x (List.mem_cons_of_mem _ hx)
    simp only [PyData.depthAll]
    omega
theorem canAll {ds : List PyData} : (∀ d ∈ ds, d.canLay0 = true) → PyData.canLayAll0 ds = true := by
  induction ds with
  | nil => intro _; simp [PyData.canLayAll0]
  | cons d ds ih =>
    intro q
    simp only [PyData.canLayAll0, Bool.and_eq_true]
    exact ⟨q d List.mem_cons_self, ih fun x hx => q x (List.mem_cons_of_mem _ hx)⟩
/-- what toD tells of a value stands in the heap -/
theorem mapO_dp {f : W → Option D} {m : Nat} (ih : ∀ (w : W) (v : V) (d : D), f w = some d → Rel L ρ H w v → Dp L.K H v (pd d) ∧ (pd d).canLay0 = true ∧ (pd d).depth ≤ m) : ∀ {ws : List W} {vs : List V} {ds : List D}, mapO f ws = some ds → Rels L ρ H ws vs →
    DpAll L.K H vs (pds ds) ∧ (∀ d ∈ pds ds, d.canLay0 = true) ∧ (∀ d ∈ pds ds, d.depth ≤ m)
  | [], vs, ds, e, r => by
    cases e
    have : vs = [] := r
    subst this
    refine ⟨.nil, ?_, ?_⟩ <;> intro d hd <;> cases hd
  | w :: ws, _, ds, e, ⟨v, t, e1, r, rs⟩ => by
    subst e1
    unfold mapO at e
    split at e
    · rename_i y ys hy hys
      cases e
      obtain ⟨a1, a2, a3⟩ := ih w v y hy r
      obtain ⟨b1, b2, b3⟩ := mapO_dp ih hys rs
      refine ⟨.cons a1 b1, fun d hd => ?_, fun d hd => ?_⟩
      · rcases List.mem_cons.mp hd with rfl | hd
        · exact a2
        · exact b2 d hd
      · rcases List.mem_cons.mp hd with rfl | hd
        · exact a3
        · exact b3 d hd
    · cases e
theorem toD_dp (rh : RelH L ρ H h) : ∀ (n : Nat) (w : W) (v : V) (d : D), toD h n w = some d → Rel L ρ H w v → Dp L.K H v (pd d) ∧ (pd d).canLay0 = true ∧ (pd d).depth ≤ n
  | 0, _, _, _, e, _ => by cases e
  | n + 1, w, v, d, e, r => by
    cases w with
    | non =>
      cases e
      cases (show v = _ from r)
      exact ⟨.non, by simp [pd, PyData.canLay0], by simp [pd, PyData.depth]⟩
    | bl b =>
      cases e
      cases (show v = _ from r)
      exact ⟨.bl b, by simp [pd, PyData.canLay0], by simp [pd, PyData.depth]⟩
    | int i =>
      cases e
      cases (show v = _ from r)
      exact ⟨.int i, by simp [pd, PyData.canLay0], by simp [pd, PyData.depth]⟩
    | str s =>
      cases e
      obtain ⟨⟨hz, hc⟩, e1⟩ := r
      subst e1
      refine ⟨.str _, ?_, by simp [pd, PyData.depth]⟩
      simp only [pd, PyData.canLay0]
      rw [SZ_eq] at hz
      unfold PyData.strOk
      simp only [Str.length]
      simpa using hc
    | tup xs =>
      have e : (mapO (toD h n) xs).map D.tup = some d := e
      obtain ⟨ds, e1, e2⟩ := Option.map_eq_some_iff.mp e
      subst e2
      obtain ⟨a, vs, e3, k, z, rs⟩ := r
      subst e3
      obtain ⟨b1, b2, b3⟩ := mapO_dp (toD_dp rh n) e1 rs
      refine ⟨.tup k b1, ?_, ?_⟩
      · simp only [pd, PyData.canLay0]
        exact canAll b2
      · have := depthAll_le b3
        simp only [pd, PyData.depth]
        omega
    | ref m =>
      have e : (match lstAt h m with
        | some xs => (mapO (toD h n) xs).map D.lst
        | none => none) = some d := e
      split at e
      · rename_i xs hx
        obtain ⟨ds, e1, e2⟩ := Option.map_eq_some_iff.mp e
        subst e2
        obtain ⟨a, vs, e3, _, k, z, rs⟩ := Rel.lstAt rh r hx
        subst e3
        obtain ⟨b1, b2, b3⟩ := mapO_dp (toD_dp rh n) e1 rs
        refine ⟨.lst k b1, ?_, ?_⟩
        · simp only [pd, PyData.canLay0]
          exact canAll b2
        · have := depthAll_le b3
          simp only [pd, PyData.depth]
          omega
      · cases e
theorem shaped_of {d : PyData} (a : d.canLay0 = true) (b : d.depth ≤ DD) : SeqAt.shaped d = true := by
  have : DD = 30 := rfl
  show (d.canLay0 && decide (d.depth ≤ 64)) = true
  rw [a, Bool.true_and]
  exact decide_eq_true (by omega)
end
section
variable {X : Cx} {L : Lk} (hK : X.K = L.K) (hu : X.A.units + 65 < cLine)
include hK hu
theorem or_eq : OpR X (compareOp .Eq) (r2 L (eqR false)) := by
  intro pins s σ H x y v u Q I rx ry hq
  obtain ⟨ρ, h, wx, wy, rh, r1, r2, q⟩ := hq
  unfold eqR eqW at q
  cases e1 : toD h DD wx with
  | none => rw [e1] at q; exact q.elim
  | some d =>
    cases e2 : toD h DD wy with
    | none => rw [e1, e2] at q; exact q.elim
    | some e =>
      rw [e1, e2] at q
      obtain ⟨a1, a2, a3⟩ := toD_dp rh _ _ _ _ e1 r1
      obtain ⟨b1, b2, b3⟩ := toD_dp rh _ _ _ _ e2 r2
      refine op_eqD (by omega) pins s σ H x y v u Q I rx ry ⟨pd d, pd e, hK ▸ a1, hK ▸ b1, shaped_of a2 a3, shaped_of b2 b3, ?_⟩
      rw [eqv_pd]
      exact q.now rh rfl
theorem or_ne : OpR X (compareOp .NotEq) (r2 L (eqR true)) := by
  intro pins s σ H x y v u Q I rx ry hq
  obtain ⟨ρ, h, wx, wy, rh, r1, r2, q⟩ := hq
  unfold eqR eqW at q
  cases e1 : toD h DD wx with
  | none => rw [e1] at q; exact q.elim
  | some d =>
    cases e2 : toD h DD wy with
    | none => rw [e1, e2] at q; exact q.elim
    | some e =>
      rw [e1, e2] at q
      obtain ⟨a1, a2, a3⟩ := toD_dp rh _ _ _ _ e1 r1
      obtain ⟨b1, b2, b3⟩ := toD_dp rh _ _ _ _ e2 r2
      refine op_neD (by omega) pins s σ H x y v u Q I rx ry ⟨pd d, pd e, hK ▸ a1, hK ▸ b1, shaped_of a2 a3, shaped_of b2 b3, ?_⟩
      rw [eqv_pd]
      exact q.now rh rfl
end
end Py
end
section
/-! PyD: in, truth, items, slices, calls and methods of what is built in. -/
namespace Py
open PySem PySem.Spec PyProof.Rows L2

section
variable {L : Lk} {ρ : List Addr} {H : Hp} {h : Hm} {Q : VK}
theorem Rel.sign {s : List Nat} {v : V} (r : Rel L ρ H (.str s) v) {c : Nat} (hc : c ∈ s) : Rel L ρ H (.str [c]) (.str ⟨#[c]⟩) :=
  ⟨⟨by show 1 ≤ SZ; decide, fun x hx => by
    have : x = c := by simpa using hx
    subst this
    exact r.1.2 _ hc⟩, rfl⟩
end
section
variable {X : Cx} {L : Lk} (hK : X.K = L.K)
include hK
section
variable (hu : X.A.units + 65 < cLine)
include hu
/-- in and not in, both at once -/
theorem in_cases {o : CmpOp} {neg : Bool} (h1 : OpR X (compareOp o) (fun x y H Q => ∃ (c : Nat) (z : Str), x = .str ⟨#[c]⟩ ∧ y = .str z ∧ Q (.bl (if neg then !decide (c ∈ z.cps.toList) else decide (c ∈ z.cps.toList))) H))
    (h2 : OpR X (compareOp o) (fun x y H Q => ∃ d ds, Dp X.K H x d ∧ Dp X.K H y (.list ds) ∧ SeqAt.shaped d = true ∧ SeqAt.shaped (.list ds) = true ∧ Q (.bl (if neg then !ds.any (fun z => PyData.eqv z d) else ds.any fun z => PyData.eqv z d)) H))
    (h3 : OpR X (compareOp o) (fun x y H Q => ∃ d ds, Dp X.K H x d ∧ Dp X.K H y (.tuple ds) ∧ SeqAt.shaped d = true ∧ SeqAt.shaped (.tuple ds) = true ∧ Q (.bl (if neg then !ds.any (fun z => PyData.eqv z d) else ds.any fun z => PyData.eqv z d)) H)) :
    OpR X (compareOp o) (r2 L (inR neg)) := by
  intro pins s σ H x y v u Q I rx ry hq
  obtain ⟨ρ, h, wx, wy, rh, r1, r2, q⟩ := hq
  have any_pds : ∀ (ds : List D) (d : D), (pds ds).any (fun z => PyData.eqv z (pd d)) = ds.any fun z => eqD z d := fun ds d => by
    rw [pds_map, List.any_map]
    congr 1
    funext z
    exact eqv_pd z d
  have hin : ∀ b, inW h wx wy = some b → Q (.bl (if neg then !b else b)) H := fun b e => by
    unfold inR at q
    rw [e] at q
    exact q.now rh rfl
  cases e : inW h wx wy with
  | none =>
    unfold inR at q
    rw [e] at q
    exact q.elim
  | some b =>
    have hb := hin b e
    unfold inW at e
    split at e
    · rename_i t
      split at e
      · rename_i c
        cases e
        obtain ⟨_, e1⟩ := r1
        obtain ⟨_, e2⟩ := r2
        exact h1 pins s σ H x y v u Q I rx ry ⟨c, _, e1, e2, hb⟩
      · cases e
    · split at e
      · rename_i d ds e1 e2
        cases e
        obtain ⟨a1, a2, a3⟩ := toD_dp rh _ _ _ _ e1 r1
        obtain ⟨b1, b2, b3⟩ := toD_dp rh _ _ _ _ e2 r2
        refine h2 pins s σ H x y v u Q I rx ry ⟨pd d, pds ds, hK ▸ a1, hK ▸ b1, shaped_of a2 a3, shaped_of b2 b3, ?_⟩
        rw [any_pds]
        exact hb
      · rename_i d ds e1 e2
        cases e
        obtain ⟨a1, a2, a3⟩ := toD_dp rh _ _ _ _ e1 r1
        obtain ⟨b1, b2, b3⟩ := toD_dp rh _ _ _ _ e2 r2
        refine h3 pins s σ H x y v u Q I rx ry ⟨pd d, pds ds, hK ▸ a1, hK ▸ b1, shaped_of a2 a3, shaped_of b2 b3, ?_⟩
        rw [any_pds]
        exact hb
      · cases e
end
section
variable (hu : X.A.units + 65 < cLine)
include hu
omit hK in
theorem op_inT : OpR X (compareOp .In) (fun x y H Q => ∃ d ds, Dp X.K H x d ∧ Dp X.K H y (.tuple ds) ∧ SeqAt.shaped d = true ∧ SeqAt.shaped (.tuple ds) = true ∧ Q (.bl (ds.any fun z => PyData.eqv z d)) H) := by
  intro pins s σ H x y v u Q I rx ry h
  obtain ⟨d, ds, hd, he, sd, se, q⟩ := h
  obtain ⟨as, r1⟩ := Dp.reads I d x v hd rx
  obtain ⟨bs, r2⟩ := Dp.reads I (.tuple ds) y u he ry
  exact SeqAt.in_tuple_reads r2 r1 (SeqAt.canLay_of_shaped se) (SeqAt.canLay_of_shaped sd) (room_in_shaped sd hu) ⟨.bl _, H, I, rfl, q⟩
omit hK in
theorem op_notInT : OpR X (compareOp .NotIn) (fun x y H Q => ∃ d ds, Dp X.K H x d ∧ Dp X.K H y (.tuple ds) ∧ SeqAt.shaped d = true ∧ SeqAt.shaped (.tuple ds) = true ∧ Q (.bl (!ds.any fun z => PyData.eqv z d)) H) := by
  intro pins s σ H x y v u Q I rx ry h
  obtain ⟨d, ds, hd, he, sd, se, q⟩ := h
  obtain ⟨as, r1⟩ := Dp.reads I d x v hd rx
  obtain ⟨bs, r2⟩ := Dp.reads I (.tuple ds) y u he ry
  exact SeqAt.notIn_tuple_reads r2 r1 (SeqAt.canLay_of_shaped se) (SeqAt.canLay_of_shaped sd) (room_in_shaped sd hu) ⟨.bl _, H, I, rfl, q⟩
theorem or_in : OpR X (compareOp .In) (r2 L (inR false)) := in_cases hK hu op_in_sign (op_inD hu) (op_inT hu)
theorem or_nin : OpR X (compareOp .NotIn) (r2 L (inR true)) := in_cases hK hu op_notIn_sign (op_notInD hu) (op_notInT hu)
theorem or_cmp (op : COp) : OpR X (compareOp (match op with
    | .eq => .Eq
    | .ne => .NotEq
    | .lt => .Lt
    | .le => .LtE
    | .gt => .Gt
    | .ge => .GtE
    | .in_ => .In
    | .nin => .NotIn)) (r2 L (cmpop op)) := by
  cases op with
  | eq => exact or_eq hK hu
  | ne => exact or_ne hK hu
  | lt => exact or_cmpI op_lt
  | le => exact or_cmpI op_le
  | gt => exact or_cmpI op_gt
  | ge => exact or_cmpI op_ge
  | in_ => exact or_in hK hu
  | nin => exact or_nin hK hu
end
omit hK in
theorem or_isN : OpR X (compareOp .Is) (fun x y H Q => y = .non ∧ ∃ ρ h wx, RelH L ρ H h ∧ Rel L ρ H wx x ∧ Post L (Rel L) ρ H Q (.ok (.bl (isNon wx)) h)) := by
  intro pins s σ H x y v u Q I rx ry hq
  obtain ⟨ey, ρ, h, wx, rh, r1, q⟩ := hq
  refine op_isN pins s σ H x y v u Q I rx ry ⟨ey, ?_⟩
  refine q.now rh ?_
  cases wx with
  | non => rw [show x = .non from r1]; rfl
  | bl b => rw [show x = .bl b from r1]; rfl
  | int i => rw [show x = .int i from r1]; rfl
  | str t => rw [r1.2]; rfl
  | tup xs => obtain ⟨a, vs, e, _⟩ := r1; rw [e]; rfl
  | ref n => obtain ⟨a, _, e⟩ := r1; rw [e]; rfl
omit hK in
theorem or_notN : OpR X (compareOp .IsNot) (fun x y H Q => y = .non ∧ ∃ ρ h wx, RelH L ρ H h ∧ Rel L ρ H wx x ∧ Post L (Rel L) ρ H Q (.ok (.bl (!isNon wx)) h)) := by
  intro pins s σ H x y v u Q I rx ry hq
  obtain ⟨ey, ρ, h, wx, rh, r1, q⟩ := hq
  refine op_notN pins s σ H x y v u Q I rx ry ⟨ey, ?_⟩
  refine q.now rh ?_
  cases wx with
  | non => rw [show x = .non from r1]; rfl
  | bl b => rw [show x = .bl b from r1]; rfl
  | int i => rw [show x = .int i from r1]; rfl
  | str t => rw [r1.2]; rfl
  | tup xs => obtain ⟨a, vs, e, _⟩ := r1; rw [e]; rfl
  | ref n => obtain ⟨a, _, e⟩ := r1; rw [e]; rfl
end

/-! ### truth -/
section
variable {L : Lk} {ρ : List Addr} {H : Hp} {h : Hm}
theorem DicR.isEmpty {kvs : List (List Nat × W)} {dvs : List (L2.Key × V)} (r : DicR L ρ H kvs dvs) : kvs.isEmpty = dvs.isEmpty := by
  cases kvs with
  | nil => rw [show dvs = [] from r]; rfl
  | cons x xs => obtain ⟨v, t, e, _⟩ := r; rw [e]; rfl
theorem tru_tv {w : W} {v : V} {k : Bool} (rh : RelH L ρ H h) (r : Rel L ρ H w v) (e : tru h w = some k) : TruV L.K v H k := by
  cases w with
  | non =>
    have e' : k = false := (Option.some.inj e).symm
    rw [show v = .non from r, e']
    rfl
  | bl b =>
    have e' : k = b := (Option.some.inj e).symm
    rw [show v = .bl b from r, e']
    rfl
  | int i =>
    have e' : k = (i != 0) := (Option.some.inj e).symm
    rw [show v = .int i from r, e']
    rfl
  | str t =>
    have e' : k = (t.length != 0) := (Option.some.inj e).symm
    rw [r.2, e']
    refine ⟨by rw [str_len, ← SZ_eq]; exact r.1.1, ?_⟩
    rw [str_len, Bool.eq_iff_iff]
    simp
  | tup xs =>
    have e' : k = !xs.isEmpty := (Option.some.inj e).symm
    obtain ⟨a, vs, e1, k1, z, rs⟩ := r
    rw [e1, e']
    exact .inr (.inl ⟨vs, k1, by rw [rs.isEmpty]⟩)
  | ref n =>
    obtain ⟨a, e1, e2⟩ := r
    rw [e2]
    have e : (match h[n]? with
      | some (.lst xs) => some (!xs.isEmpty)
      | some (.fro xs) => some (!xs.isEmpty)
      | some (.dic kvs) => some (!kvs.isEmpty)
      | _ => none) = some k := e
    split at e
    · rename_i xs hx
      have e' : k = !xs.isEmpty := (Option.some.inj e).symm
      obtain ⟨vs, e3, z, rs⟩ := rh.obj _ _ a hx e1
      exact .inl ⟨vs, SqL.of e3, by rw [e', rs.isEmpty]⟩
    · rename_i xs hx
      have e' : k = !xs.isEmpty := (Option.some.inj e).symm
      obtain ⟨ob, vs, e3, z, rs⟩ := rh.obj _ _ a hx e1
      exact .inl ⟨vs, .inl (.inr ⟨ob, e3⟩), by rw [e', rs.isEmpty]⟩
    · rename_i kvs hx
      have e' : k = !kvs.isEmpty := (Option.some.inj e).symm
      obtain ⟨dvs, e3, rs⟩ := rh.obj _ _ a hx e1
      exact .inr (.inr ⟨dvs, e3, by rw [e', rs.isEmpty]⟩)
    · cases e
end
end Py
end
section
/-! PyE: items, slices, calls and methods of what is built in. -/
namespace Py
open PySem PySem.Spec PyProof.Rows L2

section
variable {L : Lk} {ρ : List Addr} {H : Hp} {h : Hm} {Q : VK}
theorem atI_eq {α : Type} (xs : List α) (i : Int) : Py.atI xs i = L2.atI xs i := rfl
theorem Rels.atI {xs : List W} {vs : List V} {i : Int} {w : W} (r : Rels L ρ H xs vs) (e : Py.atI xs i = some w) : ∃ v, L2.atI vs i = some v ∧ Rel L ρ H w v := by
  rw [atI_eq] at e
  unfold L2.atI at e ⊢
  rw [← r.length]
  cases q : L2.ixN xs.length i with
  | none => rw [q] at e; cases e
  | some j =>
    rw [q] at e
    exact r.get (i := j) (by simpa using e)
theorem retO_some {o : Option W} (q : Post L (Rel L) ρ H Q (retO o h)) : ∃ w, o = some w ∧ Post L (Rel L) ρ H Q (.ok w h) := by
  cases o with
  | none => exact q.elim
  | some w => exact ⟨w, rfl, q⟩
theorem look_dic {kvs : List (List Nat × W)} {dvs : List (L2.Key × V)} {k : List Nat} {w : W} : DicR L ρ H kvs dvs → look k kvs = some w → ∃ v, valV dvs (Sum.inr ⟨k.toArray⟩) = some v ∧ Rel L ρ H w v := by
  induction kvs generalizing dvs with
  | nil => intro _ e; cases e
  | cons x xs ih =>
    rintro ⟨v, t, e1, e2, r, rs⟩ e
    obtain ⟨xk, xv⟩ := x
    subst e1
    unfold look at e
    split at e
    · rename_i hk
      cases e
      subst hk
      exact ⟨v.2, valV_pos e2, r⟩
    · rename_i hk
      obtain ⟨u, e3, r3⟩ := ih rs e
      refine ⟨u, ?_, r3⟩
      rw [valV_neg]
      · exact e3
      · rw [e2]
        intro z
        apply hk
        have := Sum.inr.inj z
        simpa using this
end
section
variable {X : Cx} {L : Lk} (hK : X.K = L.K) (hu : X.A.units + 65 < cLine)
include hK hu
theorem or_ix : IxR X (r2 L ixR) := by
  intro value slice pins s σ H x y v u Q I rx ry hq hs
  obtain ⟨ρ, h, wx, wy, rh, r1, r2, q⟩ := hq
  cases wx with
  | tup xs =>
    cases wy with
    | int j =>
      obtain ⟨w, e, q⟩ := retO_some (o := Py.atI xs j) q
      obtain ⟨a, vs, e1, k, z, rs⟩ := r1
      obtain ⟨v1, e2, r3⟩ := rs.atI e
      exact ix_tup value slice pins s σ H x y v u Q I rx ry ⟨a, vs, j, v1, e1, r2, hK ▸ k, e2, q.now rh r3⟩ hs
    | _ => exact q.elim
  | str t =>
    cases wy with
    | int j =>
      obtain ⟨w, e, q⟩ := retO_some (o := (Py.atI t j).map fun c => .str [c]) q
      obtain ⟨c, e1, e2⟩ := Option.map_eq_some_iff.mp e
      subst e2
      refine ix_str value slice pins s σ H x y v u Q I rx ry ⟨_, j, c, r1.2, r2, by rw [str_len, ← SZ_eq]; exact r1.1.1, e1, q.now rh (r1.sign ?_)⟩ hs
      rw [atI_eq] at e1
      unfold L2.atI at e1
      obtain ⟨k, _, e3⟩ := Option.bind_eq_some_iff.mp e1
      exact List.mem_of_getElem? e3
    | _ => exact q.elim
  | ref n =>
    have q : Post L (Rel L) ρ H Q (match h[n]? with
      | some (.lst xs) => ixL xs wy h
      | some (.fro xs) => ixL xs wy h
      | some (.dic kvs) => ixD kvs wy h
      | _ => .no) := q
    split at q
    · rename_i xs hx
      cases wy with
      | int j =>
        obtain ⟨w, e, q⟩ := retO_some (o := Py.atI xs j) q
        obtain ⟨a, vs, e1, _, k, z, rs⟩ := Rel.lst rh r1 hx
        obtain ⟨v1, e2, r3⟩ := rs.atI e
        exact ix_list value slice pins s σ H x y v u Q I rx ry ⟨a, vs, j, v1, e1, r2, SqL.of k, e2, q.now rh r3⟩ hs
      | _ => exact q.elim
    · rename_i xs hx
      cases wy with
      | int j =>
        obtain ⟨w, e, q⟩ := retO_some (o := Py.atI xs j) q
        obtain ⟨a, e1, e1'⟩ := r1
        obtain ⟨ob, vs, k, z, rs⟩ := rh.obj _ _ a hx e1
        obtain ⟨v1, e2, r3⟩ := rs.atI e
        exact ix_list value slice pins s σ H x y v u Q I rx ry ⟨a, vs, j, v1, e1', r2, .inl (.inr ⟨ob, k⟩), e2, q.now rh r3⟩ hs
      | _ => exact q.elim
    · rename_i kvs hx
      cases wy with
      | str t =>
        obtain ⟨w, e, q⟩ := retO_some (o := look t kvs) q
        obtain ⟨a, e1, e1'⟩ := r1
        obtain ⟨dvs, k, rs⟩ := rh.obj _ _ a hx e1
        obtain ⟨v1, e2, r3⟩ := look_dic rs e
        obtain ⟨_, ey⟩ := r2
        subst e1'
        subst ey
        cases rx
        have g : DGet H a (.str ⟨t.toArray⟩) (some v1) := e2 ▸ DGet.k (k := Sum.inr ⟨t.toArray⟩) k
        exact tail_any (dict_typeIs I g) PySem.F.slot_dict_getitem.lookup (d_getItem (by omega) I g ry fun w' s3 I3 rw' => ⟨v1, H, I3, rw', q.now rh r3⟩) hs
      | _ => exact q.elim
    · exact q.elim
  | _ => exact q.elim
end

/-! ### slices -/
theorem sIx_eq (n d : Nat) (o : Option Int) : Py.sIx n d o = HT.sIx n d o := by
  cases o <;> rfl
section
variable {L : Lk} {ρ : List Addr} {H : Hp} {h : Hm} {Q : VK}
theorem Rels.cut {xs : List W} {vs : List V} (r : Rels L ρ H xs vs) (lo hi : Option Int) : Rels L ρ H (Py.cut xs lo hi) (cutV vs lo hi) := by
  unfold Py.cut cutV
  rw [sIx_eq, sIx_eq, ← r.length]
  exact (r.drop _).take _
theorem cut_len {α : Type} (xs : List α) (lo hi : Option Int) : (Py.cut xs lo hi).length ≤ xs.length := by
  unfold Py.cut
  rw [List.length_take, List.length_drop]
  omega
end
section
variable {X : Cx} {L : Lk} (hK : X.K = L.K)
include hK
theorem or_sl : SlR X (fun x lo hi H Q => ∃ ρ h wx, RelH L ρ H h ∧ Rel L ρ H wx x ∧ Post L (Rel L) ρ H Q (slR wx lo hi h)) := by
  intro pins s σ H x v vl vu lo hi sl Q I rx hs pl pu hq
  obtain ⟨ρ, h, wx, rh, r1, q⟩ := hq
  cases wx with
  | tup xs =>
    obtain ⟨a, vs, e1, k, z, rs⟩ := r1
    refine sl_tupA pins s σ H x v vl vu lo hi sl Q I rx hs pl pu ⟨a, vs, e1, hK ▸ k, fun hw => ?_, fun _ => ?_⟩
    · have ec : Py.cut xs lo hi = xs := by
        unfold Py.cut
        rw [sIx_eq, sIx_eq, rs.length, hw.1, hw.2]
        rw [← rs.length]
        simp
      have q : Post L (Rel L) ρ H Q (.ok (.tup (Py.cut xs lo hi)) h) := q
      rw [ec] at q
      exact q.now rh ⟨a, vs, rfl, k, z, rs⟩
    · exact post_tup rh (rs.cut lo hi) (Nat.le_trans (cut_len _ _ _) z) q
  | str t =>
    obtain ⟨⟨hz, hc⟩, e1⟩ := r1
    refine sl_str pins s σ H x v vl vu lo hi sl Q I rx hs pl pu ⟨_, e1, by rw [str_len, ← SZ_eq]; exact hz, ?_⟩
    have ec : cutS ⟨t.toArray⟩ lo hi = ⟨(Py.cut t lo hi).toArray⟩ := by
      unfold cutS Py.cut
      rw [sIx_eq, sIx_eq, str_len]
    rw [ec]
    refine q.now rh ⟨⟨Nat.le_trans (cut_len _ _ _) hz, fun c hm => hc c ?_⟩, rfl⟩
    unfold Py.cut at hm
    exact List.mem_of_mem_drop (List.mem_of_mem_take hm)
  | ref n =>
    have q : Post L (Rel L) ρ H Q (match h[n]? with
      | some (.lst xs) => newL (Py.cut xs lo hi) h
      | some (.fro xs) => newL (Py.cut xs lo hi) h
      | _ => .no) := q
    split at q
    · rename_i xs hx
      obtain ⟨a, vs, e1, _, k, z, rs⟩ := Rel.lst rh r1 hx
      exact sl_list pins s σ H x v vl vu lo hi sl Q I rx hs pl pu ⟨a, vs, e1, SqL.of k, post_new rh (rs.cut lo hi) (Nat.le_trans (cut_len _ _ _) z) q⟩
    · rename_i xs hx
      obtain ⟨a, e1, e1'⟩ := r1
      obtain ⟨ob, vs, k, z, rs⟩ := rh.obj _ _ a hx e1
      exact sl_list pins s σ H x v vl vu lo hi sl Q I rx hs pl pu ⟨a, vs, e1', .inl (.inr ⟨ob, k⟩), post_new rh (rs.cut lo hi) (Nat.le_trans (cut_len _ _ _) z) q⟩
    · exact q.elim
  | _ => exact q.elim

/-! ### calls of what is built in -/
theorem or_len : CallR X (.builtin "len") (rs L (biR .len)) := by
  intro pins s σ H xs us Q I r hq
  obtain ⟨ρ, h, ws, rh, r1, q⟩ := hq
  cases ws with
  | nil => exact q.elim
  | cons x ws =>
    cases ws with
    | cons y ws =>
      cases ws with
      | nil => exact q.elim
      | cons _ _ => exact q.elim
    | nil =>
      obtain ⟨v, e0, q1⟩ := r1.one
      subst e0
      have q : Post L (Rel L) ρ H Q (match lenO h x with
        | some n => .ok (.int n) h
        | none => .no) := q
      split at q
      · rename_i n hn
        refine call_len pins s σ H _ us Q I r ⟨v, n, rfl, ?_, q.now rh rfl⟩
        unfold lenO at hn
        split at hn
        · cases hn
          rw [q1.2]
          exact ⟨by rw [str_len, ← SZ_eq]; exact q1.1.1, (str_len _).symm⟩
        · cases hn
          obtain ⟨a, vs, e, k, z, rs⟩ := q1
          rw [e]
          exact .inr ⟨vs, hK ▸ k, rs.length⟩
        · split at hn
          · rename_i xs hx
            cases hn
            obtain ⟨a, vs, e, _, k, z, rs⟩ := Rel.lst rh q1 hx
            rw [e]
            exact .inl ⟨vs, SqL.of k, rs.length⟩
          · rename_i xs hx
            cases hn
            obtain ⟨a, e1, e1'⟩ := q1
            obtain ⟨ob, vs, k, z, rs⟩ := rh.obj _ _ a hx e1
            rw [e1']
            exact .inl ⟨vs, .inl (.inr ⟨ob, k⟩), rs.length⟩
          · cases hn
        · cases hn
      · exact q.elim
theorem or_list : CallR X (.type "list") (rs L (biR .list)) := by
  intro pins s σ H xs us Q I r hq
  obtain ⟨ρ, h, ws, rh, r1, q⟩ := hq
  cases ws with
  | nil => exact q.elim
  | cons x ws =>
    cases ws with
    | cons y ws =>
      cases ws with
      | nil => exact q.elim
      | cons _ _ => exact q.elim
    | nil =>
      obtain ⟨v, e0, q1⟩ := r1.one
      subst e0
      have q : Post L (Rel L) ρ H Q (match seqO h x with
        | some xs => newL xs h
        | none => .no) := q
      split at q
      · rename_i xs hx
        obtain ⟨a, vs, e, k, z, rs⟩ := Rel.seqO rh q1 hx
        subst e
        exact call_list_of pins s σ H _ us Q I r ⟨a, vs, rfl, hK ▸ k, post_new rh rs z q⟩
      · exact q.elim
theorem or_tuple : CallR X (.type "tuple") (rs L (biR .tuple)) := by
  intro pins s σ H xs us Q I r hq
  obtain ⟨ρ, h, ws, rh, r1, q⟩ := hq
  cases ws with
  | nil => exact q.elim
  | cons x ws =>
    cases ws with
    | cons y ws =>
      cases ws with
      | nil => exact q.elim
      | cons _ _ => exact q.elim
    | nil =>
      obtain ⟨v, e0, q1⟩ := r1.one
      subst e0
      have q : Post L (Rel L) ρ H Q (match seqO h x with
        | some xs => .ok (.tup xs) h
        | none => .no) := q
      split at q
      · rename_i xs hx
        obtain ⟨a, vs, e, k, z, rs⟩ := Rel.seqO rh q1 hx
        subst e
        refine call_tuple_of pins s σ H _ us Q I r ⟨a, vs, rfl, ?_⟩
        rcases k with k | k
        · exact .inl ⟨hK ▸ k, post_tup rh rs z q⟩
        · exact .inr ⟨hK ▸ k, q.now rh ⟨a, vs, rfl, k, z, rs⟩⟩
      · exact q.elim
omit hK in
theorem or_intC : CallR X (.type "int") (rs L (biR .int)) := by
  intro pins s σ H xs us Q I r hq
  obtain ⟨ρ, h, ws, rh, r1, q⟩ := hq
  cases ws with
  | nil => exact q.elim
  | cons x ws =>
    cases ws with
    | cons y ws =>
      cases ws with
      | nil => exact q.elim
      | cons _ _ => exact q.elim
    | nil =>
      obtain ⟨v, e0, q1⟩ := r1.one
      subst e0
      cases x with
      | int i => exact call_int1 pins s σ H _ us Q I r (.inl ⟨i, by rw [show v = .int i from q1], q.now rh rfl⟩)
      | bl k => exact call_int1 pins s σ H _ us Q I r (.inr ⟨k, by rw [show v = .bl k from q1], q.now rh rfl⟩)
      | _ => exact q.elim
omit hK in
theorem or_strC : CallR X (.type "str") (rs L (biR .str)) := by
  intro pins s σ H xs us Q I r hq
  obtain ⟨ρ, h, ws, rh, r1, q⟩ := hq
  cases ws with
  | nil => exact q.elim
  | cons x ws =>
    cases ws with
    | cons y ws =>
      cases ws with
      | nil => exact q.elim
      | cons _ _ => exact q.elim
    | nil =>
      obtain ⟨v, e0, q1⟩ := r1.one
      subst e0
      cases x with
      | int i =>
        have q : Post L (Rel L) ρ H Q (if decide (0 ≤ i) && decide (i < 10000000000) then .ok (.str (digits i.toNat)) h else .no) := q
        split at q
        · rename_i hz
          obtain ⟨h0, h1⟩ := Bool.and_eq_true_iff.mp hz
          have h0 := of_decide_eq_true h0
          have h1 := of_decide_eq_true h1
          obtain ⟨n, rfl⟩ := Int.eq_ofNat_of_zero_le h0
          have hn : n < 10 ^ 10 := by omega
          refine call_str_int pins s σ H _ us Q I r ⟨(n : Int), by rw [show v = .int (n : Int) from q1], ?_, ?_⟩
          · by_cases hz : n = 0
            · subst hz
              decide
            · have : ((n : Int)).natAbs = n := by simp
              rw [this]
              have : n.log2 < 34 := (Nat.log2_lt hz).mpr (by omega)
              omega
          · have e : (Str.ofString (toString ((n : Nat) : Int)) : Str) = ⟨(digits n).toArray⟩ := TL.ext_tl (by rw [TL.tl_num, TL.tl_mk]; rfl)
            rw [e]
            have hl : (TL.numL n).length ≤ 10 := TL.numL_len (by decide) hn
            have hd := TL.numL_digits n
            refine q.now rh ⟨⟨?_, fun c hc => ?_⟩, rfl⟩
            · show (TL.numL n).length ≤ SZ
              have : SZ = 16777216 := rfl
              omega
            · have hc : c ∈ TL.numL n := hc
              by_cases hlt : c < 48 ∨ 57 < c
              · exact absurd hc (TL.numL_free hlt)
              · omega
        · exact q.elim
      | _ => exact q.elim
omit hK in
theorem or_min (hc : X.calm = true) : CallR X (.builtin "min") (rs L (biR .min)) := by
  intro pins s σ H xs us Q I r hq
  obtain ⟨ρ, h, ws, rh, r1, q⟩ := hq
  match ws, r1, q with
  | [], _, q => exact q.elim
  | [x], _, q => exact q.elim
  | [x, y], r1, q =>
    obtain ⟨v, u, e0, q1, q2⟩ := r1.two
    subst e0
    cases x with
    | int i =>
      cases y with
      | int j => exact call_min2 hc pins s σ H _ us Q I r ⟨i, j, by rw [show v = .int i from q1, show u = .int j from q2], q.now rh rfl⟩
      | _ => exact q.elim
    | _ => exact q.elim
  | _ :: _ :: _ :: _, _, q => exact q.elim
omit hK in
theorem or_max (hc : X.calm = true) : CallR X (.builtin "max") (rs L (biR .max)) := by
  intro pins s σ H xs us Q I r hq
  obtain ⟨ρ, h, ws, rh, r1, q⟩ := hq
  match ws, r1, q with
  | [], _, q => exact q.elim
  | [x], _, q => exact q.elim
  | [x, y], r1, q =>
    obtain ⟨v, u, e0, q1, q2⟩ := r1.two
    subst e0
    cases x with
    | int i =>
      cases y with
      | int j => exact call_max2 hc pins s σ H _ us Q I r ⟨i, j, by rw [show v = .int i from q1, show u = .int j from q2], q.now rh rfl⟩
      | _ => exact q.elim
    | _ => exact q.elim
  | _ :: _ :: _ :: _, _, q => exact q.elim
end
section
variable {L : Lk} {ρ : List Addr} {H : Hp} {h : Hm} {Q : VK}
theorem intsO_rel : ∀ {xs : List W} {vs : List V} {ns : List Int}, intsO xs = some ns → Rels L ρ H xs vs → vs = ns.map V.int
  | [], vs, ns, e, r => by
    cases e
    exact r
  | .int i :: xs, _, ns, e, ⟨v, t, e1, r, rs⟩ => by
    have e : (intsO xs).map (i :: ·) = some ns := e
    obtain ⟨ms, e2, e3⟩ := Option.map_eq_some_iff.mp e
    subst e3
    rw [e1, show v = .int i from r, intsO_rel e2 rs]
    rfl
  | .non :: _, _, _, e, _ => by cases e
  | .bl _ :: _, _, _, e, _ => by cases e
  | .str _ :: _, _, _, e, _ => by cases e
  | .tup _ :: _, _, _, e, _ => by cases e
  | .ref _ :: _, _, _, e, _ => by cases e
theorem blsO_rel : ∀ {xs : List W} {vs : List V} {ns : List Bool}, blsO xs = some ns → Rels L ρ H xs vs → vs = ns.map V.bl
  | [], vs, ns, e, r => by
    cases e
    exact r
  | .bl i :: xs, _, ns, e, ⟨v, t, e1, r, rs⟩ => by
    have e : (blsO xs).map (i :: ·) = some ns := e
    obtain ⟨ms, e2, e3⟩ := Option.map_eq_some_iff.mp e
    subst e3
    rw [e1, show v = .bl i from r, blsO_rel e2 rs]
    rfl
  | .non :: _, _, _, e, _ => by cases e
  | .int _ :: _, _, _, e, _ => by cases e
  | .str _ :: _, _, _, e, _ => by cases e
  | .tup _ :: _, _, _, e, _ => by cases e
  | .ref _ :: _, _, _, e, _ => by cases e
theorem strsO_rel : ∀ {xs : List W} {vs : List V} {ns : List (List Nat)}, strsO xs = some ns → Rels L ρ H xs vs → vs = (ns.map fun s => (⟨s.toArray⟩ : Str)).map V.str ∧ ∀ s ∈ ns, ∀ c ∈ s, c < 1114112
  | [], vs, ns, e, r => by
    cases e
    exact ⟨r, fun _ h => by cases h⟩
  | .str i :: xs, _, ns, e, ⟨v, t, e1, r, rs⟩ => by
    have e : (strsO xs).map (i :: ·) = some ns := e
    obtain ⟨ms, e2, e3⟩ := Option.map_eq_some_iff.mp e
    subst e3
    obtain ⟨h1, h2⟩ := strsO_rel e2 rs
    refine ⟨?_, fun s hs => ?_⟩
    · rw [e1, r.2, h1]
      rfl
    · rcases List.mem_cons.mp hs with rfl | hs
      · exact r.1.2
      · exact h2 s hs
  | .non :: _, _, _, e, _ => by cases e
  | .int _ :: _, _, _, e, _ => by cases e
  | .bl _ :: _, _, _, e, _ => by cases e
  | .tup _ :: _, _, _, e, _ => by cases e
  | .ref _ :: _, _, _, e, _ => by cases e
end
section
variable {X : Cx} {L : Lk} (hK : X.K = L.K) (hc : X.calm = true)
include hK hc
theorem or_sum : CallR X (.builtin "sum") (rs L (biR .sum)) := by
  intro pins s σ H xs us Q I r hq
  obtain ⟨ρ, h, ws, rh, r1, q⟩ := hq
  match ws, r1, q with
  | [], _, q => exact q.elim
  | [x], r1, q =>
    obtain ⟨v, e0, q1⟩ := r1.one
    subst e0
    cases x with
    | ref n =>
      have q : Post L (Rel L) ρ H Q (match lstAt h n with
        | some xs => (match intsO xs with
          | some ns => .ok (.int ns.sum) h
          | none => .no)
        | none => .no) := q
      split at q
      · rename_i xs hx
        split at q
        · rename_i ns hn
          obtain ⟨a, vs, e, _, k, z, rs⟩ := Rel.lstAt rh q1 hx
          rw [intsO_rel hn rs] at k
          exact cr_sum hc pins s σ H _ us Q I r ⟨a, ns, by rw [e], hK ▸ k, q.now rh rfl⟩
        · exact q.elim
      · exact q.elim
    | tup xs =>
      exfalso
      revert q
      show ¬ Post L (Rel L) ρ H Q .no
      exact id
    | _ => exact q.elim
  | [_, _], _, q => exact q.elim
  | _ :: _ :: _ :: _, _, q => exact q.elim
theorem or_all : CallR X (.builtin "all") (rs L (biR .all)) := by
  intro pins s σ H xs us Q I r hq
  obtain ⟨ρ, h, ws, rh, r1, q⟩ := hq
  match ws, r1, q with
  | [], _, q => exact q.elim
  | [x], r1, q =>
    obtain ⟨v, e0, q1⟩ := r1.one
    subst e0
    cases x with
    | ref n =>
      have q : Post L (Rel L) ρ H Q (match (lstAt h n).bind blsO with
        | some bs => .ok (.bl (bs.all id)) h
        | none => .no) := q
      split at q
      · rename_i bs hb
        obtain ⟨xs, hx, hn⟩ := Option.bind_eq_some_iff.mp hb
        obtain ⟨a, vs, e, _, k, z, rs⟩ := Rel.lstAt rh q1 hx
        rw [blsO_rel hn rs] at k
        exact cr_all hc pins s σ H _ us Q I r ⟨a, bs, by rw [e], hK ▸ k, q.now rh rfl⟩
      · exact q.elim
    | _ => exact q.elim
  | [_, _], _, q => exact q.elim
  | _ :: _ :: _ :: _, _, q => exact q.elim
theorem or_any : CallR X (.builtin "any") (rs L (biR .any)) := by
  intro pins s σ H xs us Q I r hq
  obtain ⟨ρ, h, ws, rh, r1, q⟩ := hq
  match ws, r1, q with
  | [], _, q => exact q.elim
  | [x], r1, q =>
    obtain ⟨v, e0, q1⟩ := r1.one
    subst e0
    cases x with
    | ref n =>
      have q : Post L (Rel L) ρ H Q (match (lstAt h n).bind blsO with
        | some bs => .ok (.bl (bs.any id)) h
        | none => .no) := q
      split at q
      · rename_i bs hb
        obtain ⟨xs, hx, hn⟩ := Option.bind_eq_some_iff.mp hb
        obtain ⟨a, vs, e, _, k, z, rs⟩ := Rel.lstAt rh q1 hx
        rw [blsO_rel hn rs] at k
        exact cr_any hc pins s σ H _ us Q I r ⟨a, bs, by rw [e], hK ▸ k, q.now rh rfl⟩
      · exact q.elim
    | _ => exact q.elim
  | [_, _], _, q => exact q.elim
  | _ :: _ :: _ :: _, _, q => exact q.elim
end
end Py
end
section
/-! PyF: isinstance, methods of lists and texts. -/
namespace Py
open PySem PySem.Spec PyProof.Rows L2

def tyS : Ty → String
  | .bool => "bool"
  | .int => "int"
  | .str => "str"
  | .list => "list"
  | .tuple => "tuple"
theorem kit_non (t : Ty) : kitB "NoneType" (tyS t) = some false := by cases t <;> decide +kernel
theorem kit_bl (t : Ty) : kitB "bool" (tyS t) = some t.ofBl := by cases t <;> decide +kernel
theorem kit_int (t : Ty) : kitB "int" (tyS t) = some t.ofInt := by cases t <;> decide +kernel
theorem kit_str (t : Ty) : kitB "str" (tyS t) = some t.ofStr := by cases t <;> decide +kernel
theorem kit_tup (t : Ty) : kitB "tuple" (tyS t) = some t.ofTup := by cases t <;> decide +kernel
theorem kit_lst (t : Ty) : kitB "list" (tyS t) = some t.ofLst := by cases t <;> decide +kernel
section
variable {X : Cx} {L : Lk} (hK : X.K = L.K)
include hK
/-- isinstance(x, T), T a built-in class -/
theorem or_isi (t : Ty) : CallR X (.builtin "isinstance") (fun xs H Q => ∃ x, xs = [x, .ty (tyS t)] ∧ ∃ ρ h wx, RelH L ρ H h ∧ Rel L ρ H wx x ∧ Post L (Rel L) ρ H Q (biR (.isi t) [wx] h)) := by
  intro pins s σ H xs us Q I r hq
  obtain ⟨x, e0, ρ, h, wx, rh, r1, q⟩ := hq
  subst e0
  have fin : ∀ (T : String) (k : Bool), TyX X.K H x (.type T) → kitB T (tyS t) = some k → Q (.bl k) H → wpAny (model X.prog X.w) X.A (call (.builtin "isinstance") us) (EP X pins σ Q) X.xe s := fun T k ty e qk =>
    call_isi pins s σ H _ us Q I r ⟨x, .ty (tyS t), .type T, .type (tyS t), k, rfl, .ty _, ty, kit_ty e, qk⟩
  have q : Post L (Rel L) ρ H Q (match isTy h t wx with
    | some k => .ok (.bl k) h
    | none => .no) := q
  split at q
  · rename_i k hk
    have qk : Q (.bl k) H := q ρ H (.bl k) Ext.refl rh rfl
    cases wx with
    | non =>
      have e1 : x = .non := r1
      subst e1
      exact fin "NoneType" k (.base .non) ((kit_non t).trans hk) qk
    | bl b =>
      have e1 : x = .bl b := r1
      subst e1
      exact fin "bool" k (.base (.bl b)) ((kit_bl t).trans hk) qk
    | int i =>
      have e1 : x = .int i := r1
      subst e1
      exact fin "int" k (.base (.int i)) ((kit_int t).trans hk) qk
    | str z =>
      have e1 := r1.2
      subst e1
      exact fin "str" k (.base (.str _)) ((kit_str t).trans hk) qk
    | tup xs =>
      obtain ⟨a, vs, e1, kk, z, rs⟩ := r1
      subst e1
      have e2 : kitB "tuple" (tyS t) = some k := (kit_tup t).trans hk
      rcases kk with (kk | ⟨ob, kk⟩) | ⟨o, its, n, kk, kc, _⟩
      · exact fin "tuple" k (.base (.tup kk)) e2 qk
      · exact fin "tuple" k (.fTuple kk) e2 qk
      · exact fin "tuple" k (.kTuple (o := o) (hK ▸ kk) kc) e2 qk
    | ref n =>
      have hk : (match h[n]? with
        | some (.lst _) => some t.ofLst
        | some (.fro _) => some t.ofLst
        | _ => none) = some k := hk
      obtain ⟨a, e1, e1'⟩ := r1
      subst e1'
      split at hk
      · rename_i xs hx
        obtain ⟨vs, kk, z, rs⟩ := rh.obj _ _ a hx e1
        exact fin "list" k (.base (.lst kk)) ((kit_lst t).trans hk) qk
      · rename_i xs hx
        obtain ⟨ob, vs, kk, z, rs⟩ := rh.obj _ _ a hx e1
        exact fin "list" k (.base (.frz kk)) ((kit_lst t).trans hk) qk
      · cases hk
  · exact q.elim
end

/-! ### methods: by values, the receiver's type beside -/
/-- a method of ours, of a built-in type T -/
def rM (L : Lk) (T : String) (m : BM) : V → List V → Hp → VK → Prop := fun x xs H Q => ∃ ρ h wx ws, RelH L ρ H h ∧ Rel L ρ H wx x ∧ Rels L ρ H ws xs ∧ Post L (Rel L) ρ H Q (bmR m wx ws h)
section
variable {L : Lk} {ρ : List Addr} {H : Hp} {h : Hm} {Q : VK}
/-- a list of ours is written -/
theorem post_wr {n : Nat} {a : Addr} {xs : List W} {vs : List V} {w : W} {v : V} (rh : RelH L ρ H h) (e : ρ[n]? = some a) (r : Rels L ρ H xs vs) (hz : xs.length ≤ SZ) (rw_ : Rel L ρ H w v)
    (q : Post L (Rel L) ρ H Q (.ok w (h.set n (.lst xs)))) : Q v (upd H a (.lst vs)) := by
  have ex := ext_wr (u := .lst vs) (H := H) e
  exact q ρ _ _ ex (rh.wr e ⟨vs, upd_same, hz, r.mono ex rh⟩) (rw_.mono ex rh)
end
section
variable {α β : Type} {L : Lk} {RR : List Addr → Hp → α → β → Prop} {ρ : List Addr} {H : Hp} {h : Hm} {Q : β → Hp → Prop}
theorem arg0_ok {r : R α} {ws : List W} (q : Post L RR ρ H Q (arg0 r ws)) : ws = [] ∧ Post L RR ρ H Q r := by
  cases ws with
  | nil => exact ⟨rfl, q⟩
  | cons _ _ => exact q.elim
theorem arg1_ok {f : W → R α} {ws : List W} (q : Post L RR ρ H Q (arg1 f ws)) : ∃ y, ws = [y] ∧ Post L RR ρ H Q (f y) := by
  cases ws with
  | nil => exact q.elim
  | cons y ws =>
    cases ws with
    | nil => exact ⟨y, rfl, q⟩
    | cons _ _ => exact q.elim
theorem strA_ok {f : List Nat → R α} {x : W} (q : Post L RR ρ H Q (strA f x)) : ∃ s, x = .str s ∧ Post L RR ρ H Q (f s) := by
  cases x with
  | str s => exact ⟨s, rfl, q⟩
  | _ => exact q.elim
theorem intA_ok {f : Int → R α} {x : W} (q : Post L RR ρ H Q (intA f x)) : ∃ s, x = .int s ∧ Post L RR ρ H Q (f s) := by
  cases x with
  | int s => exact ⟨s, rfl, q⟩
  | _ => exact q.elim
theorem refA_ok {f : Nat → R α} {x : W} (q : Post L RR ρ H Q (refA f x)) : ∃ s, x = .ref s ∧ Post L RR ρ H Q (f s) := by
  cases x with
  | ref s => exact ⟨s, rfl, q⟩
  | _ => exact q.elim
theorem lstA_ok {n : Nat} {f : List W → R α} (q : Post L RR ρ H Q (lstA h n f)) : ∃ xs, h[n]? = some (.lst xs) ∧ Post L RR ρ H Q (f xs) := by
  unfold lstA at q
  split at q
  · rename_i xs e
    exact ⟨xs, e, q⟩
  · exact q.elim
theorem optA_ok {γ : Type} {o : Option γ} {f : γ → R α} (q : Post L RR ρ H Q (optA o f)) : ∃ b, o = some b ∧ Post L RR ρ H Q (f b) := by
  cases o with
  | none => exact q.elim
  | some b => exact ⟨b, rfl, q⟩
theorem signA_ok {f : Nat → R α} {s : List Nat} (q : Post L RR ρ H Q (signA f s)) : ∃ c, s = [c] ∧ Post L RR ρ H Q (f c) := by
  cases s with
  | nil => exact q.elim
  | cons y ws =>
    cases ws with
    | nil => exact ⟨y, rfl, q⟩
    | cons _ _ => exact q.elim
theorem ifA_ok {c : Bool} {r : R α} (q : Post L RR ρ H Q (ifA c r)) : c = true ∧ Post L RR ρ H Q r := by
  cases c with
  | true => exact ⟨rfl, q⟩
  | false => exact q.elim
end
section
variable {X : Cx} {L : Lk} (hK : X.K = L.K)
include hK
omit hK in
theorem or_append : MtR X "list.append" (rxs L (bmR .append)) := by
  intro pins s σ H x xs v us Q I rx rxs hq
  obtain ⟨ρ, h, wx, ws, rh, r1, r2, q⟩ := hq
  obtain ⟨n, rfl, q⟩ := refA_ok q
  obtain ⟨y, rfl, q⟩ := arg1_ok q
  obtain ⟨ys, hx, q⟩ := lstA_ok q
  obtain ⟨hz, q⟩ := ifA_ok q
  have hz := of_decide_eq_true hz
  obtain ⟨a, vs, e1, e2, k, z, rs⟩ := Rel.lst rh r1 hx
  obtain ⟨u, e3, r3⟩ := r2.one
  refine mt_append pins s σ H x xs v us Q I rx rxs ⟨a, vs, u, e1, e3, k, ?_, ?_⟩
  · rw [← rs.length, ← SZ_eq]
    exact hz
  · exact post_wr rh e2 (rs.append (Rels.cons r3 Rels.nil)) (by rw [List.length_append]; exact hz) (w := .non) (v := .non) rfl q
omit hK in
theorem or_pop : MtR X "list.pop" (rxs L (bmR .pop)) := by
  intro pins s σ H x xs v us Q I rx rxs hq
  obtain ⟨ρ, h, wx, ws, rh, r1, r2, q⟩ := hq
  obtain ⟨n, rfl, q⟩ := refA_ok q
  obtain ⟨rfl, q⟩ := arg0_ok q
  obtain ⟨ys, hx, q⟩ := lstA_ok q
  obtain ⟨y, hy, q⟩ := optA_ok q
  obtain ⟨a, vs, e1, e2, k, z, rs⟩ := Rel.lst rh r1 hx
  obtain ⟨u, e3, r3⟩ := rs.get hy
  rw [rs.length] at e3
  refine mt_pop pins s σ H x xs v us Q I rx rxs ⟨a, vs, u, e1, r2, k, e3, ?_⟩
  exact post_wr rh e2 rs.dropLast (by rw [List.length_dropLast]; omega) r3 q
omit hK in
theorem or_popAt : MtR X "list.pop" (rxs L (bmR .popAt)) := by
  intro pins s σ H x xs v us Q I rx rxs hq
  obtain ⟨ρ, h, wx, ws, rh, r1, r2, q⟩ := hq
  obtain ⟨n, rfl, q⟩ := refA_ok q
  obtain ⟨w, rfl, q⟩ := arg1_ok q
  obtain ⟨i, rfl, q⟩ := intA_ok q
  obtain ⟨ys, hx, q⟩ := lstA_ok q
  obtain ⟨j, hj, q⟩ := optA_ok q
  obtain ⟨y, hy, q⟩ := optA_ok q
  obtain ⟨a, vs, e1, e2, k, z, rs⟩ := Rel.lst rh r1 hx
  obtain ⟨u, e3, r3⟩ := rs.get hy
  obtain ⟨u1, e4, r4⟩ := r2.one
  have hj : L2.ixN ys.length i = some j := hj
  obtain ⟨j1, j2, j3, j4⟩ := ixN_seq hj
  have hs : SZ = 16777216 := rfl
  refine mt_popAt pins s σ H x xs v us Q I rx rxs ⟨a, vs, i, j, u, e1, by rw [e4, show u1 = .int i from r4], k, by omega, by omega, by rw [← rs.length]; exact j1, e3, ?_⟩
  exact post_wr rh e2 (rs.eraseIdx j) (by have := List.length_eraseIdx_le ys j; omega) r3 q
omit hK in
theorem or_extend : MtR X "list.extend" (rxs L (bmR .extend)) := by
  intro pins s σ H x xs v us Q I rx rxs hq
  obtain ⟨ρ, h, wx, ws, rh, r1, r2, q⟩ := hq
  obtain ⟨n, rfl, q⟩ := refA_ok q
  obtain ⟨w, rfl, q⟩ := arg1_ok q
  obtain ⟨m, rfl, q⟩ := refA_ok q
  obtain ⟨ys, hx, q⟩ := lstA_ok q
  obtain ⟨zs, hy, q⟩ := lstA_ok q
  obtain ⟨hz, q⟩ := ifA_ok q
  have hz := of_decide_eq_true hz
  obtain ⟨u, e3, r3⟩ := r2.one
  obtain ⟨a, vs, e1, e2, k, z, rs⟩ := Rel.lst rh r1 hx
  obtain ⟨b, us2, e4, e5, k2, z2, rs2⟩ := Rel.lst rh r3 hy
  refine mt_extend pins s σ H x xs v us Q I rx rxs ⟨a, b, vs, us2, e1, by rw [e3, e4], k, k2, ?_, ?_⟩
  · rw [← rs.length, ← rs2.length, ← SZ_eq]
    exact hz
  · exact post_wr rh e2 (rs.append rs2) (by rw [List.length_append]; exact hz) (w := .non) (v := .non) rfl q
end

/-! ### texts: split, upper, join -/
theorem splitW_ne (c : Nat) : ∀ s : List Nat, splitW c s ≠ []
  | [] => by
    unfold splitW
    simp
  | d :: s => by
    unfold splitW
    split
    · simp
    · split <;> simp
theorem spl_acc (c : Nat) : ∀ (s acc x : List Nat) (xs : List (List Nat)), splitW c s = x :: xs → TL.spl [c] 0 acc s = (acc ++ x) :: xs
  | [], acc, x, xs, e => by
    rw [TL.spl_nil]
    have e : ([[]] : List (List Nat)) = x :: xs := e
    cases e
    rw [List.append_nil]
  | d :: s, acc, x, xs, e => by
    unfold splitW at e
    by_cases hd : d = c
    · subst hd
      rw [if_pos rfl] at e
      obtain ⟨rfl, rfl⟩ := List.cons.inj e
      rw [TL.spl_hit (by show ([d] == [d]) = true; simp)]
      rw [List.append_nil]
      cases e2 : splitW d s with
      | nil => exact absurd e2 (splitW_ne d s)
      | cons y ys =>
        have := spl_acc d s [] y ys e2
        rw [List.nil_append] at this
        rw [← this]
        rfl
    · rw [if_neg hd] at e
      cases e2 : splitW c s with
      | nil => exact absurd e2 (splitW_ne c s)
      | cons y ys =>
        rw [e2] at e
        obtain ⟨rfl, rfl⟩ := List.cons.inj e
        rw [TL.spl_miss (by show ([d] == [c]) = false; simp [hd]), spl_acc c s (acc ++ [d]) y ys e2]
        simp
theorem split_eq (c : Nat) (hc : c < 256) (s : List Nat) : Txt.split ⟨s.toArray⟩ ⟨[c].toArray⟩ = (splitW c s).map fun x => (⟨x.toArray⟩ : Str) := by
  apply TL.map_tl_inj
  rw [TL.split_spl _ _ (by rw [TL.tl_mk]; simp) (TL.kind_ok (by simp [hc]))]
  rw [TL.tl_mk, TL.tl_mk, List.map_map]
  cases e2 : splitW c s with
  | nil => exact absurd e2 (splitW_ne c s)
  | cons y ys =>
    rw [spl_acc c s [] y ys e2, List.nil_append]
    show y :: ys = (TL.tl ∘ fun x => ⟨x.toArray⟩) y :: ys.map _
    have : (TL.tl ∘ fun x : List Nat => (⟨x.toArray⟩ : Str)) = id := by
      funext z
      exact TL.tl_mk z
    rw [this, List.map_id]
    rfl
theorem splitW_len (c : Nat) : ∀ s : List Nat, (splitW c s).length ≤ s.length + 1 ∧ ∀ x ∈ splitW c s, x.length ≤ s.length ∧ ∀ d ∈ x, d ∈ s
  | [] => by
    unfold splitW
    simp
  | d :: s => by
    obtain ⟨h1, h2⟩ := splitW_len c s
    unfold splitW
    by_cases hd : d = c
    · rw [if_pos hd]
      refine ⟨by simp only [List.length_cons]; omega, fun x hx => ?_⟩
      rcases List.mem_cons.mp hx with rfl | hx
      · simp
      · obtain ⟨a1, a2⟩ := h2 x hx
        exact ⟨by simp only [List.length_cons]; omega, fun e he => List.mem_cons_of_mem _ (a2 e he)⟩
    · rw [if_neg hd]
      cases e2 : splitW c s with
      | nil => exact absurd e2 (splitW_ne c s)
      | cons y ys =>
        rw [e2] at h1 h2
        refine ⟨by simp only [List.length_cons] at h1 ⊢; omega, fun x hx => ?_⟩
        rcases List.mem_cons.mp hx with rfl | hx
        · obtain ⟨a1, a2⟩ := h2 y List.mem_cons_self
          refine ⟨by simp only [List.length_cons]; omega, fun e he => ?_⟩
          rcases List.mem_cons.mp he with rfl | he
          · exact List.mem_cons_self
          · exact List.mem_cons_of_mem _ (a2 e he)
        · obtain ⟨a1, a2⟩ := h2 x (List.mem_cons_of_mem _ hx)
          exact ⟨by simp only [List.length_cons]; omega, fun e he => List.mem_cons_of_mem _ (a2 e he)⟩
theorem joinW_eq (sep : List Nat) : ∀ xs : List (List Nat), joinW sep xs = TL.joinL sep xs
  | [] => rfl
  | [_] => rfl
  | x :: y :: r => by
    show x ++ (sep ++ joinW sep (y :: r)) = x ++ (sep ++ TL.joinL sep (y :: r))
    rw [joinW_eq sep (y :: r)]
theorem join_eq (s : List Nat) (ys : List (List Nat)) : Txt.join ⟨s.toArray⟩ (ys.map fun x => (⟨x.toArray⟩ : Str)) = ⟨(joinW s ys).toArray⟩ := by
  apply TL.ext_tl
  rw [TL.join_eq, TL.tl_join, TL.tl_mk, TL.tl_mk, joinW_eq, List.map_map]
  have : (TL.tl ∘ fun x : List Nat => (⟨x.toArray⟩ : Str)) = id := by
    funext z
    exact TL.tl_mk z
  rw [this, List.map_id]
theorem joinW_mem (sep : List Nat) {P : Nat → Prop} (hs : ∀ c ∈ sep, P c) : ∀ xs : List (List Nat), (∀ x ∈ xs, ∀ c ∈ x, P c) → ∀ c ∈ joinW sep xs, P c
  | [], _, _, hc => by cases hc
  | [x], h, c, hc => h x List.mem_cons_self c hc
  | x :: y :: r, h, c, hc => by
    have hc : c ∈ x ++ (sep ++ joinW sep (y :: r)) := hc
    rcases List.mem_append.mp hc with hc | hc
    · exact h x List.mem_cons_self c hc
    · rcases List.mem_append.mp hc with hc | hc
      · exact hs c hc
      · exact joinW_mem sep hs (y :: r) (fun z hz => h z (List.mem_cons_of_mem _ hz)) c hc
theorem joinW_len (sep : List Nat) : ∀ xs : List (List Nat), (joinW sep xs).length ≤ joinSz sep xs
  | [] => by simp [joinW]
  | [x] => by simp [joinW, joinSz]
  | x :: y :: r => by
    have h := joinW_len sep (y :: r)
    show (x ++ (sep ++ joinW sep (y :: r))).length ≤ _
    unfold joinSz at h ⊢
    simp only [List.length_append, List.map_cons, List.sum_cons, List.length_cons] at h ⊢
    rw [Nat.mul_add] at h ⊢
    rw [Nat.mul_add, Nat.mul_one] at *
    omega
section
variable {X : Cx} {L : Lk} (hK : X.K = L.K)
include hK
omit hK in
theorem or_split : MtR X "str.split" (rxs L (bmR .split)) := by
  intro pins s σ H x xs v us Q I rx rxs hq
  obtain ⟨ρ, h, wx, ws, rh, r1, r2, q⟩ := hq
  obtain ⟨t, rfl, q⟩ := strA_ok q
  obtain ⟨w, rfl, q⟩ := arg1_ok q
  obtain ⟨t2, rfl, q⟩ := strA_ok q
  obtain ⟨c, rfl, q⟩ := signA_ok q
  obtain ⟨hz, q⟩ := ifA_ok q
  obtain ⟨hz1, hz2⟩ := Bool.and_eq_true_iff.mp hz
  have hz1 := of_decide_eq_true hz1
  have hz2 := of_decide_eq_true hz2
  obtain ⟨u, e3, r3⟩ := r2.one
  refine mt_split pins s σ H x xs v us Q I rx rxs ⟨_, _, r1.2, by rw [e3, r3.2], by rw [str_len]; rfl, by rw [str_len, ← SZ_eq]; exact hz1, ?_⟩
  rw [split_eq c hz2]
  obtain ⟨l1, l2⟩ := splitW_len c t
  unfold rNewStrs
  refine post_new (xs := (splitW c t).map .str) rh ?_ (by rw [List.length_map]; omega) q
  refine Rels.of_get (by simp) fun i w v1 f1 f2 => ?_
  simp only [List.getElem?_map, Option.map_eq_some_iff] at f1 f2
  obtain ⟨y, g1, g2⟩ := f1
  obtain ⟨z, ⟨y', g3, g4⟩, g5⟩ := f2
  rw [g1] at g3
  cases g3
  subst g2 g4 g5
  obtain ⟨l3, l4⟩ := l2 y (List.mem_of_getElem? g1)
  exact ⟨⟨by omega, fun d hd => r1.1.2 d (l4 d hd)⟩, rfl⟩
omit hK in
theorem upC_eq (c : Nat) (h : c < 128) : PyProof.Rows.up1 c = upC c := by
  have : ∀ c : Nat, c < 128 → PyProof.Rows.up1 c = upC c := by decide
  exact this c h
omit hK in
theorem or_upper : MtR X "str.upper" (rxs L (bmR .upper)) := by
  intro pins s σ H x xs v us Q I rx rxs hq
  obtain ⟨ρ, h, wx, ws, rh, r1, r2, q⟩ := hq
  obtain ⟨t, rfl, q⟩ := strA_ok q
  obtain ⟨rfl, q⟩ := arg0_ok q
  obtain ⟨hz, q⟩ := ifA_ok q
  obtain ⟨hz1, hz2⟩ := Bool.and_eq_true_iff.mp hz
  have hz1 := of_decide_eq_true hz1
  have hz2 : ∀ c ∈ t, c < 128 := fun c hc => of_decide_eq_true (List.all_eq_true.mp hz2 c hc)
  refine mt_upper pins s σ H x xs v us Q I rx rxs ⟨_, r1.2, r2, by rw [str_len]; exact hz1, ?_⟩
  rw [PyProof.Rows.upper_ascii (by simpa using hz2)]
  have e : (⟨Array.map PyProof.Rows.up1 t.toArray⟩ : Str) = ⟨(t.map upC).toArray⟩ := by
    congr 1
    rw [List.map_toArray]
    congr 1
  rw [e]
  refine q.now rh ⟨⟨by rw [List.length_map]; exact r1.1.1, fun c hc => ?_⟩, rfl⟩
  obtain ⟨d, hd, rfl⟩ := List.mem_map.mp hc
  have := hz2 d hd
  unfold upC
  split <;> omega
theorem or_join : MtR X "str.join" (rxs L (bmR .join)) := by
  intro pins s σ H x xs v us Q I rx rxs hq
  obtain ⟨ρ, h, wx, ws, rh, r1, r2, q⟩ := hq
  obtain ⟨t, rfl, q⟩ := strA_ok q
  obtain ⟨w, rfl, q⟩ := arg1_ok q
  obtain ⟨n, rfl, q⟩ := refA_ok q
  obtain ⟨ys, hy, q⟩ := optA_ok q
  obtain ⟨hz, q⟩ := ifA_ok q
  have hz := of_decide_eq_true hz
  obtain ⟨zs, hy1, hy2⟩ := Option.bind_eq_some_iff.mp hy
  obtain ⟨u, e3, r3⟩ := r2.one
  obtain ⟨a, vs, e1, _, k, z, rs⟩ := Rel.lstAt rh r3 hy1
  obtain ⟨ev, hc⟩ := strsO_rel hy2 rs
  rw [ev] at k
  refine mt_join pins s σ H x xs v us Q I rx rxs ⟨_, a, _, r1.2, by rw [e3, e1], .inl (hK ▸ k), ?_, ?_⟩
  · rw [List.map_map, List.length_map, str_len]
    have e : (Str.length ∘ fun s : List Nat => (⟨s.toArray⟩ : Str)) = List.length := by
      funext y
      exact str_len y
    rw [e]
    unfold joinSz at hz
    have : SZ = 16777216 := rfl
    rw [Nat.mul_comm ys.length]
    omega
  · rw [join_eq]
    exact q.now rh ⟨⟨Nat.le_trans (joinW_len _ _) hz, joinW_mem t r1.1.2 ys hc⟩, rfl⟩
end
end Py
end
section
/-! PyG: expressions of ours over the layer's rules. -/
namespace Py
open PySem PySem.Spec PyProof.Rows L2

def opS : BOp → Operator
  | .add => .Add
  | .sub => .Sub
  | .mul => .Mult
  | .fdiv => .FloorDiv
  | .mod => .Mod
  | .pow => .Pow
  | .bor => .BitOr
  | .band => .BitAnd
  | .shl => .LShift
  | .shr => .RShift
def cmpS : COp → CmpOp
  | .eq => .Eq
  | .ne => .NotEq
  | .lt => .Lt
  | .le => .LtE
  | .gt => .Gt
  | .ge => .GtE
  | .in_ => .In
  | .nin => .NotIn
section
variable {X : Cx} {L : Lk} (hK : X.K = L.K) (hu : X.A.units + 65 < cLine) (hc : X.calm = true)
theorem or_bin (hK : X.K = L.K) (op : BOp) : OpR X (binaryOp (opS op)) (r2 L (binop op)) := by
  cases op with
  | add => exact or_add hK
  | sub => exact or_int (C := fun _ _ => True) (rI_of op_sub) fun _ _ _ => trivial
  | mul => exact or_mul hK
  | fdiv => exact or_int op_fdiv cDiv_ok
  | mod => exact or_int op_mod cMod_ok
  | pow => exact or_int op_pow cPow_ok
  | bor => exact or_int (C := fun _ _ => True) (rI_of op_or) fun _ _ _ => trivial
  | band => exact or_int (C := fun _ _ => True) (rI_of op_and) fun _ _ _ => trivial
  | shl => exact or_int op_shl cPow_ok
  | shr => exact or_int op_shr cShr_ok
theorem or_cmpS (hK : X.K = L.K) (hu : X.A.units + 65 < cLine) (op : COp) : OpR X (compareOp (cmpS op)) (r2 L (cmpop op)) := by
  have h := or_cmp hK hu op
  cases op <;> exact h
end

theorem R.bind_assoc {α β γ : Type} (r : R α) (f : α → Hm → R β) (g : β → Hm → R γ) : (r.bind f).bind g = r.bind fun x h => (f x h).bind g := by
  cases r <;> rfl

/-! ### values by values -/
section
variable {X : Cx} {L : Lk} {a b : Expr} {ma mb mc : Env → Hm → R W} {pos : Pos}
theorem te_op {m : W → W → Hm → R W} {σ : L2.St} {H : Hp} {Q : VK} (h : tE L (fun σ h => (ma σ h).bind fun x h1 => (mb σ h1).bind fun y h2 => m x y h2) σ H Q) : tOp (r2 L m) (tE L ma) (tE L mb) σ H Q := by
  obtain ⟨ρ, sm, h, rh, rs, q⟩ := h
  refine ⟨ρ, sm, h, rh, rs, q.bind.imp fun x H1 ⟨ρ1, w, h1, e1, rh1, rw1, q1⟩ => ?_⟩
  refine ⟨ρ1, sm, h1, rh1, rs.mono e1 rh, q1.bind.imp fun y H2 ⟨ρ2, w2, h2, e2, rh2, rw2, q2⟩ => ?_⟩
  exact ⟨ρ2, h2, w, w2, rh2, rw1.mono e2 rh1, rw2, q2⟩
theorem te_un {m : W → Hm → R W} {σ : L2.St} {H : Hp} {Q : VK} (h : tE L (fun σ h => (ma σ h).bind fun x h1 => m x h1) σ H Q) : tE L ma σ H fun x H1 => r1 L m x H1 Q := by
  obtain ⟨ρ, sm, h, rh, rs, q⟩ := h
  exact ⟨ρ, sm, h, rh, rs, q.bind.imp fun x H1 ⟨ρ1, w, h1, e1, rh1, rw1, q1⟩ => ⟨ρ1, h1, w, rh1, rw1, q1⟩⟩
theorem g_bin (op : BOp) (hK : X.K = L.K) (ha : PE X a (tE L ma)) (hb : PE X b (tE L mb)) :
    PE X (.BinOp a (opS op) b pos) (tE L fun σ h => (ma σ h).bind fun x h1 => (mb σ h1).bind fun y h2 => binop op x y h2) :=
  PE.imp (pe_op (or_bin hK op) ha hb) fun _ _ _ h => te_op h
theorem g_cmp (op : COp) (hK : X.K = L.K) (hu : X.A.units + 65 < cLine) (hm : behindInMarks (cmpS op) b = false) (ha : PE X a (tE L ma)) (hb : PE X b (tE L mb)) :
    PE X (.Compare a [cmpS op] [b] pos) (tE L fun σ h => (ma σ h).bind fun x h1 => (mb σ h1).bind fun y h2 => cmpop op x y h2) :=
  PE.imp (pe_cmpR (or_cmpS hK hu op) ha hb hm) fun _ _ _ h => te_op h
theorem g_isN {j pos'} (ha : PE X a (tE L ma)) : PE X (.Compare a [.Is] [.Constant .none j pos'] pos) (tE L fun σ h => (ma σ h).bind fun x h1 => .ok (.bl (isNon x)) h1) := by
  refine PE.imp (pe_cmpR (or_isN (L := L)) ha pe_non (nomark _)) fun σ H Q h => ?_
  obtain ⟨ρ, sm, h, rh, rs, q⟩ := h
  exact ⟨ρ, sm, h, rh, rs, q.bind.imp fun x H1 ⟨ρ1, w, h1, e1, rh1, rw1, q1⟩ => ⟨rfl, ρ1, h1, w, rh1, rw1, q1⟩⟩
theorem g_notN {j pos'} (ha : PE X a (tE L ma)) : PE X (.Compare a [.IsNot] [.Constant .none j pos'] pos) (tE L fun σ h => (ma σ h).bind fun x h1 => .ok (.bl (!isNon x)) h1) := by
  refine PE.imp (pe_cmpR (or_notN (L := L)) ha pe_non (nomark _)) fun σ H Q h => ?_
  obtain ⟨ρ, sm, h, rh, rs, q⟩ := h
  exact ⟨ρ, sm, h, rh, rs, q.bind.imp fun x H1 ⟨ρ1, w, h1, e1, rh1, rw1, q1⟩ => ⟨rfl, ρ1, h1, w, rh1, rw1, q1⟩⟩
theorem g_isB {k : Bool} {j pos'} (ha : PE X a (tE L ma)) : PE X (.Compare a [.Is] [.Constant (.bool k) j pos'] pos) (tE L fun σ h => (ma σ h).bind fun x h1 => isBl false k x h1) := by
  refine PE.imp (pe_cmpR op_isBl ha pe_bl (nomark _)) fun σ H Q h => ?_
  obtain ⟨ρ, sm, h, rh, rs, q⟩ := h
  refine ⟨ρ, sm, h, rh, rs, q.bind.imp fun x H1 ⟨ρ1, w, h1, e1, rh1, rw1, q1⟩ => ?_⟩
  cases w with
  | bl b =>
    refine ⟨b, k, rw1, rfl, ?_⟩
    have e : decide (b = k) = (b == k) := by cases b <;> cases k <;> rfl
    rw [e]
    exact q1 ρ1 H1 _ Ext.refl rh1 rfl
  | _ => exact q1.elim
theorem g_notB {k : Bool} {j pos'} (ha : PE X a (tE L ma)) : PE X (.Compare a [.IsNot] [.Constant (.bool k) j pos'] pos) (tE L fun σ h => (ma σ h).bind fun x h1 => isBl true k x h1) := by
  refine PE.imp (pe_cmpR op_notBl ha pe_bl (nomark _)) fun σ H Q h => ?_
  obtain ⟨ρ, sm, h, rh, rs, q⟩ := h
  refine ⟨ρ, sm, h, rh, rs, q.bind.imp fun x H1 ⟨ρ1, w, h1, e1, rh1, rw1, q1⟩ => ?_⟩
  cases w with
  | bl b =>
    refine ⟨b, k, rw1, rfl, ?_⟩
    have e : (!decide (b = k)) = (b != k) := by cases b <;> cases k <;> rfl
    rw [e]
    exact q1 ρ1 H1 _ Ext.refl rh1 rfl
  | _ => exact q1.elim
theorem cmpop_bl {op : COp} {x y w : W} {h h' : Hm} (e : cmpop op x y h = .ok w h') : ∃ k, w = .bl k := by
  cases op <;> simp only [cmpop, eqR, inR, cmpI] at e <;> (repeat' split at e) <;> first | cases e; exact ⟨_, rfl⟩ | cases e
theorem te_chain {op op' : COp} {σ : L2.St} {H : Hp} {Q : VK} (h : tE L (fun σ h => (ma σ h).bind fun x h1 => (mb σ h1).bind fun y h2 => (cmpop op x y h2).bind fun r h3 => chK op' y (fun h => mc σ h) r h3) σ H Q) :
    tE L ma σ H fun x H1 => tE L mb σ H1 fun y H2 => r2 L (cmpop op) x y H2 fun z H3 => ∃ k, z = .bl k ∧ if k = true then tE L mc σ H3 (fun u H4 => r2 L (cmpop op') y u H4 Q) else Q (.bl false) H3 := by
  obtain ⟨ρ, sm, h, rh, rs, q⟩ := h
  refine ⟨ρ, sm, h, rh, rs, q.bind.imp fun x H1 ⟨ρ1, w, h1, e1, rh1, rw1, q1⟩ => ?_⟩
  refine ⟨ρ1, sm, h1, rh1, rs.mono e1 rh, q1.bind.imp fun y H2 ⟨ρ2, w2, h2, e2, rh2, rw2, q2⟩ => ?_⟩
  refine ⟨ρ2, h2, w, w2, rh2, rw1.mono e2 rh1, rw2, ?_⟩
  cases e : cmpop op w w2 h2 with
  | no => rw [e] at q2; exact q2.elim
  | ex _ _ _ => rw [e] at q2; exact q2.elim
  | ok r h3 =>
    rw [e] at q2
    obtain ⟨k, rfl⟩ := cmpop_bl e
    intro ρ3 H3 z e3 rh3 r3
    refine ⟨k, r3, ?_⟩
    have q3 := Post.ext e3 q2
    cases k with
    | false =>
      rw [if_neg Bool.false_ne_true]
      exact q3 ρ3 H3 _ Ext.refl rh3 rfl
    | true =>
      rw [if_pos rfl]
      refine ⟨ρ3, sm, h3, rh3, (rs.mono e1 rh).mono (e2.trans e3) rh1, ?_⟩
      have q3 : Post L (Rel L) ρ3 H3 Q ((mc sm h3).bind fun z h4 => cmpop op' w2 z h4) := q3
      exact q3.bind.imp fun u H4 ⟨ρ4, w4, h4, e4, rh4, rw4, q4⟩ => ⟨ρ4, h4, w2, w4, rh4, rw2.mono (e3.trans e4) rh2, rw4, q4⟩
theorem g_chain {c : Expr} (op op' : COp) (hK : X.K = L.K) (hu : X.A.units + 65 < cLine) (hm : cmpS op' ≠ .In ∧ cmpS op' ≠ .NotIn) (ha : PE X a (tE L ma)) (hb : PE X b (tE L mb)) (hcc : PE X c (tE L mc)) :
    PE X (.Compare a [cmpS op, cmpS op'] [b, c] pos) (tE L fun σ h => (ma σ h).bind fun x h1 => (mb σ h1).bind fun y h2 => (cmpop op x y h2).bind fun r h3 => chK op' y (fun h => mc σ h) r h3) :=
  PE.imp (pe_chain (or_cmpS hK hu op) (or_cmpS hK hu op') ha hb hcc (nomark _ hm.1 hm.2)) fun _ _ _ h => te_chain h
/-! ### truth -/
theorem truR_ok {w : W} {h h' : Hm} {k : Bool} (e : truR w h = .ok k h') : h' = h ∧ tru h w = some k := by
  unfold truR at e
  split at e
  · rename_i b hb
    cases e
    exact ⟨rfl, hb⟩
  · cases e
theorem truR_cases {w : W} {h : Hm} : (∃ k, truR w h = .ok k h ∧ tru h w = some k) ∨ truR w h = .no := by
  unfold truR
  cases tru h w with
  | none => exact .inr rfl
  | some k => exact .inl ⟨k, rfl, rfl⟩
def tmT (m : Env → Hm → R W) (σ : Env) (h : Hm) : R Bool := (m σ h).bind fun x h1 => truR x h1
theorem te_tru {σ : L2.St} {H : Hp} {Q : Bool → Hp → Prop} (hK : X.K = L.K) (h : tT L (tmT ma) σ H Q) : tE L ma σ H fun x H1 => ∃ k, TruV X.K x H1 k ∧ Q k H1 := by
  obtain ⟨ρ, sm, h, rh, rs, q⟩ := h
  refine ⟨ρ, sm, h, rh, rs, q.bind.imp fun x H1 ⟨ρ1, w, h1, e1, rh1, rw1, q1⟩ => ?_⟩
  rcases truR_cases (w := w) (h := h1) with ⟨k, e, e'⟩ | e
  · rw [e] at q1
    exact ⟨k, hK ▸ tru_tv rh1 rw1 e', q1 ρ1 H1 k Ext.refl rh1 rfl⟩
  · rw [e] at q1
    exact q1.elim
theorem g_truth (hK : X.K = L.K) (ha : PE X a (tE L ma)) (he : ∀ whole, isTrue a X.env whole = (do let v ← whole; standAt a.pos; holding [v] (truthy v))) : PT X a (tT L (tmT ma)) :=
  PT.imp (pt_truth ha he) fun _ _ _ h => te_tru hK h
theorem g_tcmp (op : COp) (hK : X.K = L.K) (hu : X.A.units + 65 < cLine) (hm : behindInMarks (cmpS op) b = false) (ha : PE X a (tE L ma)) (hb : PE X b (tE L mb)) :
    PT X (.Compare a [cmpS op] [b] pos) (tT L (tmT fun σ h => (ma σ h).bind fun x h1 => (mb σ h1).bind fun y h2 => cmpop op x y h2)) := by
  refine PT.imp (pt_cmpR (or_cmpS hK hu op) ha hb hm) fun σ H Q h => ?_
  obtain ⟨ρ, sm, h, rh, rs, q⟩ := h
  unfold tmT at q
  rw [R.bind_assoc] at q
  refine ⟨ρ, sm, h, rh, rs, q.bind.imp fun x H1 ⟨ρ1, w, h1, e1, rh1, rw1, q1⟩ => ?_⟩
  rw [R.bind_assoc] at q1
  refine ⟨ρ1, sm, h1, rh1, rs.mono e1 rh, q1.bind.imp fun y H2 ⟨ρ2, w2, h2, e2, rh2, rw2, q2⟩ => ?_⟩
  refine ⟨ρ2, h2, w, w2, rh2, rw1.mono e2 rh1, rw2, ?_⟩
  cases e : cmpop op w w2 h2 with
  | no => rw [e] at q2; exact q2.elim
  | ex _ _ _ => rw [e] at q2; exact q2.elim
  | ok r h3 =>
    rw [e] at q2
    obtain ⟨k, rfl⟩ := cmpop_bl e
    exact fun ρ3 H3 z e3 rh3 r3 => ⟨k, r3, q2 ρ3 H3 k e3 rh3 rfl⟩
end
end Py
end
section
/-! PyH: and, or, not, if; arguments; calls; items; targets; statements; loops; comprehensions: ours over the layer's. -/
namespace Py
open PySem PySem.Spec PyProof.Rows L2

section
variable {X : Cx} {L : Lk} {a b c : Expr} {ma mb mc : Env → Hm → R W} {pos : Pos} {rest : List Expr}
/-! ### and, or, not, if else -/
theorem te_br {σ : L2.St} {H : Hp} {Q : VK} (hK : X.K = L.K) {f : W → Env → Hm → Bool → R W} (h : tE L (fun σ h => (ma σ h).bind fun x h1 => (truR x h1).bind fun k h2 => f x σ h2 k) σ H Q) :
    tE L ma σ H fun x H1 => ∃ k, TruV X.K x H1 k ∧ ∃ ρ1 sm h1 w, RelH L ρ1 H1 h1 ∧ RelS L ρ1 H1 sm σ ∧ Rel L ρ1 H1 w x ∧ Post L (Rel L) ρ1 H1 Q (f w sm h1 k) := by
  obtain ⟨ρ, sm, h, rh, rs, q⟩ := h
  refine ⟨ρ, sm, h, rh, rs, q.bind.imp fun x H1 ⟨ρ1, w, h1, e1, rh1, rw1, q1⟩ => ?_⟩
  rcases truR_cases (w := w) (h := h1) with ⟨k, e, e'⟩ | e
  · rw [e] at q1
    exact ⟨k, hK ▸ tru_tv rh1 rw1 e', ρ1, sm, h1, w, rh1, rs.mono e1 rh, rw1, q1⟩
  · rw [e] at q1
    exact q1.elim
theorem g_and (hK : X.K = L.K) (ha : PE X a (tE L ma)) (hb : PE X (.BoolOp .And (b :: rest) pos) (tE L mb)) :
    PE X (.BoolOp .And (a :: b :: rest) pos) (tE L fun σ h => (ma σ h).bind fun x h1 => (truR x h1).bind fun k h2 => brB k (mb σ h2) (.ok x h2)) := by
  refine PE.imp (pe_andT ha hb) fun σ H Q h => ?_
  obtain ⟨ρ, sm, h, rh, rs, q⟩ := te_br (f := fun x σ h2 k => brB k (mb σ h2) (.ok x h2)) hK h
  refine ⟨ρ, sm, h, rh, rs, q.imp fun x H1 ⟨k, tv, ρ1, sm1, h1, w, rh1, rs1, rw1, q1⟩ => ⟨k, tv, ?_⟩⟩
  cases k with
  | true =>
    rw [if_pos rfl]
    exact ⟨ρ1, sm1, h1, rh1, rs1, q1⟩
  | false =>
    rw [if_neg Bool.false_ne_true]
    exact q1 ρ1 H1 x Ext.refl rh1 rw1
theorem g_or (hK : X.K = L.K) (ha : PE X a (tE L ma)) (hb : PE X (.BoolOp .Or (b :: rest) pos) (tE L mb)) :
    PE X (.BoolOp .Or (a :: b :: rest) pos) (tE L fun σ h => (ma σ h).bind fun x h1 => (truR x h1).bind fun k h2 => brB k (.ok x h2) (mb σ h2)) := by
  refine PE.imp (pe_orT ha hb) fun σ H Q h => ?_
  obtain ⟨ρ, sm, h, rh, rs, q⟩ := te_br (f := fun x σ h2 k => brB k (.ok x h2) (mb σ h2)) hK h
  refine ⟨ρ, sm, h, rh, rs, q.imp fun x H1 ⟨k, tv, ρ1, sm1, h1, w, rh1, rs1, rw1, q1⟩ => ⟨k, tv, ?_⟩⟩
  cases k with
  | true =>
    rw [if_pos rfl]
    exact q1 ρ1 H1 x Ext.refl rh1 rw1
  | false =>
    rw [if_neg Bool.false_ne_true]
    exact ⟨ρ1, sm1, h1, rh1, rs1, q1⟩
theorem g_not (hK : X.K = L.K) (ha : PE X a (tE L ma)) : PE X (.UnaryOp .Not a pos) (tE L fun σ h => (ma σ h).bind fun x h1 => (truR x h1).bind fun k h2 => .ok (.bl (!k)) h2) := by
  refine PE.imp (pe_notT ha) fun σ H Q h => ?_
  obtain ⟨ρ, sm, h, rh, rs, q⟩ := te_br (f := fun x σ h2 k => .ok (.bl (!k)) h2) hK h
  refine ⟨ρ, sm, h, rh, rs, q.imp fun x H1 ⟨k, tv, ρ1, sm1, h1, w, rh1, rs1, rw1, q1⟩ => ⟨k, tv, ?_⟩⟩
  exact q1 ρ1 H1 _ Ext.refl rh1 rfl
theorem tt_br {σ : L2.St} {H : Hp} {Q : VK} {f : Env → Hm → Bool → R W} (h : tE L (fun σ h => (ma σ h).bind fun x h1 => (truR x h1).bind fun k h2 => f σ h2 k) σ H Q) :
    tT L (tmT ma) σ H fun k H1 => ∃ ρ1 sm h1, RelH L ρ1 H1 h1 ∧ RelS L ρ1 H1 sm σ ∧ Post L (Rel L) ρ1 H1 Q (f sm h1 k) := by
  obtain ⟨ρ, sm, h, rh, rs, q⟩ := h
  dsimp only at q
  rw [← R.bind_assoc] at q
  refine ⟨ρ, sm, h, rh, rs, (q.bind (RR := EqB)).imp fun x H1 ⟨ρ1, w, h1, e1, rh1, rw1, q1⟩ => ?_⟩
  have : w = x := rw1
  subst this
  exact ⟨ρ1, sm, h1, rh1, rs.mono e1 rh, q1⟩
theorem g_ite (hc : PT X c (tT L (tmT mc))) (ha : PE X a (tE L ma)) (hb : PE X b (tE L mb)) :
    PE X (.IfExp c a b pos) (tE L fun σ h => (mc σ h).bind fun x h1 => (truR x h1).bind fun k h2 => brB k (ma σ h2) (mb σ h2)) := by
  refine PE.imp (pe_ifExp hc ha hb) fun σ H Q h => ?_
  obtain ⟨ρ, sm, h, rh, rs, q⟩ := tt_br (f := fun σ h2 k => brB k (ma σ h2) (mb σ h2)) h
  refine ⟨ρ, sm, h, rh, rs, q.imp fun k H1 ⟨ρ1, sm1, h1, rh1, rs1, q1⟩ => ?_⟩
  cases k with
  | true =>
    rw [if_pos rfl]
    exact ⟨ρ1, sm1, h1, rh1, rs1, q1⟩
  | false =>
    rw [if_neg Bool.false_ne_true]
    exact ⟨ρ1, sm1, h1, rh1, rs1, q1⟩
/-! ### as tests -/
theorem tmT_and : tmT (fun σ h => (ma σ h).bind fun x h1 => (truR x h1).bind fun k h2 => brB k (mb σ h2) (.ok x h2)) = fun σ h => (tmT ma σ h).bind fun k h1 => brB k (tmT mb σ h1) (.ok false h1) := by
  funext σ h
  unfold tmT
  rw [R.bind_assoc, R.bind_assoc]
  congr 1
  funext x h1
  rcases truR_cases (w := x) (h := h1) with ⟨k, e, e'⟩ | e
  · rw [e]
    simp only [R.bind_ok]
    cases k with
    | true => rfl
    | false => exact e
  · rw [e]
    rfl
theorem tmT_or : tmT (fun σ h => (ma σ h).bind fun x h1 => (truR x h1).bind fun k h2 => brB k (.ok x h2) (mb σ h2)) = fun σ h => (tmT ma σ h).bind fun k h1 => brB k (.ok true h1) (tmT mb σ h1) := by
  funext σ h
  unfold tmT
  rw [R.bind_assoc, R.bind_assoc]
  congr 1
  funext x h1
  rcases truR_cases (w := x) (h := h1) with ⟨k, e, e'⟩ | e
  · rw [e]
    simp only [R.bind_ok]
    cases k with
    | true => exact e
    | false => rfl
  · rw [e]
    rfl
theorem tmT_not : tmT (fun σ h => (ma σ h).bind fun x h1 => (truR x h1).bind fun k h2 => .ok (.bl (!k)) h2) = fun σ h => (tmT ma σ h).bind fun k h1 => .ok (!k) h1 := by
  funext σ h
  unfold tmT
  rw [R.bind_assoc, R.bind_assoc]
  congr 1
  funext x h1
  rcases truR_cases (w := x) (h := h1) with ⟨k, e, e'⟩ | e
  · rw [e]
    rfl
  · rw [e]
    rfl
theorem tT_br {na : Env → Hm → R Bool} {f : Env → Hm → Bool → R Bool} {σ : L2.St} {H : Hp} {Q : Bool → Hp → Prop} (h : tT L (fun σ h => (na σ h).bind fun k h1 => f σ h1 k) σ H Q) :
    tT L na σ H fun k H1 => ∃ ρ1 sm h1, RelH L ρ1 H1 h1 ∧ RelS L ρ1 H1 sm σ ∧ Post L EqB ρ1 H1 Q (f sm h1 k) := by
  obtain ⟨ρ, sm, h, rh, rs, q⟩ := h
  refine ⟨ρ, sm, h, rh, rs, (q.bind (RR := EqB)).imp fun x H1 ⟨ρ1, w, h1, e1, rh1, rw1, q1⟩ => ?_⟩
  have : w = x := rw1
  subst this
  exact ⟨ρ1, sm, h1, rh1, rs.mono e1 rh, q1⟩
theorem PW.imp {X : Cx} {e : Expr} {t t' : TT} (h : PW X e t) (f : ∀ σ H Q, t' σ H Q → t σ H Q) : PW X e t' := ⟨fun wh pins s σ H Q I q => h.run wh pins s σ H Q I (f σ H Q q)⟩
theorem g_tand (ha : PT X a (tT L (tmT ma))) (hb : PW X (.BoolOp .And (b :: rest) pos) (tT L (tmT mb))) :
    PW X (.BoolOp .And (a :: b :: rest) pos) (tT L (tmT fun σ h => (ma σ h).bind fun x h1 => (truR x h1).bind fun k h2 => brB k (mb σ h2) (.ok x h2))) := by
  rw [tmT_and]
  refine PW.imp (pw_and ha hb) fun σ H Q h => ?_
  obtain ⟨ρ, sm, h, rh, rs, q⟩ := tT_br (f := fun σ h1 k => brB k (tmT mb σ h1) (.ok false h1)) h
  refine ⟨ρ, sm, h, rh, rs, q.imp fun k H1 ⟨ρ1, sm1, h1, rh1, rs1, q1⟩ => ?_⟩
  cases k with
  | true =>
    rw [if_pos rfl]
    exact ⟨ρ1, sm1, h1, rh1, rs1, q1⟩
  | false =>
    rw [if_neg Bool.false_ne_true]
    exact q1 ρ1 H1 _ Ext.refl rh1 rfl
theorem g_tor (ha : PT X a (tT L (tmT ma))) (hb : PW X (.BoolOp .Or (b :: rest) pos) (tT L (tmT mb))) :
    PW X (.BoolOp .Or (a :: b :: rest) pos) (tT L (tmT fun σ h => (ma σ h).bind fun x h1 => (truR x h1).bind fun k h2 => brB k (.ok x h2) (mb σ h2))) := by
  rw [tmT_or]
  refine PW.imp (pw_or ha hb) fun σ H Q h => ?_
  obtain ⟨ρ, sm, h, rh, rs, q⟩ := tT_br (f := fun σ h1 k => brB k (.ok true h1) (tmT mb σ h1)) h
  refine ⟨ρ, sm, h, rh, rs, q.imp fun k H1 ⟨ρ1, sm1, h1, rh1, rs1, q1⟩ => ?_⟩
  cases k with
  | false =>
    rw [if_neg Bool.false_ne_true]
    exact ⟨ρ1, sm1, h1, rh1, rs1, q1⟩
  | true =>
    rw [if_pos rfl]
    exact q1 ρ1 H1 _ Ext.refl rh1 rfl
theorem g_tnot (ha : PT X a (tT L (tmT ma))) : PT X (.UnaryOp .Not a pos) (tT L (tmT fun σ h => (ma σ h).bind fun x h1 => (truR x h1).bind fun k h2 => .ok (.bl (!k)) h2)) := by
  rw [tmT_not]
  refine PT.imp (pt_not ha) fun σ H Q h => ?_
  obtain ⟨ρ, sm, h, rh, rs, q⟩ := tT_br (f := fun σ h1 k => .ok (!k) h1) h
  exact ⟨ρ, sm, h, rh, rs, q.imp fun k H1 ⟨ρ1, sm1, h1, rh1, rs1, q1⟩ => q1 ρ1 H1 _ Ext.refl rh1 rfl⟩
theorem tmT_chain {op op' : COp} : tmT (fun σ h => (ma σ h).bind fun x h1 => (mb σ h1).bind fun y h2 => (cmpop op x y h2).bind fun r h3 => chK op' y (fun h => mc σ h) r h3) = tmT (fun σ h => (ma σ h).bind fun x h1 => (mb σ h1).bind fun y h2 => (cmpop op x y h2).bind fun r h3 => chK op' y (fun h => mc σ h) r h3) := rfl
theorem g_tchain (op op' : COp) (hK : X.K = L.K) (hu : X.A.units + 65 < cLine) (hm : cmpS op' ≠ .In ∧ cmpS op' ≠ .NotIn) (ha : PE X a (tE L ma)) (hb : PE X b (tE L mb)) (hcc : PE X c (tE L mc)) :
    PT X (.Compare a [cmpS op, cmpS op'] [b, c] pos) (tT L (tmT fun σ h => (ma σ h).bind fun x h1 => (mb σ h1).bind fun y h2 => (cmpop op x y h2).bind fun r h3 => chK op' y (fun h => mc σ h) r h3)) := by
  refine PT.imp (pt_chain (or_cmpS hK hu op) (or_cmpS hK hu op') ha hb hcc (nomark _ hm.1 hm.2)) fun σ H Q h => ?_
  obtain ⟨ρ, sm, h, rh, rs, q⟩ := h
  unfold tmT at q
  rw [R.bind_assoc] at q
  refine ⟨ρ, sm, h, rh, rs, q.bind.imp fun x H1 ⟨ρ1, w, h1, e1, rh1, rw1, q1⟩ => ?_⟩
  rw [R.bind_assoc] at q1
  refine ⟨ρ1, sm, h1, rh1, rs.mono e1 rh, q1.bind.imp fun y H2 ⟨ρ2, w2, h2, e2, rh2, rw2, q2⟩ => ?_⟩
  rw [R.bind_assoc] at q2
  refine ⟨ρ2, h2, w, w2, rh2, rw1.mono e2 rh1, rw2, ?_⟩
  cases e : cmpop op w w2 h2 with
  | no => rw [e] at q2; exact q2.elim
  | ex _ _ _ => rw [e] at q2; exact q2.elim
  | ok r h3 =>
    rw [e] at q2
    obtain ⟨k, rfl⟩ := cmpop_bl e
    intro ρ3 H3 z e3 rh3 r3
    refine ⟨k, r3, ?_⟩
    have q3 := Post.ext e3 q2
    cases k with
    | false =>
      rw [if_neg Bool.false_ne_true]
      exact ⟨false, rfl, q3 ρ3 H3 _ Ext.refl rh3 rfl⟩
    | true =>
      rw [if_pos rfl]
      refine ⟨ρ3, sm, h3, rh3, (rs.mono e1 rh).mono (e2.trans e3) rh1, ?_⟩
      have q3 : Post L EqB ρ3 H3 Q (((mc sm h3).bind fun z h4 => cmpop op' w2 z h4).bind fun x h1 => truR x h1) := q3
      rw [R.bind_assoc] at q3
      refine q3.bind.imp fun u H4 ⟨ρ4, w4, h4, e4, rh4, rw4, q4⟩ => ⟨ρ4, h4, w2, w4, rh4, rw2.mono (e3.trans e4) rh2, rw4, ?_⟩
      cases e5 : cmpop op' w2 w4 h4 with
      | no => rw [e5] at q4; exact q4.elim
      | ex _ _ _ => rw [e5] at q4; exact q4.elim
      | ok r5 h5 =>
        rw [e5] at q4
        obtain ⟨k5, rfl⟩ := cmpop_bl e5
        exact fun ρ6 H6 z6 e6 rh6 r6 => ⟨k5, r6, q4 ρ6 H6 k5 e6 rh6 rfl⟩
end

/-! ### arguments, displays -/
section
variable {X : Cx} {L : Lk} {e : Expr} {es : List Expr} {me : Env → Hm → R W} {mes : Env → Hm → R (List W)} {pos : Pos}
theorem g_pnil : PA X [] (tA L fun _ h => .ok [] h) := PA.imp pa_nil fun _ H Q ⟨ρ, sm, h, rh, rs, q⟩ => q ρ H [] Ext.refl rh rfl
theorem g_pcons (he : PE X e (tE L me)) (hr : PA X es (tA L mes)) (hs : starEach (e :: es) X.env = (false, eval e X.env) :: starEach es X.env) :
    PA X (e :: es) (tA L fun σ h => (me σ h).bind fun x h1 => (mes σ h1).bind fun xs h2 => .ok (x :: xs) h2) := by
  refine PA.imp (pa_cons he hr hs) fun σ H Q h => ?_
  obtain ⟨ρ, sm, h, rh, rs, q⟩ := h
  refine ⟨ρ, sm, h, rh, rs, q.bind.imp fun x H1 ⟨ρ1, w, h1, e1, rh1, rw1, q1⟩ => ?_⟩
  refine ⟨ρ1, sm, h1, rh1, rs.mono e1 rh, (q1.bind (RR := Rels L)).imp fun y H2 ⟨ρ2, w2, h2, e2, rh2, rw2, q2⟩ => ?_⟩
  exact q2 ρ2 H2 _ Ext.refl rh2 (Rels.cons (rw1.mono e2 rh1) rw2)
theorem ta_bind {m : List W → Hm → R W} {σ : L2.St} {H : Hp} {Q : VK} (h : tE L (fun σ h => (mes σ h).bind fun ws h1 => m ws h1) σ H Q) : tA L mes σ H fun vs H1 => rs L m vs H1 Q := by
  obtain ⟨ρ, sm, h, rh, rs, q⟩ := h
  exact ⟨ρ, sm, h, rh, rs, (q.bind (RR := Rels L)).imp fun x H1 ⟨ρ1, w, h1, e1, rh1, rw1, q1⟩ => ⟨ρ1, h1, w, rh1, rw1, q1⟩⟩
theorem g_lst (ha : PA X es (tA L mes)) (hl : ∀ σ h ws h1, mes σ h = .ok ws h1 → ws.length ≤ SZ) : PE X (.List es pos) (tE L fun σ h => (mes σ h).bind fun ws h1 => newL ws h1) := by
  refine PE.imp (pe_lst ha) fun σ H Q h => ?_
  obtain ⟨ρ, sm, h, rh, rs, q⟩ := h
  dsimp only at q
  cases e : mes sm h with
  | no => rw [e] at q; exact q.elim
  | ex _ _ _ => rw [e] at q; exact q.elim
  | ok ws h1 =>
    have hz := hl _ _ _ _ e
    rw [e] at q
    refine ⟨ρ, sm, h, rh, rs, ?_⟩
    rw [e]
    intro ρ1 H1 vs e1 rh1 r1
    refine ⟨by rw [← r1.length, ← SZ_eq]; exact hz, post_new rh1 r1 hz (Post.ext e1 q)⟩
theorem g_tup {k : Nat} (ha : PA X es (tA L mes)) (hl : ∀ σ h ws h1, mes σ h = .ok ws h1 → ws.length ≤ SZ) : PE X (.Tuple es k pos) (tE L fun σ h => (mes σ h).bind fun ws h1 => .ok (.tup ws) h1) := by
  refine PE.imp (pe_tup ha) fun σ H Q h => ?_
  obtain ⟨ρ, sm, h, rh, rs, q⟩ := h
  dsimp only at q
  cases e : mes sm h with
  | no => rw [e] at q; exact q.elim
  | ex _ _ _ => rw [e] at q; exact q.elim
  | ok ws h1 =>
    have hz := hl _ _ _ _ e
    rw [e] at q
    refine ⟨ρ, sm, h, rh, rs, ?_⟩
    rw [e]
    intro ρ1 H1 vs e1 rh1 r1
    refine ⟨by rw [← r1.length, ← SZ_eq]; exact hz, post_tup rh1 r1 hz (Post.ext e1 q)⟩
/-! ### calls of what is built in, methods, items, slices -/
theorem g_bi {id : String} {x : Str} {p : Pos} {m : List W → Hm → R W} (hc : CallR X (.builtin id) (rs L m)) (hg : Gl X x) (hm : X.mg x = none) (hv : bootBuiltins x = some (.builtin id)) (ha : PA X (e :: es) (tA L mes)) (hn : x ≠ "__name__") (hdb : (x == ("__debug__" : Str)) = false)
    (he : starEach (e :: es) X.env = (false, eval e X.env) :: starEach es X.env) (hpl : (backTo pos (starEach es X.env)).any (·.1) = false) :
    PE X (.Call (.Name x p) (e :: es) [] pos) (tE L fun σ h => (mes σ h).bind fun ws h1 => m ws h1) := PE.imp (pe_callB hc hg hm hv ha hn hdb he hpl) fun _ _ _ h => ta_bind h
theorem g_ty {T : String} {x : Str} {p : Pos} {m : List W → Hm → R W} (hc : CallR X (.type T) (rs L m)) (hg : Gl X x) (hm : X.mg x = none) (hv : bootBuiltins x = some (.type T)) (ha : PA X (e :: es) (tA L mes)) (hn : x ≠ "__name__") (hdb : (x == ("__debug__" : Str)) = false)
    (he : starEach (e :: es) X.env = (false, eval e X.env) :: starEach es X.env) (hpl : (backTo pos (starEach es X.env)).any (·.1) = false) :
    PE X (.Call (.Name x p) (e :: es) [] pos) (tE L fun σ h => (mes σ h).bind fun ws h1 => m ws h1) := PE.imp (pe_callTy hc hg hm hv ha hn hdb he hpl) fun _ _ _ h => ta_bind h
theorem g_ix {a b : Expr} {ma mb : Env → Hm → R W} (hK : X.K = L.K) (hu : X.A.units + 65 < cLine) (ha : PE X a (tE L ma)) (hb : PE X b (tE L mb)) (hs : PlainIx b) :
    PE X (.Subscript a b pos) (tE L fun σ h => (ma σ h).bind fun x h1 => (mb σ h1).bind fun y h2 => ixR x y h2) := PE.imp (pe_ix (or_ix hK hu) ha hb hs) fun _ _ _ h => te_op h
def tO (L : Lk) (m : Env → Hm → R (Option Int)) : TO := fun σ H Q => ∃ ρ sm h, RelH L ρ H h ∧ RelS L ρ H sm σ ∧ Post L EqB ρ H Q (m sm h)
theorem PO.imp {X : Cx} {e : Option Expr} {t t' : TO} (h : PO X e t) (f : ∀ σ H Q, t' σ H Q → t σ H Q) : PO X e t' := ⟨fun pins s σ H Q I q => h.run pins s σ H Q I (f σ H Q q)⟩
theorem g_onone : PO X none (tO L fun _ h => .ok none h) := PO.imp po_none fun _ H Q ⟨ρ, sm, h, rh, rs, q⟩ => q ρ H none Ext.refl rh rfl
theorem g_osome {a : Expr} {ma : Env → Hm → R W} (ha : PE X a (tE L ma)) : PO X (some a) (tO L fun σ h => (ma σ h).bind fun x h1 => intA (fun i => .ok (some i) h1) x) := by
  refine PO.imp (po_some ha) fun σ H Q h => ?_
  obtain ⟨ρ, sm, h, rh, rs, q⟩ := h
  refine ⟨ρ, sm, h, rh, rs, q.bind.imp fun x H1 ⟨ρ1, w, h1, e1, rh1, rw1, q1⟩ => ?_⟩
  obtain ⟨i, rfl, q1⟩ := intA_ok q1
  exact ⟨i, rw1, q1 ρ1 H1 _ Ext.refl rh1 rfl⟩
theorem g_sl {a : Expr} {lo hi : Option Expr} {p2 : Pos} {ma : Env → Hm → R W} {ml mh : Env → Hm → R (Option Int)} (hK : X.K = L.K) (ha : PE X a (tE L ma)) (hl : PO X lo (tO L ml)) (hh : PO X hi (tO L mh)) :
    PE X (.Subscript a (.Slice lo hi none p2) pos) (tE L fun σ h => (ma σ h).bind fun x h1 => (ml σ h1).bind fun l h2 => (mh σ h2).bind fun u h3 => slR x l u h3) := by
  refine PE.imp (pe_slice (or_sl hK) ha hl hh) fun σ H Q h => ?_
  obtain ⟨ρ, sm, h, rh, rs, q⟩ := h
  refine ⟨ρ, sm, h, rh, rs, q.bind.imp fun x H1 ⟨ρ1, w, h1, e1, rh1, rw1, q1⟩ => ?_⟩
  refine ⟨ρ1, sm, h1, rh1, rs.mono e1 rh, (q1.bind (RR := EqB)).imp fun l H2 ⟨ρ2, w2, h2, e2, rh2, rw2, q2⟩ => ?_⟩
  have : w2 = l := rw2
  subst this
  refine ⟨ρ2, sm, h2, rh2, (rs.mono e1 rh).mono e2 rh1, (q2.bind (RR := EqB)).imp fun u H3 ⟨ρ3, w3, h3, e3, rh3, rw3, q3⟩ => ?_⟩
  have : w3 = u := rw3
  subst this
  exact ⟨ρ3, h3, w, rh3, rw1.mono (e2.trans e3) rh1, q3⟩
end
end Py
end
section
/-! PyI: calls of defs and classes, methods, attributes: ours over the layer's. -/
namespace Py
open PySem PySem.Spec PyProof.Rows L2

/-- a def that stands at fa and does what m does -/
structure FnAt (P : Program) (w : World) (mg : Str → Option Value) (base : Heap) (L : Lk) (k : Nat) (m : List W → Hm → R W) (fa : Addr) : Prop where
  ex : ∃ fd ps, FnOk P w L.K mg base CX0 k fa fd ps (fun vs H Q _ => rs L m vs H Q) ∧ Binds L.K fd ps []
section
variable {X : Cx} {L : Lk} {k : Nat} {fa : Addr} {m : List W → Hm → R W} {e o : Expr} {es : List Expr} {mes : Env → Hm → R (List W)} {mo : Env → Hm → R W} {pos p apos : Pos} {x : Str}
theorem g_call (hK : X.K = L.K) (F : FnAt X.prog X.w X.mg X.base L k m fa) (hr : Room k X.A) (hg : Gl X x) (hm : X.mg x = some (.ref fa)) (hk : PySem.W.keepIn X.K (.ref fa) = true) (ha : PA X (e :: es) (tA L mes)) (hdb : (x == ("__debug__" : Str)) = false)
    (he : starEach (e :: es) X.env = (false, eval e X.env) :: starEach es X.env) (hpl : (backTo pos (starEach es X.env)).any (·.1) = false) :
    PE X (.Call (.Name x p) (e :: es) [] pos) (tE L fun σ h => (mes σ h).bind fun ws h1 => m ws h1) := by
  obtain ⟨fd, ps, F, b⟩ := F.ex
  refine PE.imp (pe_call (dvs := []) (ds := []) (E := E0) (by rw [hK]; exact F) hr hg hm hk (by rw [hK]; exact b) .nil pass0 ha hdb he hpl) fun σ H Q h => ?_
  have q := ta_bind h
  unfold tCall
  simp only [List.append_nil]
  exact q
theorem g_call0 (hK : X.K = L.K) (F : FnAt X.prog X.w X.mg X.base L k m fa) (hr : Room k X.A) (hg : Gl X x) (hm : X.mg x = some (.ref fa)) (hk : PySem.W.keepIn X.K (.ref fa) = true) (hdb : (x == ("__debug__" : Str)) = false) :
    PE X (.Call (.Name x p) [] [] pos) (tE L fun σ h => R.bind (.ok [] h) fun ws h1 => m ws h1) := by
  obtain ⟨fd, ps, F, b⟩ := F.ex
  refine PE.imp (pe_call0 (dvs := []) (ds := []) (E := E0) (by rw [hK]; exact F) hr hg hm hk (by rw [hK]; exact b) .nil pass0 hdb) fun σ H Q h => ?_
  obtain ⟨ρ, sm, h, rh, rs, q⟩ := h
  exact ⟨ρ, h, [], rh, rfl, q⟩
/-- a new instance: its dict and itself -/
theorem RelH.made {ρ : List Addr} {H : Hp} {h : Hm} (rh : RelH L ρ H h) {x dx : Addr} {c : Nat} (nx : H x = none) (nd : H dx = none) (ne : dx ≠ x) :
    Ext ρ H (ρ ++ [x]) (upd (upd H dx (.own x)) x (.ins (L.ca c) dx [])) ∧ RelH L (ρ ++ [x]) (upd (upd H dx (.own x)) x (.ins (L.ca c) dx [])) (h ++ [.ins c []]) := by
  have e1 := ext_tup (u := .own x) nd (rh.fresh nd)
  have rh1 := rh.beside (u := .own x) nd
  have nx1 : upd H dx (.own x) x = none := by
    rw [upd_ne (Ne.symm ne)]
    exact nx
  exact ⟨e1.trans (ext_new rh1 nx1), rh1.new nx1 ⟨dx, [], upd_same, rfl⟩⟩
theorem te_mk {c : Nat} {f : List W → Hm → R W} {H1 : Hp} {Q : VK} {ρ1 : List Addr} {h1 : Hm} {ws : List W} {vs : List V} (rh : RelH L ρ1 H1 h1) (r : Rels L ρ1 H1 ws vs)
    (q : Post L (Rel L) ρ1 H1 Q ((f (.ref h1.length :: ws) (h1 ++ [.ins c []])).bind fun v h2 => ifA (isNon v) (.ok (.ref h1.length) h2))) :
    ∀ x dx, H1 x = none → H1 dx = none → dx ≠ x → rs L f (.ref x :: vs) (upd (upd H1 dx (.own x)) x (.ins (L.ca c) dx [])) (fun v H2 => v = .non ∧ Q (.ref x) H2) := by
  intro x dx nx nd ne
  obtain ⟨e1, rh1⟩ := rh.made (c := c) nx nd ne
  have ex : (ρ1 ++ [x])[h1.length]? = some x := new_at rh
  refine ⟨_, _, .ref h1.length :: ws, rh1, Rels.cons ⟨x, ex, rfl⟩ (r.mono e1 rh), ?_⟩
  have q2 := Post.ext e1 q
  refine q2.bind.imp fun v H2 ⟨ρ2, w, h2, e2, rh2, rw2, q3⟩ => ?_
  obtain ⟨hn, q3⟩ := ifA_ok q3
  refine ⟨?_, q3 ρ2 H2 _ Ext.refl rh2 ⟨x, e2.get ex, rfl⟩⟩
  cases w with
  | non => exact rw2
  | _ => cases hn
theorem g_mk {c : Nat} {C f : Addr} (hC : C = L.ca c) (hK : X.K = L.K) (M : Mk X.K C f) (F : FnAt X.prog X.w X.mg X.base L k m f) (hr : Room (k + 1) X.A) (hg : Gl X x) (hm : X.mg x = some (.ref C)) (ha : PA X (e :: es) (tA L mes)) (hdb : (x == ("__debug__" : Str)) = false)
    (he : starEach (e :: es) X.env = (false, eval e X.env) :: starEach es X.env) (hpl : (backTo pos (starEach es X.env)).any (·.1) = false) :
    PE X (.Call (.Name x p) (e :: es) [] pos) (tE L fun σ h => (mes σ h).bind fun ws h1 => (m (.ref h1.length :: ws) (h1 ++ [.ins c []])).bind fun v h2 => ifA (isNon v) (.ok (.ref h1.length) h2)) := by
  subst hC
  obtain ⟨fd, ps, F, b⟩ := F.ex
  refine PE.imp (pe_make (dvs := []) (ds := []) (E := E0) M (by rw [hK]; exact F) hr hg hm (by rw [hK]; exact b) .nil pass0 ha hdb he hpl) fun σ H Q h => ?_
  obtain ⟨ρ, sm, h, rh, rs, q⟩ := h
  refine ⟨ρ, sm, h, rh, rs, (q.bind (RR := Rels L)).imp fun vs H1 ⟨ρ1, ws, h1, e1, rh1, rw1, q1⟩ => ?_⟩
  simp only [List.append_nil]
  exact te_mk rh1 rw1 q1
theorem g_mk0 {c : Nat} {C f : Addr} (hC : C = L.ca c) (hK : X.K = L.K) (M : Mk X.K C f) (F : FnAt X.prog X.w X.mg X.base L k m f) (hr : Room (k + 1) X.A) (hg : Gl X x) (hm : X.mg x = some (.ref C)) (hdb : (x == ("__debug__" : Str)) = false) :
    PE X (.Call (.Name x p) [] [] pos) (tE L fun σ h => R.bind (.ok [] h) fun ws h1 => (m (.ref h1.length :: ws) (h1 ++ [.ins c []])).bind fun v h2 => ifA (isNon v) (.ok (.ref h1.length) h2)) := by
  subst hC
  obtain ⟨fd, ps, F, b⟩ := F.ex
  refine PE.imp (pe_make0 (dvs := []) (ds := []) (E := E0) M (by rw [hK]; exact F) hr hg hm (by rw [hK]; exact b) .nil pass0 hdb) fun σ H Q h => ?_
  obtain ⟨ρ, sm, h, rh, rs, q⟩ := h
  exact te_mk (ws := []) (vs := []) rh rfl q
end

/-! ### attributes -/
section
variable {L : Lk} {ρ : List Addr} {H : Hp} {h : Hm}
theorem FldR.look : ∀ {fs : List (Nat × W)} {fvs : List (Str × V)} {f : Nat}, FldR L ρ H fs fvs → (∀ w, lookF f fs = some w → ∃ v, fvs.lookup (L.fn f) = some v ∧ Rel L ρ H w v) ∧ (lookF f fs = none → fvs.lookup (L.fn f) = none)
  | [], fvs, f, r => by
    have : fvs = [] := r
    subst this
    refine ⟨fun w e => ?_, fun _ => rfl⟩
    cases e
  | (g, w) :: fs, _, f, ⟨v, t, e1, e2, r, rs⟩ => by
    obtain ⟨i1, i2⟩ := FldR.look (f := f) rs
    subst e1
    obtain ⟨n, u⟩ := v
    dsimp only at e2 r
    subst e2
    by_cases hg : g = f
    · subst hg
      refine ⟨fun w' e => ?_, fun e => ?_⟩
      · have e : (if g = g then some w else lookF g fs) = some w' := e
        rw [if_pos rfl] at e
        cases e
        exact ⟨u, by simp [List.lookup_cons], r⟩
      · have e : (if g = g then some w else lookF g fs) = none := e
        rw [if_pos rfl] at e
        cases e
    · have hb : (L.fn f == L.fn g) = false := by
        rw [beq_eq_false_iff_ne]
        intro z
        exact hg (L.inj _ _ z).symm
      have hl : ∀ o, lookF f ((g, w) :: fs) = o → lookF f fs = o := fun o e => by
        have e : (if g = f then some w else lookF f fs) = o := e
        rw [if_neg hg] at e
        exact e
      refine ⟨fun w' e => ?_, fun e => ?_⟩
      · rw [List.lookup_cons, hb]
        exact i1 w' (hl _ e)
      · rw [List.lookup_cons, hb]
        exact i2 (hl _ e)
theorem FldR.put {f : Nat} {w : W} {v : V} (r : Rel L ρ H w v) : ∀ {fs : List (Nat × W)} {fvs : List (Str × V)}, FldR L ρ H fs fvs → FldR L ρ H (Py.putF f w fs) (L2.putF (L.fn f) v fvs)
  | [], fvs, q => by
    have : fvs = [] := q
    subst this
    exact ⟨_, _, rfl, rfl, r, rfl⟩
  | (g, x) :: fs, _, ⟨⟨n, u⟩, t, e1, e2, q, qs⟩ => by
    subst e1
    dsimp only at e2 q
    subst e2
    unfold Py.putF
    show FldR L ρ H (if g = f then (g, w) :: fs else (g, x) :: Py.putF f w fs) (if L.fn g = L.fn f then (L.fn g, v) :: t else (L.fn g, u) :: L2.putF (L.fn f) v t)
    by_cases hg : g = f
    · rw [if_pos hg, if_pos (by rw [hg])]
      exact ⟨_, _, rfl, rfl, r, qs⟩
    · rw [if_neg hg, if_neg fun z => hg (L.inj _ _ z)]
      exact ⟨_, _, rfl, rfl, q, FldR.put r qs⟩
theorem FldR.length : ∀ {fs : List (Nat × W)} {fvs : List (Str × V)}, FldR L ρ H fs fvs → fs.length = fvs.length
  | [], fvs, q => by
    have : fvs = [] := q
    rw [this]
    rfl
  | _ :: _, _, ⟨_, t, e1, _, _, qs⟩ => by rw [e1, List.length_cons, List.length_cons, FldR.length qs]
theorem Rel.ins {w : W} {v : V} {n c : Nat} {fs : List (Nat × W)} (rh : RelH L ρ H h) (r : Rel L ρ H w v) (e : insAt h w = some (n, c, fs)) : w = .ref n ∧ h[n]? = some (.ins c fs) ∧ ∃ a dx fvs, v = .ref a ∧ ρ[n]? = some a ∧ H a = some (.ins (L.ca c) dx fvs) ∧ FldR L ρ H fs fvs := by
  cases w with
  | ref m =>
    have e : (match h[m]? with
      | some (.ins c fs) => some (m, c, fs)
      | _ => none) = some (n, c, fs) := e
    split at e
    · rename_i c' fs' hx
      cases e
      obtain ⟨a, e1, e2⟩ := r
      obtain ⟨dx, fvs, e3, rs⟩ := rh.obj _ _ a hx e1
      exact ⟨rfl, hx, a, dx, fvs, e2, e1, e3, rs⟩
    · cases e
  | _ => cases e
end
/-- what the classes of P must have in the module's written part -/
structure ClsOk (P : Prog) (L : Lk) (c : Nat) : Prop where
  cls : Cls L.K (L.ca c)
  fld : ∀ f, f ∈ P.flds c → NoAttr L.K (L.ca c) (L.fn f)
section
variable {X : Cx} {L : Lk} {P : Prog} {k : Nat} {e o value : Expr} {es : List Expr} {mes : Env → Hm → R (List W)} {mo mv : Env → Hm → R W} {pos pos' apos : Pos}
theorem g_fld {f : Nat} (hK : X.K = L.K) (hC : ∀ c, P.flds c ≠ [] → ClsOk P L c) (ho : PE X o (tE L mo)) (hb : attributeBase o (L.fn f) X.env (eval o X.env) = eval o X.env) :
    PE X (.Attribute o (L.fn f) pos) (tE L fun σ h => (mo σ h).bind fun x h1 => fldR P f x h1) := by
  refine PE.imp (pe_fld ho hb) fun σ H Q h => ?_
  obtain ⟨ρ, sm, h, rh, rs, q⟩ := h
  refine ⟨ρ, sm, h, rh, rs, q.bind.imp fun x H1 ⟨ρ1, w, h1, e1, rh1, rw1, q1⟩ => ?_⟩
  obtain ⟨⟨n, c, fs⟩, ei, q1⟩ := optA_ok q1
  obtain ⟨hf, q1⟩ := ifA_ok q1
  have hf : f ∈ P.flds c := by simpa using hf
  obtain ⟨w1, el, q1⟩ := retO_some q1
  obtain ⟨_, _, a, dx, fvs, ev, _, ea, rf⟩ := Rel.ins rh1 rw1 ei
  obtain ⟨v1, l1, r1⟩ := rf.look.1 _ el
  have T := hC c (List.ne_nil_of_mem hf)
  exact ⟨a, _, dx, fvs, v1, ev, ea, hK ▸ T.cls, hK ▸ T.fld f hf, l1, q1 ρ1 H1 _ Ext.refl rh1 r1⟩
/-- o.m(..), the class told by the instance -/
structure MethAt (P : Program) (w : World) (mg : Str → Option Value) (base : Heap) (L : Lk) (k : Nat) (m : List W → Hm → R W) (c : Nat) (nm : Str) : Prop where
  ex : ∃ fa, Cls L.K (L.ca c) ∧ Meth L.K (L.ca c) nm fa ∧ FnAt P w mg base L k m fa
theorem methF_ok {m f : Nat} {w : W} {h : Hm} (e : methF P m w h = some f) : ∃ n c fs, insAt h w = some (n, c, fs) ∧ lookF m fs = none ∧ P.meth c m = some f := by
  unfold methF at e
  split at e
  · rename_i n c fs hi
    split at e
    · rename_i hl
      exact ⟨n, c, fs, hi, hl, e⟩
    · cases e
  · cases e
theorem g_meth {m : Nat} {cl : Nat → List W → Hm → R W} (hK : X.K = L.K) (hM : ∀ c f, P.meth c m = some f → MethAt X.prog X.w X.mg X.base L k (cl f) c (L.fn m)) (hr : Room k X.A) (ho : PE X o (tE L mo)) (ha : PA X (e :: es) (tA L mes))
    (hst : starEach (e :: es) X.env = (false, eval e X.env) :: starEach es X.env) (hpl : (backTo pos (starEach es X.env)).any (·.1) = false)
    (hb : attributeBase o (L.fn m) X.env (eval o X.env) = eval o X.env) (hf : methodCallForm ((e :: es).length + ([] : List Keyword).length) (backTo pos (starEach (e :: es) X.env)) (backToKw pos (keywordEach [] X.env)) = true) (hl : (apos.endLine == pos.line) = true) :
    PE X (.Call (.Attribute o (L.fn m) apos) (e :: es) [] pos) (tE L fun σ h => (mo σ h).bind fun x h1 => optA (methF P m x h1) fun f => (mes σ h1).bind fun ws h2 => cl f (x :: ws) h2) := by
  refine ⟨fun pins s σ H Q I hq => ?_⟩
  obtain ⟨ρ, sm, h, rh, rs, q⟩ := hq
  refine PySem.W.methodCall_KW (pl := L2.plainOf o X.env) (thn (ho.run pins s σ H _ I ⟨ρ, sm, h, rh, rs, q.bind⟩) fun u s1 ⟨x, H1, I1, rx, ρ1, w, h1, e1, rh1, rw1, q1⟩ => ?_) (mcall_of hb fun ov => mcall_line hf hl)
  obtain ⟨f, hf, q2⟩ := optA_ok q1
  obtain ⟨n, c, fs, hi, hlk, hm⟩ := methF_ok hf
  obtain ⟨_, _, a, dx, fvs, ev, _, ea, rf⟩ := Rel.ins rh1 rw1 hi
  obtain ⟨fa, T, M, F⟩ := (hM c f hm).ex
  obtain ⟨fd, ps, F, b⟩ := F.ex
  subst ev
  obtain rfl : u = Value.ref a := rx
  refine getmeth_ok I1 ea (hK ▸ T) (hK ▸ M) (rf.look.2 hlk) ?_
  refine PySem.W.callWith_K (first := [.ref a]) (h₀ := X.base) I.ok.mod.kin (hK ▸ M.kp) (thn (ha.run pos pins s1 σ H1 _ I1 ⟨ρ1, sm, h1, rh1, rs.mono e1 rh, q2.bind (RR := Rels L)⟩) fun us s2 ⟨vs, H2, I2, r, ρ2, ws, h2, e2, rh2, rw2, q3⟩ => ⟨I2.kIn, ?_⟩) hst hpl
  refine run_fn (us := .ref a :: us) (vs := .ref a :: vs) (dvs := []) (ds := []) (E := E0) (CX := CX0) (by rw [hK]; exact F) hr (by rw [hK]; exact b) .nil pass0 I2 (.cons rfl r) ?_
  rw [List.append_nil]
  exact ⟨ρ2, h2, w :: ws, rh2, Rels.cons (rw1.mono e2 rh1) rw2, q3⟩
theorem g_meth0 {m : Nat} {cl : Nat → List W → Hm → R W} (hK : X.K = L.K) (hM : ∀ c f, P.meth c m = some f → MethAt X.prog X.w X.mg X.base L k (cl f) c (L.fn m)) (hr : Room k X.A) (ho : PE X o (tE L mo))
    (hb : attributeBase o (L.fn m) X.env (eval o X.env) = eval o X.env) (hl : (apos.endLine == pos.line) = true) :
    PE X (.Call (.Attribute o (L.fn m) apos) [] [] pos) (tE L fun σ h => (mo σ h).bind fun x h1 => optA (methF P m x h1) fun f => R.bind (.ok [] h1) fun ws h2 => cl f (x :: ws) h2) := by
  refine ⟨fun pins s σ H Q I hq => ?_⟩
  obtain ⟨ρ, sm, h, rh, rs, q⟩ := hq
  refine PySem.W.methodCall_KW (pl := L2.plainOf o X.env) (thn (ho.run pins s σ H _ I ⟨ρ, sm, h, rh, rs, q.bind⟩) fun u s1 ⟨x, H1, I1, rx, ρ1, w, h1, e1, rh1, rw1, q1⟩ => ?_) (mcall_of hb fun ov => mcall_line rfl hl)
  obtain ⟨f, hf, q2⟩ := optA_ok q1
  obtain ⟨n, c, fs, hi, hlk, hm⟩ := methF_ok hf
  obtain ⟨_, _, a, dx, fvs, ev, _, ea, rf⟩ := Rel.ins rh1 rw1 hi
  obtain ⟨fa, T, M, F⟩ := (hM c f hm).ex
  obtain ⟨fd, ps, F, b⟩ := F.ex
  subst ev
  obtain rfl : u = Value.ref a := rx
  refine getmeth_ok I1 ea (hK ▸ T) (hK ▸ M) (rf.look.2 hlk) ?_
  refine PySem.W.callWith_K0 (first := [.ref a]) I1.kIn (hK ▸ M.kp) ?_
  refine run_fn (us := [.ref a]) (vs := [.ref a]) (dvs := []) (ds := []) (E := E0) (CX := CX0) (by rw [hK]; exact F) hr (by rw [hK]; exact b) .nil pass0 I1 (.cons rfl .nil) ?_
  exact ⟨ρ1, h1, [w], rh1, Rels.cons rw1 rfl, q2⟩

/-! ### methods of lists and texts -/
def bmS : BM → String
  | .split => "str"
  | .upper => "str"
  | .join => "str"
  | _ => "list"
theorem bmT_ty {m : BM} {ρ : List Addr} {H : Hp} {h : Hm} {w : W} {v : V} (rh : RelH L ρ H h) (r : Rel L ρ H w v) (e : bmT m h w = true) : tyV L.K (bmS m) v H := by
  have hs : (∃ t, w = .str t) → tyV L.K "str" v H := fun ⟨t, e⟩ => by
    subst e
    rw [r.2]
    rfl
  have hl : (∃ n, w = .ref n ∧ (lstAt h n).isSome = true) → tyV L.K "list" v H := fun ⟨n, e, e2⟩ => by
    subst e
    obtain ⟨xs, ex⟩ := Option.isSome_iff_exists.mp e2
    obtain ⟨a, vs, ev, _, k, _, _⟩ := Rel.lstAt rh r ex
    rw [ev]
    exact .inl ⟨rfl, vs, k⟩
  cases m <;> cases w <;> first | exact hs ⟨_, rfl⟩ | exact hl ⟨_, rfl, e⟩ | cases e
theorem g_bm {T id : String} {name : Str} {m : BM} (pa : PlainAttrs T) (slot : Slot T name id) (hty : typeOf (.builtin id) = pure (.type "method_descriptor")) (hm : MtR X id (rxs L (bmR m))) (hK : X.K = L.K) (hT : T = (bmS m)) (ho : PE X o (tE L mo)) (ha : PA X (e :: es) (tA L mes)) (hbase : attributeBase o name X.env (eval o X.env) = eval o X.env)
    (hfew : ((backTo pos (starEach (e :: es) X.env)).all (fun x => !x.1) && (backToKw pos (keywordEach [] X.env)).all (fun x => x.1.isSome)
      && decide ((e :: es).length + ([] : List Keyword).length + (if ([] : List Keyword).isEmpty then 0 else 1) < 30)) = true)
    (hline : (apos.endLine == pos.line) = true) (hs : starEach (e :: es) X.env = (false, eval e X.env) :: starEach es X.env) (hplain : (backTo pos (starEach es X.env)).any (·.1) = false) :
    PE X (.Call (.Attribute o name apos) (e :: es) [] pos) (tE L fun σ h => (mo σ h).bind fun x h1 => ifA (bmT m h1 x) ((mes σ h1).bind fun ws h2 => bmR m x ws h2)) := by
  refine PE.imp (pe_bm pa slot hty hm ho ha hbase hfew hline hs hplain) fun σ H Q h => ?_
  obtain ⟨ρ, sm, h, rh, rs, q⟩ := h
  refine ⟨ρ, sm, h, rh, rs, q.bind.imp fun x H1 ⟨ρ1, w, h1, e1, rh1, rw1, q1⟩ => ?_⟩
  obtain ⟨ht, q1⟩ := ifA_ok q1
  refine ⟨by rw [hT, hK]; exact bmT_ty rh1 rw1 ht, ρ1, sm, h1, rh1, rs.mono e1 rh, (q1.bind (RR := Rels L)).imp fun y H2 ⟨ρ2, w2, h2, e2, rh2, rw2, q2⟩ => ?_⟩
  exact ⟨ρ2, h2, w, w2, rh2, rw1.mono e2 rh1, rw2, q2⟩
theorem g_bm0 {T id : String} {name : Str} {m : BM} (pa : PlainAttrs T) (slot : Slot T name id) (hty : typeOf (.builtin id) = pure (.type "method_descriptor")) (hm : MtR X id (rxs L (bmR m))) (hK : X.K = L.K) (hT : T = (bmS m)) (ho : PE X o (tE L mo)) (hbase : attributeBase o name X.env (eval o X.env) = eval o X.env) (hline : (apos.endLine == pos.line) = true) :
    PE X (.Call (.Attribute o name apos) [] [] pos) (tE L fun σ h => (mo σ h).bind fun x h1 => ifA (bmT m h1 x) (R.bind (.ok [] h1) fun ws h2 => bmR m x ws h2)) := by
  refine PE.imp (pe_bm0 pa slot hty hm ho hbase hline) fun σ H Q h => ?_
  obtain ⟨ρ, sm, h, rh, rs, q⟩ := h
  refine ⟨ρ, sm, h, rh, rs, q.bind.imp fun x H1 ⟨ρ1, w, h1, e1, rh1, rw1, q1⟩ => ?_⟩
  obtain ⟨ht, q1⟩ := ifA_ok q1
  exact ⟨by rw [hT, hK]; exact bmT_ty rh1 rw1 ht, ρ1, h1, w, [], rh1, rw1, rfl, q1⟩
end
end Py
end
section
/-! PyJ: names, targets, statements, loops, comprehensions: ours over the layer's. -/
namespace Py
open PySem PySem.Spec PyProof.Rows L2

/-! ### moving a word to another heap -/
section
variable {L : Lk} {ρ ρ' : List Addr} {H H' : Hp} {h : Hm}
mutual
theorem rel_same (hr : ∀ (n : Nat) (a : Addr), ρ[n]? = Option.some a → ρ'[n]? = Option.some a) (hq : ∀ a vs, SqT L.K H a vs → SqT L.K H' a vs) : ∀ {w : W} {v : V}, Rel L ρ H w v → Rel L ρ' H' w v
  | .non, _, q => q
  | .bl _, _, q => q
  | .int _, _, q => q
  | .str _, _, q => q
  | .tup _, _, ⟨a, vs, e1, q, z, rs⟩ => ⟨a, vs, e1, hq _ _ q, z, rels_same hr hq rs⟩
  | .ref _, _, ⟨a, q, e1⟩ => ⟨a, hr _ _ q, e1⟩
theorem rels_same (hr : ∀ (n : Nat) (a : Addr), ρ[n]? = Option.some a → ρ'[n]? = Option.some a) (hq : ∀ a vs, SqT L.K H a vs → SqT L.K H' a vs) : ∀ {ws : List W} {vs : List V}, Rels L ρ H ws vs → Rels L ρ' H' ws vs
  | [], _, q => q
  | _ :: _, _, ⟨v, t, e1, q, rs⟩ => ⟨v, t, e1, rel_same hr hq q, rels_same hr hq rs⟩
end
theorem fld_same (hr : ∀ (n : Nat) (a : Addr), ρ[n]? = Option.some a → ρ'[n]? = Option.some a) (hq : ∀ a vs, SqT L.K H a vs → SqT L.K H' a vs) : ∀ {ws : List (Nat × W)} {vs : List (Str × V)}, FldR L ρ H ws vs → FldR L ρ' H' ws vs
  | [], _, q => q
  | _ :: _, _, ⟨v, t, e1, e2, q, rs⟩ => ⟨v, t, e1, e2, rel_same hr hq q, fld_same hr hq rs⟩
theorem dic_same (hr : ∀ (n : Nat) (a : Addr), ρ[n]? = Option.some a → ρ'[n]? = Option.some a) (hq : ∀ a vs, SqT L.K H a vs → SqT L.K H' a vs) : ∀ {ws : List (List Nat × W)} {vs : List (L2.Key × V)}, DicR L ρ H ws vs → DicR L ρ' H' ws vs
  | [], _, q => q
  | _ :: _, _, ⟨v, t, e1, e2, q, rs⟩ => ⟨v, t, e1, e2, rel_same hr hq q, dic_same hr hq rs⟩
theorem obj_same {o : O} {a : Addr} (hr : ∀ (n : Nat) (a : Addr), ρ[n]? = Option.some a → ρ'[n]? = Option.some a) (hq : ∀ a vs, SqT L.K H a vs → SqT L.K H' a vs) (ha : H' a = H a) (q : ObjR L ρ H o a) : ObjR L ρ' H' o a := by
  cases o with
  | lst xs =>
    obtain ⟨vs, e1, z, rs⟩ := q
    exact ⟨vs, ha.trans e1, z, rels_same hr hq rs⟩
  | fro xs =>
    obtain ⟨ob, vs, e1, z, rs⟩ := q
    exact ⟨ob, vs, ha.trans e1, z, rels_same hr hq rs⟩
  | dic kvs =>
    obtain ⟨vs, e1, rs⟩ := q
    exact ⟨vs, ha.trans e1, dic_same hr hq rs⟩
  | ins c fs =>
    obtain ⟨dx, vs, e1, rs⟩ := q
    exact ⟨dx, vs, ha.trans e1, fld_same hr hq rs⟩
theorem get_more {t : List Addr} : ∀ (n : Nat) (a : Addr), ρ[n]? = some a → (ρ ++ t)[n]? = some a := fun n a e => by
  rw [List.getElem?_append_left]
  · exact e
  · exact (List.getElem?_eq_some_iff.mp e).1
/-- a list beside ours becomes ours -/
theorem RelH.adopt (r : RelH L ρ H h) {D : Addr} {xs : List W} {vs : List V} (hD : H D = some (.lst vs)) (hn : D ∉ ρ) (hz : xs.length ≤ SZ) (rs : Rels L ρ H xs vs) : RelH L (ρ ++ [D]) H (h ++ [.lst xs]) := by
  refine ⟨by simp [r.len], ?_, fun n o' a e1 e2 => ?_⟩
  · rw [List.nodup_append]
    refine ⟨r.nd, by simp, fun x hx y hy => ?_⟩
    have : y = D := by simpa using hy
    subst this
    rintro rfl
    exact hn hx
  · by_cases hl : n < h.length
    · rw [List.getElem?_append_left hl] at e1
      rw [List.getElem?_append_left (by rw [r.len]; exact hl)] at e2
      exact obj_same get_more (fun _ _ q => q) rfl (r.obj n o' a e1 e2)
    · have hn' : n = h.length := by
        have := (List.getElem?_eq_some_iff.mp e1).1
        simp at this
        omega
      subst hn'
      rw [List.getElem?_append_right (Nat.le_refl _)] at e1
      rw [List.getElem?_append_right (by rw [r.len]; exact Nat.le_refl _)] at e2
      simp [r.len] at e1 e2
      subst e1 e2
      exact ⟨vs, hD, hz, rels_same get_more (fun _ _ q => q) rs⟩
/-- a list beside ours is written -/
theorem sqt_out {D : Addr} {us us' : List V} (hD : H D = some (.lst us)) : ∀ a vs, SqT L.K H a vs → SqT L.K (upd H D (.lst us')) a vs := fun a vs q => by
  rcases q with (q | ⟨ob, q⟩) | q
  · have hne : a ≠ D := by
      rintro rfl
      rw [q] at hD
      cases hD
    exact .inl (.inl ((upd_ne hne).trans q))
  · have hne : a ≠ D := by
      rintro rfl
      rw [q] at hD
      cases hD
    exact .inl (.inr ⟨ob, (upd_ne hne).trans q⟩)
  · exact .inr q
theorem RelH.out (r : RelH L ρ H h) {D : Addr} {us us' : List V} (hD : H D = some (.lst us)) (hn : D ∉ ρ) : RelH L ρ (upd H D (.lst us')) h :=
  ⟨r.len, r.nd, fun n o a e1 e2 => obj_same (fun _ _ q => q) (sqt_out hD) (upd_ne (by
    rintro rfl
    exact hn (List.mem_of_getElem? e2))) (r.obj n o a e1 e2)⟩
end

/-! ### names and constants -/
section
variable {X : Cx} {L : Lk} {pos : Pos}
theorem g_var {i : Nat} {x : Str} (hN : X.N[i]? = some x) (hv : Vis X.env.scope x) (hd : (x == ("__debug__" : Str)) = false) (hcd : (x == ("__classdict__" : Str)) = false) : PE X (.Name x pos) (tE L fun σ h => getV σ i h) := by
  refine PE.imp (pe_var hN hv hd hcd) fun σ H Q h => ?_
  obtain ⟨ρ, sm, h, rh, rs, q⟩ := h
  dsimp only at q
  unfold getV at q
  split at q
  · rename_i w e
    obtain ⟨v, e2, r⟩ := rs.2 i w e
    exact ⟨v, e2, q ρ H v Ext.refl rh r⟩
  · exact q.elim
theorem te_con {w : W} {v : V} (r : ∀ ρ H, Rel L ρ H w v) {σ : L2.St} {H : Hp} {Q : VK} (h : tE L (fun _ h => .ok w h) σ H Q) : tC v σ H Q := by
  obtain ⟨ρ, sm, h, rh, rs, q⟩ := h
  exact q ρ H v Ext.refl rh (r ρ H)
theorem g_int {i j} : PE X (.Constant (.int i) j pos) (tE L fun _ h => .ok (.int i) h) := PE.imp pe_int fun _ _ _ h => te_con (L := L) (w := .int i) (v := .int i) (fun _ _ => rfl) h
theorem g_bl {b j} : PE X (.Constant (.bool b) j pos) (tE L fun _ h => .ok (.bl b) h) := PE.imp pe_bl fun _ _ _ h => te_con (L := L) (w := .bl b) (v := .bl b) (fun _ _ => rfl) h
theorem g_non {j} : PE X (.Constant .none j pos) (tE L fun _ h => .ok .non h) := PE.imp pe_non fun _ _ _ h => te_con (L := L) (w := .non) (v := .non) (fun _ _ => rfl) h
theorem g_str {x : Str} {j} (hx : x.cps.toList.length ≤ SZ ∧ ∀ c ∈ x.cps.toList, c < 1114112) : PE X (.Constant (.str x) j pos) (tE L fun _ h => .ok (.str x.cps.toList) h) :=
  PE.imp pe_str fun _ _ _ h => te_con (L := L) (w := .str x.cps.toList) (v := .str x) (fun _ _ => ⟨hx, by cases x; rfl⟩) h
theorem g_glob {x : Str} {v : V} {u : Value} {w : W} (hg : Gl X x) (hm : X.mg x = some u) (r : RelV v u) (hw : ∀ ρ H, Rel L ρ H w v) (hd : (x == ("__debug__" : Str)) = false) : PE X (.Name x pos) (tE L fun _ h => .ok w h) :=
  PE.imp (pe_glob hg hm r hd) fun _ _ _ h => te_con hw h
theorem g_neg {a : Expr} {ma : Py.Env → Hm → R W} (ha : PE X a (tE L ma)) : PE X (.UnaryOp .USub a pos) (tE L fun σ h => (ma σ h).bind fun x h1 => negR x h1) := by
  refine PE.imp (pe_un un_neg ha) fun σ H Q h => ?_
  obtain ⟨ρ, sm, h, rh, rs, q⟩ := h
  refine ⟨ρ, sm, h, rh, rs, q.bind.imp fun x H1 ⟨ρ1, w, h1, e1, rh1, rw1, q1⟩ => ?_⟩
  obtain ⟨i, rfl, q1⟩ := intA_ok q1
  exact ⟨i, rw1, q1 ρ1 H1 _ Ext.refl rh1 rfl⟩
end

/-! ### targets -/
def Tg.slots : Tg → List Nat
  | .nm i => [i]
  | .tp is => is
def tG (L : Lk) (t : Tg) : TG := fun v σ H Q => ∃ ρ sm h w sm1, RelH L ρ H h ∧ RelS L ρ H sm σ ∧ Rel L ρ H w v ∧ asgT t w sm h = some sm1 ∧
  ∀ σ1, RelS L ρ H sm1 σ1 → (σ1.length = σ.length ∧ ∀ i, i ∉ t.slots → σ1[i]? = σ[i]?) → Q σ1 H
theorem PG.imp {X : Cx} {e : Expr} {t t' : TG} (h : PG X e t) (f : ∀ v σ H Q, t' v σ H Q → t v σ H Q) : PG X e t' := ⟨fun pins s σ H v u Q I r q => h.run pins s σ H v u Q I r (f v σ H Q q)⟩
section
variable {X : Cx} {L : Lk} {pos : Pos}
theorem g_gnm {i : Nat} {x : Str} (hN : X.N.Nodup) (hi : X.N[i]? = some x) (hx : Loc X.env.scope x) (hf : X.fn x = true ∨ X.env.scope.names.lookup x = some .local) : PG X (.Name x pos) (tG L (.nm i)) := by
  refine PG.imp (pg_name hN hi hx hf) fun v σ H Q h => ?_
  obtain ⟨ρ, sm, h, w, sm1, rh, rs, r, e, q⟩ := h
  have e : some (sm.set i (some w)) = some sm1 := e
  cases e
  refine q _ (rs.set r i) ⟨by simp, fun j hj => ?_⟩
  have : i ≠ j := fun z => hj (by simp [Tg.slots, z])
  simp [this]
def gNs : List Nat → TGs
  | [] => gNil
  | i :: is => gCons (gName i) (gNs is)
theorem gNs_ok {ρ : List Addr} {H : Hp} {Q : L2.St → Hp → Prop} : ∀ (is : List Nat) (ws : List W) (vs : List V) (sm : Py.Env) (σ : L2.St), RelS L ρ H sm σ → Rels L ρ H ws vs → ws.length = is.length →
    (∀ σ1, RelS L ρ H (Py.setAll sm is ws) σ1 → (σ1.length = σ.length ∧ ∀ i, i ∉ is → σ1[i]? = σ[i]?) → Q σ1 H) → gNs is vs σ H Q
  | [], [], vs, sm, σ, rs, r, _, q => ⟨r, q σ rs ⟨rfl, fun _ _ => rfl⟩⟩
  | [], _ :: _, _, _, _, _, _, e, _ => by simp at e
  | _ :: _, [], _, _, _, _, _, e, _ => by simp at e
  | i :: is, w :: ws, _, sm, σ, rs, ⟨v, r, e1, r1, rr⟩, e, q => by
    refine ⟨v, r, e1, ?_⟩
    refine gNs_ok is ws r _ _ (rs.set r1 i) rr (by simpa using e) fun σ1 h1 h2 => ?_
    refine q σ1 h1 ⟨by rw [h2.1]; simp, fun j hj => ?_⟩
    rw [h2.2 j (fun z => hj (by simp [z]))]
    have : i ≠ j := fun z => hj (by simp [z])
    simp [this]
theorem g_gtp {es : List Expr} {k : Nat} {is : List Nat} (hK : X.K = L.K) (hc : X.calm = true) (h : PGs X es (gNs is)) (hn : (assignEach es X.env).length = is.length) (hst : (assignEach es X.env).findIdx? (·.1) = none) : PG X (.Tuple es k pos) (tG L (.tp is)) := by
  refine ⟨fun pins s σ H v u Q I r q => ?_⟩
  obtain ⟨ρ, sm, h1, w, sm1, rh, rs, rw1, e, q⟩ := q
  have e : (match seqO h1 w with
    | some ws => if ws.length = is.length then some (Py.setAll sm is ws) else none
    | none => none) = some sm1 := e
  split at e
  · rename_i ws es'
    split at e
    · rename_i hl
      cases e
      obtain ⟨a, vs, ev, hq, hz, rr⟩ := rw1.seqO rh es'
      have hlen : vs.length = is.length := by rw [← rr.length, hl]
      have fin : gNs is vs σ H Q := gNs_ok is ws vs sm σ rs rr hl q
      rcases hq.symm with hq | hq
      · exact (pg_tup hc h hn hst).run pins s σ H v u Q I r ⟨a, vs, ev, hK ▸ hq, hlen, fin⟩
      · exact (pg_unl hc h hn hst).run pins s σ H v u Q I r ⟨a, vs, ev, hK ▸ hq, hlen, fin⟩
    · cases e
  · cases e
end

/-! ### statements -/
inductive AF where
  | nx (σ : L2.St) | ct (σ : L2.St) | bk (σ : L2.St) | rt (v : V)
def FlR (L : Lk) (ρ : List Addr) (H : Hp) : Fl → AF → Prop
  | .nx sm, a => ∃ σ, a = .nx σ ∧ RelS L ρ H sm σ
  | .ct sm, a => ∃ σ, a = .ct σ ∧ RelS L ρ H sm σ
  | .bk sm, a => ∃ σ, a = .bk σ ∧ RelS L ρ H sm σ
  | .rt w, a => ∃ v, a = .rt v ∧ Rel L ρ H w v
def DQ (D : Ends) : AF → Hp → Prop
  | .nx σ, H => D.nx σ H
  | .ct σ, H => D.ct σ H
  | .bk σ, H => D.bk σ H
  | .rt v, H => D.rt v H
def tS (L : Lk) (m : Py.Env → Hm → R Fl) : TS := fun D σ H => ∃ ρ sm h, RelH L ρ H h ∧ RelS L ρ H sm σ ∧ Post L (FlR L) ρ H (DQ D) (m sm h)
section
variable {X : Cx} {L : Lk} {e a b c o i value : Expr} {me ma mb mc mo mi : Py.Env → Hm → R W} {p q : List Stmt} {mp mq ms mr : Py.Env → Hm → R Fl} {st : Stmt} {rest : List Stmt} {pos pos' : Pos}
theorem g_spass : PS X (.Pass pos) (tS L fun σ h => .ok (.nx σ) h) := PS.imp ps_pass fun D σ H ⟨ρ, sm, h, rh, rs, q⟩ => q ρ H (.nx σ) Ext.refl rh ⟨σ, rfl, rs⟩
theorem g_sbrk : PS X (.Break pos) (tS L fun σ h => .ok (.bk σ) h) := PS.imp ps_break fun D σ H ⟨ρ, sm, h, rh, rs, q⟩ => q ρ H (.bk σ) Ext.refl rh ⟨σ, rfl, rs⟩
theorem g_scont : PS X (.Continue pos) (tS L fun σ h => .ok (.ct σ) h) := PS.imp ps_continue fun D σ H ⟨ρ, sm, h, rh, rs, q⟩ => q ρ H (.ct σ) Ext.refl rh ⟨σ, rfl, rs⟩
theorem g_sdoc {x j} : PS X (.Expr (.Constant (.str x) j pos) pos') (tS L fun σ h => .ok (.nx σ) h) := PS.imp ps_doc fun D σ H ⟨ρ, sm, h, rh, rs, q⟩ => q ρ H (.nx σ) Ext.refl rh ⟨σ, rfl, rs⟩
theorem g_sret (he : PE X e (tE L me)) : PS X (.Return (some e) pos) (tS L fun σ h => (me σ h).bind fun w h1 => .ok (.rt w) h1) := by
  refine PS.imp (ps_ret he) fun D σ H h => ?_
  obtain ⟨ρ, sm, h, rh, rs, q⟩ := h
  exact ⟨ρ, sm, h, rh, rs, q.bind.imp fun x H1 ⟨ρ1, w, h1, e1, rh1, rw1, q1⟩ => q1 ρ1 H1 (.rt x) Ext.refl rh1 ⟨x, rfl, rw1⟩⟩
theorem g_sretN : PS X (.Return none pos) (tS L fun _ h => .ok (.rt .non) h) := PS.imp ps_retN fun D σ H ⟨ρ, sm, h, rh, rs, q⟩ => q ρ H (.rt .non) Ext.refl rh ⟨.non, rfl, rfl⟩
theorem g_sexpr (he : PE X e (tE L me)) (hs : swapsWith e none pos.line X.env = pure false) : PS X (.Expr e pos) (tS L fun σ h => (me σ h).bind fun _ h1 => .ok (.nx σ) h1) := by
  refine PS.imp (ps_expr he hs) fun D σ H h => ?_
  obtain ⟨ρ, sm, h, rh, rs, q⟩ := h
  exact ⟨ρ, sm, h, rh, rs, q.bind.imp fun x H1 ⟨ρ1, w, h1, e1, rh1, rw1, q1⟩ => q1 ρ1 H1 (.nx σ) Ext.refl rh1 ⟨σ, rfl, rs.mono e1 rh⟩⟩
theorem g_sif {mt : Py.Env → Hm → R Bool} (hc : PT X c (tT L mt)) (ha : PSs X p (tS L mp)) (hb : PSs X q (tS L mq)) : PS X (.If c p q pos) (tS L fun σ h => (mt σ h).bind fun k h1 => brB k (mp σ h1) (mq σ h1)) := by
  refine PS.imp (ps_if hc ha hb) fun D σ H h => ?_
  obtain ⟨ρ, sm, h, rh, rs, q⟩ := h
  refine ⟨ρ, sm, h, rh, rs, (q.bind (RR := EqB)).imp fun k H1 ⟨ρ1, w, h1, e1, rh1, rw1, q1⟩ => ?_⟩
  have : w = k := rw1
  subst this
  cases w with
  | true =>
    rw [if_pos rfl]
    exact ⟨ρ1, sm, h1, rh1, rs.mono e1 rh, q1⟩
  | false =>
    rw [if_neg Bool.false_ne_true]
    exact ⟨ρ1, sm, h1, rh1, rs.mono e1 rh, q1⟩
theorem g_snil : PSs X [] (tS L fun σ h => .ok (.nx σ) h) := PSs.imp pss_nil fun D σ H ⟨ρ, sm, h, rh, rs, q⟩ => q ρ H (.nx σ) Ext.refl rh ⟨σ, rfl, rs⟩
theorem g_scons (h1 : PS X st (tS L ms)) (h2 : PSs X rest (tS L mr)) : PSs X (st :: rest) (tS L fun σ h => (ms σ h).bind fun f h1 => seqF mr f h1) := by
  refine PSs.imp (pss_cons h1 h2) fun D σ H h => ?_
  obtain ⟨ρ, sm, h, rh, rs, q⟩ := h
  refine ⟨ρ, sm, h, rh, rs, (q.bind (RR := FlR L)).imp fun f H1 ⟨ρ1, w, h1, e1, rh1, rw1, q1⟩ => ?_⟩
  cases w with
  | nx sm1 =>
    obtain ⟨σ1, rfl, rs1⟩ := rw1
    exact ⟨ρ1, sm1, h1, rh1, rs1, q1⟩
  | ct sm1 =>
    obtain ⟨σ1, rfl, rs1⟩ := rw1
    exact q1 ρ1 H1 (.ct σ1) Ext.refl rh1 ⟨σ1, rfl, rs1⟩
  | bk sm1 =>
    obtain ⟨σ1, rfl, rs1⟩ := rw1
    exact q1 ρ1 H1 (.bk σ1) Ext.refl rh1 ⟨σ1, rfl, rs1⟩
  | rt w =>
    obtain ⟨v, rfl, r⟩ := rw1
    exact q1 ρ1 H1 (.rt v) Ext.refl rh1 ⟨v, rfl, r⟩
theorem ts_asg {t : Tg} {D : Ends} {σ : L2.St} {H : Hp} (h : tS L (fun σ h => (me σ h).bind fun w h1 => asgR t σ w h1) D σ H) : tAsg (tE L me) (tG L t) D σ H := by
  obtain ⟨ρ, sm, h, rh, rs, q⟩ := h
  refine ⟨ρ, sm, h, rh, rs, q.bind.imp fun x H1 ⟨ρ1, w, h1, e1, rh1, rw1, q1⟩ => ?_⟩
  obtain ⟨sm1, e2, q2⟩ := optA_ok q1
  exact ⟨ρ1, sm, h1, w, sm1, rh1, rs.mono e1 rh, rw1, e2, fun σ1 r1 _ => q2 ρ1 H1 (.nx σ1) Ext.refl rh1 ⟨σ1, rfl, r1⟩⟩
theorem ts_set {i : Nat} {te : TE} {D : Ends} {σ : L2.St} {H : Hp} (hmono : ∀ Q Q' : VK, (∀ v H1, Q v H1 → Q' v H1) → te σ H Q → te σ H Q') (h : tAsg te (tG L (.nm i)) D σ H) : tAsg te (gName i) D σ H := by
  refine hmono _ _ (fun v H1 q => ?_) h
  obtain ⟨ρ, sm, h, w, sm1, rh, rs, r, e, q⟩ := q
  have e : some (sm.set i (some w)) = some sm1 := e
  cases e
  refine q _ (rs.set r i) ⟨by simp, fun j hj => ?_⟩
  have : i ≠ j := fun z => hj (by simp [Tg.slots, z])
  simp [this]
theorem g_sasg {tg : Expr} {t : Tg} (he : PE X e (tE L me)) (hg : PG X tg (tG L t)) (hs : swapsWithSole [tg] e pos.line X.env = pure false) (hw : swappedStores [tg] e X.env = pure none)
    (h1 : (assignEach [tg] X.env).map (·.2) = [assign tg X.env]) : PS X (.Assign [tg] e pos) (tS L fun σ h => (me σ h).bind fun w h1 => asgR t σ w h1) :=
  PS.imp (ps_asg he hg hs hw h1) fun _ _ _ h => ts_asg h
theorem g_sset {i : Nat} {x : Str} (hN : X.N.Nodup) (hi : X.N[i]? = some x) (hx : Loc X.env.scope x) (he : PE X e (tE L me)) (hs : swapsWith e (some (.Name x pos')) pos.line X.env = pure false) (hf : X.fn x = true ∨ X.env.scope.names.lookup x = some .local) :
    PS X (.Assign [.Name x pos'] e pos) (tS L fun σ h => (me σ h).bind fun w h1 => asgR (.nm i) σ w h1) := by
  refine PS.imp (ps_set hN hi hx he hs hf) fun D σ H h => ts_set (L := L) (fun Q Q' f q => ?_) (ts_asg h)
  obtain ⟨ρ, sm, h, rh, rs, q⟩ := q
  exact ⟨ρ, sm, h, rh, rs, q.imp f⟩
theorem g_ssetIx (hK : X.K = L.K) (he : PE X value (tE L me)) (ho : PE X o (tE L mo)) (hi : PE X i (tE L mi)) (ha : ∀ v, assign (.Subscript o i pos') X.env v = (do
      let ov ← holding [v] (eval o X.env)
      let iv ← holding [v, ov] (eval i X.env)
      standAt pos'
      holding [v, ov, iv] (setItem ov iv v)
      release [v, ov, iv] [])) (hs : swapsWithSole [.Subscript o i pos'] value pos.line X.env = pure false) :
    PS X (.Assign [.Subscript o i pos'] value pos) (tS L fun σ h => (me σ h).bind fun y h1 => (mo σ h1).bind fun x h2 => (mi σ h2).bind fun j h3 => (setIxR x j y h3).bind fun _ h4 => .ok (.nx σ) h4) := by
  refine PS.imp (ps_asg he (pg_sub ho hi set_list ha) hs rfl rfl) fun D σ H h => ?_
  obtain ⟨ρ, sm, h, rh, rs, q⟩ := h
  refine ⟨ρ, sm, h, rh, rs, q.bind.imp fun y H1 ⟨ρ1, wy, h1, e1, rh1, ry, q1⟩ => ?_⟩
  refine ⟨ρ1, sm, h1, rh1, rs.mono e1 rh, q1.bind.imp fun x H2 ⟨ρ2, wx, h2, e2, rh2, rx, q2⟩ => ?_⟩
  refine ⟨ρ2, sm, h2, rh2, (rs.mono e1 rh).mono e2 rh1, q2.bind.imp fun j H3 ⟨ρ3, wj, h3, e3, rh3, rj, q3⟩ => ?_⟩
  unfold setIxR at q3
  cases wx with
  | ref n =>
    obtain ⟨a, ea, rfl⟩ := rx
    have q3 : Post L (FlR L) ρ3 H3 (DQ D) ((lstA h3 n fun xs => intA (fun k => optA (ixN xs.length k) fun j => .ok () (h3.set n (.lst (xs.set j wy)))) wj).bind fun _ h4 => .ok (.nx sm) h4) := q3
    unfold lstA at q3
    split at q3
    · rename_i xs hx
      cases wj with
      | int k =>
        obtain rfl := rj
        have q3 : Post L (FlR L) ρ3 H3 (DQ D) ((optA (ixN xs.length k) fun j => R.ok () (h3.set n (.lst (xs.set j wy)))).bind fun _ h4 => .ok (.nx sm) h4) := q3
        cases ej : ixN xs.length k with
        | none =>
          rw [ej] at q3
          exact q3.elim
        | some j =>
          rw [ej] at q3
          have ea3 : ρ3[n]? = some a := e3.get ea
          obtain ⟨vs, ev, hz, rr⟩ := rh3.obj n _ a hx ea3
          refine ⟨a, vs, k, j, rfl, rfl, ev, ?_, ?_⟩
          · rw [← rr.length]
            exact ej
          · have e4 := ext_wr (H := H3) (u := .lst (vs.set j y)) ea3
            have ry4 : Rel L ρ3 H3 wy y := (ry.mono e2 rh1).mono e3 rh2
            have rh4 : RelH L ρ3 (upd H3 a (.lst (vs.set j y))) (h3.set n (.lst (xs.set j wy))) := rh3.wr ea3 ⟨_, upd_same, by simpa using hz, (rr.set ry4 j).mono e4 rh3⟩
            exact q3 ρ3 _ (.nx σ) e4 rh4 ⟨σ, rfl, (((rs.mono e1 rh).mono e2 rh1).mono e3 rh2).mono e4 rh3⟩
      | _ => exact q3.elim
    · exact q3.elim
  | _ => exact q3.elim
end
end Py
end
section
/-! PyJ2: what is walked, loops, comprehensions, stores to attributes. -/
namespace Py
open PySem PySem.Spec PyProof.Rows L2

/-! ### attributes written -/
section
variable {X : Cx} {L : Lk} {P : Prog} {value o e : Expr} {me mo : Py.Env → Hm → R W} {pos pos' tpos : Pos}
theorem setFR_ok {α β : Type} {RR : List Addr → Hp → α → β → Prop} {ρ : List Addr} {H : Hp} {h : Hm} {Q : β → Hp → Prop} {f : Nat} {x y : W} {vx vy : V} {k : Unit → Hm → R α} (rh : RelH L ρ H h) (rx : Rel L ρ H x vx) (ry : Rel L ρ H y vy) (q : Post L RR ρ H Q ((setFR P f x y h).bind k)) :
    ∃ n c fs a dx fvs, insAt h x = some (n, c, fs) ∧ f ∈ P.flds c ∧ vx = .ref a ∧ ρ[n]? = some a ∧ H a = some (.ins (L.ca c) dx fvs) ∧ FldR L ρ H fs fvs ∧ fvs.length < 1000 ∧
      Ext ρ H ρ (upd H a (.ins (L.ca c) dx (L2.putF (L.fn f) vy fvs))) ∧ RelH L ρ (upd H a (.ins (L.ca c) dx (L2.putF (L.fn f) vy fvs))) (h.set n (.ins c (Py.putF f y fs))) ∧ Post L RR ρ H Q (k () (h.set n (.ins c (Py.putF f y fs)))) := by
  unfold setFR at q
  cases ei : insAt h x with
  | none =>
    rw [ei] at q
    exact q.elim
  | some z =>
    obtain ⟨n, c, fs⟩ := z
    rw [ei] at q
    cases hc : ((P.flds c).contains f && decide (fs.length < 100)) with
    | false =>
      have q : Post L RR ρ H Q ((ifA ((P.flds c).contains f && decide (fs.length < 100)) (R.ok () (h.set n (.ins c (Py.putF f y fs))))).bind k) := q
      rw [hc] at q
      exact q.elim
    | true =>
      have q : Post L RR ρ H Q ((ifA ((P.flds c).contains f && decide (fs.length < 100)) (R.ok () (h.set n (.ins c (Py.putF f y fs))))).bind k) := q
      rw [hc] at q
      simp only [Bool.and_eq_true, decide_eq_true_eq] at hc
      obtain ⟨e0, _, a, dx, fvs, ev, en, ea, rf⟩ := Rel.ins rh rx ei
      have e4 : Ext ρ H ρ (upd H a (.ins (L.ca c) dx (L2.putF (L.fn f) vy fvs))) := ext_wr en
      refine ⟨n, c, fs, a, dx, fvs, rfl, by simpa using hc.1, ev, en, ea, rf, by rw [← rf.length]; omega, e4, ?_, q⟩
      exact rh.wr en ⟨dx, _, upd_same, (FldR.put ry rf).mono e4 rh⟩
theorem g_ssetF {f : Nat} (hK : X.K = L.K) (hC : ∀ c, P.flds c ≠ [] → ClsOk P L c) (ho : PE X o (tE L mo)) (hv : PE X value (tE L me)) (hs : swapsWith value (some (.Attribute o (L.fn f) pos')) pos.line X.env = pure false) :
    PS X (.Assign [.Attribute o (L.fn f) pos'] value pos) (tS L fun σ h => (me σ h).bind fun y h1 => (mo σ h1).bind fun x h2 => (setFR P f x y h2).bind fun _ h3 => .ok (.nx σ) h3) := by
  refine PS.imp (ps_fld ho hv hs) fun D σ H h => ?_
  obtain ⟨ρ, sm, h, rh, rs, q⟩ := h
  refine ⟨ρ, sm, h, rh, rs, q.bind.imp fun y H1 ⟨ρ1, wy, h1, e1, rh1, ry, q1⟩ => ?_⟩
  refine ⟨ρ1, sm, h1, rh1, rs.mono e1 rh, q1.bind.imp fun x H2 ⟨ρ2, wx, h2, e2, rh2, rx, q2⟩ => ?_⟩
  obtain ⟨n, c, fs, a, dx, fvs, _, hf, ev, en, ea, rf, hl, e4, rh4, q3⟩ := setFR_ok rh2 rx (ry.mono e2 rh1) q2
  have T := hC c (List.ne_nil_of_mem hf)
  exact ⟨a, _, dx, fvs, ev, ea, hK ▸ T.cls, hK ▸ T.fld f hf, hl, q3 ρ2 _ (.nx σ) e4 rh4 ⟨σ, rfl, ((rs.mono e1 rh).mono e2 rh1).mono e4 rh2⟩⟩
theorem augI_ok {α β : Type} {RR : List Addr → Hp → α → β → Prop} {ρ : List Addr} {H : Hp} {h : Hm} {Q : β → Hp → Prop} {x y : W} {k : W → Hm → R α} (q : Post L RR ρ H Q ((augI x y h).bind k)) :
    ∃ i j, x = .int i ∧ y = .int j ∧ Post L RR ρ H Q (k (.int (i + j)) h) := by
  cases x with
  | int i =>
    cases y with
    | int j => exact ⟨i, j, rfl, rfl, q⟩
    | _ => exact q.elim
  | _ => exact q.elim
theorem fldR_ok {α β : Type} {RR : List Addr → Hp → α → β → Prop} {ρ : List Addr} {H : Hp} {h : Hm} {Q : β → Hp → Prop} {f : Nat} {x : W} {vx : V} {k : W → Hm → R α} (rh : RelH L ρ H h) (rx : Rel L ρ H x vx) (q : Post L RR ρ H Q ((fldR P f x h).bind k)) :
    ∃ n c fs a dx fvs w v, x = .ref n ∧ insAt h x = some (n, c, fs) ∧ f ∈ P.flds c ∧ vx = .ref a ∧ ρ[n]? = some a ∧ H a = some (.ins (L.ca c) dx fvs) ∧ FldR L ρ H fs fvs ∧ fvs.lookup (L.fn f) = some v ∧ Rel L ρ H w v ∧ Post L RR ρ H Q (k w h) := by
  unfold fldR at q
  cases ei : insAt h x with
  | none =>
    rw [ei] at q
    exact q.elim
  | some z =>
    obtain ⟨n, c, fs⟩ := z
    rw [ei] at q
    have q : Post L RR ρ H Q ((ifA ((P.flds c).contains f) (retO (lookF f fs) h)).bind k) := q
    cases hc : (P.flds c).contains f with
    | false =>
      rw [hc] at q
      exact q.elim
    | true =>
      rw [hc] at q
      have q : Post L RR ρ H Q ((retO (lookF f fs) h).bind k) := q
      cases hl : lookF f fs with
      | none =>
        rw [hl] at q
        exact q.elim
      | some w =>
        rw [hl] at q
        obtain ⟨e0, _, a, dx, fvs, ev, en, ea, rf⟩ := Rel.ins rh rx ei
        obtain ⟨v, l, r⟩ := rf.look.1 w hl
        exact ⟨n, c, fs, a, dx, fvs, w, v, e0, rfl, by simpa using hc, ev, en, ea, rf, l, r, q⟩
theorem g_saugF {f : Nat} (hK : X.K = L.K) (hC : ∀ c, P.flds c ≠ [] → ClsOk P L c) (ho : PE X o (tE L mo)) (hv : PE X value (tE L me)) :
    PS X (.AugAssign (.Attribute o (L.fn f) tpos) .Add value pos) (tS L fun σ h => (mo σ h).bind fun x h1 => (fldR P f x h1).bind fun z h2 => (me σ h2).bind fun y h3 => ifA (clsAt h1 x == clsAt h3 x) ((augI z y h3).bind fun r h4 => (setFR P f x r h4).bind fun _ h5 => .ok (.nx σ) h5)) := by
  refine PS.imp (ps_fldaug ho hv in_add) fun D σ H h => ?_
  obtain ⟨ρ, sm, h, rh, rs, q⟩ := h
  refine ⟨ρ, sm, h, rh, rs, q.bind.imp fun x H1 ⟨ρ1, wx, h1, e1, rh1, rx, q1⟩ => ?_⟩
  obtain ⟨n, c, fs, a, dx, fvs, w, v, e0, ci, hf, ev, en, ea, rf, l, r, q2⟩ := fldR_ok rh1 rx q1
  have T := hC c (List.ne_nil_of_mem hf)
  refine ⟨a, _, dx, fvs, v, ev, ea, hK ▸ T.cls, hK ▸ T.fld f hf, l, ρ1, sm, h1, rh1, rs.mono e1 rh, q2.bind.imp fun y H2 ⟨ρ2, wy, h2, e2, rh2, ry, q3⟩ => ?_⟩
  obtain ⟨hcl, q3⟩ := ifA_ok q3
  obtain ⟨i, j, ew, ey, q4⟩ := augI_ok q3
  subst ew ey
  obtain rfl : v = .int i := r
  obtain rfl : y = .int j := ry
  obtain ⟨n', c', fs', a', dx', fvs', ci', hf', ev', en', ea', rf', hl', e4, rh4, q5⟩ := setFR_ok (vy := .int (i + j)) (y := .int (i + j)) rh2 (rx.mono e2 rh1) (show Rel L ρ2 H2 (.int (i + j)) (.int (i + j)) from rfl) q4
  have haa : a' = a := by
    rw [ev] at ev'
    cases ev'
    rfl
  subst haa
  have hcc : c' = c := by
    simp [clsAt, ci, ci'] at hcl
    exact hcl.symm
  subst hcc
  exact ⟨i, j, rfl, rfl, dx', fvs', ea', hl', q5 ρ2 _ (.nx σ) e4 rh4 ⟨σ, rfl, ((rs.mono e1 rh).mono e2 rh1).mono e4 rh2⟩⟩
theorem g_saugV {i : Nat} {x : Str} (hN : X.N.Nodup) (hi : X.N[i]? = some x) (hx : Loc X.env.scope x) (he : PE X e (tE L me)) (hf : X.fn x = true ∨ X.env.scope.names.lookup x = some .local) :
    PS X (.AugAssign (.Name x tpos) .Add e pos) (tS L fun σ h => (getV σ i h).bind fun x h1 => (me σ h1).bind fun y h2 => (augI x y h2).bind fun z h3 => .ok (.nx (σ.set i (some z))) h3) := by
  refine PS.imp (ps_aug hN hi hx he ip_add hf) fun D σ H h => ?_
  obtain ⟨ρ, sm, h, rh, rs, q⟩ := h
  dsimp only at q
  unfold getV at q
  split at q
  · rename_i w ew
    obtain ⟨v, e2, r⟩ := rs.2 i w ew
    have q : Post L (FlR L) ρ H (DQ D) ((me sm h).bind fun y h2 => (augI w y h2).bind fun z h3 => .ok (.nx (sm.set i (some z))) h3) := q
    refine ⟨v, e2, ρ, sm, h, rh, rs, q.bind.imp fun y H1 ⟨ρ1, wy, h1, e1, rh1, ry, q1⟩ => ?_⟩
    obtain ⟨k, j, ew, ey, q2⟩ := augI_ok q1
    subst ew ey
    obtain rfl : v = .int k := r
    obtain rfl : y = .int j := ry
    exact ⟨k, j, rfl, rfl, q2 ρ1 H1 (.nx _) Ext.refl rh1 ⟨_, rfl, (rs.mono e1 rh).set (show Rel L ρ1 H1 (.int (k + j)) (.int (k + j)) from rfl) i⟩⟩
  · exact q.elim
end
end Py
end
section
/-! PyJ3: what is walked, loops. -/
namespace Py
open PySem PySem.Spec PyProof.Rows L2

/-- J yields what xs stands for, whatever the heap does -/
def Walk (L : Lk) (ρ : List Addr) (H : Hp) (J : L2.It) (xs : List W) : Prop := ∃ vs, Rels L ρ H xs vs ∧ ∀ ρ' H', Ext ρ H ρ' H' → ∀ i,
  (∀ v, vs[i]? = some v → J.go i H' ∧ ∀ x H2, J.yld i H' x H2 → H2 = H' ∧ x = v) ∧ (vs[i]? = none → J.stop i H')
def SrcR (L : Lk) (ρ : List Addr) (H : Hp) : Src → L2.It → Prop
  | .pure xs, J => Walk L ρ H J xs
  | .live n, J => ∃ a, ρ[n]? = some a ∧ J = Itl L.K a
def tI (L : Lk) (m : Py.Env → Hm → R Src) : TI := fun σ H Q => ∃ ρ sm h, RelH L ρ H h ∧ RelS L ρ H sm σ ∧ Post L (SrcR L) ρ H Q (m sm h)
section
variable {L : Lk} {ρ : List Addr} {H : Hp} {h : Hm}
theorem walk_tup {a : Addr} {xs : List W} {vs : List V} (rh : RelH L ρ H h) (q : SqT L.K H a vs) (rs : Rels L ρ H xs vs) : Walk L ρ H (Itt L.K a) xs :=
  ⟨vs, rs, fun ρ' H' e i => ⟨fun v ev => ⟨⟨vs, v, sqt_ext e rh q, ev⟩, fun x H2 y => ⟨y.1, by
    have z := y.2 vs (sqt_ext e rh q)
    rw [ev] at z
    cases z
    rfl⟩⟩, fun en => ⟨vs, sqt_ext e rh q, by simpa using en⟩⟩⟩
theorem walk_str {s : List Nat} (hs : ∀ c ∈ s, c < 1114112) : Walk L ρ H (Its ⟨s.toArray⟩) (s.map fun c => .str [c]) := by
  refine ⟨s.map fun c => .str ⟨#[c]⟩, ?_, fun ρ' H' e i => ⟨fun v ev => ?_, fun en => ?_⟩⟩
  · refine Rels.of_get (by simp) fun i x v e1 e2 => ?_
    simp only [List.getElem?_map, Option.map_eq_some_iff] at e1 e2
    obtain ⟨c, ec, rfl⟩ := e1
    obtain ⟨c', ec', rfl⟩ := e2
    rw [ec] at ec'
    cases ec'
    refine ⟨⟨by simp [SZ], fun d hd => ?_⟩, rfl⟩
    have : d = c := by simpa using hd
    subst this
    exact hs d (List.mem_of_getElem? ec)
  · simp only [List.getElem?_map, Option.map_eq_some_iff] at ev
    obtain ⟨c, ec, rfl⟩ := ev
    have hl : i < s.length := (List.getElem?_eq_some_iff.mp ec).1
    refine ⟨by simpa [Its] using hl, fun x H2 y => ?_⟩
    obtain ⟨y1, c', ec', y2⟩ := y
    refine ⟨y1, ?_⟩
    have : some c' = some c := by
      rw [← ec, ← ec']
      simp
    cases this
    exact y2
  · simp only [List.getElem?_map, Option.map_eq_none_iff, List.getElem?_eq_none_iff] at en
    simpa [Its] using en
theorem walk_rng {lo : Int} {n : Nat} : Walk L ρ H (Itr lo n) (rangeW lo n) := by
  refine ⟨(List.range n).map fun i => .int (lo + (i : Nat)), ?_, fun ρ' H' e i => ⟨fun v ev => ?_, fun en => ?_⟩⟩
  · refine Rels.of_get (by simp [rangeW]) fun i x v e1 e2 => ?_
    simp only [rangeW, List.getElem?_map, Option.map_eq_some_iff] at e1 e2
    obtain ⟨c, ec, rfl⟩ := e1
    obtain ⟨c', ec', rfl⟩ := e2
    rw [ec] at ec'
    cases ec'
    exact rfl
  · simp only [List.getElem?_map, Option.map_eq_some_iff] at ev
    obtain ⟨c, ec, rfl⟩ := ev
    have hl : i < n := by simpa using (List.getElem?_eq_some_iff.mp ec).1
    have hc : c = i := by
      rw [List.getElem?_range hl] at ec
      cases ec
      rfl
    subst hc
    exact ⟨hl, fun x H2 y => y⟩
  · simp only [List.getElem?_map, Option.map_eq_none_iff, List.getElem?_eq_none_iff, List.length_range] at en
    exact en
end
section
variable {X : Cx} {L : Lk} {tg e : Expr} {me mb : Py.Env → Hm → R W} {pos p : Pos}
theorem g_ival (hK : X.K = L.K) (he : PE X e (tE L me)) : PI X tg e (tI L fun σ h => (me σ h).bind fun x h1 => srcV x h1) := by
  refine ⟨fun pins s σ H R I hq => ?_⟩
  obtain ⟨ρ, sm, h, rh, rs, q⟩ := hq
  dsimp only at q
  cases e1 : me sm h with
  | no =>
    rw [e1] at q
    exact q.elim
  | ex _ _ _ =>
    rw [e1] at q
    exact q.elim
  | ok w h1 =>
    rw [e1] at q
    have q : Post L (SrcR L) ρ H R (srcV w h1) := q
    have base : ∀ (Qv : VK), (∀ ρ1 H1 v, Ext ρ H ρ1 H1 → RelH L ρ1 H1 h1 → Rel L ρ1 H1 w v → Qv v H1) → tE L me σ H Qv := fun Qv f => ⟨ρ, sm, h, rh, rs, by
      rw [e1]
      exact f⟩
    cases w with
    | tup xs =>
      refine (pi_tup he).run pins s σ H R I (base _ fun ρ1 H1 v ee rh1 rv => ?_)
      obtain ⟨a, vs, ev, hs, hz, rvs⟩ := rv
      exact ⟨a, ev, ⟨vs, hK ▸ hs⟩, hK ▸ q ρ1 H1 (Itt L.K a) ee rh1 (walk_tup rh1 hs rvs)⟩
    | str t =>
      refine (pi_str he).run pins s σ H R I (base _ fun ρ1 H1 v ee rh1 rv => ?_)
      exact ⟨_, rv.2, q ρ1 H1 _ ee rh1 (walk_str rv.1.2)⟩
    | ref n =>
      cases el : lstAt h1 n with
      | none =>
        have q : Post L (SrcR L) ρ H R (match lstAt h1 n with
          | some _ => .ok (.live n) h1
          | none => .no) := q
        rw [el] at q
        exact q.elim
      | some xs =>
        have q : Post L (SrcR L) ρ H R (match lstAt h1 n with
          | some _ => .ok (.live n) h1
          | none => .no) := q
        rw [el] at q
        refine (pi_list he).run pins s σ H R I (base _ fun ρ1 H1 v ee rh1 rv => ?_)
        obtain ⟨a, vs, ev, ea, k, z, rr⟩ := Rel.lstAt rh1 rv el
        exact ⟨a, ev, ⟨vs, hK ▸ k⟩, hK ▸ q ρ1 H1 (Itl L.K a) ee rh1 ⟨a, ea, rfl⟩⟩
    | _ => exact q.elim
theorem PI.imp {wi wi' : TI} (h : PI X tg e wi) (f : ∀ σ H Q, wi' σ H Q → wi σ H Q) : PI X tg e wi' := ⟨fun pins s σ H R I q => h.run pins s σ H R I (f σ H R q)⟩
theorem g_ir1 {a : Expr} {ma : Py.Env → Hm → R W} (hg : Gl X "range") (hm : X.mg "range" = none) (ha : PE X a (tE L ma)) (hs : starEach [a] X.env = [(false, eval a X.env)]) : PI X tg (.Call (.Name "range" p) [a] [] pos) (tI L fun σ h => (ma σ h).bind fun x h1 => srcR1 x h1) := by
  refine PI.imp (pi_range1 hg hm (g_pcons ha g_pnil hs) hs) fun σ H Q h => ?_
  obtain ⟨ρ, sm, h, rh, rs, q⟩ := h
  dsimp only at q
  refine ⟨ρ, sm, h, rh, rs, ?_⟩
  dsimp only
  cases e1 : ma sm h with
  | no =>
    rw [e1] at q
    exact q.elim
  | ex _ _ _ =>
    rw [e1] at q
    exact q.elim
  | ok w h1 =>
    rw [e1] at q
    have q : Post L (SrcR L) ρ H Q (srcR1 w h1) := q
    intro ρ1 H1 vs ee rh1 rv
    obtain ⟨v, rfl, r1⟩ := Rels.one rv
    cases w with
    | int j =>
      cases hj : in62 j with
      | false =>
        have q : Post L (SrcR L) ρ H Q (if in62 j = true then .ok (.pure (rangeW 0 j.toNat)) h1 else .no) := q
        rw [hj] at q
        exact q.elim
      | true =>
        have q : Post L (SrcR L) ρ H Q (if in62 j = true then .ok (.pure (rangeW 0 j.toNat)) h1 else .no) := q
        rw [hj] at q
        have r1 : v = .int j := r1
        subst r1
        exact ⟨j, rfl, (in62_ok hj).1, (in62_ok hj).2, q ρ1 H1 _ ee rh1 walk_rng⟩
    | _ => exact q.elim
theorem g_ir2 {a b : Expr} {ma mb : Py.Env → Hm → R W} (hg : Gl X "range") (hm : X.mg "range" = none) (ha : PE X a (tE L ma)) (hb : PE X b (tE L mb)) (hs : starEach [a, b] X.env = (false, eval a X.env) :: starEach [b] X.env) (hs2 : starEach [b] X.env = [(false, eval b X.env)]) :
    PI X tg (.Call (.Name "range" p) [a, b] [] pos) (tI L fun σ h => (ma σ h).bind fun x h1 => (mb σ h1).bind fun y h2 => srcR2 x y h2) := by
  refine PI.imp (pi_range2 hg hm (g_pcons ha (g_pcons hb g_pnil hs2) hs) (by rw [hs, hs2]) hs2) fun σ H Q h => ?_
  obtain ⟨ρ, sm, h, rh, rs, q⟩ := h
  dsimp only at q
  refine ⟨ρ, sm, h, rh, rs, ?_⟩
  dsimp only
  cases e1 : ma sm h with
  | no =>
    rw [e1] at q
    exact q.elim
  | ex _ _ _ =>
    rw [e1] at q
    exact q.elim
  | ok w h1 =>
    rw [e1] at q
    have q : Post L (SrcR L) ρ H Q ((mb sm h1).bind fun y h2 => srcR2 w y h2) := q
    cases e2 : mb sm h1 with
    | no =>
      rw [e2] at q
      exact q.elim
    | ex _ _ _ =>
      rw [e2] at q
      exact q.elim
    | ok w2 h2 =>
      rw [e2] at q
      have q : Post L (SrcR L) ρ H Q (srcR2 w w2 h2) := q
      have goal : Post L (Rels L) ρ H (fun vs H1 => ∃ i j : Int, vs = [V.int i, V.int j] ∧ (-(2 ^ 62) ≤ i ∧ i < 2 ^ 62 ∧ -(2 ^ 62) ≤ j ∧ j < 2 ^ 62) ∧ Q (Itr i (j - i).toNat) H1) (R.ok [w, w2] h2) := fun ρ1 H1 vs ee rh1 rv => by
        obtain ⟨v, u, rfl, r1, r2⟩ := Rels.two rv
        cases w with
        | int i =>
          cases w2 with
          | int j =>
            have q : Post L (SrcR L) ρ H Q (if (in62 i && in62 j) = true then .ok (.pure (rangeW i (j - i).toNat)) h2 else .no) := q
            cases hj : (in62 i && in62 j) with
            | false =>
              rw [hj] at q
              exact q.elim
            | true =>
              rw [hj] at q
              simp only [Bool.and_eq_true] at hj
              have r1 : v = .int i := r1
              have r2 : u = .int j := r2
              subst r1 r2
              exact ⟨i, j, rfl, ⟨(in62_ok hj.1).1, (in62_ok hj.1).2, (in62_ok hj.2).1, (in62_ok hj.2).2⟩, q ρ1 H1 _ ee rh1 walk_rng⟩
          | _ => exact q.elim
        | _ => exact q.elim
      have e3 : ((mb sm h1).bind fun x h1 => (R.ok [] h1).bind fun xs h2 => R.ok (x :: xs) h2) = .ok [w2] h2 := by
        rw [e2]
        rfl
      show Post L (Rels L) ρ H _ (((mb sm h1).bind fun x h1 => (R.ok [] h1).bind fun xs h2 => R.ok (x :: xs) h2).bind fun xs h2 => R.ok (w :: xs) h2)
      rw [e3]
      exact goal
end

/-! ### loops -/
section
variable {X : Cx} {L : Lk} {tg iter c : Expr} {body : List Stmt} {mi : Py.Env → Hm → R Src} {mb : Py.Env → Hm → R Fl} {mt : Py.Env → Hm → R Bool} {t : Tg} {pos : Pos}
/-- behind a turn of a loop -/
theorem turn_ok {ρ : List Addr} {H : Hp} {h : Hm} {sm : Py.Env} {σ : L2.St} {D : Ends} {N : L2.St → Hp → Prop} {g : Py.Env → Hm → R Fl} (rh : RelH L ρ H h) (rs : RelS L ρ H sm σ)
    (q : Post L (FlR L) ρ H (DQ D) (match mb sm h with
      | .ok (.nx σ2) h2 => g σ2 h2
      | .ok (.ct σ2) h2 => g σ2 h2
      | .ok (.bk σ2) h2 => .ok (.nx σ2) h2
      | r => r)) (hN : ∀ ρ' H' sm' σ' h', Ext ρ H ρ' H' → RelH L ρ' H' h' → RelS L ρ' H' sm' σ' → Post L (FlR L) ρ' H' (DQ D) (g sm' h') → N σ' H') :
    tS L mb { D with nx := N, ct := N, bk := D.nx } σ H := by
  refine ⟨ρ, sm, h, rh, rs, ?_⟩
  cases e : mb sm h with
  | no =>
    rw [e] at q
    exact q.elim
  | ex _ _ _ =>
    rw [e] at q
    exact q.elim
  | ok f h2 =>
    rw [e] at q
    cases f with
    | nx sm2 =>
      intro ρ' H' b ee rh' rf
      obtain ⟨σ', rfl, rs'⟩ := rf
      exact hN ρ' H' sm2 σ' h2 ee rh' rs' (Post.ext ee q)
    | ct sm2 =>
      intro ρ' H' b ee rh' rf
      obtain ⟨σ', rfl, rs'⟩ := rf
      exact hN ρ' H' sm2 σ' h2 ee rh' rs' (Post.ext ee q)
    | bk sm2 =>
      intro ρ' H' b ee rh' rf
      obtain ⟨σ', rfl, rs'⟩ := rf
      exact q ρ' H' (.nx σ') ee rh' ⟨σ', rfl, rs'⟩
    | rt w =>
      intro ρ' H' b ee rh' rf
      obtain ⟨v, rfl, r⟩ := rf
      exact q ρ' H' (.rt v) ee rh' ⟨v, rfl, r⟩
theorem g_swhile (hp : PassesOwn (model X.prog X.w) X.A X.env X.xe) (hc : PT X c (tT L mt)) (hb : PSs X body (tS L mb)) : PS X (.While c body [] pos) (tS L fun σ h => whileF mb mt WF σ h) := by
  refine PS.imp (ps_while hp hc hb) fun D σ H h => ?_
  obtain ⟨ρ, sm, h, rh, rs, q⟩ := h
  refine ⟨fun m σ H => ∃ ρ sm h, RelH L ρ H h ∧ RelS L ρ H sm σ ∧ Post L (FlR L) ρ H (DQ D) (whileF mb mt m sm h), ⟨WF, ρ, sm, h, rh, rs, q⟩, ?_⟩
  rintro m σ H ⟨ρ, sm, h, rh, rs, q⟩
  cases m with
  | zero => exact q.elim
  | succ m =>
    unfold whileF at q
    refine ⟨ρ, sm, h, rh, rs, (q.bind (RR := EqB)).imp fun k H1 ⟨ρ1, w, h1, e1, rh1, rw1, q1⟩ => ?_⟩
    have : w = k := rw1
    subst this
    cases w with
    | false =>
      rw [if_neg Bool.false_ne_true]
      exact q1 ρ1 H1 (.nx σ) Ext.refl rh1 ⟨σ, rfl, rs.mono e1 rh⟩
    | true =>
      rw [if_pos rfl]
      exact ⟨_, fun σ' H' w => w, turn_ok (g := fun σ h => whileF mb mt m σ h) rh1 (rs.mono e1 rh) q1 fun ρ' H' sm' σ' h' ee rh' rs' q' => ⟨m, Nat.lt_succ_self m, ρ', sm', h', rh', rs', q'⟩⟩
theorem getElem?_drop_cons {α : Type} {xs : List α} {i : Nat} {x : α} (e : xs[i]? = some x) : xs.drop i = x :: xs.drop (i + 1) := by
  obtain ⟨h, e'⟩ := List.getElem?_eq_some_iff.mp e
  rw [List.drop_eq_getElem_cons h, e']
theorem g_sfor (hp : PassesOwn (model X.prog X.w) X.A X.env X.xe) (hc : X.calm = true) (hi : PI X tg iter (tI L mi)) (hg : PG X tg (tG L t)) (hb : PSs X body (tS L mb)) (hs : ∀ x, foldedSetIterable iter X.env x = pure x) :
    PS X (.For tg iter body [] pos) (tS L fun σ h => (mi σ h).bind fun s h1 => forS t mb σ s h1) := by
  refine PS.imp (ps_for hp hc hi hg hb hs) fun D σ H h => ?_
  obtain ⟨ρ, sm, h, rh, rs, q⟩ := h
  refine ⟨ρ, sm, h, rh, rs, (q.bind (RR := SrcR L)).imp fun J H1 ⟨ρ1, s, h1, e1, rh1, rw1, q1⟩ => ?_⟩
  have rs1 := rs.mono e1 rh
  cases s with
  | pure xs =>
    obtain ⟨vs, rr, wk⟩ := rw1
    refine ⟨fun i m σ' H' => ∃ ρ' sm' h', m = xs.length - i ∧ Ext ρ1 H1 ρ' H' ∧ RelH L ρ' H' h' ∧ RelS L ρ' H' sm' σ' ∧ Post L (FlR L) ρ' H' (DQ D) (forP t mb (xs.drop i) sm' h'),
      ⟨xs.length, ρ1, sm, h1, by simp, Ext.refl, rh1, rs1, q1⟩, ?_⟩
    rintro i m σ' H' ⟨ρ', sm', h', rfl, ee, rh', rs', q'⟩
    obtain ⟨wk1, wk2⟩ := wk ρ' H' ee i
    cases ex : xs[i]? with
    | none =>
      refine .inl ⟨wk2 (rr.none_of ex), ?_⟩
      have : xs.drop i = [] := by
        rw [List.drop_eq_nil_iff]
        simpa using ex
      rw [this] at q'
      exact q' ρ' H' (.nx σ') Ext.refl rh' ⟨σ', rfl, rs'⟩
    | some x =>
      obtain ⟨v, ev, rv⟩ := rr.get ex
      obtain ⟨go, yl⟩ := wk1 v ev
      rw [getElem?_drop_cons ex] at q'
      have hlt : i < xs.length := (List.getElem?_eq_some_iff.mp ex).1
      refine .inr ⟨go, _, fun σ3 H3 w => w, fun y H2 hy => ?_⟩
      obtain ⟨rfl, rfl⟩ := yl y H2 hy
      unfold forP at q'
      cases ea : asgT t x sm' h' with
      | none =>
        rw [ea] at q'
        exact q'.elim
      | some sm1 =>
        rw [ea] at q'
        refine ⟨ρ', sm', h', x, sm1, rh', rs', rv.mono ee rh1, ea, fun σ1 r1 _ => ?_⟩
        exact turn_ok (g := fun σ h => forP t mb (xs.drop (i + 1)) σ h) rh' r1 q' fun ρ4 H4 sm4 σ4 h4 e4 rh4 rs4 q4 => ⟨xs.length - (i + 1), by omega, ρ4, sm4, h4, rfl, ee.trans e4, rh4, rs4, q4⟩
  | live n =>
    obtain ⟨a, ea, rfl⟩ := rw1
    refine ⟨fun i m σ' H' => ∃ ρ' sm' h', Ext ρ1 H1 ρ' H' ∧ RelH L ρ' H' h' ∧ RelS L ρ' H' sm' σ' ∧ Post L (FlR L) ρ' H' (DQ D) (forL t mb n m i sm' h'),
      ⟨_, ρ1, sm, h1, Ext.refl, rh1, rs1, q1⟩, ?_⟩
    rintro i m σ' H' ⟨ρ', sm', h', ee, rh', rs', q'⟩
    cases m with
    | zero => exact q'.elim
    | succ m =>
      unfold forL at q'
      cases el : lstAt h' n with
      | none =>
        simp only [el] at q'
        exact q'.elim
      | some xs =>
        simp only [el] at q'
        obtain ⟨a', vs, ev, ea', k, z, rr⟩ := Rel.lstAt rh' (show Rel L ρ' H' (.ref n) (.ref a) from ⟨a, ee.get ea, rfl⟩) el
        cases ev
        cases ex : xs[i]? with
        | none =>
          simp only [ex] at q'
          refine .inl ⟨⟨vs, k, by simpa using rr.none_of ex⟩, q' ρ' H' (.nx σ') Ext.refl rh' ⟨σ', rfl, rs'⟩⟩
        | some x =>
          simp only [ex] at q'
          obtain ⟨v, ev, rv⟩ := rr.get ex
          refine .inr ⟨⟨vs, v, k, ev⟩, _, fun σ3 H3 w => w, fun y H2 hy => ?_⟩
          obtain ⟨rfl, hy⟩ := hy
          have hyv : y = v := by
            have z := hy vs k
            rw [ev] at z
            cases z
            rfl
          subst hyv
          cases ea2 : asgT t x sm' h' with
          | none =>
            simp only [ea2] at q'
            exact q'.elim
          | some sm1 =>
            simp only [ea2] at q'
            refine ⟨ρ', sm', h', x, sm1, rh', rs', rv, ea2, fun σ1 r1 _ => ?_⟩
            exact turn_ok (g := fun σ h => forL t mb n m (i + 1) σ h) rh' r1 q' fun ρ4 H4 sm4 σ4 h4 e4 rh4 rs4 q4 => ⟨m, Nat.lt_succ_self m, ρ4, sm4, h4, ee.trans e4, rh4, rs4, q4⟩
end
end Py
end
section
/-! PyJ4: comprehensions. -/
namespace Py
open PySem PySem.Spec PyProof.Rows L2

theorem wipe_get (σ : L2.St) (i : Nat) : ∀ vs : List Nat, (L2.wipe σ vs)[i]? = if i ∈ vs then (if i < σ.length then some none else none) else σ[i]?
  | [] => by simp [L2.wipe]
  | v :: vs => by
    unfold L2.wipe
    rw [List.getElem?_set, wipe_get σ i vs, L2.wipe_length]
    by_cases hv : v = i
    · subst hv
      simp
    · rw [if_neg hv]
      have : (i ∈ v :: vs) ↔ i ∈ vs := by simp [Ne.symm hv]
      simp only [this]
theorem wipe_eq {σ σ2 : L2.St} {vs : List Nat} (hl : σ2.length = (L2.wipe σ vs).length) (h : ∀ i, i ∉ vs → σ2[i]? = (L2.wipe σ vs)[i]?) : L2.wipe σ2 vs = L2.wipe σ vs := by
  refine List.ext_getElem? fun i => ?_
  rw [L2.wipe_length] at hl
  rw [wipe_get, wipe_get, hl]
  by_cases hi : i ∈ vs
  · rw [if_pos hi, if_pos hi]
  · rw [if_neg hi, if_neg hi, h i hi, wipe_get, if_neg hi]
section
variable {L : Lk} {ρ ρ' : List Addr} {H H' : Hp} {h : Hm} {D : Addr}
theorem ext_out (e : Ext ρ H ρ' H') (hD : H D = none) (u : HO) : Ext ρ H ρ' (upd H' D u) := ⟨e.pre, fun p o hp n => by
  obtain ⟨h1, h2⟩ := e.frame p o hp n
  have hne : p ≠ D := ne_of_none hp hD
  exact ⟨by rw [upd_ne hne]; exact h1, h2⟩⟩
theorem ext_adopt (e : Ext ρ H ρ' H') (hD : H D = none) : Ext ρ H (ρ' ++ [D]) H' := by
  obtain ⟨t, et⟩ := e.pre
  refine ⟨⟨t ++ [D], by rw [et, List.append_assoc]⟩, fun p o hp n => ?_⟩
  obtain ⟨h1, h2⟩ := e.frame p o hp n
  have hne : p ≠ D := ne_of_none hp hD
  exact ⟨h1, by simp [h2, hne]⟩
end
section
variable {L : Lk} {mi : Py.Env → Hm → R Src} {mc : Py.Env → Hm → R Bool} {me : Py.Env → Hm → R W} {t : Tg} {vs : List Nat} {ρ1 : List Addr} {H1 : Hp} {h1 : Hm} {Q : VK} {D : Addr}
/-- the new list, as it is filled -/
structure Acc (L : Lk) (ρ1 : List Addr) (H1 : Hp) (D : Addr) (ρ : List Addr) (H : Hp) (h : Hm) (acc : List W) : Prop where
  ext : Ext ρ1 H1 ρ H
  out : D ∉ ρ
  at_ : ∃ va, H D = some (.lst va) ∧ Rels L ρ H acc va
  sz : acc.length ≤ SZ
  rh : RelH L ρ H h
theorem lc_turn {ρ' : List Addr} {H' : Hp} {h' : Hm} {acc : List W} {x : W} {v : V} {σ : L2.St} {sm : Py.Env} {Nx : Hp → Prop} {g : List W → Hm → R (List W)} (hv : ∀ i ∈ t.slots, i ∈ vs) (nD : H1 D = none) (rh1 : RelH L ρ1 H1 h1)
    (A : Acc L ρ1 H1 D ρ' H' h' acc) (rs : RelS L ρ1 H1 sm (L2.wipe σ vs)) (rx : Rel L ρ' H' x v)
    (q : Post L (Rel L) ρ1 H1 Q ((match asgT t x sm h' with
      | none => .no
      | some σ1 => (mc σ1 h').bind fun b h1 => match b with
        | false => g acc h1
        | true => (me σ1 h1).bind fun y h2 => if acc.length < SZ then g (acc ++ [y]) h2 else .no : R (List W)).bind fun ws h2 => newL ws h2))
    (hN : ∀ ρ4 H4 h4 acc4, Acc L ρ1 H1 D ρ4 H4 h4 acc4 → Post L (Rel L) ρ1 H1 Q ((g acc4 h4).bind fun ws h2 => newL ws h2) → Nx H4) :
    tG L t v (L2.wipe σ vs) H' fun σ2 H2 => L2.wipe σ2 vs = L2.wipe σ vs ∧ tT L mc σ2 H2 fun b H3 =>
      if b = true then tE L me σ2 H3 fun y H4 => ∃ acc, H4 D = some (.lst acc) ∧ acc.length < sizeLine ∧ Nx (upd H4 D (.lst (acc ++ [y]))) else Nx H3 := by
  obtain ⟨va, hD, ra⟩ := A.at_
  cases ea : asgT t x sm h' with
  | none =>
    rw [ea] at q
    exact q.elim
  | some sm1 =>
    rw [ea] at q
    refine ⟨ρ', sm, h', x, sm1, A.rh, rs.mono A.ext rh1, rx, ea, fun σ2 rs2 hs2 => ⟨wipe_eq hs2.1 fun i hi => hs2.2 i fun z => hi (hv i z), ?_⟩⟩
    refine ⟨ρ', sm1, h', A.rh, rs2, ?_⟩
    cases ec : mc sm1 h' with
    | no =>
      simp only [ec] at q
      exact q.elim
    | ex _ _ _ =>
      simp only [ec] at q
      exact q.elim
    | ok b h2 =>
      simp only [ec] at q
      intro ρ3 H3 b' e3 rh3 eb
      have : b = b' := eb
      subst this
      obtain ⟨hD3, nD3⟩ := e3.frame D _ hD A.out
      have ra3 := ra.mono e3 A.rh
      cases b with
      | false =>
        rw [if_neg Bool.false_ne_true]
        exact hN ρ3 H3 h2 acc ⟨A.ext.trans e3, nD3, ⟨va, hD3, ra3⟩, A.sz, rh3⟩ q
      | true =>
        rw [if_pos rfl]
        refine ⟨ρ3, sm1, h2, rh3, rs2.mono e3 A.rh, ?_⟩
        have q : Post L (Rel L) ρ1 H1 Q (((me sm1 h2).bind fun y h2 => if acc.length < SZ then g (acc ++ [y]) h2 else .no).bind fun ws h2 => newL ws h2) := q
        cases ee : me sm1 h2 with
        | no =>
          rw [ee] at q
          exact q.elim
        | ex _ _ _ =>
          rw [ee] at q
          exact q.elim
        | ok y h4 =>
          rw [ee] at q
          have q : Post L (Rel L) ρ1 H1 Q ((if acc.length < SZ then g (acc ++ [y]) h4 else .no).bind fun ws h2 => newL ws h2) := q
          by_cases hz : acc.length < SZ
          · rw [if_pos hz] at q
            intro ρ4 H4 vy e4 rh4 ry
            obtain ⟨hD4, nD4⟩ := e4.frame D _ hD3 nD3
            have ra4 := ra3.mono e4 rh3
            refine ⟨va, hD4, by rw [← ra.length, ← SZ_eq]; exact hz, ?_⟩
            refine hN ρ4 _ h4 (acc ++ [y]) ⟨ext_out ((A.ext.trans e3).trans e4) nD _, nD4, ⟨va ++ [vy], upd_same, ?_⟩, by simp; omega, rh4.out hD4 nD4⟩ q
            exact rels_same (fun _ _ q => q) (sqt_out hD4) (ra4.append (Rels.cons ry Rels.nil))
          · rw [if_neg hz] at q
            exact q.elim
theorem lc_end {ρ' : List Addr} {H' : Hp} {h' : Hm} {acc : List W} (nD : H1 D = none) (A : Acc L ρ1 H1 D ρ' H' h' acc) (q : Post L (Rel L) ρ1 H1 Q ((R.ok acc h').bind fun ws h2 => newL ws h2)) : Q (.ref D) H' := by
  obtain ⟨va, hD, ra⟩ := A.at_
  have q : Post L (Rel L) ρ1 H1 Q (.ok (.ref h'.length) (h' ++ [.lst acc])) := q
  exact q (ρ' ++ [D]) H' (.ref D) (ext_adopt A.ext nD) (A.rh.adopt hD A.out A.sz ra) ⟨D, by rw [← A.rh.len]; simp, rfl⟩
theorem te_lc {σ : L2.St} {H : Hp} (hv : ∀ i ∈ t.slots, i ∈ vs) (h : tE L (fun σ h => (mi σ h).bind fun s h1 => (lcS t mc me (Py.wipe σ vs) s h1).bind fun ws h2 => newL ws h2) σ H Q) : tLc (tI L mi) (tG L t) (tT L mc) (tE L me) vs σ H Q := by
  obtain ⟨ρ, sm, h, rh, rs, q⟩ := h
  refine ⟨ρ, sm, h, rh, rs, (q.bind (RR := SrcR L)).imp fun J H1 ⟨ρ1, s, h1, e1, rh1, rw1, q1⟩ => ?_⟩
  intro D nD
  have rs1 := (rs.mono e1 rh).wipe vs
  have A0 : Acc L ρ1 H1 D ρ1 (upd H1 D (.lst [])) h1 [] := ⟨ext_tup nD (rh1.fresh nD), rh1.fresh nD, ⟨[], upd_same, rfl⟩, Nat.zero_le _, rh1.beside nD⟩
  cases s with
  | pure xs =>
    obtain ⟨us, rr, wk⟩ := rw1
    refine ⟨fun i m H' => ∃ ρ' h' acc, m = xs.length - i ∧ Acc L ρ1 H1 D ρ' H' h' acc ∧ Post L (Rel L) ρ1 H1 Q ((lcP t mc me (Py.wipe sm vs) (xs.drop i) acc h').bind fun ws h2 => newL ws h2), ⟨xs.length, ρ1, h1, [], by simp, A0, q1⟩, ?_⟩
    rintro i m H' ⟨ρ', h', acc, rfl, A, q'⟩
    obtain ⟨wk1, wk2⟩ := wk ρ' H' A.ext i
    cases ex : xs[i]? with
    | none =>
      have : xs.drop i = [] := by
        rw [List.drop_eq_nil_iff]
        simpa using ex
      rw [this] at q'
      exact .inl ⟨wk2 (rr.none_of ex), lc_end nD A q'⟩
    | some x =>
      obtain ⟨v, ev, rv⟩ := rr.get ex
      obtain ⟨go, yl⟩ := wk1 v ev
      rw [getElem?_drop_cons ex] at q'
      have hlt : i < xs.length := (List.getElem?_eq_some_iff.mp ex).1
      refine .inr ⟨go, _, fun H3 w => w, fun y H2 hy => ?_⟩
      obtain ⟨rfl, rfl⟩ := yl y H2 hy
      unfold lcP at q'
      exact lc_turn (g := fun acc h => lcP t mc me (Py.wipe sm vs) (xs.drop (i + 1)) acc h) hv nD rh1 A rs1 (rv.mono A.ext rh1) q' fun ρ4 H4 h4 acc4 A4 q4 => ⟨xs.length - (i + 1), by omega, ρ4, h4, acc4, rfl, A4, q4⟩
  | live n =>
    obtain ⟨a, ea, rfl⟩ := rw1
    refine ⟨fun i m H' => ∃ ρ' h' acc, Acc L ρ1 H1 D ρ' H' h' acc ∧ Post L (Rel L) ρ1 H1 Q ((lcL t mc me (Py.wipe sm vs) n m i acc h').bind fun ws h2 => newL ws h2), ⟨_, ρ1, h1, [], A0, q1⟩, ?_⟩
    rintro i m H' ⟨ρ', h', acc, A, q'⟩
    cases m with
    | zero => exact q'.elim
    | succ m =>
      unfold lcL at q'
      cases el : lstAt h' n with
      | none =>
        simp only [el] at q'
        exact q'.elim
      | some xs =>
        simp only [el] at q'
        obtain ⟨a', us, ev, ea', k, z, rr⟩ := Rel.lstAt A.rh (show Rel L ρ' H' (.ref n) (.ref a) from ⟨a, A.ext.get ea, rfl⟩) el
        cases ev
        cases ex : xs[i]? with
        | none =>
          simp only [ex] at q'
          exact .inl ⟨⟨us, k, by simpa using rr.none_of ex⟩, lc_end nD A q'⟩
        | some x =>
          simp only [ex] at q'
          obtain ⟨v, ev, rv⟩ := rr.get ex
          refine .inr ⟨⟨us, v, k, ev⟩, _, fun H3 w => w, fun y H2 hy => ?_⟩
          obtain ⟨rfl, hy⟩ := hy
          have hyv : y = v := by
            have z := hy us k
            rw [ev] at z
            cases z
            rfl
          subst hyv
          exact lc_turn (g := fun acc h => lcL t mc me (Py.wipe sm vs) n m (i + 1) acc h) hv nD rh1 A rs1 rv q' fun ρ4 H4 h4 acc4 A4 q4 => ⟨m, Nat.lt_succ_self m, ρ4, h4, acc4, A4, q4⟩
end
theorem PTs.imp {X : Cx} {e : List Expr} {t t' : TT} (h : PTs X e t) (f : ∀ σ H Q, t' σ H Q → t σ H Q) : PTs X e t' := ⟨fun pins s σ H Q I q => h.run pins s σ H Q I (f σ H Q q)⟩
theorem g_tsnil {X : Cx} {L : Lk} : PTs X [] (tT L fun _ h => .ok true h) := PTs.imp pts_nil fun σ H Q ⟨ρ, sm, h, rh, rs, q⟩ => q ρ H true Ext.refl rh rfl
end Py
end
section
/-! PyK: from the program's trees to ours. -/
namespace Py
open PySem PySem.Spec PyProof.Rows L2

/-! ### tables -/
structure Tab where
  fns : List (Str × Nat)
  cls : List (Str × Nat)
  con : List (Str × Nat)
  att : List (Str × Nat)
structure Nm where
  N : List Str
  sc : Scope
def find {α : Type} (x : Str) : List (Str × α) → Option α
  | [] => none
  | (y, i) :: r => if y = x then some i else find x r
theorem find_mem {α : Type} {x : Str} {i : α} : ∀ {l : List (Str × α)}, find x l = some i → (x, i) ∈ l
  | [], h => by cases h
  | (y, j) :: r, h => by
    have h : (if y = x then some j else find x r) = some i := h
    split at h
    · rename_i e
      cases h
      subst e
      exact List.mem_cons_self ..
    · exact List.mem_cons_of_mem _ (find_mem h)
def ixOf (x : Str) : List Str → Option Nat
  | [] => none
  | y :: r => if y = x then some 0 else match ixOf x r with
    | some i => some (i + 1)
    | none => none
theorem ixOf_get {x : Str} : ∀ {l : List Str} {i : Nat}, ixOf x l = some i → l[i]? = some x
  | [], _, h => by cases h
  | y :: r, i, h => by
    have h : (if y = x then some 0 else match ixOf x r with
      | some i => some (i + 1)
      | none => none) = some i := h
    split at h
    · rename_i e
      cases h
      subst e
      rfl
    · split at h
      · rename_i j e
        cases h
        rw [List.getElem?_cons_succ]
        exact ixOf_get e
      · cases h
def plainNm (x : Str) : Bool := !(x == ("__debug__" : Str)) && (!(x == ("__classdict__" : Str)) && !(x == ("__name__" : Str)))
inductive Kd where
  | slot | glob | other
def kdOf (sc : Scope) (x : Str) : Kd := match sc.names.lookup x with
  | some .local => .slot
  | some .cell => .slot
  | some .free => .slot
  | some .globalImplicit => .glob
  | _ => .other
def cName (T : Tab) (M : Nm) (x : Str) : Option E := if plainNm x then match kdOf M.sc x with
    | .slot => (ixOf x M.N).map .v
    | .glob => (find x T.con).map .g
    | .other => none
  else none
def cCon : Const → Option W
  | .none => some .non
  | .bool b => some (.bl b)
  | .int i => some (.int i)
  | .str x => if decide (x.cps.toList.length ≤ SZ) && x.cps.toList.all (fun c => decide (c < 1114112)) then some (.str x.cps.toList) else none
  | _ => none
def cBin : Operator → Option BOp
  | .Add => some .add
  | .Sub => some .sub
  | .Mult => some .mul
  | .FloorDiv => some .fdiv
  | .Mod => some .mod
  | .Pow => some .pow
  | .BitOr => some .bor
  | .BitAnd => some .band
  | .LShift => some .shl
  | .RShift => some .shr
  | _ => none
def cCop : CmpOp → Option COp
  | .Eq => some .eq
  | .NotEq => some .ne
  | .Lt => some .lt
  | .LtE => some .le
  | .Gt => some .gt
  | .GtE => some .ge
  | .In => some .in_
  | .NotIn => some .nin
  | _ => none
theorem cBin_ok {o : Operator} {b : BOp} (h : cBin o = some b) : o = opS b := by cases o <;> cases h <;> rfl
theorem cCop_ok {o : CmpOp} {b : COp} (h : cCop o = some b) : o = cmpS b := by cases o <;> cases h <;> rfl
def isStar : Expr → Bool
  | .Starred .. => true
  | _ => false
def isSet : Expr → Bool
  | .Set .. => true
  | _ => false
def isComp : Expr → Bool
  | .ListComp .. => true
  | .SetComp .. => true
  | .DictComp .. => true
  | _ => false
def isSlice : Expr → Bool
  | .Slice .. => true
  | _ => false
def isTupE : Expr → Bool
  | .Tuple .. => true
  | _ => false
def okBase : Expr → Bool
  | .Call (.Name id _) [] [] _ => id != ("super" : Str)
  | _ => true
theorem star_ok {e : Expr} {es : List Expr} {env : PySem.Env} (h : isStar e = false) : starEach (e :: es) env = (false, eval e env) :: starEach es env := by
  cases e <;> first | rfl | cases h
theorem base_ok {o : Expr} {a : Str} {env : PySem.Env} {wh : Sem Value} (h : okBase o = true) : attributeBase o a env wh = wh := by
  unfold attributeBase
  split
  · have h : (_ != ("super" : Str)) = true := h
    simp only [h, Bool.true_or, if_true]
  · rfl
theorem comp_ok {e : Expr} {t : Option Expr} {l : Nat} {env : PySem.Env} (h : isComp e = false) : swapsWith e t l env = pure false := by
  cases e <;> first | rfl | cases h
theorem set_ok {e : Expr} {env : PySem.Env} (h : isSet e = false) : ∀ x, foldedSetIterable e env x = pure x := by
  intro x
  cases e <;> first | rfl | cases h
theorem mark_ok {e : Expr} {op : CmpOp} (h : isSet e = false) : behindInMarks op e = false := by
  cases e <;> first | rfl | cases h
theorem plain_ok {e : Expr} (h : isSlice e = false) : PlainIx e := by
  intro o i
  cases e <;> first | rfl | cases h

/-! ### what is built in -/
def tyN (x : Str) : Option Ty := if x = ("bool" : Str) then some .bool else if x = ("int" : Str) then some .int else if x = ("str" : Str) then some .str else if x = ("list" : Str) then some .list else if x = ("tuple" : Str) then some .tuple else none
def biN (x : Str) : Option BI := if x = ("len" : Str) then some .len else if x = ("list" : Str) then some .list else if x = ("tuple" : Str) then some .tuple else if x = ("int" : Str) then some .int else if x = ("str" : Str) then some .str
  else if x = ("min" : Str) then some .min else if x = ("max" : Str) then some .max else if x = ("sum" : Str) then some .sum else if x = ("all" : Str) then some .all else if x = ("any" : Str) then some .any else none
def bmN (x : Str) (n : Nat) : Option BM := if x = ("append" : Str) then some .append else if x = ("pop" : Str) then (if n = 0 then some .pop else some .popAt) else if x = ("extend" : Str) then some .extend
  else if x = ("split" : Str) then some .split else if x = ("upper" : Str) then some .upper else if x = ("join" : Str) then some .join else none

/-! ### expressions -/
section
variable (f : Expr → Option E)
def cEs : List Expr → Option Es
  | [] => some .nil
  | e :: r => if isStar e then none else match f e, cEs r with
    | some x, some xs => some (.cons x xs)
    | _, _ => none
def cAnd : List Expr → Option E
  | [] => none
  | [a] => f a
  | a :: b :: r => match f a, cAnd (b :: r) with
    | some x, some y => some (.and_ x y)
    | _, _ => none
def cOr : List Expr → Option E
  | [] => none
  | [a] => f a
  | a :: b :: r => match f a, cOr (b :: r) with
    | some x, some y => some (.or_ x y)
    | _, _ => none
def cEo : Option Expr → Option Eo
  | none => some .none
  | some a => (f a).map .some
def cCmp1 (a : Expr) (op : CmpOp) (b : Expr) : Option E := match op, b with
  | .Is, .Constant .none _ _ => (f a).map .isN
  | .IsNot, .Constant .none _ _ => (f a).map .notN
  | .Is, .Constant (.bool k) _ _ => (f a).map (.isB false k)
  | .IsNot, .Constant (.bool k) _ _ => (f a).map (.isB true k)
  | op, b => if isSet b then none else match cCop op, f a, f b with
    | some o, some x, some y => some (.cmp o x y)
    | _, _, _ => none
def cCmp2 (a : Expr) (op op' : CmpOp) (b c : Expr) : Option E := match cCop op, cCop op' with
  | some o, some o' => if decide (cmpS o' ≠ .In ∧ cmpS o' ≠ .NotIn) then match f a, f b, f c with
      | some x, some y, some z => some (.chain o o' x y z)
      | _, _, _ => none
    else none
  | _, _ => none
end
def gname (M : Nm) (x : Str) : Bool := match kdOf M.sc x with
  | .glob => plainNm x
  | _ => false
def cCall (T : Tab) (M : Nm) (f : Expr → Option E) (x : Str) (args : List Expr) : Option E := if gname M x then
    match find x T.fns with
    | some i => (cEs f args).map (.call i)
    | none => match find x T.cls with
      | some c => (cEs f args).map (.mk c)
      | none => match biN x with
        | some b => (match args with
          | [] => none
          | _ :: _ => (cEs f args).map (.bi b))
        | none => if x = ("isinstance" : Str) then (match args with
            | [a, .Name t _] => if gname M t && !isStar a then (match tyN t, f a with
                | some ty, some y => some (.bi (.isi ty) (.cons y .nil))
                | _, _ => none) else none
            | _ => none) else none
  else none
def cMeth (T : Tab) (f : Expr → Option E) (o : Expr) (m : Str) (apos pos : Pos) (args : List Expr) : Option E := if (apos.endLine == pos.line) && (okBase o && decide (args.length < 30)) then
    match f o, cEs f args with
    | some y, some as => (match find m T.att with
      | some i => some (.meth i y as)
      | none => (bmN m args.length).map fun b => .bm b y as)
    | _, _ => none
  else none
/-! targets -/
def cTn (M : Nm) : Expr → Option Nat
  | .Name x _ => if plainNm x then (match M.sc.names.lookup x with
      | some .local => ixOf x M.N
      | some .cell => ixOf x M.N
      | _ => none) else none
  | _ => none
def cTns (M : Nm) : List Expr → Option (List Nat)
  | [] => some []
  | e :: r => match cTn M e, cTns M r with
    | some i, some is => some (i :: is)
    | _, _ => none
def cTg (M : Nm) : Expr → Option Tg
  | .Tuple es _ _ => (cTns M es).map .tp
  | e => (cTn M e).map .nm
def cIt (M : Nm) (f : Expr → Option E) (e : Expr) : Option It := if isSet e then none else match e with
  | .Call (.Name x p) [a] [] pos => if x = ("range" : Str) then (if gname M x && !isStar a then (f a).map .r1 else none) else (f (.Call (.Name x p) [a] [] pos)).map .val
  | .Call (.Name x p) [a, b] [] pos => if x = ("range" : Str) then (if gname M x && (!isStar a && !isStar b) then (match f a, f b with
      | some u, some v => some (.r2 u v)
      | _, _ => none) else none) else (f (.Call (.Name x p) [a, b] [] pos)).map .val
  | e => (f e).map .val
def ownOf (N : List Str) : List (Str × NameKind) → List (Str × Nat)
  | [] => []
  | (x, k) :: r => match k, ixOf x N with
    | .local, some i => (x, i) :: ownOf N r
    | .cell, some i => (x, i) :: ownOf N r
    | _, _ => ownOf N r
def cE (T : Tab) : Nat → Nm → Expr → Option E
  | 0, _, _ => none
  | n + 1, M, e => match e with
    | .Name x _ => cName T M x
    | .Constant c _ _ => (cCon c).map .k
    | .BinOp a op b _ => (match cBin op, cE T n M a, cE T n M b with
      | some o, some x, some y => some (.bin o x y)
      | _, _, _ => none)
    | .UnaryOp .Not a _ => (cE T n M a).map .not_
    | .UnaryOp .USub a _ => (cE T n M a).map .neg
    | .BoolOp .And es _ => cAnd (cE T n M) es
    | .BoolOp .Or es _ => cOr (cE T n M) es
    | .Compare a [op] [b] _ => cCmp1 (cE T n M) a op b
    | .Compare a [op, op'] [b, c] _ => cCmp2 (cE T n M) a op op' b c
    | .IfExp t a b _ => (match cE T n M t, cE T n M a, cE T n M b with
      | some x, some y, some z => some (.ite x y z)
      | _, _, _ => none)
    | .Call (.Name x _) args [] _ => cCall T M (cE T n M) x args
    | .Call (.Attribute o m apos) args [] pos => cMeth T (cE T n M) o m apos pos args
    | .Attribute o x _ => if okBase o then (match find x T.att, cE T n M o with
      | some i, some y => some (.fld y i)
      | _, _ => none) else none
    | .Subscript a (.Slice lo hi none _) _ => (match cE T n M a, cEo (cE T n M) lo, cEo (cE T n M) hi with
      | some x, some l, some u => some (.sl x l u)
      | _, _, _ => none)
    | .Subscript a i _ => if isSlice i then none else (match cE T n M a, cE T n M i with
      | some x, some y => some (.ix x y)
      | _, _ => none)
    | .List es _ => if decide (es.length ≤ 1000) then (cEs (cE T n M) es).map .lst else none
    | .Tuple es _ _ => if decide (es.length ≤ 1000) then (cEs (cE T n M) es).map .tup else none
    | .ListComp elt [⟨tg, it, ifs, 0⟩] scope _ => (match cIt M (cE T n M) it, cTg ⟨M.N, scope⟩ tg, cE T n ⟨M.N, scope⟩ elt with
      | some i, some t, some x =>
        if blkC M.N M.sc scope (ownOf M.N scope.names) && (t.slots.all fun j => ((ownOf M.N scope.names).map (·.2)).contains j) then
          match ifs with
          | [] => some (.lc x t i .none ((ownOf M.N scope.names).map (·.2)))
          | [c] => (cE T n ⟨M.N, scope⟩ c).map fun y => .lc x t i (.some y) ((ownOf M.N scope.names).map (·.2))
          | _ => none
        else none
      | _, _, _ => none)
    | _ => none
/-! ### statements -/
/-- is a comprehension stored on its line? -/
def swC (M : Nm) (e : Expr) (y : Str) (py : Pos) : Bool := match e with
  | .ListComp _ _ scope pos => (match M.sc.names.lookup y with
    | some .local => (py.line == pos.line) && !(scope.names.any fun (n, k) => n == y && (k == .local || k == .cell))
    | _ => false)
  | _ => false
def pairC (M : Nm) (x y : Str) (px py : Pos) (vs : List Expr) : Bool :=
  (match M.sc.names.lookup x, M.sc.names.lookup y with
    | some .local, some .local => true
    | _, _ => false) && (px.line == py.line && (!(x == y) && (!(vs.all (foldedForSure 8)) && !(vs.all (constantsAlone 8)))))
def cAsg (T : Tab) (M : Nm) (f : Expr → Option E) (tg e : Expr) : Option S := match tg with
  | .Name y py => (match cTn M (.Name y py), f e with
    | some i, some x => if isComp e && !(swC M e y py) then (match M.sc.names.lookup y with
        | some .local => some (.asg (.nm i) x)
        | _ => none) else some (.asg (.nm i) x)
    | _, _ => none)
  | .Attribute o a _ => if isComp e then none else (match find a T.att, f o, f e with
    | some i, some y, some x => some (.setF y i x)
    | _, _, _ => none)
  | .Subscript o i _ => if isComp e || isSlice i then none else (match f o, f i, f e with
    | some y, some j, some x => some (.setIx y j x)
    | _, _, _ => none)
  | .Tuple ts k p => if isComp e then none else (match e with
    | .Tuple [a, b] k2 p2 => (match ts with
      | [.Name x px, .Name y py] => if pairC M x y px py [a, b] then (match cTns M ts, f (.Tuple [a, b] k2 p2) with
          | some is, some z => some (.asg (.tp is) z)
          | _, _ => none) else none
      | _ => none)
    | .Tuple .. => none
    | e => (match cTns M ts, f e with
      | some is, some z => some (.asg (.tp is) z)
      | _, _ => none))
  | _ => none
section
variable (g : Stmt → Option S)
/-- what has no tree of ours: never come to -/
def cSs : List Stmt → Ss
  | [] => .nil
  | s :: r => match g s with
    | some x => .cons x (cSs r)
    | none => .cons .nev (cSs r)
end
def cS (T : Tab) (M : Nm) : Nat → Stmt → Option S
  | 0, _ => none
  | n + 1, s => match s with
    | .Pass _ => some .pass
    | .Break _ => some .brk
    | .Continue _ => some .cont
    | .Expr (.Constant (.str _) _ _) _ => some .pass
    | .Expr e _ => if isComp e then none else (cE T 50 M e).map .ex
    | .Return none _ => some .retN
    | .Return (some e) _ => (cE T 50 M e).map .ret
    | .If c a b _ => (match cE T 50 M c with
      | some x => some (.if_ x (cSs (cS T M n) a) (cSs (cS T M n) b))
      | none => none)
    | .While c b [] _ => (match cE T 50 M c with
      | some x => some (.while_ x (cSs (cS T M n) b))
      | none => none)
    | .For tg it b [] _ => (match cTg M tg, cIt M (cE T 50 M) it with
      | some t, some i => some (.for_ t i (cSs (cS T M n) b))
      | _, _ => none)
    | .Assign [tg] e _ => cAsg T M (cE T 50 M) tg e
    | .AugAssign (.Name x p) .Add e _ => (match cTn M (.Name x p), cE T 50 M e with
      | some i, some y => some (.augV i y)
      | _, _ => none)
    | .AugAssign (.Attribute o a _) .Add e _ => (match find a T.att, cE T 50 M o, cE T 50 M e with
      | some i, some x, some y => some (.augF x i y)
      | _, _, _ => none)
    | _ => none
end Py
end
section
/-! PyK2: what the trees of ours do is what the program's trees do: expressions. -/
namespace Py
open PySem PySem.Spec PyProof.Rows L2

structure Fok (X : Cx) (L : Lk) (P : Prog) (cl : Nat → List W → Hm → R W) (T : Tab) (k : Nat) : Prop where
  hK : X.K = L.K
  hu : X.A.units + 65 < cLine
  hc : X.calm = true
  hr : Room (k + 1) X.A
  fns : ∀ x i, (x, i) ∈ T.fns → ∃ fa, FnAt X.prog X.w X.mg X.base L k (cl i) fa ∧ X.mg x = some (.ref fa) ∧ PySem.W.keepIn X.K (.ref fa) = true
  cls : ∀ x c, (x, c) ∈ T.cls → ∃ f fa, P.init c = some f ∧ Mk X.K (L.ca c) fa ∧ FnAt X.prog X.w X.mg X.base L k (cl f) fa ∧ X.mg x = some (.ref (L.ca c))
  con : ∀ x i, (x, i) ∈ T.con → ∃ u v w, X.mg x = some u ∧ RelV v u ∧ P.glob i = some w ∧ ∀ ρ H, Rel L ρ H w v
  att : ∀ x i, (x, i) ∈ T.att → L.fn i = x
  blt : ∀ x, (biN x).isSome = true ∨ x = ("isinstance" : Str) ∨ x = ("range" : Str) ∨ (tyN x).isSome = true → X.mg x = none
  hC : ∀ c, P.flds c ≠ [] → ClsOk P L c
  hM : ∀ c m f, P.meth c m = some f → MethAt X.prog X.w X.mg X.base L k (cl f) c (L.fn m)
structure Sok (X : Cx) (M : Nm) : Prop where
  N : X.N = M.N
  nd : X.N.Nodup
  kind : X.env.scope.kind = .function
  look : ∀ x k, M.sc.names.lookup x = some k → X.env.scope.names.lookup x = some k ∨ (k = .free ∧ X.env.scope.names.lookup x = some .cell)
  fn : ∀ x, M.sc.names.lookup x = some .cell → X.fn x = true
theorem Fok.blk {X : Cx} {L : Lk} {P : Prog} {cl : Nat → List W → Hm → R W} {T : Tab} {k : Nat} (F : Fok X L P cl T k) (s : Shared) (H : Hp) (scope : Scope) (cenv : PySem.Env) (fp : List Addr) : Fok (X.blk s H scope cenv fp) L P cl T k :=
  ⟨F.hK, F.hu, F.hc, F.hr, F.fns, F.cls, F.con, F.att, F.blt, F.hC, F.hM⟩
theorem lookup_relF {sc : Scope} : ∀ {names : List (Str × NameKind)} {x : Str} {k : NameKind}, names.lookup x = some k →
    (names.map fun (n, k) => if (k == NameKind.free && sc.kind == .function && sc.names.lookup n == some .cell) then (n, NameKind.cell) else (n, k)).lookup x = some k ∨
      (k = .free ∧ (names.map fun (n, k) => if (k == NameKind.free && sc.kind == .function && sc.names.lookup n == some .cell) then (n, NameKind.cell) else (n, k)).lookup x = some .cell)
  | [], _, _, h => by simp at h
  | (n, k₀) :: r, x, k, h => by
    have ih := @lookup_relF sc r x k
    rw [List.map_cons]
    cases hx : x == n with
    | true =>
      simp only [List.lookup_cons, hx] at h
      cases h
      dsimp only
      by_cases hc : (k₀ == NameKind.free && sc.kind == .function && sc.names.lookup n == some .cell) = true
      · rw [if_pos hc]
        simp only [Bool.and_eq_true, beq_iff_eq] at hc
        exact .inr ⟨hc.1.1, by simp only [List.lookup_cons, hx]⟩
      · rw [if_neg hc]
        exact .inl (by simp only [List.lookup_cons, hx])
    | false =>
      simp only [List.lookup_cons, hx] at h
      dsimp only
      by_cases hc : (k₀ == NameKind.free && sc.kind == .function && sc.names.lookup n == some .cell) = true
      · rw [if_pos hc]
        simp only [List.lookup_cons, hx]
        exact ih h
      · rw [if_neg hc]
        simp only [List.lookup_cons, hx]
        exact ih h
theorem Sok.blk {X : Cx} {M : Nm} {scope : Scope} {own : List (Str × Nat)} (S : Sok X M) (ok : BlkOk X.N X.env.scope scope own) (s : Shared) (H : Hp) (C : Addr) (c : List (Str × Addr)) (fp : List Addr) : Sok (X.blk s H scope (compEnvC scope c C X.env) fp) ⟨M.N, scope⟩ :=
  ⟨S.N, S.nd, ok.kind, fun x k h => lookup_relF (sc := X.env.scope) h, fun x h => by
    have h : scope.names.lookup x = some .cell := h
    show (scope.names.lookup x == some .cell) = true
    rw [h]
    rfl⟩
theorem Sok.bok {X : Cx} {M : Nm} {scope : Scope} {own : List (Str × Nat)} (S : Sok X M) (h : blkC M.N M.sc scope own = true) : BlkOk X.N X.env.scope scope own := by
  have b := blkOk_by h
  rw [S.N]
  refine ⟨b.kind, b.uniq, b.ix, fun y hy e => ?_, b.own⟩
  rcases b.free y hy e with z | z
  · rcases S.look _ _ z with z | z
    · exact .inl z
    · exact .inl z.2
  · rcases S.look _ _ z with z | z
    · exact .inr z
    · exact .inl z.2
theorem kd_slot {sc : Scope} {x : Str} (h : kdOf sc x = .slot) : Vis sc x := by
  unfold kdOf at h
  split at h
  · exact .inl (by assumption)
  · exact .inr (.inl (by assumption))
  · exact .inr (.inr (by assumption))
  · cases h
  · cases h
theorem kd_glob {sc : Scope} {x : Str} (h : kdOf sc x = .glob) : sc.names.lookup x = some .globalImplicit := by
  unfold kdOf at h
  split at h
  · cases h
  · cases h
  · cases h
  · assumption
  · cases h
section
variable {X : Cx} {M : Nm} (S : Sok X M)
include S
theorem Sok.vis {x : Str} (h : Vis M.sc x) : Vis X.env.scope x := by
  rcases h with h | h | h
  · rcases S.look _ _ h with z | z
    · exact .inl z
    · cases z.1
  · rcases S.look _ _ h with z | z
    · exact .inr (.inl z)
    · cases z.1
  · rcases S.look _ _ h with z | z
    · exact .inr (.inr z)
    · exact .inr (.inl z.2)
theorem Sok.loc {x : Str} (h : M.sc.names.lookup x = some .local) : X.env.scope.names.lookup x = some .local := by
  rcases S.look _ _ h with z | z
  · exact z
  · cases z.1
theorem Sok.cel {x : Str} (h : M.sc.names.lookup x = some .cell) : X.env.scope.names.lookup x = some .cell := by
  rcases S.look _ _ h with z | z
  · exact z
  · cases z.1
theorem Sok.gl {x : Str} (h : kdOf M.sc x = .glob) : Gl X x := by
  rcases S.look _ _ (kd_glob h) with z | z
  · exact z
  · cases z.1
end
theorem plain_nm {x : Str} (h : plainNm x = true) : (x == ("__debug__" : Str)) = false ∧ (x == ("__classdict__" : Str)) = false ∧ x ≠ ("__name__" : Str) := by
  unfold plainNm at h
  simp only [Bool.and_eq_true, Bool.not_eq_true'] at h
  exact ⟨h.1, h.2.1, by simpa using h.2.2⟩

/-! ### what ours evaluate to -/
section
variable (P : Prog) (cl : Nat → List W → Hm → R W)
theorem ev_v (i : Nat) : evE P cl (.v i) = fun σ h => getV σ i h := by funext σ h; rw [evE]
theorem ev_k (w : W) : evE P cl (.k w) = fun _ h => .ok w h := by funext σ h; rw [evE]
theorem ev_g (i : Nat) : evE P cl (.g i) = fun _ h => retO (P.glob i) h := by funext σ h; rw [evE]
theorem ev_bin (o : BOp) (a b : E) : evE P cl (.bin o a b) = fun σ h => (evE P cl a σ h).bind fun x h1 => (evE P cl b σ h1).bind fun y h2 => binop o x y h2 := by funext σ h; rw [evE]
theorem ev_neg (a : E) : evE P cl (.neg a) = fun σ h => (evE P cl a σ h).bind fun x h1 => negR x h1 := by funext σ h; rw [evE]
theorem ev_cmp (o : COp) (a b : E) : evE P cl (.cmp o a b) = fun σ h => (evE P cl a σ h).bind fun x h1 => (evE P cl b σ h1).bind fun y h2 => cmpop o x y h2 := by funext σ h; rw [evE]
theorem ev_chain (o o' : COp) (a b c : E) : evE P cl (.chain o o' a b c) = fun σ h => (evE P cl a σ h).bind fun x h1 => (evE P cl b σ h1).bind fun y h2 => (cmpop o x y h2).bind fun r h3 => chK o' y (fun h => evE P cl c σ h) r h3 := by funext σ h; rw [evE]
theorem ev_isN (a : E) : evE P cl (.isN a) = fun σ h => (evE P cl a σ h).bind fun x h1 => .ok (.bl (isNon x)) h1 := by funext σ h; rw [evE]
theorem ev_notN (a : E) : evE P cl (.notN a) = fun σ h => (evE P cl a σ h).bind fun x h1 => .ok (.bl (!isNon x)) h1 := by funext σ h; rw [evE]
theorem ev_isB (n k : Bool) (a : E) : evE P cl (.isB n k a) = fun σ h => (evE P cl a σ h).bind fun x h1 => isBl n k x h1 := by funext σ h; rw [evE]
theorem ev_and (a b : E) : evE P cl (.and_ a b) = fun σ h => (evE P cl a σ h).bind fun x h1 => (truR x h1).bind fun k h2 => brB k (evE P cl b σ h2) (.ok x h2) := by funext σ h; rw [evE]
theorem ev_or (a b : E) : evE P cl (.or_ a b) = fun σ h => (evE P cl a σ h).bind fun x h1 => (truR x h1).bind fun k h2 => brB k (.ok x h2) (evE P cl b σ h2) := by funext σ h; rw [evE]
theorem ev_not (a : E) : evE P cl (.not_ a) = fun σ h => (evE P cl a σ h).bind fun x h1 => (truR x h1).bind fun k h2 => .ok (.bl (!k)) h2 := by funext σ h; rw [evE]
theorem ev_ite (t a b : E) : evE P cl (.ite t a b) = fun σ h => (evE P cl t σ h).bind fun x h1 => (truR x h1).bind fun k h2 => brB k (evE P cl a σ h2) (evE P cl b σ h2) := by funext σ h; rw [evE]
theorem ev_call (f : Nat) (as : Es) : evE P cl (.call f as) = fun σ h => (evEs P cl as σ h).bind fun ws h1 => cl f ws h1 := by funext σ h; rw [evE]
theorem ev_mk (c : Nat) (as : Es) : evE P cl (.mk c as) = fun σ h => (evEs P cl as σ h).bind fun ws h1 => optA (P.init c) fun f => (cl f (.ref h1.length :: ws) (h1 ++ [.ins c []])).bind fun v h2 => ifA (isNon v) (.ok (.ref h1.length) h2) := by funext σ h; rw [evE]
theorem ev_meth (m : Nat) (o : E) (as : Es) : evE P cl (.meth m o as) = fun σ h => (evE P cl o σ h).bind fun x h1 => optA (methF P m x h1) fun f => (evEs P cl as σ h1).bind fun ws h2 => cl f (x :: ws) h2 := by funext σ h; rw [evE]
theorem ev_fld (o : E) (f : Nat) : evE P cl (.fld o f) = fun σ h => (evE P cl o σ h).bind fun x h1 => fldR P f x h1 := by funext σ h; rw [evE]
theorem ev_bi (b : BI) (as : Es) : evE P cl (.bi b as) = fun σ h => (evEs P cl as σ h).bind fun ws h1 => biR b ws h1 := by funext σ h; rw [evE]
theorem ev_bm (m : BM) (o : E) (as : Es) : evE P cl (.bm m o as) = fun σ h => (evE P cl o σ h).bind fun x h1 => ifA (bmT m h1 x) ((evEs P cl as σ h1).bind fun ws h2 => bmR m x ws h2) := by funext σ h; rw [evE]
theorem ev_ix (a i : E) : evE P cl (.ix a i) = fun σ h => (evE P cl a σ h).bind fun x h1 => (evE P cl i σ h1).bind fun y h2 => ixR x y h2 := by funext σ h; rw [evE]
theorem ev_sl (a : E) (lo hi : Eo) : evE P cl (.sl a lo hi) = fun σ h => (evE P cl a σ h).bind fun x h1 => (evEo P cl lo σ h1).bind fun l h2 => (evEo P cl hi σ h2).bind fun u h3 => slR x l u h3 := by funext σ h; rw [evE]
theorem ev_lst (as : Es) : evE P cl (.lst as) = fun σ h => (evEs P cl as σ h).bind fun ws h1 => newL ws h1 := by funext σ h; rw [evE]
theorem ev_tup (as : Es) : evE P cl (.tup as) = fun σ h => (evEs P cl as σ h).bind fun ws h1 => .ok (.tup ws) h1 := by funext σ h; rw [evE]
theorem ev_lc (e : E) (t : Tg) (it : It) (c : Eo) (own : List Nat) : evE P cl (.lc e t it c own) = fun σ h => (evIt P cl it σ h).bind fun s h1 => (lcS t (fun σ h => evC P cl c σ h) (fun σ h => evE P cl e σ h) (wipe σ own) s h1).bind fun ws h2 => newL ws h2 := by funext σ h; rw [evE]
theorem ev_nil : evEs P cl .nil = fun _ h => .ok [] h := by funext σ h; rw [evEs]
theorem ev_cons (a : E) (r : Es) : evEs P cl (.cons a r) = fun σ h => (evE P cl a σ h).bind fun x h1 => (evEs P cl r σ h1).bind fun xs h2 => .ok (x :: xs) h2 := by funext σ h; rw [evEs]
theorem ev_on : evEo P cl .none = fun _ h => .ok none h := by funext σ h; rw [evEo]
theorem ev_os (a : E) : evEo P cl (.some a) = fun σ h => (evE P cl a σ h).bind fun x h1 => intA (fun i => .ok (some i) h1) x := by funext σ h; rw [evEo]
theorem ev_cn : evC P cl .none = fun _ h => .ok true h := by funext σ h; rw [evC]
theorem ev_cs (a : E) : evC P cl (.some a) = tmT (evE P cl a) := by funext σ h; rw [evC]; rfl
theorem ev_val (a : E) : evIt P cl (.val a) = fun σ h => (evE P cl a σ h).bind fun x h1 => srcV x h1 := by funext σ h; rw [evIt]
theorem ev_r1 (a : E) : evIt P cl (.r1 a) = fun σ h => (evE P cl a σ h).bind fun x h1 => srcR1 x h1 := by funext σ h; rw [evIt]
theorem ev_r2 (a b : E) : evIt P cl (.r2 a b) = fun σ h => (evE P cl a σ h).bind fun x h1 => (evE P cl b σ h1).bind fun y h2 => srcR2 x y h2 := by funext σ h; rw [evIt]
end
end Py
end
section
/-! PyK3: expressions: the trees of ours do what the program's trees do. -/
namespace Py
open PySem PySem.Spec PyProof.Rows L2

def SE (X : Cx) (L : Lk) (P : Prog) (cl : Nat → List W → Hm → R W) (e : Expr) (x : E) : Prop := PE X e (tE L (evE P cl x)) ∧ PT X e (tT L (tmT (evE P cl x)))
section
variable {X : Cx} {L : Lk} {P : Prog} {cl : Nat → List W → Hm → R W} {T : Tab} {k : Nat} {M : Nm}
theorem SE.of (hK : X.K = L.K) {e : Expr} {x : E} (h : PE X e (tE L (evE P cl x))) (he : ∀ whole, isTrue e X.env whole = (do let v ← whole; standAt e.pos; holding [v] (truthy v))) : SE X L P cl e x := ⟨h, g_truth hK h he⟩
/-! ### tests of None, of bools -/
variable {a b c : Expr} {ma mb mc : Py.Env → Hm → R W} {pos : Pos}
theorem g_tisN {j pos'} (ha : PE X a (tE L ma)) : PT X (.Compare a [.Is] [.Constant .none j pos'] pos) (tT L (tmT fun σ h => (ma σ h).bind fun x h1 => .ok (.bl (isNon x)) h1)) := by
  refine PT.imp (pt_cmpR (or_isN (L := L)) ha pe_non (nomark _)) fun σ H Q h => ?_
  obtain ⟨ρ, sm, h, rh, rs, q⟩ := h
  unfold tmT at q
  rw [R.bind_assoc] at q
  refine ⟨ρ, sm, h, rh, rs, q.bind.imp fun x H1 ⟨ρ1, w, h1, e1, rh1, rw1, q1⟩ => ?_⟩
  refine ⟨rfl, ρ1, h1, w, rh1, rw1, ?_⟩
  exact fun ρ2 H2 b e2 rh2 r2 => ⟨isNon w, r2, q1 ρ2 H2 _ e2 rh2 rfl⟩
theorem g_tnotN {j pos'} (ha : PE X a (tE L ma)) : PT X (.Compare a [.IsNot] [.Constant .none j pos'] pos) (tT L (tmT fun σ h => (ma σ h).bind fun x h1 => .ok (.bl (!isNon x)) h1)) := by
  refine PT.imp (pt_cmpR (or_notN (L := L)) ha pe_non (nomark _)) fun σ H Q h => ?_
  obtain ⟨ρ, sm, h, rh, rs, q⟩ := h
  unfold tmT at q
  rw [R.bind_assoc] at q
  refine ⟨ρ, sm, h, rh, rs, q.bind.imp fun x H1 ⟨ρ1, w, h1, e1, rh1, rw1, q1⟩ => ?_⟩
  refine ⟨rfl, ρ1, h1, w, rh1, rw1, ?_⟩
  exact fun ρ2 H2 b e2 rh2 r2 => ⟨!isNon w, r2, q1 ρ2 H2 _ e2 rh2 rfl⟩
theorem g_tisB {k : Bool} {j pos'} (ha : PE X a (tE L ma)) : PT X (.Compare a [.Is] [.Constant (.bool k) j pos'] pos) (tT L (tmT fun σ h => (ma σ h).bind fun x h1 => isBl false k x h1)) := by
  refine PT.imp (pt_cmpR op_isBl ha pe_bl (nomark _)) fun σ H Q h => ?_
  obtain ⟨ρ, sm, h, rh, rs, q⟩ := h
  unfold tmT at q
  rw [R.bind_assoc] at q
  refine ⟨ρ, sm, h, rh, rs, q.bind.imp fun x H1 ⟨ρ1, w, h1, e1, rh1, rw1, q1⟩ => ?_⟩
  cases w with
  | bl b =>
    refine ⟨b, k, rw1, rfl, ?_⟩
    have e : decide (b = k) = (b == k) := by cases b <;> cases k <;> rfl
    rw [e]
    exact ⟨_, rfl, q1 ρ1 H1 _ Ext.refl rh1 rfl⟩
  | _ => exact q1.elim
theorem g_tnotB {k : Bool} {j pos'} (ha : PE X a (tE L ma)) : PT X (.Compare a [.IsNot] [.Constant (.bool k) j pos'] pos) (tT L (tmT fun σ h => (ma σ h).bind fun x h1 => isBl true k x h1)) := by
  refine PT.imp (pt_cmpR op_notBl ha pe_bl (nomark _)) fun σ H Q h => ?_
  obtain ⟨ρ, sm, h, rh, rs, q⟩ := h
  unfold tmT at q
  rw [R.bind_assoc] at q
  refine ⟨ρ, sm, h, rh, rs, q.bind.imp fun x H1 ⟨ρ1, w, h1, e1, rh1, rw1, q1⟩ => ?_⟩
  cases w with
  | bl b =>
    refine ⟨b, k, rw1, rfl, ?_⟩
    have e : (!decide (b = k)) = (b != k) := by cases b <;> cases k <;> rfl
    rw [e]
    exact ⟨_, rfl, q1 ρ1 H1 _ Ext.refl rh1 rfl⟩
  | _ => exact q1.elim
theorem g_tite (hc : PT X c (tT L (tmT mc))) (ha : PT X a (tT L (tmT ma))) (hb : PT X b (tT L (tmT mb))) :
    PT X (.IfExp c a b pos) (tT L (tmT fun σ h => (mc σ h).bind fun x h1 => (truR x h1).bind fun k h2 => brB k (ma σ h2) (mb σ h2))) := by
  have e0 : tmT (fun σ h => (mc σ h).bind fun x h1 => (truR x h1).bind fun k h2 => brB k (ma σ h2) (mb σ h2)) = fun σ h => (tmT mc σ h).bind fun k h1 => brB k (tmT ma σ h1) (tmT mb σ h1) := by
    funext σ h
    unfold tmT
    rw [R.bind_assoc, R.bind_assoc]
    congr 1
    funext x h1
    rw [R.bind_assoc]
    congr 1
    funext k h2
    cases k <;> rfl
  rw [e0]
  refine ⟨fun pins s σ H Q I h => ?_⟩
  obtain ⟨ρ, sm, h, rh, rs, q⟩ := tT_br (f := fun σ h1 k => brB k (tmT ma σ h1) (tmT mb σ h1)) h
  refine isTrue_IfExp (thn (hc.run pins s σ H _ I ⟨ρ, sm, h, rh, rs, q⟩) fun d s1 ⟨H1, I1, ρ1, sm1, h1, rh1, rs1, q1⟩ => ?_)
  cases d with
  | true => exact ha.run pins s1 σ H1 Q I1 ⟨ρ1, sm1, h1, rh1, rs1, q1⟩
  | false => exact hb.run pins s1 σ H1 Q I1 ⟨ρ1, sm1, h1, rh1, rs1, q1⟩
end

/-! ### the parts -/
section
variable {X : Cx} {L : Lk} {P : Prog} {cl : Nat → List W → Hm → R W} {T : Tab} {k : Nat} {M : Nm} {f : Expr → Option E} (hf : ∀ e x, f e = some x → SE X L P cl e x)
include hf
theorem cEs_ok : ∀ {es : List Expr} {as : Es}, cEs f es = some as → PA X es (tA L (evEs P cl as)) ∧ (es.all fun e => !isStar e) = true
  | [], as, h => by
    cases h
    rw [ev_nil]
    exact ⟨g_pnil, rfl⟩
  | e :: r, as, h => by
    unfold cEs at h
    cases hs : isStar e with
    | true =>
      rw [hs] at h
      cases h
    | false =>
      rw [hs, if_neg Bool.false_ne_true] at h
      split at h
      · rename_i x xs h1 h2
        cases h
        obtain ⟨q1, q2⟩ := cEs_ok h2
        rw [ev_cons]
        exact ⟨g_pcons (hf _ _ h1).1 q1 (star_ok hs), by simp [hs, q2]⟩
      · cases h
theorem cAnd_ok (hK : X.K = L.K) {pos : Pos} : ∀ {es : List Expr} {x : E}, cAnd f es = some x → PE X (.BoolOp .And es pos) (tE L (evE P cl x)) ∧ PW X (.BoolOp .And es pos) (tT L (tmT (evE P cl x)))
  | [], _, h => by cases h
  | [a], x, h => ⟨pe_one (hf _ _ h).1, pw_and1 (hf _ _ h).2⟩
  | a :: b :: r, x, h => by
    unfold cAnd at h
    split at h
    · rename_i y z h1 h2
      cases h
      obtain ⟨q1, q2⟩ := cAnd_ok hK (pos := pos) h2
      rw [ev_and]
      exact ⟨g_and hK (hf _ _ h1).1 q1, g_tand (hf _ _ h1).2 q2⟩
    · cases h
theorem cOr_ok (hK : X.K = L.K) {pos : Pos} : ∀ {es : List Expr} {x : E}, cOr f es = some x → PE X (.BoolOp .Or es pos) (tE L (evE P cl x)) ∧ PW X (.BoolOp .Or es pos) (tT L (tmT (evE P cl x)))
  | [], _, h => by cases h
  | [a], x, h => ⟨pe_one (hf _ _ h).1, pw_or1 (hf _ _ h).2⟩
  | a :: b :: r, x, h => by
    unfold cOr at h
    split at h
    · rename_i y z h1 h2
      cases h
      obtain ⟨q1, q2⟩ := cOr_ok hK (pos := pos) h2
      rw [ev_or]
      exact ⟨g_or hK (hf _ _ h1).1 q1, g_tor (hf _ _ h1).2 q2⟩
    · cases h
theorem cEo_ok {o : Option Expr} {x : Eo} (h : cEo f o = some x) : PO X o (tO L (evEo P cl x)) := by
  cases o with
  | none =>
    cases h
    rw [ev_on]
    exact g_onone
  | some a =>
    have h : (f a).map Eo.some = some x := h
    simp only [Option.map_eq_some_iff] at h
    obtain ⟨y, h1, rfl⟩ := h
    rw [ev_os]
    exact g_osome (hf _ _ h1).1
theorem cCmp1_ok (F : Fok X L P cl T k) {a b : Expr} {op : CmpOp} {x : E} {pos : Pos} (h : cCmp1 f a op b = some x) : SE X L P cl (.Compare a [op] [b] pos) x := by
  unfold cCmp1 at h
  split at h
  · simp only [Option.map_eq_some_iff] at h
    obtain ⟨y, h1, rfl⟩ := h
    unfold SE
    rw [ev_isN]
    exact ⟨g_isN (hf _ _ h1).1, g_tisN (hf _ _ h1).1⟩
  · simp only [Option.map_eq_some_iff] at h
    obtain ⟨y, h1, rfl⟩ := h
    unfold SE
    rw [ev_notN]
    exact ⟨g_notN (hf _ _ h1).1, g_tnotN (hf _ _ h1).1⟩
  · simp only [Option.map_eq_some_iff] at h
    obtain ⟨y, h1, rfl⟩ := h
    unfold SE
    rw [ev_isB]
    exact ⟨g_isB (hf _ _ h1).1, g_tisB (hf _ _ h1).1⟩
  · simp only [Option.map_eq_some_iff] at h
    obtain ⟨y, h1, rfl⟩ := h
    unfold SE
    rw [ev_isB]
    exact ⟨g_notB (hf _ _ h1).1, g_tnotB (hf _ _ h1).1⟩
  · cases hs : isSet b with
    | true =>
      rw [hs] at h
      cases h
    | false =>
      rw [hs, if_neg Bool.false_ne_true] at h
      split at h
      · rename_i o y z h1 h2 h3
        cases h
        have e := cCop_ok h1
        subst e
        unfold SE
        rw [ev_cmp]
        exact ⟨g_cmp o F.hK F.hu (mark_ok hs) (hf _ _ h2).1 (hf _ _ h3).1, g_tcmp o F.hK F.hu (mark_ok hs) (hf _ _ h2).1 (hf _ _ h3).1⟩
      · cases h
theorem cCmp2_ok (F : Fok X L P cl T k) {a b c : Expr} {op op' : CmpOp} {x : E} {pos : Pos} (h : cCmp2 f a op op' b c = some x) : SE X L P cl (.Compare a [op, op'] [b, c] pos) x := by
  unfold cCmp2 at h
  split at h
  · rename_i o o' h1 h2
    split at h
    · rename_i hn
      split at h
      · rename_i y z u h3 h4 h5
        cases h
        have e := cCop_ok h1
        have e' := cCop_ok h2
        subst e e'
        unfold SE
        rw [ev_chain]
        have hn := of_decide_eq_true hn
        exact ⟨g_chain o o' F.hK F.hu hn (hf _ _ h3).1 (hf _ _ h4).1 (hf _ _ h5).1, g_tchain o o' F.hK F.hu hn (hf _ _ h3).1 (hf _ _ h4).1 (hf _ _ h5).1⟩
      · cases h
    · cases h
  · cases h
end
theorem stars_ok {es : List Expr} {env : PySem.Env} {pos : Pos} (h : (es.all fun e => !isStar e) = true) : (backTo pos (starEach es env)).any (·.1) = false ∧ (backTo pos (starEach es env)).all (fun x => !x.1) = true := by
  induction es with
  | nil => exact ⟨rfl, rfl⟩
  | cons e r ih =>
    simp only [List.all_cons, Bool.and_eq_true, Bool.not_eq_true'] at h
    obtain ⟨i1, i2⟩ := ih h.2
    rw [star_ok h.1]
    exact ⟨by rw [show backTo pos ((false, eval e env) :: starEach r env) = (false, eval e env) :: backTo pos (starEach r env) from rfl, List.any_cons, i1]; rfl, by
      rw [show backTo pos ((false, eval e env) :: starEach r env) = (false, eval e env) :: backTo pos (starEach r env) from rfl, List.all_cons, i2]; rfl⟩
theorem few_ok {es : List Expr} {env : PySem.Env} {pos : Pos} (h : (es.all fun e => !isStar e) = true) (hl : es.length < 30) :
    ((backTo pos (starEach es env)).all (fun x => !x.1) && (backToKw pos (keywordEach [] env)).all (fun x => x.1.isSome)
      && decide (es.length + ([] : List Keyword).length + (if ([] : List Keyword).isEmpty then 0 else 1) < 30)) = true := by
  rw [(stars_ok h).2]
  have : (backToKw pos (keywordEach [] env)).all (fun x => x.1.isSome) = true := rfl
  rw [this]
  simpa using hl
theorem form_ok {es : List Expr} {env : PySem.Env} {pos : Pos} (h : (es.all fun e => !isStar e) = true) (hl : es.length < 30) :
    methodCallForm (es.length + ([] : List Keyword).length) (backTo pos (starEach es env)) (backToKw pos (keywordEach [] env)) = true := by
  unfold methodCallForm
  have : (backToKw pos (keywordEach [] env)).isEmpty = true := rfl
  have h2 : (backToKw pos (keywordEach [] env)).all (fun x => x.1.isSome) = true := rfl
  rw [(stars_ok h).2, h2, this]
  simpa using hl
end Py
end
section
/-! PyK4: names, calls, comprehensions, and all expressions. -/
namespace Py
open PySem PySem.Spec PyProof.Rows L2
section
variable {X : Cx} {L : Lk} {P : Prog} {cl : Nat → List W → Hm → R W} {T : Tab} {k : Nat} {M : Nm}
theorem cName_ok (F : Fok X L P cl T k) (S : Sok X M) {x : Str} {y : E} {pos : Pos} (h : cName T M x = some y) : SE X L P cl (.Name x pos) y := by
  unfold cName at h
  split at h
  · rename_i hp
    obtain ⟨p1, p2, p3⟩ := plain_nm hp
    split at h
    · rename_i hk
      simp only [Option.map_eq_some_iff] at h
      obtain ⟨i, h1, rfl⟩ := h
      refine SE.of F.hK ?_ fun _ => rfl
      rw [ev_v]
      exact g_var (by rw [S.N]; exact ixOf_get h1) (S.vis (kd_slot hk)) p1 p2
    · rename_i hk
      simp only [Option.map_eq_some_iff] at h
      obtain ⟨i, h1, rfl⟩ := h
      refine SE.of F.hK ?_ fun _ => rfl
      obtain ⟨u, v, w, e1, r, e2, hw⟩ := F.con _ _ (find_mem h1)
      rw [ev_g, e2]
      exact g_glob (S.gl hk) e1 r hw p1
    · cases h
  · cases h
theorem cCon_ok (F : Fok X L P cl T k) {c : Const} {j : Nat} {y : E} {pos : Pos} (h : (cCon c).map .k = some y) : SE X L P cl (.Constant c j pos) y := by
  simp only [Option.map_eq_some_iff] at h
  obtain ⟨w, h, rfl⟩ := h
  refine SE.of F.hK ?_ fun _ => rfl
  rw [ev_k]
  unfold cCon at h
  split at h
  · cases h
    exact g_non
  · cases h
    exact g_bl
  · cases h
    exact g_int
  · split at h
    · rename_i hx
      cases h
      simp only [Bool.and_eq_true, decide_eq_true_eq, List.all_eq_true] at hx
      exact g_str hx
    · cases h
  · cases h
theorem gname_ok (S : Sok X M) {x : Str} (h : gname M x = true) : Gl X x ∧ (x == ("__debug__" : Str)) = false ∧ (x == ("__classdict__" : Str)) = false ∧ x ≠ ("__name__" : Str) := by
  unfold gname at h
  split at h
  · rename_i hk
    exact ⟨S.gl hk, plain_nm h⟩
  · cases h
theorem boot_sum : bootBuiltins "sum" = some (.builtin "sum") := by decide +kernel
theorem boot_all : bootBuiltins "all" = some (.builtin "all") := by decide +kernel
theorem boot_any : bootBuiltins "any" = some (.builtin "any") := by decide +kernel
theorem boot_min : bootBuiltins "min" = some (.builtin "min") := by decide +kernel
theorem boot_max : bootBuiltins "max" = some (.builtin "max") := by decide +kernel
theorem boot_len : bootBuiltins "len" = some (.builtin "len") := by decide +kernel
theorem boot_list : bootBuiltins "list" = some (.type "list") := by decide +kernel
theorem boot_tuple : bootBuiltins "tuple" = some (.type "tuple") := by decide +kernel
theorem boot_int : bootBuiltins "int" = some (.type "int") := by decide +kernel
theorem boot_str : bootBuiltins "str" = some (.type "str") := by decide +kernel
theorem boot_bool : bootBuiltins "bool" = some (.type "bool") := by decide +kernel
theorem boot_isi : bootBuiltins "isinstance" = some (.builtin "isinstance") := by decide +kernel
theorem biN_ok (F : Fok X L P cl T k) {x : Str} {b : BI} (h : biN x = some b) : (∃ id, CallR X (.builtin id) (rs L (biR b)) ∧ bootBuiltins x = some (.builtin id)) ∨ (∃ id, CallR X (.type id) (rs L (biR b)) ∧ bootBuiltins x = some (.type id)) := by
  unfold biN at h
  split at h
  · rename_i e
    cases h
    subst e
    exact .inl ⟨"len", by first | exact or_len | exact or_len F.hK | exact or_len F.hc | exact or_len F.hK F.hc | exact or_len F.hc F.hK, boot_len⟩
  split at h
  · rename_i e
    cases h
    subst e
    exact .inr ⟨"list", by first | exact or_list | exact or_list F.hK | exact or_list F.hc | exact or_list F.hK F.hc | exact or_list F.hc F.hK, boot_list⟩
  split at h
  · rename_i e
    cases h
    subst e
    exact .inr ⟨"tuple", by first | exact or_tuple | exact or_tuple F.hK | exact or_tuple F.hc | exact or_tuple F.hK F.hc | exact or_tuple F.hc F.hK, boot_tuple⟩
  split at h
  · rename_i e
    cases h
    subst e
    exact .inr ⟨"int", by first | exact or_intC | exact or_intC F.hK | exact or_intC F.hc | exact or_intC F.hK F.hc | exact or_intC F.hc F.hK, boot_int⟩
  split at h
  · rename_i e
    cases h
    subst e
    exact .inr ⟨"str", by first | exact or_strC | exact or_strC F.hK | exact or_strC F.hc | exact or_strC F.hK F.hc | exact or_strC F.hc F.hK, boot_str⟩
  split at h
  · rename_i e
    cases h
    subst e
    exact .inl ⟨"min", by first | exact or_min | exact or_min F.hK | exact or_min F.hc | exact or_min F.hK F.hc | exact or_min F.hc F.hK, boot_min⟩
  split at h
  · rename_i e
    cases h
    subst e
    exact .inl ⟨"max", by first | exact or_max | exact or_max F.hK | exact or_max F.hc | exact or_max F.hK F.hc | exact or_max F.hc F.hK, boot_max⟩
  split at h
  · rename_i e
    cases h
    subst e
    exact .inl ⟨"sum", by first | exact or_sum | exact or_sum F.hK | exact or_sum F.hc | exact or_sum F.hK F.hc | exact or_sum F.hc F.hK, boot_sum⟩
  split at h
  · rename_i e
    cases h
    subst e
    exact .inl ⟨"all", by first | exact or_all | exact or_all F.hK | exact or_all F.hc | exact or_all F.hK F.hc | exact or_all F.hc F.hK, boot_all⟩
  split at h
  · rename_i e
    cases h
    subst e
    exact .inl ⟨"any", by first | exact or_any | exact or_any F.hK | exact or_any F.hc | exact or_any F.hK F.hc | exact or_any F.hc F.hK, boot_any⟩
  cases h
theorem tyN_ok {x : Str} {t : Ty} (h : tyN x = some t) : bootBuiltins x = some (.type (tyS t)) := by
  unfold tyN at h
  split at h
  · rename_i e
    cases h
    subst e
    exact boot_bool
  split at h
  · rename_i e
    cases h
    subst e
    exact boot_int
  split at h
  · rename_i e
    cases h
    subst e
    exact boot_str
  split at h
  · rename_i e
    cases h
    subst e
    exact boot_list
  split at h
  · rename_i e
    cases h
    subst e
    exact boot_tuple
  cases h
theorem optA_some {α β : Type} {o : Option β} {b : β} {f : β → R α} (h : o = some b) : optA o f = f b := by
  rw [h]
  rfl
theorem cCall_ok {f : Expr → Option E} (hf : ∀ e x, f e = some x → SE X L P cl e x) (F : Fok X L P cl T k) (S : Sok X M) {x : Str} {args : List Expr} {y : E} {p pos : Pos} (h : cCall T M f x args = some y) : SE X L P cl (.Call (.Name x p) args [] pos) y := by
  unfold cCall at h
  split at h
  · rename_i hg
    obtain ⟨g, d1, d2, d3⟩ := gname_ok S hg
    split at h
    · rename_i i hi
      simp only [Option.map_eq_some_iff] at h
      obtain ⟨as, h1, rfl⟩ := h
      obtain ⟨fa, FA, em, kp⟩ := F.fns _ _ (find_mem hi)
      refine SE.of F.hK ?_ fun _ => rfl
      rw [ev_call]
      cases args with
      | nil =>
        cases h1
        rw [ev_nil]
        exact g_call0 F.hK FA (F.hr.mono (Nat.le_succ k)) g em kp d1
      | cons e es =>
        obtain ⟨q1, q2⟩ := cEs_ok hf h1
        simp only [List.all_cons, Bool.and_eq_true, Bool.not_eq_true'] at q2
        exact g_call F.hK FA (F.hr.mono (Nat.le_succ k)) g em kp q1 d1 (star_ok q2.1) (stars_ok q2.2).1
    · split at h
      · rename_i c hi
        simp only [Option.map_eq_some_iff] at h
        obtain ⟨as, h1, rfl⟩ := h
        obtain ⟨fi, fa, ei, MK, FA, em⟩ := F.cls _ _ (find_mem hi)
        refine SE.of F.hK ?_ fun _ => rfl
        rw [ev_mk]
        simp only [optA_some ei]
        cases args with
        | nil =>
          cases h1
          rw [ev_nil]
          exact g_mk0 rfl F.hK MK FA F.hr g em d1
        | cons e es =>
          obtain ⟨q1, q2⟩ := cEs_ok hf h1
          simp only [List.all_cons, Bool.and_eq_true, Bool.not_eq_true'] at q2
          exact g_mk rfl F.hK MK FA F.hr g em q1 d1 (star_ok q2.1) (stars_ok q2.2).1
      · split at h
        · rename_i b hb
          cases args with
          | nil => cases h
          | cons e es =>
            have h : (cEs f (e :: es)).map (E.bi b) = some y := h
            simp only [Option.map_eq_some_iff] at h
            obtain ⟨as, h1, rfl⟩ := h
            obtain ⟨q1, q2⟩ := cEs_ok hf h1
            simp only [List.all_cons, Bool.and_eq_true, Bool.not_eq_true'] at q2
            have em := F.blt x (.inl (by rw [hb]; rfl))
            refine SE.of F.hK ?_ fun _ => rfl
            rw [ev_bi]
            rcases biN_ok F hb with ⟨id, c1, c2⟩ | ⟨id, c1, c2⟩
            · exact g_bi c1 g em c2 q1 d3 d1 (star_ok q2.1) (stars_ok q2.2).1
            · exact g_ty c1 g em c2 q1 d3 d1 (star_ok q2.1) (stars_ok q2.2).1
        · split at h
          · rename_i ex
            split at h
            · rename_i a t p2
              split at h
              · rename_i hgt
                simp only [Bool.and_eq_true, Bool.not_eq_true'] at hgt
                split at h
                · rename_i ty z h1 h2
                  cases h
                  obtain ⟨gt, t1, t2, t3⟩ := gname_ok S hgt.1
                  have em := F.blt x (.inr (.inl ex))
                  have emt := F.blt t (.inr (.inr (.inr (by rw [h1]; rfl))))
                  subst ex
                  refine SE.of F.hK ?_ fun _ => rfl
                  rw [ev_bi, ev_cons, ev_nil]
                  have pt : PE X (.Name t p2) (tC (.ty (tyS ty))) := pe_bltn gt emt (tyN_ok h1) rfl t3 t1
                  refine PE.imp (pe_callB (or_isi F.hK ty) g em boot_isi (pa_cons (hf _ _ h2).1 (pa_cons pt pa_nil (star_ok rfl)) (star_ok hgt.2)) d3 d1 (star_ok hgt.2) (by rw [star_ok (es := []) (e := .Name t p2) rfl]; rfl)) fun σ H Q h => ?_
                  obtain ⟨ρ, sm, h, rh, rs, q⟩ := h
                  dsimp only at q
                  rw [R.bind_assoc] at q
                  refine ⟨ρ, sm, h, rh, rs, q.bind.imp fun v H1 ⟨ρ1, w, h1, e1, rh1, rw1, q1⟩ => ?_⟩
                  exact ⟨v, rfl, ρ1, h1, w, rh1, rw1, q1⟩
                · cases h
              · cases h
            · cases h
          · cases h
  · cases h
theorem bmN_ok (F : Fok X L P cl T k) {x : Str} {n : Nat} {b : BM} (h : bmN x n = some b) : ∃ id, PlainAttrs (bmS b) ∧ Slot (bmS b) x id ∧ typeOf (.builtin id) = pure (.type "method_descriptor") ∧ MtR X id (rxs L (bmR b)) := by
  unfold bmN at h
  split at h
  · rename_i e
    cases h
    subst e
    exact ⟨"list.append", PySem.F.plainAttrs_list, PySem.F.slot_list_append, PySem.F.type_list_append, by first | exact or_append | exact or_append F.hK | exact or_append F.hc | exact or_append F.hK F.hc | exact or_append F.hc F.hK⟩
  split at h
  · rename_i e
    subst e
    split at h
    · cases h
      exact ⟨"list.pop", PySem.F.plainAttrs_list, PySem.F.slot_list_pop, PySem.F.type_list_pop, by first | exact or_pop | exact or_pop F.hK | exact or_pop F.hc | exact or_pop F.hK F.hc | exact or_pop F.hc F.hK⟩
    · cases h
      exact ⟨"list.pop", PySem.F.plainAttrs_list, PySem.F.slot_list_pop, PySem.F.type_list_pop, by first | exact or_popAt | exact or_popAt F.hK | exact or_popAt F.hc | exact or_popAt F.hK F.hc | exact or_popAt F.hc F.hK⟩
  split at h
  · rename_i e
    cases h
    subst e
    exact ⟨"list.extend", PySem.F.plainAttrs_list, PySem.F.slot_list_extend, PySem.F.type_list_extend, by first | exact or_extend | exact or_extend F.hK | exact or_extend F.hc | exact or_extend F.hK F.hc | exact or_extend F.hc F.hK⟩
  split at h
  · rename_i e
    cases h
    subst e
    exact ⟨"str.split", PySem.F.plainAttrs_str, PySem.F.slot_str_split, PySem.F.type_str_split, by first | exact or_split | exact or_split F.hK | exact or_split F.hc | exact or_split F.hK F.hc | exact or_split F.hc F.hK⟩
  split at h
  · rename_i e
    cases h
    subst e
    exact ⟨"str.upper", PySem.F.plainAttrs_str, PySem.F.slot_str_upper, PySem.F.type_str_upper, by first | exact or_upper | exact or_upper F.hK | exact or_upper F.hc | exact or_upper F.hK F.hc | exact or_upper F.hc F.hK⟩
  split at h
  · rename_i e
    cases h
    subst e
    exact ⟨"str.join", PySem.F.plainAttrs_str, PySem.F.slot_str_join, PySem.F.type_str_join, by first | exact or_join | exact or_join F.hK | exact or_join F.hc | exact or_join F.hK F.hc | exact or_join F.hc F.hK⟩
  cases h
theorem cMeth_ok {f : Expr → Option E} (hf : ∀ e x, f e = some x → SE X L P cl e x) (F : Fok X L P cl T k) {o : Expr} {m : Str} {apos pos : Pos} {args : List Expr} {y : E} (h : cMeth T f o m apos pos args = some y) : SE X L P cl (.Call (.Attribute o m apos) args [] pos) y := by
  unfold cMeth at h
  split at h
  · rename_i hc
    simp only [Bool.and_eq_true, decide_eq_true_eq] at hc
    obtain ⟨hl, hb, hn⟩ := hc
    split at h
    · rename_i u as h1 h2
      obtain ⟨q1, q2⟩ := cEs_ok hf h2
      split at h
      · rename_i i hi
        cases h
        have ea := F.att _ _ (find_mem hi)
        subst ea
        refine SE.of F.hK ?_ fun _ => rfl
        rw [ev_meth]
        cases args with
        | nil =>
          cases h2
          rw [ev_nil]
          exact g_meth0 (P := P) (cl := cl) F.hK (fun c f e => F.hM c i f e) (F.hr.mono (Nat.le_succ k)) (hf _ _ h1).1 (base_ok hb) hl
        | cons e es =>
          have q3 := q2
          simp only [List.all_cons, Bool.and_eq_true, Bool.not_eq_true'] at q3
          exact g_meth (P := P) (cl := cl) F.hK (fun c f e => F.hM c i f e) (F.hr.mono (Nat.le_succ k)) (hf _ _ h1).1 q1 (star_ok q3.1) (stars_ok q3.2).1 (base_ok hb) (form_ok q2 hn) hl
      · simp only [Option.map_eq_some_iff] at h
        obtain ⟨b, hm, rfl⟩ := h
        obtain ⟨id, pa, sl, ty, mt⟩ := bmN_ok F hm
        refine SE.of F.hK ?_ fun _ => rfl
        rw [ev_bm]
        cases args with
        | nil =>
          cases h2
          rw [ev_nil]
          exact g_bm0 pa sl ty mt F.hK rfl (hf _ _ h1).1 (base_ok hb) hl
        | cons e es =>
          have q3 := q2
          simp only [List.all_cons, Bool.and_eq_true, Bool.not_eq_true'] at q3
          exact g_bm pa sl ty mt F.hK rfl (hf _ _ h1).1 q1 (base_ok hb) (few_ok q2 hn) hl (star_ok q3.1) (stars_ok q3.2).1
    · cases h
  · cases h
/-! ### targets -/
theorem cTn_ok (S : Sok X M) {e : Expr} {i : Nat} (h : cTn M e = some i) : ∃ x p, e = .Name x p ∧ X.N[i]? = some x ∧ Loc X.env.scope x ∧ (X.fn x = true ∨ X.env.scope.names.lookup x = some .local) := by
  unfold cTn at h
  split at h
  · rename_i x p
    split at h
    · split at h
      · rename_i hk
        exact ⟨x, p, rfl, by rw [S.N]; exact ixOf_get h, .inl (S.loc hk), .inr (S.loc hk)⟩
      · rename_i hk
        exact ⟨x, p, rfl, by rw [S.N]; exact ixOf_get h, .inr (S.cel hk), .inl (S.fn _ hk)⟩
      · cases h
    · cases h
  · cases h
theorem cTns_ok (S : Sok X M) : ∀ {es : List Expr} {is : List Nat}, cTns M es = some is → PGs X es (gNs is) ∧ (assignEach es X.env).length = is.length ∧ (assignEach es X.env).findIdx? (·.1) = none ∧ ∀ e ∈ es, isStar e = false
  | [], is, h => by
    cases h
    exact ⟨pgs_nil, rfl, rfl, fun e he => by cases he⟩
  | e :: r, is, h => by
    unfold cTns at h
    split at h
    · rename_i i is' h1 h2
      cases h
      obtain ⟨x, p, rfl, e1, e2, e3⟩ := cTn_ok S h1
      obtain ⟨q1, q2, q3, q4⟩ := cTns_ok S h2
      refine ⟨pgs_cons (pg_name S.nd e1 e2 e3) q1 rfl, ?_, ?_, ?_⟩
      · show (assignEach r X.env).length + 1 = _
        rw [q2]
        rfl
      · show List.findIdx? (·.1) ((false, assign (.Name x p) X.env) :: assignEach r X.env) = none
        rw [List.findIdx?_cons]
        simp [q3]
      · intro e he
        rcases List.mem_cons.mp he with rfl | he
        · rfl
        · exact q4 e he
    · cases h
theorem cTg_ok (F : Fok X L P cl T k) (S : Sok X M) {e : Expr} {t : Tg} (h : cTg M e = some t) : PG X e (tG L t) := by
  unfold cTg at h
  split at h
  · simp only [Option.map_eq_some_iff] at h
    obtain ⟨is, h1, rfl⟩ := h
    obtain ⟨q1, q2, q3, _⟩ := cTns_ok S h1
    exact g_gtp F.hK F.hc q1 q2 q3
  · simp only [Option.map_eq_some_iff] at h
    obtain ⟨i, h1, rfl⟩ := h
    obtain ⟨x, p, rfl, e1, e2, e3⟩ := cTn_ok S h1
    exact g_gnm S.nd e1 e2 e3
theorem cIt_ok {f : Expr → Option E} (hf : ∀ e x, f e = some x → SE X L P cl e x) (F : Fok X L P cl T k) (S : Sok X M) {tg e : Expr} {i : It} (h : cIt M f e = some i) : PI X tg e (tI L (evIt P cl i)) ∧ isSet e = false := by
  unfold cIt at h
  cases hs : isSet e with
  | true =>
    rw [hs] at h
    cases h
  | false =>
    rw [hs, if_neg Bool.false_ne_true] at h
    refine ⟨?_, rfl⟩
    split at h
    · split at h
      · rename_i ex
        split at h
        · rename_i hg
          simp only [Bool.and_eq_true, Bool.not_eq_true'] at hg
          simp only [Option.map_eq_some_iff] at h
          obtain ⟨a, h1, rfl⟩ := h
          subst ex
          rw [ev_r1]
          exact g_ir1 (gname_ok S hg.1).1 (F.blt _ (.inr (.inr (.inl rfl)))) (hf _ _ h1).1 (star_ok hg.2)
        · cases h
      · simp only [Option.map_eq_some_iff] at h
        obtain ⟨a, h1, rfl⟩ := h
        rw [ev_val]
        exact g_ival F.hK (hf _ _ h1).1
    · split at h
      · rename_i ex
        split at h
        · rename_i hg
          simp only [Bool.and_eq_true, Bool.not_eq_true'] at hg
          split at h
          · rename_i u v h1 h2
            cases h
            subst ex
            rw [ev_r2]
            exact g_ir2 (gname_ok S hg.1).1 (F.blt _ (.inr (.inr (.inl rfl)))) (hf _ _ h1).1 (hf _ _ h2).1 (star_ok hg.2.1) (star_ok hg.2.2)
          · cases h
        · cases h
      · simp only [Option.map_eq_some_iff] at h
        obtain ⟨a, h1, rfl⟩ := h
        rw [ev_val]
        exact g_ival F.hK (hf _ _ h1).1
    · simp only [Option.map_eq_some_iff] at h
      obtain ⟨a, h1, rfl⟩ := h
      rw [ev_val]
      exact g_ival F.hK (hf _ _ h1).1
end
end Py
end
section
/-! PyK5: all expressions. -/
namespace Py
open PySem PySem.Spec PyProof.Rows L2
def Es.len : Es → Nat
  | .nil => 0
  | .cons _ r => r.len + 1
theorem evEs_len {P : Prog} {cl : Nat → List W → Hm → R W} : ∀ {as : Es} {σ : Py.Env} {h : Hm} {ws : List W} {h1 : Hm}, evEs P cl as σ h = .ok ws h1 → ws.length = as.len
  | .nil, σ, h, ws, h1, e => by
    rw [evEs] at e
    cases e
    rfl
  | .cons a r, σ, h, ws, h1, e => by
    rw [evEs] at e
    cases e1 : evE P cl a σ h with
    | no =>
      rw [e1] at e
      cases e
    | ex _ _ _ =>
      rw [e1] at e
      cases e
    | ok x h2 =>
      rw [e1] at e
      have e : ((evEs P cl r σ h2).bind fun xs h2 => R.ok (x :: xs) h2) = .ok ws h1 := e
      cases e2 : evEs P cl r σ h2 with
      | no =>
        rw [e2] at e
        cases e
      | ex _ _ _ =>
        rw [e2] at e
        cases e
      | ok xs h3 =>
        rw [e2] at e
        cases e
        show xs.length + 1 = r.len + 1
        rw [evEs_len e2]
theorem cEs_len {f : Expr → Option E} : ∀ {es : List Expr} {as : Es}, cEs f es = some as → as.len = es.length
  | [], as, h => by
    cases h
    rfl
  | e :: r, as, h => by
    unfold cEs at h
    split at h
    · cases h
    · split at h
      · rename_i x xs h1 h2
        cases h
        show xs.len + 1 = r.length + 1
        rw [cEs_len h2]
      · cases h
section
variable {L : Lk} {P : Prog} {cl : Nat → List W → Hm → R W} {T : Tab} {k : Nat}
theorem cE_ok : ∀ (n : Nat) {X : Cx} {M : Nm} (F : Fok X L P cl T k) (S : Sok X M) (e : Expr) (x : E), cE T n M e = some x → SE X L P cl e x
  | 0, _, _, _, _, _, _, h => by cases h
  | n + 1, X, M, F, S, e, x, h => by
    have hf : ∀ e x, cE T n M e = some x → SE X L P cl e x := fun e x h => cE_ok n F S e x h
    unfold cE at h
    split at h
    · exact cName_ok F S h
    · exact cCon_ok F h
    · split at h
      · rename_i o u v h1 h2 h3
        cases h
        have e := cBin_ok h1
        subst e
        refine SE.of F.hK ?_ fun _ => rfl
        rw [ev_bin]
        exact g_bin o F.hK (hf _ _ h2).1 (hf _ _ h3).1
      · cases h
    · simp only [Option.map_eq_some_iff] at h
      obtain ⟨u, h1, rfl⟩ := h
      unfold SE
      rw [ev_not]
      exact ⟨g_not F.hK (hf _ _ h1).1, g_tnot (hf _ _ h1).2⟩
    · simp only [Option.map_eq_some_iff] at h
      obtain ⟨u, h1, rfl⟩ := h
      refine SE.of F.hK ?_ fun _ => rfl
      rw [ev_neg]
      exact g_neg (hf _ _ h1).1
    · obtain ⟨q1, q2⟩ := cAnd_ok hf F.hK h
      exact ⟨q1, q2.pt⟩
    · obtain ⟨q1, q2⟩ := cOr_ok hf F.hK h
      exact ⟨q1, q2.pt⟩
    · exact cCmp1_ok hf F h
    · exact cCmp2_ok hf F h
    · split at h
      · rename_i u v w h1 h2 h3
        cases h
        unfold SE
        rw [ev_ite]
        exact ⟨g_ite (hf _ _ h1).2 (hf _ _ h2).1 (hf _ _ h3).1, g_tite (hf _ _ h1).2 (hf _ _ h2).2 (hf _ _ h3).2⟩
      · cases h
    · exact cCall_ok hf F S h
    · exact cMeth_ok hf F h
    · split at h
      · rename_i hb
        split at h
        · rename_i i u h1 h2
          cases h
          have ea := F.att _ _ (find_mem h1)
          subst ea
          refine SE.of F.hK ?_ fun _ => rfl
          rw [ev_fld]
          exact g_fld F.hK F.hC (hf _ _ h2).1 (base_ok hb)
        · cases h
      · cases h
    · split at h
      · rename_i u v w h1 h2 h3
        cases h
        refine SE.of F.hK ?_ fun _ => rfl
        rw [ev_sl]
        exact g_sl F.hK (hf _ _ h1).1 (cEo_ok hf h2) (cEo_ok hf h3)
      · cases h
    · split at h
      · cases h
      · rename_i hs
        split at h
        · rename_i u v h1 h2
          cases h
          refine SE.of F.hK ?_ fun _ => rfl
          rw [ev_ix]
          exact g_ix F.hK F.hu (hf _ _ h1).1 (hf _ _ h2).1 (plain_ok (by simpa using hs))
        · cases h
    · split at h
      · rename_i hl
        simp only [Option.map_eq_some_iff] at h
        obtain ⟨as, h1, rfl⟩ := h
        refine SE.of F.hK ?_ fun _ => rfl
        rw [ev_lst]
        refine g_lst (cEs_ok hf h1).1 fun σ h ws h2 e => ?_
        have hl := of_decide_eq_true hl
        rw [evEs_len e, cEs_len h1]
        unfold SZ
        omega
      · cases h
    · split at h
      · rename_i hl
        simp only [Option.map_eq_some_iff] at h
        obtain ⟨as, h1, rfl⟩ := h
        refine SE.of F.hK ?_ fun _ => rfl
        rw [ev_tup]
        refine g_tup (cEs_ok hf h1).1 fun σ h ws h2 e => ?_
        have hl := of_decide_eq_true hl
        rw [evEs_len e, cEs_len h1]
        unfold SZ
        omega
      · cases h
    · rename_i elt tg it ifs scope pos
      split at h
      · rename_i i t u h1 h2 h3
        split at h
        · rename_i hb
          simp only [Bool.and_eq_true, List.all_eq_true] at hb
          have ok := S.bok hb.1
          obtain ⟨q1, q2⟩ := cIt_ok (tg := tg) hf F S h1
          have hv : ∀ i ∈ t.slots, i ∈ (ownOf M.N scope.names).map (·.2) := fun i hi => by simpa using hb.2 i hi
          split at h
          · cases h
            refine SE.of F.hK ?_ fun _ => rfl
            rw [ev_lc, ev_cn]
            refine PE.imp (pe_lc F.hc S.nd q1 ok (fun s H C c fp => cTg_ok (F.blk s H scope _ fp) (S.blk ok s H C c fp) h2) (fun s H C c fp => g_tsnil) (fun s H C c fp => (cE_ok n (F.blk s H scope _ fp) (S.blk ok s H C c fp) _ _ h3).1) (set_ok q2)) fun σ H Q h => te_lc hv h
          · simp only [Option.map_eq_some_iff] at h
            obtain ⟨y, h4, rfl⟩ := h
            refine SE.of F.hK ?_ fun _ => rfl
            rw [ev_lc, ev_cs]
            refine PE.imp (pe_lc F.hc S.nd q1 ok (fun s H C c fp => cTg_ok (F.blk s H scope _ fp) (S.blk ok s H C c fp) h2) (fun s H C c fp => pts_one (cE_ok n (F.blk s H scope _ fp) (S.blk ok s H C c fp) _ _ h4).2) (fun s H C c fp => (cE_ok n (F.blk s H scope _ fp) (S.blk ok s H C c fp) _ _ h3).1) (set_ok q2)) fun σ H Q h => te_lc hv h
          · cases h
        · cases h
      · cases h
    · cases h
end
end Py
end
section
/-! PyK6: statements. -/
namespace Py
open PySem PySem.Spec PyProof.Rows L2
section
variable (P : Prog) (cl : Nat → List W → Hm → R W)
theorem es_asg (t : Tg) (e : E) : evS P cl (.asg t e) = fun σ h => (evE P cl e σ h).bind fun w h1 => asgR t σ w h1 := by funext σ h; rw [evS]
theorem es_setIx (o i e : E) : evS P cl (.setIx o i e) = fun σ h => (evE P cl e σ h).bind fun y h1 => (evE P cl o σ h1).bind fun x h2 => (evE P cl i σ h2).bind fun j h3 => (setIxR x j y h3).bind fun _ h4 => .ok (.nx σ) h4 := by funext σ h; rw [evS]
theorem es_setF (o e : E) (f : Nat) : evS P cl (.setF o f e) = fun σ h => (evE P cl e σ h).bind fun y h1 => (evE P cl o σ h1).bind fun x h2 => (setFR P f x y h2).bind fun _ h3 => .ok (.nx σ) h3 := by funext σ h; rw [evS]
theorem es_augF (o e : E) (f : Nat) : evS P cl (.augF o f e) = fun σ h => (evE P cl o σ h).bind fun x h1 => (fldR P f x h1).bind fun z h2 => (evE P cl e σ h2).bind fun y h3 => ifA (clsAt h1 x == clsAt h3 x) ((augI z y h3).bind fun r h4 => (setFR P f x r h4).bind fun _ h5 => .ok (.nx σ) h5) := by funext σ h; rw [evS]
theorem es_augV (i : Nat) (e : E) : evS P cl (.augV i e) = fun σ h => (getV σ i h).bind fun x h1 => (evE P cl e σ h1).bind fun y h2 => (augI x y h2).bind fun z h3 => .ok (.nx (σ.set i (some z))) h3 := by funext σ h; rw [evS]
theorem es_ex (e : E) : evS P cl (.ex e) = fun σ h => (evE P cl e σ h).bind fun _ h1 => .ok (.nx σ) h1 := by funext σ h; rw [evS]
theorem es_ret (e : E) : evS P cl (.ret e) = fun σ h => (evE P cl e σ h).bind fun w h1 => .ok (.rt w) h1 := by funext σ h; rw [evS]
theorem es_retN : evS P cl .retN = fun _ h => .ok (.rt .non) h := by funext σ h; rw [evS]
theorem es_if (t : E) (a b : Ss) : evS P cl (.if_ t a b) = fun σ h => (tmT (evE P cl t) σ h).bind fun k h1 => brB k (evSs P cl a σ h1) (evSs P cl b σ h1) := by funext σ h; rw [evS]; rfl
theorem es_for (t : Tg) (it : It) (b : Ss) : evS P cl (.for_ t it b) = fun σ h => (evIt P cl it σ h).bind fun s h1 => forS t (fun σ h => evSs P cl b σ h) σ s h1 := by funext σ h; rw [evS]
theorem es_while (c : E) (b : Ss) : evS P cl (.while_ c b) = fun σ h => whileF (fun σ h => evSs P cl b σ h) (tmT (evE P cl c)) WF σ h := by funext σ h; rw [evS]; rfl
theorem es_brk : evS P cl .brk = fun σ h => .ok (.bk σ) h := by funext σ h; rw [evS]
theorem es_cont : evS P cl .cont = fun σ h => .ok (.ct σ) h := by funext σ h; rw [evS]
theorem es_pass : evS P cl .pass = fun σ h => .ok (.nx σ) h := by funext σ h; rw [evS]
theorem es_nev : evS P cl .nev = fun _ _ => .no := by funext σ h; rw [evS] <;> (intros; contradiction)
theorem es_nil : evSs P cl .nil = fun σ h => .ok (.nx σ) h := by funext σ h; rw [evSs]
theorem es_cons (s : S) (r : Ss) : evSs P cl (.cons s r) = fun σ h => (evS P cl s σ h).bind fun f h1 => seqF (fun σ h => evSs P cl r σ h) f h1 := by funext σ h; rw [evSs]
end
theorem blockF {env : PySem.Env} (hk : env.scope.kind = .function) : env.blockKind = .function := by
  unfold Env.blockKind
  rw [hk]
  rfl
theorem sw_false {elt : Expr} {gs : List Comprehension} {scope : Scope} {pos py : Pos} {y : Str} {l : Nat} {env : PySem.Env} (hk : env.scope.kind = .function) (hy : env.scope.names.lookup y = some .local)
    (ha : ((py.line == pos.line) && !(scope.names.any fun (n, k) => n == y && (k == .local || k == .cell))) = false) : swapsWith (.ListComp elt gs scope pos) (some (.Name y py)) l env = pure false := by
  have ky : env.kindOf y = some .local := hy
  have hb : env.blockKind = .function := blockF hk
  unfold swapsWith
  simp only [hb, ky, Expr.pos]
  have e : ((env.blockKind == ScopeKind.function) && (env.kindOf y == some .local) && (py.line == pos.line) && !(scope.names.any fun (n, k) => n == y && (k == .local || k == .cell))) = false := by
    rw [hb, ky]
    simpa using ha
  rw [hb, ky] at e
  show (pure _ : Sem Bool) = pure false
  exact congrArg pure e
theorem pair_ok {env : PySem.Env} {x y : Str} {px py pt pt2 : Pos} {a b : Expr} {kt k2 : Nat} (hk : env.scope.kind = .function) (hx : env.scope.names.lookup x = some .local) (hy : env.scope.names.lookup y = some .local) (hl : (px.line == py.line) = true) (hne : (x == y) = false)
    (ha : isStar a = false) (hb : isStar b = false) (hf : ([a, b].all (foldedForSure 8)) = false) (hc : ([a, b].all (constantsAlone 8)) = false) : swappedStores [.Tuple [.Name x px, .Name y py] kt pt] (.Tuple [a, b] k2 pt2) env = pure (some [x, y]) := by
  have kx : env.kindOf x = some .local := hx
  have ky : env.kindOf y = some .local := hy
  have hbk : env.blockKind = .function := blockF hk
  have hyx : (y == x) = false := by
    rw [beq_eq_false_iff_ne] at hne ⊢
    exact Ne.symm hne
  have hl2 : (py.line == px.line) = true := by
    rw [beq_iff_eq] at hl ⊢
    exact hl.symm
  unfold swappedStores
  dsimp only
  refine (if_neg ?_).trans ?_
  · rw [hbk]
    simp
  refine (if_neg ?_).trans ?_
  · clear hf hc
    simp only [List.any_cons, List.any_nil, Bool.or_false, Bool.or_eq_true, not_or]
    refine ⟨?_, ?_⟩
    · clear hb
      cases a <;> first | (intro q; exact Bool.false_ne_true q) | exact absurd (show true = false from ha) (by decide)
    · clear ha
      cases b <;> first | (intro q; exact Bool.false_ne_true q) | exact absurd (show true = false from hb) (by decide)
  rw [hf, hc]
  simp only [List.filterMap_cons, List.filterMap_nil, kx, ky, List.head?_cons, Option.map_some, Option.getD_some, Expr.pos, hl2, beq_self_eq_true, Bool.and_self, if_true]
  refine (if_neg ?_).trans ?_
  · refine fun q => ?_
    simp [List.eraseDups_cons, hne, hyx] at q
  simp only [Bool.false_eq_true, if_false]
section
variable {X : Cx} {L : Lk} {P : Prog} {cl : Nat → List W → Hm → R W} {T : Tab} {k : Nat} {M : Nm}
theorem cLc_ok {n : Nat} (F : Fok X L P cl T k) (S : Sok X M) {e : Expr} {x : E} (hc : isComp e = true) (h : cE T n M e = some x) :
    ∃ elt tg it ifs scope pos own wi g tt te, e = .ListComp elt [⟨tg, it, ifs, 0⟩] scope pos ∧ PI X tg it wi ∧ BlkOk X.N X.env.scope scope own ∧
      (∀ (s : Shared) (H : Hp) (C : Addr) (cl : List (Str × Addr)) (fp : List Addr), PG (X.blk s H scope (compEnvC scope cl C X.env) fp) tg g) ∧
      (∀ (s : Shared) (H : Hp) (C : Addr) (cl : List (Str × Addr)) (fp : List Addr), PTs (X.blk s H scope (compEnvC scope cl C X.env) fp) ifs tt) ∧
      (∀ (s : Shared) (H : Hp) (C : Addr) (cl : List (Str × Addr)) (fp : List Addr), PE (X.blk s H scope (compEnvC scope cl C X.env) fp) elt te) ∧
      (∀ z, foldedSetIterable it X.env z = pure z) ∧ ∀ σ H Q, tE L (evE P cl x) σ H Q → tLc wi g tt te (own.map (·.2)) σ H Q := by
  cases n with
  | zero => cases h
  | succ n =>
    have hf : ∀ e x, cE T n M e = some x → SE X L P cl e x := fun e x h => cE_ok n F S e x h
    unfold cE at h
    split at h <;> try (cases hc)
    · rename_i elt tg it ifs scope pos
      split at h
      · rename_i i t u h1 h2 h3
        split at h
        · rename_i hb
          simp only [Bool.and_eq_true, List.all_eq_true] at hb
          have ok := S.bok hb.1
          obtain ⟨q1, q2⟩ := cIt_ok (tg := tg) hf F S h1
          have hv : ∀ i ∈ t.slots, i ∈ (ownOf M.N scope.names).map (·.2) := fun i hi => by simpa using hb.2 i hi
          split at h
          · cases h
            refine ⟨elt, tg, it, _, scope, pos, _, _, _, _, _, rfl, q1, ok, (fun s H C c fp => cTg_ok (F.blk s H scope _ fp) (S.blk ok s H C c fp) h2), (fun s H C c fp => g_tsnil), (fun s H C c fp => (cE_ok n (F.blk s H scope _ fp) (S.blk ok s H C c fp) _ _ h3).1), (set_ok q2), fun σ H Q h => te_lc hv ?_⟩
            rw [ev_lc, ev_cn] at h
            exact h
          · simp only [Option.map_eq_some_iff] at h
            obtain ⟨y, h4, rfl⟩ := h
            refine ⟨elt, tg, it, _, scope, pos, _, _, _, _, _, rfl, q1, ok, (fun s H C c fp => cTg_ok (F.blk s H scope _ fp) (S.blk ok s H C c fp) h2), (fun s H C c fp => pts_one (cE_ok n (F.blk s H scope _ fp) (S.blk ok s H C c fp) _ _ h4).2), (fun s H C c fp => (cE_ok n (F.blk s H scope _ fp) (S.blk ok s H C c fp) _ _ h3).1), (set_ok q2), fun σ H Q h => te_lc hv ?_⟩
            rw [ev_lc, ev_cs] at h
            exact h
          · cases h
        · cases h
      · cases h
    · cases h
end
section
variable {X : Cx} {L : Lk} {P : Prog} {cl : Nat → List W → Hm → R W} {T : Tab} {k : Nat} {M : Nm}
theorem sole_ok {e t : Expr} {l : Nat} {env : PySem.Env} (h : isComp e = false) : swapsWithSole [t] e l env = pure false := by
  show swapsWith e (some t) l env = pure false
  exact comp_ok h
theorem cTup_ok {n : Nat} {es : List Expr} {k2 : Nat} {p2 : Pos} {z : E} (h : cE T n M (.Tuple es k2 p2) = some z) : ∃ m as, cEs (cE T m M) es = some as ∧ z = .tup as := by
  cases n with
  | zero => cases h
  | succ n =>
    unfold cE at h
    dsimp only at h
    split at h
    · simp only [Option.map_eq_some_iff] at h
      obtain ⟨as, h1, h2⟩ := h
      exact ⟨n, as, h1, h2.symm⟩
    · cases h
theorem cAsg_ok {n : Nat} (F : Fok X L P cl T k) (S : Sok X M) {tg e : Expr} {s : Py.S} {pos : Pos} (h : cAsg T M (cE T n M) tg e = some s) : PS X (.Assign [tg] e pos) (tS L (evS P cl s)) := by
  have hf : ∀ e x, cE T n M e = some x → SE X L P cl e x := fun e x h => cE_ok n F S e x h
  unfold cAsg at h
  split at h
  · rename_i y py
    split at h
    · rename_i i x h1 h2
      obtain ⟨y', p', e0, e1, e2, e3⟩ := cTn_ok S h1
      cases e0
      by_cases hc : isComp e = true
      · by_cases hw : swC M e y py = true
        · rw [hc, hw] at h
          cases h
          obtain ⟨elt, tg, it, ifs, scope, pos', own, wi, g, tt, te, rfl, q1, ok, q2, q3, q4, q5, q6⟩ := cLc_ok F S hc h2
          unfold swC at hw
          dsimp only at hw
          split at hw
          · rename_i hl
            simp only [Bool.and_eq_true, Bool.not_eq_true'] at hw
            have hyl := S.loc hl
            rw [es_asg]
            refine PS.imp (ps_setLc F.hc S.nd e1 hyl (sw_true S.kind hyl hw.1 hw.2) q1 ok q2 q3 q4 q5) fun D σ H h => ?_
            refine q6 σ H _ ?_
            exact ts_set (L := L) (te := tE L (evE P cl x)) (fun Q Q' f q => by
              obtain ⟨ρ, sm, h, rh, rs, q⟩ := q
              exact ⟨ρ, sm, h, rh, rs, q.imp f⟩) (ts_asg h)
          · cases hw
        · have hw : swC M e y py = false := by simpa using hw
          rw [hc, hw] at h
          have h : (match M.sc.names.lookup y with
            | some .local => some (Py.S.asg (.nm i) x)
            | _ => none) = some s := h
          split at h
          · rename_i hl
            cases h
            have hyl := S.loc hl
            obtain ⟨elt, tg, it, ifs, scope, pos', own, wi, g, tt, te, rfl, _⟩ := cLc_ok F S hc h2
            have ha : ((py.line == pos'.line) && !(scope.names.any fun (n, k) => n == y && (k == .local || k == .cell))) = false := by
              unfold swC at hw
              dsimp only at hw
              rw [hl] at hw
              exact hw
            rw [es_asg]
            exact g_sset S.nd e1 e2 (hf _ _ h2).1 (sw_false S.kind hyl ha) e3
          · cases h
      · have hc : isComp e = false := by simpa using hc
        rw [hc] at h
        cases h
        rw [es_asg]
        exact g_sset S.nd e1 e2 (hf _ _ h2).1 (comp_ok hc) e3
    · cases h
  · rename_i o a p
    split at h
    · cases h
    · rename_i hc
      have hc : isComp e = false := by simpa using hc
      split at h
      · rename_i i y x h1 h2 h3
        cases h
        have ea := F.att _ _ (find_mem h1)
        subst ea
        rw [es_setF]
        exact g_ssetF F.hK F.hC (hf _ _ h2).1 (hf _ _ h3).1 (comp_ok hc)
      · cases h
  · rename_i o i p
    split at h
    · cases h
    · rename_i hc
      simp only [Bool.or_eq_true, not_or, Bool.not_eq_true] at hc
      split at h
      · rename_i y j x h1 h2 h3
        cases h
        rw [es_setIx]
        refine g_ssetIx F.hK (hf _ _ h3).1 (hf _ _ h1).1 (hf _ _ h2).1 (fun v => ?_) (sole_ok hc.1)
        have hs := hc.2
        cases i <;> first | rfl | exact absurd (show true = false from hs) (by decide)
      · cases h
  · rename_i ts kk p
    split at h
    · cases h
    · rename_i hc
      have hc : isComp e = false := by simpa using hc
      split at h
      · rename_i a b k2 p2
        split at h
        · rename_i x px y py
          split at h
          · rename_i hp
            unfold pairC at hp
            simp only [Bool.and_eq_true, Bool.not_eq_true'] at hp
            obtain ⟨hp1, hp2, hp3, hp4, hp5⟩ := hp
            split at hp1
            · rename_i lx ly
              split at h
              · rename_i is z h1 h2
                cases h
                have hx := S.loc lx
                have hy := S.loc ly
                unfold cTns cTns cTns at h1
                split at h1
                · rename_i i js h3 h4
                  split at h4
                  · rename_i j js' h5 h6
                    cases h6
                    cases h4
                    cases h1
                    obtain ⟨x', p', e0, e1, _, _⟩ := cTn_ok S h3
                    cases e0
                    obtain ⟨y', p', e0, f1, _, _⟩ := cTn_ok S h5
                    cases e0
                    obtain ⟨m, as, h7, rfl⟩ := cTup_ok h2
                    have hf' : ∀ e x, cE T m M e = some x → SE X L P cl e x := fun e x h => cE_ok m F S e x h
                    obtain ⟨pa, ns⟩ := cEs_ok hf' h7
                    simp only [List.all_cons, List.all_nil, Bool.and_true, Bool.and_eq_true, Bool.not_eq_true'] at ns
                    have hij : i ≠ j := by
                      rintro rfl
                      rw [e1] at f1
                      cases f1
                      simp at hp3
                    refine PS.imp (ps_par F.hc S.nd e1 f1 hij hx hy pa (pair_ok S.kind hx hy hp2 hp3 ns.1 ns.2 hp4 hp5) (sole_ok rfl)) fun D σ H h => ?_
                    rw [es_asg, ev_tup] at h
                    obtain ⟨ρ, sm, h, rh, rs, q⟩ := h
                    dsimp only at q
                    rw [R.bind_assoc] at q
                    refine ⟨ρ, sm, h, rh, rs, (q.bind (RR := Rels L)).imp fun vs H1 ⟨ρ1, ws, h1, e3, rh1, rw1, q1⟩ => ?_⟩
                    have q1 : Post L (FlR L) ρ1 H1 (DQ D) (asgR (.tp [i, j]) sm (.tup ws) h1) := q1
                    obtain ⟨sm1, e4, q2⟩ := optA_ok q1
                    have e4 : (if ws.length = 2 then some (Py.setAll sm [i, j] ws) else none) = some sm1 := e4
                    split at e4
                    · rename_i hl
                      match ws, hl, rw1, e4 with
                      | [w1, w2], _, rw1, e4 =>
                        cases e4
                        obtain ⟨v1, v2, rfl, r1, r2⟩ := Rels.two rw1
                        have rs1 := rs.mono e3 rh
                        exact ⟨v1, v2, rfl, q2 ρ1 H1 (.nx _) Ext.refl rh1 ⟨_, rfl, (rs1.set r1 i).set r2 j⟩⟩
                    · cases e4
                  · cases h4
                · cases h1
              · cases h
            · cases hp1
          · cases h
        · cases h
      · cases h
      · rename_i hn1 hn2
        split at h
        · rename_i is x h1 h2
          cases h
          obtain ⟨q1, q2, q3, q4⟩ := cTns_ok S h1
          rw [es_asg]
          refine g_sasg (hf _ _ h2).1 (g_gtp F.hK F.hc q1 q2 q3) (sole_ok hc) ?_ rfl
          cases e <;> first | rfl | exact absurd rfl (hn2 _ _ _)
        · cases h
  · cases h
end
end Py
end
section
/-! PyK7: all statements, and the defs. -/
namespace Py
open PySem PySem.Spec PyProof.Rows L2
section
variable {X : Cx} {L : Lk} {P : Prog} {cl : Nat → List W → Hm → R W} {T : Tab} {k : Nat} {M : Nm}
theorem g_snev {st : Stmt} : PS X st (tS L fun _ _ => .no) := ⟨fun pins s σ H D I h => by
  obtain ⟨ρ, sm, h, rh, rs, q⟩ := h
  exact q.elim⟩
theorem cSs_ok {g : Stmt → Option Py.S} (hg : ∀ s x, g s = some x → PS X s (tS L (evS P cl x))) : ∀ (ss : List Stmt), PSs X ss (tS L (evSs P cl (cSs g ss)))
  | [] => by
    unfold cSs
    rw [es_nil]
    exact g_snil
  | s :: r => by
    unfold cSs
    split
    · rename_i y h1
      rw [es_cons]
      exact g_scons (hg _ _ h1) (cSs_ok hg r)
    · rw [es_cons, es_nev]
      exact g_scons g_snev (cSs_ok hg r)
theorem cS_ok (F : Fok X L P cl T k) (S : Sok X M) (hx : X.xe = fun _ _ => False) : ∀ (n : Nat) (s : Stmt) (x : Py.S), cS T M n s = some x → PS X s (tS L (evS P cl x))
  | 0, _, _, h => by cases h
  | n + 1, s, x, h => by
    have hf : ∀ e x, cE T 50 M e = some x → SE X L P cl e x := fun e x h => cE_ok 50 F S e x h
    have hg : ∀ s x, cS T M n s = some x → PS X s (tS L (evS P cl x)) := cS_ok F S hx n
    have hp : PassesOwn (model X.prog X.w) X.A X.env X.xe := by
      rw [hx]
      exact PassesOwn.never
    unfold cS at h
    split at h
    · cases h
      rw [es_pass]
      exact g_spass
    · cases h
      rw [es_brk]
      exact g_sbrk
    · cases h
      rw [es_cont]
      exact g_scont
    · cases h
      rw [es_pass]
      exact g_sdoc
    · split at h
      · cases h
      · rename_i hc
        simp only [Option.map_eq_some_iff] at h
        obtain ⟨y, h1, rfl⟩ := h
        rw [es_ex]
        exact g_sexpr (hf _ _ h1).1 (comp_ok (by simpa using hc))
    · cases h
      rw [es_retN]
      exact g_sretN
    · simp only [Option.map_eq_some_iff] at h
      obtain ⟨y, h1, rfl⟩ := h
      rw [es_ret]
      exact g_sret (hf _ _ h1).1
    · split at h
      · rename_i u h1
        cases h
        rw [es_if]
        exact g_sif (hf _ _ h1).2 (cSs_ok hg _) (cSs_ok hg _)
      · cases h
    · split at h
      · rename_i u h1
        cases h
        rw [es_while]
        exact g_swhile hp (hf _ _ h1).2 (cSs_ok hg _)
      · cases h
    · split at h
      · rename_i t i h1 h2
        cases h
        obtain ⟨q1, q2⟩ := cIt_ok hf F S h2
        rw [es_for]
        exact g_sfor hp F.hc q1 (cTg_ok F S h1) (cSs_ok hg _) (set_ok q2)
      · cases h
    · exact cAsg_ok F S h
    · split at h
      · rename_i i y h1 h2
        cases h
        obtain ⟨x', p', e0, e1, e2, e3⟩ := cTn_ok S h1
        cases e0
        rw [es_augV]
        exact g_saugV S.nd e1 e2 (hf _ _ h2).1 e3
      · cases h
    · split at h
      · rename_i i u v h1 h2 h3
        cases h
        have ea := F.att _ _ (find_mem h1)
        subst ea
        rw [es_augF]
        exact g_saugF F.hK F.hC (hf _ _ h2).1 (hf _ _ h3).1
      · cases h
    · cases h
end

/-! ### the defs -/
/-- every parameter is written -/
def BndOk (x qual : Str) (params : Arguments) (body : List Stmt) (scope : Scope) (ps : List Str) : Prop := ∀ (kV doc pm : Value) (an : Option Addr) (cdv ct : Value) (us : List Value), us.length = ps.length → bindArgs (PySem.W.fnOf x qual params body scope .none kV doc pm an cdv ct) ⟨us, []⟩ = pure (ps.zip us)
/-- a def of the program and its tree of ours -/
structure DefOk (L : Lk) (T : Tab) (d : FnD) (fa : Addr) : Prop where
  ex : ∃ (x qual : Str) (params : Arguments) (body : List Stmt) (scope : Scope) (fd : FuncData) (N ps : List Str), FunD L.K x qual params body scope [] [] fa fd ∧ FnScope N ps scope ∧ BndOk x qual params body scope ps ∧ d.np = ps.length ∧ d.nl = N.length ∧ cSs (cS T ⟨N, scope⟩ 50) body = d.body
structure Gok (mg : Str → Option Value) (L : Lk) (P : Prog) (T : Tab) (fa : Nat → Addr) : Prop where
  fns : ∀ p ∈ T.fns, (P.fn p.2).isSome = true ∧ mg p.1 = some (.ref (fa p.2)) ∧ PySem.W.keepIn L.K (.ref (fa p.2)) = true
  cls : ∀ p ∈ T.cls, ∃ f, P.init p.2 = some f ∧ (P.fn f).isSome = true ∧ Mk L.K (L.ca p.2) (fa f) ∧ mg p.1 = some (.ref (L.ca p.2))
  con : ∀ p ∈ T.con, ∃ u v w, mg p.1 = some u ∧ RelV v u ∧ P.glob p.2 = some w ∧ ∀ ρ H, Rel L ρ H w v
  att : ∀ p ∈ T.att, L.fn p.2 = p.1
  blt : ∀ x, (biN x).isSome = true ∨ x = ("isinstance" : Str) ∨ x = ("range" : Str) ∨ (tyN x).isSome = true → mg x = none
  hC : ∀ c, P.flds c ≠ [] → ClsOk P L c
  hM : ∀ c m f, P.meth c m = some f → (P.fn f).isSome = true ∧ Cls L.K (L.ca c) ∧ Meth L.K (L.ca c) (L.fn m) (fa f)
  defs : ∀ i d, P.fn i = some d → DefOk L T d (fa i)
section
variable {prog : Program} {w : World} {mg : Str → Option Value} {base : Heap} {L : Lk} {P : Prog} {T : Tab} {fa : Nat → Addr}
theorem start_rel {ρ : List Addr} {H : Hp} {ws : List W} {vs : List V} {N : List Str} {np : Nat} (r : Rels L ρ H ws vs) (hl : ws.length = np) (hN : np ≤ N.length) : RelS L ρ H (Py.start np N.length ws) (L2.start N vs) := by
  have hv := r.length
  refine ⟨?_, fun i x e => ?_⟩
  · simp [Py.start, L2.start, ← hv, hl]
  · unfold Py.start at e
    unfold L2.start
    by_cases hi : i < ws.length
    · rw [List.getElem?_append_left (by simpa using hi)] at e
      rw [List.getElem?_append_left (by simpa [← hv] using hi)]
      simp only [List.getElem?_map, Option.map_eq_some_iff] at e
      obtain ⟨y, e, ey⟩ := e
      cases ey
      obtain ⟨v, ev, rv⟩ := r.get e
      exact ⟨v, by simp [ev], rv⟩
    · rw [List.getElem?_append_right (by simpa using hi)] at e
      rw [List.getElem?_replicate] at e
      split at e <;> cases e
theorem fn_step (G : Gok mg L P T fa) {k i : Nat} {d : FnD} (hd : P.fn i = some d) (ih : ∀ (i : Nat) (d : FnD), P.fn i = some d → FnAt prog w mg base L (2 * k) (run P k i) (fa i))
    {x qual : Str} {params : Arguments} {body : List Stmt} {scope : Scope} {fd : FuncData} {N ps : List Str} (FD : FunD L.K x qual params body scope [] [] (fa i) fd) (FS : FnScope N ps scope) (e1 : d.np = ps.length) (e2 : d.nl = N.length) (e3 : cSs (cS T ⟨N, scope⟩ 50) body = d.body) :
    FnOk prog w L.K mg base CX0 (2 * k + 2) (fa i) fd ps (fun vs H Q _ => rs L (run P (k + 1) i) vs H Q) := by
  have hrun : ∀ ws h, run P (k + 1) i ws h = if ws.length = d.np then fin (evSs P (run P k) d.body (start d.np d.nl ws) h) else .no := fun ws h => by
    rw [run, hd]
  refine FD.ok (k := 2 * k + 1) FS (fun vs H Q E h => ?_) fun cdv A outer s H vs Q E hr hsp => ?_
  · obtain ⟨ρ, h, ws, rh, r, q⟩ := h
    rw [hrun] at q
    split at q
    · rename_i hl
      rw [← r.length, hl, e1]
    · exact q.elim
  · have F : Fok (cxOf CX0 prog w L.K mg base N qual scope (fa i) cdv A outer s H E).nox L P (run P k) T (2 * k) := by
      refine ⟨rfl, ?_, rfl, hr, fun x i hx => ?_, fun x c hx => ?_, fun x i hx => G.con _ hx, fun x i hx => G.att _ hx, G.blt, G.hC, fun c m f hm => ?_⟩
      · have := hr.un
        show (A.deeper _).units + 65 < cLine
        omega
      · obtain ⟨q1, q2, q3⟩ := G.fns _ hx
        obtain ⟨d', hd'⟩ := Option.isSome_iff_exists.mp q1
        exact ⟨_, ih i d' hd', q2, q3⟩
      · obtain ⟨f, q1, q2, q3, q4⟩ := G.cls _ hx
        obtain ⟨d', hd'⟩ := Option.isSome_iff_exists.mp q2
        exact ⟨f, _, q1, q3, ih f d' hd', q4⟩
      · obtain ⟨q1, q2, q3⟩ := G.hM _ _ _ hm
        obtain ⟨d', hd'⟩ := Option.isSome_iff_exists.mp q1
        exact ⟨_, q2, q3, ih f d' hd'⟩
    have S : Sok (cxOf CX0 prog w L.K mg base N qual scope (fa i) cdv A outer s H E).nox ⟨N, scope⟩ := ⟨rfl, FS.nd, FS.kind, fun x k h => .inl h, fun _ _ => rfl⟩
    refine ⟨_, PSs.nox (e3 ▸ cSs_ok (fun s x h => cS_ok F S rfl 50 s x h) body), ?_⟩
    obtain ⟨ρ, h, ws, rh, r, q⟩ := hsp
    rw [hrun] at q
    split at q
    · rename_i hl
      have hNl : d.np ≤ N.length := by
        have := congrArg List.length FS.pre
        rw [List.length_take] at this
        omega
      rw [e2] at q
      refine ⟨ρ, _, h, rh, start_rel r hl hNl, ?_⟩
      unfold fin at q
      refine (q.bind (RR := FlR L)).imp fun f H1 ⟨ρ1, fl, h1, e4, rh1, rf, q1⟩ => ?_
      cases fl with
      | nx sm1 =>
        obtain ⟨σ1, rfl, rs1⟩ := rf
        exact q1 ρ1 H1 _ Ext.refl rh1 rfl
      | rt w =>
        obtain ⟨v, rfl, r⟩ := rf
        exact q1 ρ1 H1 _ Ext.refl rh1 r
      | _ => exact q1.elim
    · exact q.elim
theorem fn_ok (G : Gok mg L P T fa) : ∀ (k i : Nat) (d : FnD), P.fn i = some d → FnAt prog w mg base L (2 * k) (run P k i) (fa i)
  | 0, i, d, hd => by
    obtain ⟨x, qual, params, body, scope, fd, N, ps, FD, FS, B, _⟩ := (G.defs i d hd).ex
    refine ⟨fd, ps, ⟨fun vs H Q E h => ?_, fun A outer s H args us vs Q E hr he hb hv h => ?_⟩, FunD.bindsN FD B⟩
    · obtain ⟨_, _, _, _, _, q⟩ := h
      exact q.elim
    · obtain ⟨_, _, _, _, _, q⟩ := h
      exact q.elim
  | k + 1, i, d, hd => by
    obtain ⟨x, qual, params, body, scope, fd, N, ps, FD, FS, B, e1, e2, e3⟩ := (G.defs i d hd).ex
    exact ⟨fd, ps, fn_step G hd (fn_ok G k) FD FS e1 e2 e3, FunD.bindsN FD B⟩
end
end Py
end
section
/-! PyL: a law's head: the defs as data, what the module's written part must have, the end. -/
namespace Py
open PySem PySem.Spec PyProof.Rows L2

/-- one def: where it stands, its slots, its parameters -/
structure Def where
  d : He.FnD
  N : List Str
  ps : List Str
/-- a class: its name, its fields, its methods (attributes by number) -/
structure Cl where
  name : Str
  flds : List Nat
  meths : List (Nat × Nat)
  init : Option Nat
structure Dat where
  defs : List Def
  ir : List FnD
  fns : List (Str × Nat)
  cls : List Cl
  con : List (Str × W)
  att : List Str
def num {α : Type} (n : Nat) : List α → List (α × Nat)
  | [] => []
  | x :: r => (x, n) :: num (n + 1) r
theorem num_get {α : Type} {x : α} {i : Nat} : ∀ {l : List α} {n : Nat}, (x, i) ∈ num n l → n ≤ i ∧ l[i - n]? = some x
  | [], _, h => by cases h
  | y :: r, n, h => by
    rcases List.mem_cons.mp h with e | h
    · cases e
      exact ⟨Nat.le_refl _, by simp⟩
    · obtain ⟨h1, h2⟩ := num_get h
      refine ⟨by omega, ?_⟩
      rw [show i - n = (i - (n + 1)) + 1 by omega]
      simpa using h2
def lookN (i : Nat) : List (Nat × Nat) → Option Nat
  | [] => none
  | (j, k) :: r => if j = i then some k else lookN i r
theorem lookN_mem {i k : Nat} : ∀ {l : List (Nat × Nat)}, lookN i l = some k → (i, k) ∈ l
  | [], h => by cases h
  | (j, m) :: r, h => by
    have h : (if j = i then some m else lookN i r) = some k := h
    split at h
    · rename_i e
      cases h
      subst e
      exact List.mem_cons_self ..
    · exact List.mem_cons_of_mem _ (lookN_mem h)
namespace Dat
variable (D : Dat)
def tab : Tab := ⟨D.fns, (num 0 D.cls).map fun p => (p.1.name, p.2), (num 0 D.con).map fun p => (p.1.1, p.2), (num 0 D.att)⟩
def prog : Prog where
  fn i := D.ir[i]?
  meth c m := match D.cls[c]? with
    | some C => lookN m C.meths
    | none => none
  init c := match D.cls[c]? with
    | some C => C.init
    | none => none
  glob i := match D.con[i]? with
    | some p => some p.2
    | none => none
  flds c := match D.cls[c]? with
    | some C => C.flds
    | none => []
def attN (i : Nat) : Str := match D.att[i]? with
  | some x => x
  | none => ⟨#[0, i]⟩
/-- is every attribute's name its own -/
def attB : Bool := decide D.att.Nodup && D.att.all fun x => decide (x.cps[0]? ≠ some 0)
def fa (K : PySem.W.Frag) (i : Nat) : Addr := match D.defs[i]? with
  | some d => He.fAd K d.d.at_
  | none => 0
end Dat
theorem attN_inj {D : Dat} (h : D.attB = true) : ∀ a b, D.attN a = D.attN b → a = b := by
  unfold Dat.attB at h
  simp only [Bool.and_eq_true, decide_eq_true_eq, List.all_eq_true] at h
  obtain ⟨nd, z⟩ := h
  intro a b e
  unfold Dat.attN at e
  cases ea : D.att[a]? with
  | none =>
    cases eb : D.att[b]? with
    | none =>
      rw [ea, eb] at e
      have e : (⟨#[0, a]⟩ : Str) = ⟨#[0, b]⟩ := e
      simp only [Str.mk.injEq] at e
      simpa using e
    | some y =>
      rw [ea, eb] at e
      have e : (⟨#[0, a]⟩ : Str) = y := e
      refine absurd ?_ (z y (List.mem_of_getElem? eb))
      rw [← e]
      rfl
  | some x =>
    cases eb : D.att[b]? with
    | none =>
      rw [ea, eb] at e
      have e : x = (⟨#[0, b]⟩ : Str) := e
      refine absurd ?_ (z x (List.mem_of_getElem? ea))
      rw [e]
      rfl
    | some y =>
      rw [ea, eb] at e
      have e : x = y := e
      subst e
      exact L2.nodup_ix nd ea eb
def Dat.lk (D : Dat) (h : D.attB = true) (K : PySem.W.Frag) : Lk := ⟨K, fun c => match D.cls[c]? with
  | some C => He.ga K C.name
  | none => 0, D.attN, attN_inj h⟩

/-! ### constants -/
mutual
def relK (K : PySem.W.Frag) : W → Value → Bool
  | .non, u => (match u with
    | .none => true
    | _ => false)
  | .bl b, u => (match u with
    | .bool c => b == c
    | _ => false)
  | .int i, u => (match u with
    | .int j _ => decide (i = j)
    | _ => false)
  | .str s, u => (match u with
    | .str z _ => decide (z.cps.toList = s) && (decide (s.length ≤ SZ) && s.all fun c => decide (c < 1114112))
    | _ => false)
  | .tup xs, u => (match u with
    | .ref a => (match K.lookup a with
      | some ⟨.type "tuple", _, .seq its _, _⟩ => decide (its.size ≤ SZ) && (decide (xs.length ≤ SZ) && relKs K xs its.toList)
      | _ => false)
    | _ => false)
  | .ref _, _ => false
def relKs (K : PySem.W.Frag) : List W → List Value → Bool
  | [], us => us.isEmpty
  | x :: xs, us => (match us with
    | [] => false
    | u :: us => relK K x u && relKs K xs us)
end
mutual
theorem relK_ok {L : Lk} {K : PySem.W.Frag} (hK : L.K = K) : ∀ (w : W) (u : Value), relK K w u = true → ∃ v, RelV v u ∧ ∀ ρ H, Rel L ρ H w v
  | .non, u, h => by
    unfold relK at h
    split at h
    · exact ⟨.non, rfl, fun _ _ => rfl⟩
    · cases h
  | .bl b, u, h => by
    unfold relK at h
    split at h
    · rename_i c
      have e : b = c := by simpa using h
      subst e
      exact ⟨.bl b, rfl, fun _ _ => rfl⟩
    · cases h
  | .int i, u, h => by
    unfold relK at h
    split at h
    · rename_i j t
      have e : i = j := of_decide_eq_true h
      subst e
      exact ⟨.int i, ⟨t, rfl⟩, fun _ _ => rfl⟩
    · cases h
  | .str s, u, h => by
    unfold relK at h
    split at h
    · rename_i z t
      simp only [Bool.and_eq_true, decide_eq_true_eq, List.all_eq_true] at h
      obtain ⟨h1, h2, h3⟩ := h
      refine ⟨.str z, ⟨t, rfl⟩, fun _ _ => ⟨⟨h2, h3⟩, ?_⟩⟩
      subst h1
      cases z
      rfl
    · cases h
  | .tup xs, u, h => by
    unfold relK at h
    split at h
    · rename_i a
      split at h
      · rename_i od its n sl e
        simp only [Bool.and_eq_true, decide_eq_true_eq] at h
        obtain ⟨h1, h2, h3⟩ := h
        obtain ⟨vs, r1, r2⟩ := relKs_ok hK xs its.toList h3
        refine ⟨.ref a, rfl, fun ρ H => ⟨a, vs, rfl, .inr ⟨_, its, n, by rw [hK]; exact e, rfl, rfl, h1, r1⟩, h2, r2 ρ H⟩⟩
      · cases h
    · cases h
  | .ref _, _, h => by
    unfold relK at h
    cases h
theorem relKs_ok {L : Lk} {K : PySem.W.Frag} (hK : L.K = K) : ∀ (ws : List W) (us : List Value), relKs K ws us = true → ∃ vs, Vals vs us ∧ ∀ ρ H, Rels L ρ H ws vs
  | [], us, h => by
    unfold relKs at h
    cases us with
    | nil => exact ⟨[], .nil, fun _ _ => rfl⟩
    | cons _ _ => cases h
  | x :: xs, us, h => by
    unfold relKs at h
    cases us with
    | nil => cases h
    | cons u us =>
      have h : (relK K x u && relKs K xs us) = true := h
      simp only [Bool.and_eq_true] at h
      obtain ⟨v, r1, r2⟩ := relK_ok hK x u h.1
      obtain ⟨vs, r3, r4⟩ := relKs_ok hK xs us h.2
      exact ⟨v :: vs, .cons r1 r3, fun ρ H => Rels.cons (r2 ρ H) (r4 ρ H)⟩
end

/-! ### what the written part must have -/
def bltN : List Str := ["len", "list", "tuple", "int", "str", "min", "max", "sum", "all", "any", "isinstance", "range", "bool"]
def nolst (K : PySem.W.Frag) : Bool := K.all fun p => match p.2.cls with
  | .type "list" => false
  | _ => true
def Dat.clB (D : Dat) (K : PySem.W.Frag) (C : Cl) : Bool :=
  (He.Fa.glo C.name).ok K && ((He.Fa.cls C.name).ok K && ((C.flds.all fun f => (He.Fa.noat C.name (D.attN f)).ok K) && ((C.meths.all fun p => (He.Fa.meth C.name (D.attN p.1)).ok K && (decide (D.fa K p.2 = He.ma K (He.ga K C.name) (D.attN p.1)) && (D.ir[p.2]?).isSome)) &&
    (match C.init with
      | some f => (He.Fa.mkr C.name).ok K && (decide (D.fa K f = He.ma K (He.ga K C.name) "__init__") && (D.ir[f]?).isSome)
      | none => false))))
def Dat.okB (D : Dat) (K : PySem.W.Frag) : Bool :=
  nolst K && ((bltN.all fun x => (He.Fa.free x).ok K) && ((D.defs.all fun d => (He.Fa.code d.d.at_ d.d.qual).ok K && PySem.W.keepIn K (.ref (He.fAd K d.d.at_))) &&
    ((D.fns.all fun p => He.eqO (PySem.W.nsIn K mainGlobals p.1) (some (some (.ref (D.fa K p.2)))) && (D.ir[p.2]?).isSome) && ((D.cls.all (D.clB K)) &&
      (D.con.all fun p => match PySem.W.nsIn K mainGlobals p.1 with
        | some (some u) => relK K p.2 u
        | _ => false)))))
/-- what holds without the heap -/
def scB (N ps : List Str) (sc : Scope) : Bool := decide (sc.kind = .function) && (!sc.isCoroutine && (!sc.isGenerator && (decide N.Nodup && (decide (N.take ps.length = ps) &&
  ((ps.all fun x => decide (sc.names.lookup x = some .local) || decide (sc.names.lookup x = some .cell)) && sc.names.all fun y => decide (y.2 ≠ .free))))))
theorem scB_ok {N ps : List Str} {sc : Scope} (h : scB N ps sc = true) : FnScope N ps sc := by
  unfold scB at h
  simp only [Bool.and_eq_true, decide_eq_true_eq, Bool.not_eq_true', List.all_eq_true, Bool.or_eq_true] at h
  obtain ⟨h1, h2, h3, h4, h5, h6, h7⟩ := h
  exact ⟨h1, h2, h3, h4, h5, h6, h7⟩
structure Dat.St (D : Dat) : Prop where
  att : D.attB = true
  trees : (D.defs.map fun d => cSs (cS D.tab ⟨d.N, d.d.scope⟩ 50) d.d.body) = D.ir.map fun d => d.body
  nums : (D.defs.map fun d => (d.ps.length, d.N.length)) = D.ir.map fun d => (d.np, d.nl)
  scs : (D.defs.all fun d => scB d.N d.ps d.d.scope) = true
  bnd : ∀ d ∈ D.defs, BndOk d.d.name d.d.qual d.d.params d.d.body d.d.scope d.ps

/-! ### the Hook -/
def refs (g : Addr → Option Obj) (as : List Addr) : List Addr := as.flatMap fun a => match g a with
  | some o => (match o.data with
    | .seq its _ => its.toList.flatMap He.refV
    | .dict es _ => es.toList.flatMap fun e => He.refV e.val
    | .func fd => He.refV fd.code
    | .cls cd => cd.ns :: cd.mro.flatMap He.refV
    | _ => [])
  | none => []
def addrs (g : Addr → Option Obj) : List Addr :=
  let a1 := refs g [mainGlobals]
  let a2 := refs g a1
  let a3 := refs g a2
  let a4 := refs g a3
  mainGlobals :: (a1 ++ (a2 ++ (a3 ++ a4)))
/-- .. without the lists -/
def frP (g : Addr → Option Obj) : PySem.W.Frag := He.frG g (addrs g)
abbrev Al : Type := Bool × List He.FnV
def Dat.obsK (D : Dat) (K : PySem.W.Frag) : Al := (D.okB K, D.defs.map fun d => He.fnObs K d.d.at_)
def Dat.val (D : Dat) : Al := (true, D.defs.map fun d => d.d.val)
def Dat.hook (D : Dat) : PySem.W.Hook where
  α := Al
  obs := fun s => D.obsK (frP s.heap.get?)
  val := fun _ => D.val
  says := fun _ h => ∃ K : PySem.W.Frag, K.In h ∧ D.obsK K = D.val
  of := fun _ _ e => ⟨_, He.frG_in, e⟩
  keeps := fun _ _ _ ⟨K, hK, c⟩ k => ⟨K, PySem.W.Frag.In.keeps hK k, c⟩
def Dat.ob (D : Dat) (s : PySem.W.SharedT) : Al := D.obsK (frP (HandSHeadRun.getT s))
theorem Dat.ob_eq (D : Dat) (s : PySem.W.SharedT) : D.ob s = D.hook.obs s.abs := by
  have e : HandSHeadRun.getT s = s.abs.heap.get? := funext (HandSHeadRun.getT_eq s)
  show D.obsK (frP (HandSHeadRun.getT s)) = D.obsK (frP s.abs.heap.get?)
  rw [e]
end Py
end
section
/-! PyL2: the facts of a head, and a law's end. -/
namespace Py
open PySem PySem.Spec PyProof.Rows L2

theorem lk_mem : ∀ {K : List (Nat × Obj)} {a : Nat} {o : Obj}, K.lookup a = some o → ∃ b, (b, o) ∈ K
  | [], _, _, h => by cases h
  | (b, o') :: r, a, o, h => by
    rw [List.lookup_cons] at h
    split at h
    · cases h
      exact ⟨b, List.mem_cons_self ..⟩
    · obtain ⟨c, hc⟩ := lk_mem h
      exact ⟨c, List.mem_cons_of_mem _ hc⟩
theorem blt_mem {x : Str} (h : (biN x).isSome = true ∨ x = ("isinstance" : Str) ∨ x = ("range" : Str) ∨ (tyN x).isSome = true) : x ∈ bltN := by
  unfold bltN
  rcases h with h | h | h | h
  · unfold biN at h
    split at h
    · rename_i e
      subst e
      simp
    split at h
    · rename_i e
      subst e
      simp
    split at h
    · rename_i e
      subst e
      simp
    split at h
    · rename_i e
      subst e
      simp
    split at h
    · rename_i e
      subst e
      simp
    split at h
    · rename_i e
      subst e
      simp
    split at h
    · rename_i e
      subst e
      simp
    split at h
    · rename_i e
      subst e
      simp
    split at h
    · rename_i e
      subst e
      simp
    split at h
    · rename_i e
      subst e
      simp
    cases h
  · subst h
    simp
  · subst h
    simp
  · unfold tyN at h
    split at h
    · rename_i e
      subst e
      simp
    split at h
    · rename_i e
      subst e
      simp
    split at h
    · rename_i e
      subst e
      simp
    split at h
    · rename_i e
      subst e
      simp
    split at h
    · rename_i e
      subst e
      simp
    cases h
section
variable {D : Dat} {K : PySem.W.Frag} {h : Heap} {mg : Str → Option Value}
theorem Dat.def_at (S : D.St) {i : Nat} {d : FnD} (hd : D.ir[i]? = some d) : ∃ e, D.defs[i]? = some e ∧ e ∈ D.defs ∧ cSs (cS D.tab ⟨e.N, e.d.scope⟩ 50) e.d.body = d.body ∧ d.np = e.ps.length ∧ d.nl = e.N.length ∧ FnScope e.N e.ps e.d.scope ∧ BndOk e.d.name e.d.qual e.d.params e.d.body e.d.scope e.ps := by
  have h1 := congrArg (fun l => l[i]?) S.trees
  have h2 := congrArg (fun l => l[i]?) S.nums
  simp only [List.getElem?_map, hd, Option.map_some] at h1 h2
  cases e : D.defs[i]? with
  | none =>
    rw [e] at h1
    cases h1
  | some e' =>
    rw [e] at h1 h2
    have hm := List.mem_of_getElem? e
    simp only [Option.map_some, Option.some.injEq, Prod.mk.injEq] at h1 h2
    exact ⟨e', rfl, hm, h1, h2.1.symm, h2.2.symm, scB_ok (List.all_eq_true.mp S.scs e' hm), S.bnd e' hm⟩
theorem gok (S : D.St) (X : K.In h) (G : h.Ns mainGlobals mg) (c : D.obsK K = D.val) : Gok mg (D.lk S.att K) D.prog D.tab (D.fa K) := by
  have c1 : D.okB K = true := congrArg (fun z : Al => z.1) c
  have c2 : (D.defs.map fun d => He.fnObs K d.d.at_) = D.defs.map fun d => d.d.val := congrArg (fun z : Al => z.2) c
  unfold Dat.okB at c1
  simp only [Bool.and_eq_true] at c1
  obtain ⟨_, q2, q3, q4, q5, q6⟩ := c1
  have hcl : ∀ C ∈ D.cls, D.clB K C = true := List.all_eq_true.mp q5
  have ca : ∀ {c : Nat} {C : Cl}, D.cls[c]? = some C → (D.lk S.att K).ca c = He.ga K C.name := fun {c C} e => by
    show (match D.cls[c]? with
      | some C => He.ga K C.name
      | none => 0) = _
    rw [e]
  have clok : ∀ {C : Cl}, C ∈ D.cls → (He.Fa.glo C.name).ok K = true ∧ (He.Fa.cls C.name).ok K = true ∧ (∀ f ∈ C.flds, (He.Fa.noat C.name (D.attN f)).ok K = true) ∧
      (∀ p ∈ C.meths, (He.Fa.meth C.name (D.attN p.1)).ok K = true ∧ D.fa K p.2 = He.ma K (He.ga K C.name) (D.attN p.1) ∧ (D.ir[p.2]?).isSome = true) ∧
      ∃ f, C.init = some f ∧ (He.Fa.mkr C.name).ok K = true ∧ D.fa K f = He.ma K (He.ga K C.name) "__init__" ∧ (D.ir[f]?).isSome = true := fun {C} hC => by
    have z := hcl C hC
    unfold Dat.clB at z
    simp only [Bool.and_eq_true, List.all_eq_true, decide_eq_true_eq] at z
    obtain ⟨z1, z2, z3, z4, z5⟩ := z
    refine ⟨z1, z2, z3, z4, ?_⟩
    cases e : C.init with
    | none =>
      rw [e] at z5
      cases z5
    | some f =>
      rw [e] at z5
      simp only [Bool.and_eq_true, decide_eq_true_eq] at z5
      exact ⟨f, rfl, z5.1, z5.2.1, z5.2.2⟩
  refine ⟨fun p hp => ?_, fun p hp => ?_, fun p hp => ?_, fun p hp => ?_, fun x hx => ?_, fun c hc => ?_, fun c m f hm => ?_, fun i d hd => ?_⟩
  · have z := List.all_eq_true.mp q4 p hp
    simp only [Bool.and_eq_true] at z
    have e := He.eqO_ok z.1
    obtain ⟨d, hd⟩ := Option.isSome_iff_exists.mp z.2
    obtain ⟨e', e1, hm, _⟩ := D.def_at S hd
    have z3 := List.all_eq_true.mp q3 e' hm
    simp only [Bool.and_eq_true] at z3
    refine ⟨z.2, PySem.W.mg_of X G e, ?_⟩
    have : D.fa K p.2 = He.fAd K e'.d.at_ := by
      unfold Dat.fa
      rw [e1]
    rw [this]
    exact z3.2
  · obtain ⟨⟨C, c⟩, h1, h2⟩ := List.mem_map.mp hp
    obtain ⟨_, h3⟩ := num_get h1
    have h3 : D.cls[c]? = some C := h3
    obtain ⟨z1, z2, z3, z4, f, z5, z6, z7, z8⟩ := clok (List.mem_of_getElem? h3)
    subst h2
    refine ⟨f, ?_, z8, ?_, ?_⟩
    · show (match D.cls[c]? with
        | some C => C.init
        | none => none) = some f
      rw [h3]
      exact z5
    · show Mk K ((D.lk S.att K).ca c) (D.fa K f)
      rw [ca h3, z7]
      exact He.mkr_ok z6
    · show mg C.name = some (.ref ((D.lk S.att K).ca c))
      rw [ca h3]
      exact He.glo_ok X G z1
  · obtain ⟨⟨p', c⟩, h1, h2⟩ := List.mem_map.mp hp
    obtain ⟨_, h3⟩ := num_get h1
    have h3 : D.con[c]? = some p' := h3
    subst h2
    have z := List.all_eq_true.mp q6 p' (List.mem_of_getElem? h3)
    split at z
    · rename_i u e
      obtain ⟨v, r1, r2⟩ := relK_ok (L := D.lk S.att K) rfl p'.2 u z
      refine ⟨u, v, p'.2, PySem.W.mg_of X G e, r1, ?_, r2⟩
      show (match D.con[c]? with
        | some p => some p.2
        | none => none) = some p'.2
      rw [h3]
    · cases z
  · obtain ⟨h1, h2⟩ := num_get (show (p.1, p.2) ∈ num 0 D.att from hp)
    show D.attN p.2 = p.1
    unfold Dat.attN
    have h2 : D.att[p.2]? = some p.1 := h2
    rw [h2]
  · exact He.free_ok X G (List.all_eq_true.mp q2 x (blt_mem hx))
  · cases e : D.cls[c]? with
    | none =>
      refine absurd ?_ hc
      show (match D.cls[c]? with
        | some C => C.flds
        | none => []) = []
      rw [e]
    | some C =>
      obtain ⟨z1, z2, z3, z4, _⟩ := clok (List.mem_of_getElem? e)
      refine ⟨?_, fun f hf => ?_⟩
      · show Cls K ((D.lk S.att K).ca c)
        rw [ca e]
        exact He.cls_ok z2
      · have hf : f ∈ (match D.cls[c]? with
          | some C => C.flds
          | none => []) := hf
        rw [e] at hf
        show NoAttr K ((D.lk S.att K).ca c) (D.attN f)
        rw [ca e]
        exact He.noat_ok (z3 f hf)
  · have hm : (match D.cls[c]? with
      | some C => lookN m C.meths
      | none => none) = some f := hm
    cases e : D.cls[c]? with
    | none =>
      rw [e] at hm
      cases hm
    | some C =>
      rw [e] at hm
      obtain ⟨z1, z2, z3, z4, _⟩ := clok (List.mem_of_getElem? e)
      obtain ⟨y1, y2, y3⟩ := z4 _ (lookN_mem hm)
      refine ⟨y3, ?_, ?_⟩
      · show Cls K ((D.lk S.att K).ca c)
        rw [ca e]
        exact He.cls_ok z2
      · show Meth K ((D.lk S.att K).ca c) (D.attN m) (D.fa K f)
        rw [ca e, y2]
        exact He.meth_ok y1
  · obtain ⟨e, e1, hm, t1, t2, t3, t4, t5⟩ := D.def_at S hd
    have z3 := List.all_eq_true.mp q3 e hm
    simp only [Bool.and_eq_true] at z3
    have hobs : He.fnObs K e.d.at_ = e.d.val := by
      have z := congrArg (fun l => l[i]?) c2
      simp only [List.getElem?_map, e1, Option.map_some, Option.some.injEq] at z
      exact z
    obtain ⟨oc, od, osl, kV, doc, pm, an, cdv, ct, lk, cd⟩ := He.fn_ok hobs z3.1
    have hfa : D.fa K i = He.fAd K e.d.at_ := by
      unfold Dat.fa
      rw [e1]
    rw [hfa]
    exact ⟨e.d.name, e.d.qual, e.d.params, e.d.body, e.d.scope, _, e.N, e.ps, ⟨⟨oc, od, .none, kV, doc, pm, an, cdv, ct, osl, rfl, lk, cd, .inl ⟨rfl, rfl⟩, .inl rfl⟩, z3.2⟩, t4, t5, t2, t3, t1⟩
/-- the law: what its def of ours does to the script, the law itself does -/
theorem walk_py {l : PySem.W.OpenLaw} {n k i : Nat} {q : Program} {loose : List Str} {XP : (Str → Option Value) → Heap → Prop} {d : DefRec} {x : Str} {e : Def} {ir : FnD} (S : D.St)
    (hn : l.most = some n) (hn2 : n ≤ SZ) (hdf : d.params.defaults = []) (hr : Room (2 * k + 2) callerA) (hname : (d.name, i) ∈ D.fns) (hir : D.ir[i]? = some ir) (he : D.defs[i]? = some e) (hps : e.ps = [x])
    (hlaw : ∀ ns : List Int, ns.length ≤ n → ∃ h', run D.prog (k + 1) i [.ref 0] [.fro (ns.map .int)] = .ok (.bl true) h') : PySem.W.WalkO q loose XP D.hook.says l.row.toRowW d [] (fun f vs => PySem.call f vs) := by
  refine L2.walk_ofE (n := n) (k := 2 * k + 2) (x := x) (CX := CX0) hn (by rw [← SZ_eq]; exact hn2) hdf hr (fun w mg fa h Y G hmg => ?_) (fun _ _ _ _ z => z)
  obtain ⟨K, KX, c⟩ := Y
  have GK := gok S KX G c
  obtain ⟨z1, z2, z3⟩ := GK.fns _ hname
  have hfa : fa = D.fa K i := by
    rw [hmg] at z2
    simpa using z2
  subst hfa
  obtain ⟨e', e1, hm, t1, t2, t3, t4, t5⟩ := D.def_at S hir
  rw [he] at e1
  cases e1
  have DO := GK.defs i ir hir
  have c1 : D.okB K = true := congrArg (fun z : Al => z.1) c
  have c2 : (D.defs.map fun d => He.fnObs K d.d.at_) = D.defs.map fun d => d.d.val := congrArg (fun z : Al => z.2) c
  have hobs : He.fnObs K e.d.at_ = e.d.val := by
    have z := congrArg (fun l => l[i]?) c2
    simp only [List.getElem?_map, he, Option.map_some, Option.some.injEq] at z
    exact z
  unfold Dat.okB at c1
  simp only [Bool.and_eq_true] at c1
  have z4 := List.all_eq_true.mp c1.2.2.1 e hm
  simp only [Bool.and_eq_true] at z4
  obtain ⟨oc, od, osl, kV, doc, pm, an, cdv, ct, lk, cd⟩ := He.fn_ok hobs z4.1
  have hfa : D.fa K i = He.fAd K e.d.at_ := by
    unfold Dat.fa
    rw [he]
  have FD : FunD (D.lk S.att K).K e.d.name e.d.qual e.d.params e.d.body e.d.scope [] [] (D.fa K i) (PySem.W.fnOf e.d.name e.d.qual e.d.params e.d.body e.d.scope .none kV doc pm an cdv ct) := by
    rw [hfa]
    exact ⟨⟨oc, od, .none, kV, doc, pm, an, cdv, ct, osl, rfl, lk, cd, .inl ⟨rfl, rfl⟩, .inl rfl⟩, z4.2⟩
  refine ⟨K, PySem.W.fnOf e.d.name e.d.qual e.d.params e.d.body e.d.scope .none kV doc pm an cdv ct, fun vs H Q _ => rs (D.lk S.att K) (run D.prog (k + 1) i) vs H Q, KX, fun s u => ?_, fun H a ns hl hO hS => ?_, fun base KB GB => ?_⟩
  · have b := FunD.bindsA FD t5 s [u] (by rw [hps]; rfl)
    rw [hps] at b
    exact b
  · obtain ⟨h', hrun⟩ := hlaw ns hl
    have hfz : ∃ o, H a = some (.frz o (.lst (ns.map V.int))) := by
      rcases hS with (hS | ⟨o, hS⟩) | ⟨o, its, m, hk, hc, _⟩
      · rcases hO a with z | ⟨o, xs, z⟩
        · rw [z] at hS
          cases hS
        · rw [z] at hS
          cases hS
      · exact ⟨o, hS⟩
      · exfalso
        obtain ⟨b, hk⟩ := lk_mem (K := K) hk
        have z := List.all_eq_true.mp c1.1 (b, o) hk
        have hc : o.cls = .type "list" := hc
        rw [hc] at z
        cases z
    obtain ⟨ob, hfz⟩ := hfz
    refine ⟨[a], [.fro (ns.map .int)], [.ref 0], ⟨rfl, by simp, fun m o b e1 e2 => ?_⟩, Rels.cons ⟨a, rfl, rfl⟩ Rels.nil, ?_⟩
    · cases m with
      | zero =>
        simp at e1 e2
        subst e1 e2
        refine ⟨ob, ns.map V.int, hfz, by simp; omega, ?_⟩
        refine Rels.of_get (by simp) fun i x v e1 e2 => ?_
        simp only [List.getElem?_map, Option.map_eq_some_iff] at e1 e2
        obtain ⟨c, ec, rfl⟩ := e1
        obtain ⟨c', ec', rfl⟩ := e2
        rw [ec] at ec'
        cases ec'
        rfl
      | succ m => simp at e1
    · rw [hrun]
      exact fun ρ' H' v _ _ r => r
  · have GB' := gok S KB GB c
    have F := fn_step (prog := l.prog) (w := w) (base := base) GB' hir (fn_ok GB' k) FD t4 t2 t3 t1
    rw [hps] at F
    exact F
end
end Py
end
section
/-! PyM: our interpreter, reasoned about: loops, comprehensions, heaps. -/
namespace Py

section
variable {h t : Hm} {n : Nat} {o : O}
theorem set_get (hn : h[n]? = some o) (x : O) : (h.set n x)[n]? = some x := by
  have hl : n < h.length := (List.getElem?_eq_some_iff.mp hn).1
  simp [hl]
theorem app_get (hn : h[n]? = some o) : (h ++ t)[n]? = some o := by
  have hl : n < h.length := (List.getElem?_eq_some_iff.mp hn).1
  rw [List.getElem?_append_left hl]
  exact hn
theorem app_new : (h ++ [o])[h.length]? = some o := by simp
end
/-- the loop's body comes through at each turn -/
theorem forP_ok {t : Tg} {body : Env → Hm → R Fl} (I : Env → Hm → Prop) : ∀ (xs : List W), (∀ x ∈ xs, ∀ σ h, I σ h → ∃ σ1, asgT t x σ h = some σ1 ∧ ∃ σ2 h2, (body σ1 h = .ok (.nx σ2) h2 ∨ body σ1 h = .ok (.ct σ2) h2) ∧ I σ2 h2) →
    ∀ σ h, I σ h → ∃ σ2 h2, forP t body xs σ h = .ok (.nx σ2) h2 ∧ I σ2 h2
  | [], _, σ, h, i => ⟨σ, h, rfl, i⟩
  | x :: xs, hb, σ, h, i => by
    obtain ⟨σ1, e1, σ2, h2, e2, i2⟩ := hb x (List.mem_cons_self ..) σ h i
    obtain ⟨σ3, h3, e3, i3⟩ := forP_ok I xs (fun y hy => hb y (List.mem_cons_of_mem _ hy)) σ2 h2 i2
    refine ⟨σ3, h3, ?_, i3⟩
    rw [forP, e1]
    rcases e2 with e2 | e2
    · simp only [e2]
      exact e3
    · simp only [e2]
      exact e3
theorem lcP_ok {t : Tg} {c : Env → Hm → R Bool} {e : Env → Hm → R W} {σ : Env} (I : Hm → List W → Prop) : ∀ (xs : List W), (∀ x ∈ xs, ∀ h acc, I h acc → ∃ σ1, asgT t x σ h = some σ1 ∧ ((∃ h1 y h2, c σ1 h = .ok true h1 ∧ e σ1 h1 = .ok y h2 ∧ I h2 (acc ++ [y])) ∨ ∃ h1, c σ1 h = .ok false h1 ∧ I h1 acc)) →
    ∀ acc h, acc.length + xs.length ≤ SZ → I h acc → ∃ ws h2, lcP t c e σ xs acc h = .ok ws h2 ∧ I h2 ws ∧ ws.length ≤ acc.length + xs.length
  | [], _, acc, h, _, i => ⟨acc, h, rfl, i, Nat.le_refl _⟩
  | x :: xs, hb, acc, h, hl, i => by
    have hl' : acc.length + (xs.length + 1) ≤ SZ := by simpa using hl
    obtain ⟨σ1, e1, e2⟩ := hb x (List.mem_cons_self ..) h acc i
    rw [lcP, e1]
    rcases e2 with ⟨h1, y, h2, ec, ee, i2⟩ | ⟨h1, ec, i2⟩
    · obtain ⟨ws, h3, e3, i3, l3⟩ := lcP_ok I xs (fun y hy => hb y (List.mem_cons_of_mem _ hy)) (acc ++ [y]) h2 (by simp; omega) i2
      refine ⟨ws, h3, ?_, i3, by simp at l3 ⊢; omega⟩
      simp only [ec, R.bind_ok, ee]
      rw [if_pos (by omega)]
      exact e3
    · obtain ⟨ws, h3, e3, i3, l3⟩ := lcP_ok I xs (fun y hy => hb y (List.mem_cons_of_mem _ hy)) acc h1 (by omega) i2
      refine ⟨ws, h3, ?_, i3, by simp at l3 ⊢; omega⟩
      simp only [ec, R.bind_ok]
      exact e3
theorem forL_ok {t : Tg} {body : Env → Hm → R Fl} {n : Nat} {xs : List W} (I : Nat → Env → Hm → Prop) (hl : ∀ i σ h, I i σ h → lstAt h n = some xs)
    (hb : ∀ i x σ h, xs[i]? = some x → I i σ h → ∃ σ1, asgT t x σ h = some σ1 ∧ ∃ σ2 h2, (body σ1 h = .ok (.nx σ2) h2 ∨ body σ1 h = .ok (.ct σ2) h2) ∧ I (i + 1) σ2 h2) :
    ∀ (j i : Nat), i + j = xs.length → ∀ σ h, I i σ h → ∃ σ2 h2, forL t body n (j + 1) i σ h = .ok (.nx σ2) h2 ∧ I xs.length σ2 h2
  | 0, i, e, σ, h, a => by
    have ei : i = xs.length := by omega
    subst ei
    refine ⟨σ, h, ?_, a⟩
    rw [forL, hl _ _ _ a]
    simp
  | j + 1, i, e, σ, h, a => by
    have hi : i < xs.length := by omega
    obtain ⟨σ1, e1, σ2, h2, e2, i2⟩ := hb i xs[i] σ h (by simp [hi]) a
    obtain ⟨σ3, h3, e3, i3⟩ := forL_ok I hl hb j (i + 1) (by omega) σ2 h2 i2
    refine ⟨σ3, h3, ?_, i3⟩
    rw [forL, hl _ _ _ a]
    simp only [List.getElem?_eq_getElem hi, e1]
    rcases e2 with e2 | e2
    · simp only [e2]
      exact e3
    · simp only [e2]
      exact e3
theorem forP_ix {t : Tg} {body : Env → Hm → R Fl} {xs : List W} (I : Nat → Env → Hm → Prop)
    (hb : ∀ i x σ h, xs[i]? = some x → I i σ h → ∃ σ1, asgT t x σ h = some σ1 ∧ ∃ σ2 h2, (body σ1 h = .ok (.nx σ2) h2 ∨ body σ1 h = .ok (.ct σ2) h2) ∧ I (i + 1) σ2 h2) :
    ∀ (j i : Nat), i + j = xs.length → ∀ σ h, I i σ h → ∃ σ2 h2, forP t body (xs.drop i) σ h = .ok (.nx σ2) h2 ∧ I xs.length σ2 h2
  | 0, i, e, σ, h, a => by
    have ei : i = xs.length := by omega
    subst ei
    exact ⟨σ, h, by rw [List.drop_length]; rfl, a⟩
  | j + 1, i, e, σ, h, a => by
    have hi : i < xs.length := by omega
    obtain ⟨σ1, e1, σ2, h2, e2, i2⟩ := hb i xs[i] σ h (by simp [hi]) a
    obtain ⟨σ3, h3, e3, i3⟩ := forP_ix I hb j (i + 1) (by omega) σ2 h2 i2
    refine ⟨σ3, h3, ?_, i3⟩
    rw [List.drop_eq_getElem_cons hi, forP, e1]
    rcases e2 with e2 | e2
    · simp only [e2]
      exact e3
    · simp only [e2]
      exact e3
theorem lcP_ix {t : Tg} {c : Env → Hm → R Bool} {e : Env → Hm → R W} {σ : Env} {xs : List W} (I : Nat → Hm → List W → Prop) (hz : xs.length ≤ SZ) (hI : ∀ i h acc, I i h acc → acc.length ≤ i)
    (hb : ∀ i x h acc, xs[i]? = some x → I i h acc → ∃ σ1, asgT t x σ h = some σ1 ∧ ((∃ h1 y h2, c σ1 h = .ok true h1 ∧ e σ1 h1 = .ok y h2 ∧ I (i + 1) h2 (acc ++ [y])) ∨ ∃ h1, c σ1 h = .ok false h1 ∧ I (i + 1) h1 acc)) :
    ∀ (j i : Nat), i + j = xs.length → ∀ acc h, I i h acc → ∃ ws h2, lcP t c e σ (xs.drop i) acc h = .ok ws h2 ∧ I xs.length h2 ws
  | 0, i, ei, acc, h, a => by
    have e1 : i = xs.length := by omega
    subst e1
    exact ⟨acc, h, by rw [List.drop_length]; rfl, a⟩
  | j + 1, i, ei, acc, h, a => by
    have hi : i < xs.length := by omega
    obtain ⟨σ1, e1, e2⟩ := hb i xs[i] h acc (by simp [hi]) a
    rw [List.drop_eq_getElem_cons hi, lcP, e1]
    rcases e2 with ⟨h1, y, h2, ec, ee, i2⟩ | ⟨h1, ec, i2⟩
    · obtain ⟨ws, h3, e3, i3⟩ := lcP_ix I hz hI hb j (i + 1) (by omega) (acc ++ [y]) h2 i2
      refine ⟨ws, h3, ?_, i3⟩
      have := hI _ _ _ a
      simp only [ec, R.bind_ok, ee]
      rw [if_pos (by omega)]
      exact e3
    · obtain ⟨ws, h3, e3, i3⟩ := lcP_ix I hz hI hb j (i + 1) (by omega) acc h1 i2
      refine ⟨ws, h3, ?_, i3⟩
      simp only [ec, R.bind_ok]
      exact e3
theorem range_get {lo : Int} {n i : Nat} {x : W} (h : (rangeW lo n)[i]? = some x) : i < n ∧ x = .int (lo + (i : Nat)) := by
  have hi : i < n := by
    have := (List.getElem?_eq_some_iff.mp h).1
    simpa [rangeW] using this
  refine ⟨hi, ?_⟩
  simp [rangeW, hi] at h
  exact h.symm
theorem lcL_pure {t : Tg} {c : Env → Hm → R Bool} {e : Env → Hm → R W} {σ : Env} {h : Hm} {n : Nat} {xs : List W} (hl : lstAt h n = some xs) (p : W → Bool) (f : W → W) (hb : ∀ x ∈ xs, ∃ σ1, asgT t x σ h = some σ1 ∧ c σ1 h = .ok (p x) h ∧ (p x = true → e σ1 h = .ok (f x) h)) (hz : xs.length ≤ SZ) :
    ∀ (j i : Nat), i + j = xs.length → ∀ acc : List W, acc.length ≤ i → lcL t c e σ n (j + 1) i acc h = .ok (acc ++ ((xs.drop i).filter p).map f) h
  | 0, i, ei, acc, ha => by
    have e1 : i = xs.length := by omega
    subst e1
    rw [lcL, hl]
    simp
  | j + 1, i, ei, acc, ha => by
    have hi : i < xs.length := by omega
    obtain ⟨σ1, e1, e2, e3⟩ := hb xs[i] (List.getElem_mem hi)
    have ih := fun acc ha => lcL_pure hl p f hb hz j (i + 1) (by omega) acc ha
    rw [lcL, hl]
    simp only [List.getElem?_eq_getElem hi, e1, e2, R.bind_ok]
    rw [List.drop_eq_getElem_cons hi, List.filter_cons]
    cases hp : p xs[i] with
    | false =>
      simp only [hp, Bool.false_eq_true, if_false]
      exact ih acc (by omega)
    | true =>
      simp only [hp, if_true, e3 hp, R.bind_ok]
      rw [if_pos (by omega), ih (acc ++ [f xs[i]]) (by simp; omega)]
      simp
/-- a comprehension whose parts leave the heap as it is -/
theorem lcP_pure {t : Tg} {c : Env → Hm → R Bool} {e : Env → Hm → R W} {σ : Env} {h : Hm} (p : W → Bool) (f : W → W) : ∀ (xs : List W), (∀ x ∈ xs, ∃ σ1, asgT t x σ h = some σ1 ∧ c σ1 h = .ok (p x) h ∧ (p x = true → e σ1 h = .ok (f x) h)) →
    ∀ acc : List W, acc.length + xs.length ≤ SZ → lcP t c e σ xs acc h = .ok (acc ++ (xs.filter p).map f) h
  | [], _, acc, _ => by simp [lcP]
  | x :: xs, hb, acc, hl => by
    have hl' : acc.length + (xs.length + 1) ≤ SZ := by simpa using hl
    obtain ⟨σ1, e1, e2, e3⟩ := hb x (List.mem_cons_self ..)
    have ih := fun acc hl => lcP_pure p f xs (fun y hy => hb y (List.mem_cons_of_mem _ hy)) acc hl
    rw [lcP, e1]
    cases hp : p x with
    | false =>
      simp only [e2, hp, R.bind_ok]
      rw [ih acc (by omega), List.filter_cons, hp]
      rfl
    | true =>
      simp only [e2, hp, R.bind_ok, e3 hp]
      rw [if_pos (by omega), ih (acc ++ [f x]) (by simp; omega), List.filter_cons, hp]
      simp
section
variable {P : Prog} {cl : Nat → List W → Hm → R W} {σ : Env} {h h1 h2 : Hm} {e : E} {t : Tg} {it : It} {c : Eo} {own : List Nat} {xs ws : List W} {b : Ss}
theorem lc_pure (h0 : evIt P cl it σ h = .ok (.pure xs) h1) (h3 : lcP t (fun σ h => evC P cl c σ h) (fun σ h => evE P cl e σ h) (wipe σ own) xs [] h1 = .ok ws h2) : evE P cl (.lc e t it c own) σ h = .ok (.ref h2.length) (h2 ++ [.lst ws]) := by
  rw [ev_lc]
  show ((evIt P cl it σ h).bind fun s h1 => (lcS t (fun σ h => evC P cl c σ h) (fun σ h => evE P cl e σ h) (wipe σ own) s h1).bind fun ws h2 => newL ws h2) = _
  rw [h0]
  show ((lcP t (fun σ h => evC P cl c σ h) (fun σ h => evE P cl e σ h) (wipe σ own) xs [] h1).bind fun ws h2 => newL ws h2) = _
  rw [h3]
  rfl
theorem lc_live {n : Nat} (h0 : evIt P cl it σ h = .ok (.live n) h1) (hl : lstAt h1 n = some xs) (h3 : lcL t (fun σ h => evC P cl c σ h) (fun σ h => evE P cl e σ h) (wipe σ own) n (xs.length + 1) 0 [] h1 = .ok ws h2) : evE P cl (.lc e t it c own) σ h = .ok (.ref h2.length) (h2 ++ [.lst ws]) := by
  rw [ev_lc]
  show ((evIt P cl it σ h).bind fun s h1 => (lcS t (fun σ h => evC P cl c σ h) (fun σ h => evE P cl e σ h) (wipe σ own) s h1).bind fun ws h2 => newL ws h2) = _
  rw [h0]
  show ((lcL t (fun σ h => evC P cl c σ h) (fun σ h => evE P cl e σ h) (wipe σ own) n (fuelL h1 n) 0 [] h1).bind fun ws h2 => newL ws h2) = _
  rw [fuelL, hl]
  show ((lcL t (fun σ h => evC P cl c σ h) (fun σ h => evE P cl e σ h) (wipe σ own) n (xs.length + 1) 0 [] h1).bind fun ws h2 => newL ws h2) = _
  rw [h3]
  rfl
theorem for_pure (h0 : evIt P cl it σ h = .ok (.pure xs) h1) : evS P cl (.for_ t it b) σ h = forP t (fun σ h => evSs P cl b σ h) xs σ h1 := by
  rw [es_for]
  show ((evIt P cl it σ h).bind fun s h1 => forS t (fun σ h => evSs P cl b σ h) σ s h1) = _
  rw [h0]
  rfl
end
section
variable {P : Prog} {cl : Nat → List W → Hm → R W} {σ σ1 : Env} {h h1 : Hm} {e t : E} {i : Nat} {w : W} {s : S} {r a b : Ss} {x : R Fl}
theorem seq_nx (e : evS P cl s σ h = .ok (.nx σ1) h1) : evSs P cl (.cons s r) σ h = evSs P cl r σ1 h1 := by
  rw [es_cons]
  show ((evS P cl s σ h).bind fun f h1 => seqF (fun σ h => evSs P cl r σ h) f h1) = _
  rw [e]
  rfl
theorem seq_rt (e : evS P cl s σ h = .ok (.rt w) h1) : evSs P cl (.cons s r) σ h = .ok (.rt w) h1 := by
  rw [es_cons]
  show ((evS P cl s σ h).bind fun f h1 => seqF (fun σ h => evSs P cl r σ h) f h1) = _
  rw [e]
  rfl
theorem asg_nx (e0 : evE P cl e σ h = .ok w h1) : evS P cl (.asg (.nm i) e) σ h = .ok (.nx (σ.set i (some w))) h1 := by
  rw [es_asg]
  show ((evE P cl e σ h).bind fun w h1 => asgR (.nm i) σ w h1) = _
  rw [e0]
  rfl
theorem ret_rt (e0 : evE P cl e σ h = .ok w h1) : evS P cl (.ret e) σ h = .ok (.rt w) h1 := by
  rw [es_ret]
  show ((evE P cl e σ h).bind fun w h1 => R.ok (Fl.rt w) h1) = _
  rw [e0]
  rfl
theorem ex_nx (e0 : evE P cl e σ h = .ok w h1) : evS P cl (.ex e) σ h = .ok (.nx σ) h1 := by
  rw [es_ex]
  show ((evE P cl e σ h).bind fun _ h1 => R.ok (Fl.nx σ) h1) = _
  rw [e0]
  rfl
theorem if_tt (e0 : tmT (evE P cl t) σ h = .ok true h1) : evS P cl (.if_ t a b) σ h = evSs P cl a σ h1 := by
  rw [es_if]
  show ((tmT (evE P cl t) σ h).bind fun k h1 => brB k (evSs P cl a σ h1) (evSs P cl b σ h1)) = _
  rw [e0]
  rfl
theorem if_ff (e0 : tmT (evE P cl t) σ h = .ok false h1) : evS P cl (.if_ t a b) σ h = evSs P cl b σ h1 := by
  rw [es_if]
  show ((tmT (evE P cl t) σ h).bind fun k h1 => brB k (evSs P cl a σ h1) (evSs P cl b σ h1)) = _
  rw [e0]
  rfl
theorem es_one {x : W} {a : E} (e0 : evE P cl a σ h = .ok x h1) : evEs P cl (.cons a .nil) σ h = .ok [x] h1 := by
  rw [ev_cons]
  show ((evE P cl a σ h).bind fun x h1 => (evEs P cl .nil σ h1).bind fun xs h2 => R.ok (x :: xs) h2) = _
  rw [e0, ev_nil]
  rfl
theorem es_more {x : W} {xs : List W} {a : E} {as : Es} {h2 : Hm} (e0 : evE P cl a σ h = .ok x h1) (e1 : evEs P cl as σ h1 = .ok xs h2) : evEs P cl (.cons a as) σ h = .ok (x :: xs) h2 := by
  rw [ev_cons]
  show ((evE P cl a σ h).bind fun x h1 => (evEs P cl as σ h1).bind fun xs h2 => R.ok (x :: xs) h2) = _
  rw [e0]
  show ((evEs P cl as σ h1).bind fun xs h2 => R.ok (x :: xs) h2) = _
  rw [e1]
  rfl
theorem call_ok {as : Es} {f : Nat} {ws : List W} {r : R W} (e0 : evEs P cl as σ h = .ok ws h1) (e1 : cl f ws h1 = r) : evE P cl (.call f as) σ h = r := by
  rw [ev_call]
  show ((evEs P cl as σ h).bind fun ws h1 => cl f ws h1) = _
  rw [e0]
  exact e1
theorem tm_not {a : E} {b : Bool} (e0 : evE P cl a σ h = .ok (.bl b) h1) : tmT (evE P cl (.not_ a)) σ h = .ok (!b) h1 := by
  unfold tmT
  rw [ev_not]
  show ((((evE P cl a σ h).bind fun x h1 => (truR x h1).bind fun k h2 => R.ok (.bl (!k)) h2)).bind fun x h1 => truR x h1) = _
  rw [e0]
  rfl
theorem v_ok {i : Nat} {w : W} (e0 : σ[i]? = some (some w)) : evE P cl (.v i) σ h = .ok w h := by
  rw [ev_v]
  show getV σ i h = _
  unfold getV
  rw [e0]
theorem k_ok {w : W} : evE P cl (.k w) σ h = .ok w h := by rw [ev_k]
theorem nil_nx : evSs P cl .nil σ h = .ok (.nx σ) h := by rw [es_nil]
end
theorem for_live {P : Prog} {cl : Nat → List W → Hm → R W} {σ : Env} {h h1 : Hm} {t : Tg} {it : It} {b : Ss} {n : Nat} {xs : List W} (h0 : evIt P cl it σ h = .ok (.live n) h1) (hl : lstAt h1 n = some xs) : evS P cl (.for_ t it b) σ h = forL t (fun σ h => evSs P cl b σ h) n (xs.length + 1) 0 σ h1 := by
  rw [es_for]
  show ((evIt P cl it σ h).bind fun s h1 => forS t (fun σ h => evSs P cl b σ h) σ s h1) = _
  rw [h0]
  show forL t (fun σ h => evSs P cl b σ h) n (fuelL h1 n) 0 σ h1 = _
  rw [fuelL, hl]
theorem r1_pure {P : Prog} {cl : Nat → List W → Hm → R W} {σ : Env} {h h1 : Hm} {e : E} {j : Int} (h0 : evE P cl e σ h = .ok (.int j) h1) (hj : in62 j = true) : evIt P cl (.r1 e) σ h = .ok (.pure (rangeW 0 j.toNat)) h1 := by
  rw [ev_r1]
  show ((evE P cl e σ h).bind fun x h1 => srcR1 x h1) = _
  rw [h0]
  show (if in62 j = true then R.ok (Src.pure (rangeW 0 j.toNat)) h1 else R.no) = _
  rw [hj]
  rfl
theorem range_len (lo : Int) (n : Nat) : (rangeW lo n).length = n := by simp [rangeW]
theorem mem_range {lo : Int} {n : Nat} {x : W} (h : x ∈ rangeW lo n) : ∃ i : Nat, i < n ∧ x = .int (lo + i) := by
  simp [rangeW] at h
  obtain ⟨a, h1, h2⟩ := h
  exact ⟨a, h1, h2.symm⟩
/-- data of a tuple of ints -/
theorem mapO_ints (h : Hm) (n : Nat) : ∀ is : List Int, mapO (toD h (n + 1)) (is.map .int) = some (is.map .int)
  | [] => rfl
  | i :: is => by
    have ih := mapO_ints h n is
    rw [List.map_cons, mapO, ih]
    rfl
theorem toD_ints (h : Hm) (n : Nat) (is : List Int) : toD h (n + 2) (.tup (is.map .int)) = some (.tup (is.map .int)) := by
  rw [toD, mapO_ints]
  rfl
theorem dd_non (h : Hm) : toD h DD .non = some .non := rfl
theorem dd_bl (h : Hm) (b : Bool) : toD h DD (.bl b) = some (.bl b) := rfl
theorem dd_int (h : Hm) (i : Int) : toD h DD (.int i) = some (.int i) := rfl
theorem dd_str (h : Hm) (s : List Nat) : toD h DD (.str s) = some (.str s) := rfl
theorem dd_ints (h : Hm) (is : List Int) : toD h DD (.tup (is.map .int)) = some (.tup (is.map .int)) := toD_ints h 28 is
theorem cut_map {α β : Type} (f : α → β) (xs : List α) (lo hi : Option Int) : cut (xs.map f) lo hi = (cut xs lo hi).map f := by
  simp [cut, List.map_take, List.map_drop]
theorem eqD_refl_ints : ∀ is : List Int, eqDs (is.map .int) (is.map .int) = true
  | [] => rfl
  | i :: is => by
    show (eqD (.int i) (.int i) && eqDs (is.map .int) (is.map .int)) = true
    rw [eqD_refl_ints is]
    simp [eqD]
theorem intsO_map : ∀ is : List Int, intsO (is.map .int) = some is
  | [] => rfl
  | i :: is => by
    show (intsO (is.map .int)).map (i :: ·) = _
    rw [intsO_map is]
    rfl
theorem sum_cast : ∀ is : List Nat, (is.map fun (i : Nat) => (i : Int)).sum = ((is.sum : Nat) : Int)
  | [] => rfl
  | i :: is => by
    rw [List.map_cons, List.sum_cons, List.sum_cons, sum_cast is]
    omega
theorem dd_lints {h : Hm} {m : Nat} {is : List Int} (e : lstAt h m = some (is.map .int)) : toD h DD (.ref m) = some (.lst (is.map .int)) := by
  rw [DD, toD]
  simp only [e, mapO_ints]
  rfl
theorem any_mem (c : Int) : ∀ is : List Int, ((is.map D.int).any fun z => eqD z (.int c)) = decide (c ∈ is)
  | [] => by simp
  | i :: is => by
    rw [List.map_cons, List.any_cons, any_mem c is]
    have e : eqD (.int i) (.int c) = (i == c) := rfl
    rw [e, Bool.eq_iff_iff]
    simp
    rw [eq_comm]
theorem in_ints {h : Hm} {m : Nat} {is : List Int} {c : Int} (n : Bool) (e : lstAt h m = some (is.map .int)) : inR n (.int c) (.ref m) h = .ok (.bl (if n then !decide (c ∈ is) else decide (c ∈ is))) h := by
  have e1 : inW h (.int c) (.ref m) = some (decide (c ∈ is)) := by
    show (match toD h DD (.int c), toD h DD (.ref m) with
      | some d, some (.lst ds) => some (ds.any fun z => eqD z d)
      | some d, some (.tup ds) => some (ds.any fun z => eqD z d)
      | _, _ => none) = _
    rw [dd_int, dd_lints e]
    show some ((is.map D.int).any fun z => eqD z (.int c)) = _
    rw [any_mem]
  unfold inR
  rw [e1]
theorem eq_nil {h : Hm} {m p : Nat} {is : List Int} (n : Bool) (e : lstAt h m = some (is.map .int)) (e2 : lstAt h p = some []) : eqR n (.ref m) (.ref p) h = .ok (.bl (if n then !is.isEmpty else is.isEmpty)) h := by
  have e3 := dd_lints (is := []) (h := h) (m := p) e2
  unfold eqR eqW
  rw [dd_lints e, e3]
  cases is <;> rfl
/-- a loop that ends early where p is false; the heap stays -/
theorem forP_all {t : Tg} {body : Env → Hm → R Fl} {h : Hm} {r : W} (p : W → Bool) (I : Env → Prop) : ∀ (xs : List W), (∀ x ∈ xs, ∀ σ, I σ → ∃ σ1, asgT t x σ h = some σ1 ∧ (p x = true → ∃ σ2, body σ1 h = .ok (.nx σ2) h ∧ I σ2) ∧ (p x = false → body σ1 h = .ok (.rt r) h)) →
    ∀ σ, I σ → (xs.all p = true ∧ ∃ σ2, forP t body xs σ h = .ok (.nx σ2) h ∧ I σ2) ∨ (xs.all p = false ∧ forP t body xs σ h = .ok (.rt r) h)
  | [], _, σ, i => .inl ⟨rfl, σ, rfl, i⟩
  | x :: xs, hb, σ, i => by
    obtain ⟨σ1, e1, e2, e3⟩ := hb x (List.mem_cons_self ..) σ i
    rw [forP, e1, List.all_cons]
    cases hp : p x with
    | false =>
      refine .inr ⟨rfl, ?_⟩
      simp only [e3 hp]
    | true =>
      obtain ⟨σ2, e4, i2⟩ := e2 hp
      simp only [e4, Bool.true_and]
      exact forP_all p I xs (fun y hy => hb y (List.mem_cons_of_mem _ hy)) σ2 i2
theorem mapO_strs (h : Hm) (n : Nat) : ∀ ss : List (List Nat), mapO (toD h (n + 1)) (ss.map .str) = some (ss.map .str)
  | [] => rfl
  | s :: ss => by
    have ih := mapO_strs h n ss
    rw [List.map_cons, mapO, ih]
    rfl
theorem dd_strs (h : Hm) (ss : List (List Nat)) : toD h DD (.tup (ss.map .str)) = some (.tup (ss.map .str)) := by
  rw [DD, toD, mapO_strs]
  rfl
theorem dd_lstrs {h : Hm} {m : Nat} {ss : List (List Nat)} (e : lstAt h m = some (ss.map .str)) : toD h DD (.ref m) = some (.lst (ss.map .str)) := by
  rw [DD, toD]
  simp only [e, mapO_strs]
  rfl
theorem any_strs (c : List Nat) : ∀ ss : List (List Nat), ((ss.map D.str).any fun z => eqD z (.str c)) = decide (c ∈ ss)
  | [] => by simp
  | s :: ss => by
    rw [List.map_cons, List.any_cons, any_strs c ss]
    have e : eqD (.str s) (.str c) = (s == c) := rfl
    rw [e, Bool.eq_iff_iff]
    simp
    rw [eq_comm]
theorem in_tstrs {h : Hm} {ss : List (List Nat)} {c : List Nat} (n : Bool) : inR n (.str c) (.tup (ss.map .str)) h = .ok (.bl (if n then !decide (c ∈ ss) else decide (c ∈ ss))) h := by
  have e1 : inW h (.str c) (.tup (ss.map .str)) = some (decide (c ∈ ss)) := by
    show (match toD h DD (.str c), toD h DD (.tup (ss.map .str)) with
      | some d, some (.lst ds) => some (ds.any fun z => eqD z d)
      | some d, some (.tup ds) => some (ds.any fun z => eqD z d)
      | _, _ => none) = _
    rw [dd_str, dd_strs]
    show some ((ss.map D.str).any fun z => eqD z (.str c)) = _
    rw [any_strs]
  unfold inR
  rw [e1]
theorem in_lstrs {h : Hm} {m : Nat} {ss : List (List Nat)} {c : List Nat} (n : Bool) (e : lstAt h m = some (ss.map .str)) : inR n (.str c) (.ref m) h = .ok (.bl (if n then !decide (c ∈ ss) else decide (c ∈ ss))) h := by
  have e1 : inW h (.str c) (.ref m) = some (decide (c ∈ ss)) := by
    show (match toD h DD (.str c), toD h DD (.ref m) with
      | some d, some (.lst ds) => some (ds.any fun z => eqD z d)
      | some d, some (.tup ds) => some (ds.any fun z => eqD z d)
      | _, _ => none) = _
    rw [dd_str, dd_lstrs e]
    show some ((ss.map D.str).any fun z => eqD z (.str c)) = _
    rw [any_strs]
  unfold inR
  rw [e1]
theorem in_sign {h : Hm} {c : Nat} {t : List Nat} (n : Bool) : inR n (.str [c]) (.str t) h = .ok (.bl (if n then !decide (c ∈ t) else decide (c ∈ t))) h := rfl
theorem eq_nils {h : Hm} {m p : Nat} {ss : List (List Nat)} (n : Bool) (e : lstAt h m = some (ss.map .str)) (e2 : lstAt h p = some []) : eqR n (.ref m) (.ref p) h = .ok (.bl (if n then !ss.isEmpty else ss.isEmpty)) h := by
  have e3 := dd_lstrs (ss := []) (h := h) (m := p) e2
  unfold eqR eqW
  rw [dd_lstrs e, e3]
  cases ss <;> rfl
theorem atI_nat {α : Type} {xs : List α} {r : Nat} {x : α} (e : xs[r]? = some x) : atI xs (r : Int) = some x := by
  have hl : r < xs.length := (List.getElem?_eq_some_iff.mp e).1
  have h1 : (0 : Int) ≤ (r : Int) := by omega
  have h2 : (r : Int) < (xs.length : Int) := by omega
  simp only [atI, ixN, h1, h2, if_true, Option.bind_some, Int.toNat_natCast]
  exact e
theorem ixL_nat {xs : List W} {r : Nat} {w : W} {h : Hm} (e : xs[r]? = some w) : ixL xs (.int (r : Int)) h = .ok w h := by
  show retO (atI xs (r : Int)) h = _
  rw [atI_nat e]
  rfl
theorem ixS_nat {s : List Nat} {r : Nat} {c : Nat} {h : Hm} (e : s[r]? = some c) : ixS s (.int (r : Int)) h = .ok (.str [c]) h := by
  show retO ((atI s (r : Int)).map fun c => .str [c]) h = _
  rw [atI_nat e]
  rfl
theorem ix_ok {P : Prog} {cl : Nat → List W → Hm → R W} {σ : Env} {h h1 h2 : Hm} {a i : E} {x y : W} {r : R W} (e0 : evE P cl a σ h = .ok x h1) (e1 : evE P cl i σ h1 = .ok y h2) (e2 : ixR x y h2 = r) : evE P cl (.ix a i) σ h = r := by
  rw [ev_ix]
  show ((evE P cl a σ h).bind fun x h1 => (evE P cl i σ h1).bind fun y h2 => ixR x y h2) = _
  rw [e0]
  show ((evE P cl i σ h1).bind fun y h2 => ixR x y h2) = _
  rw [e1]
  exact e2
theorem bin_ok {P : Prog} {cl : Nat → List W → Hm → R W} {σ : Env} {h h1 h2 : Hm} {o : BOp} {a b : E} {x y : W} {r : R W} (e0 : evE P cl a σ h = .ok x h1) (e1 : evE P cl b σ h1 = .ok y h2) (e2 : binop o x y h2 = r) : evE P cl (.bin o a b) σ h = r := by
  rw [ev_bin]
  show ((evE P cl a σ h).bind fun x h1 => (evE P cl b σ h1).bind fun y h2 => binop o x y h2) = _
  rw [e0]
  show ((evE P cl b σ h1).bind fun y h2 => binop o x y h2) = _
  rw [e1]
  exact e2
theorem cmp_ok {P : Prog} {cl : Nat → List W → Hm → R W} {σ : Env} {h h1 h2 : Hm} {o : COp} {a b : E} {x y : W} {r : R W} (e0 : evE P cl a σ h = .ok x h1) (e1 : evE P cl b σ h1 = .ok y h2) (e2 : cmpop o x y h2 = r) : evE P cl (.cmp o a b) σ h = r := by
  rw [ev_cmp]
  show ((evE P cl a σ h).bind fun x h1 => (evE P cl b σ h1).bind fun y h2 => cmpop o x y h2) = _
  rw [e0]
  show ((evE P cl b σ h1).bind fun y h2 => cmpop o x y h2) = _
  rw [e1]
  exact e2
theorem lst_ok {P : Prog} {cl : Nat → List W → Hm → R W} {σ : Env} {h h1 : Hm} {as : Es} {ws : List W} (e0 : evEs P cl as σ h = .ok ws h1) : evE P cl (.lst as) σ h = .ok (.ref h1.length) (h1 ++ [.lst ws]) := by
  rw [ev_lst]
  show ((evEs P cl as σ h).bind fun ws h1 => newL ws h1) = _
  rw [e0]
  rfl
theorem bi_ok {P : Prog} {cl : Nat → List W → Hm → R W} {σ : Env} {h h1 : Hm} {as : Es} {ws : List W} {b : BI} {r : R W} (e0 : evEs P cl as σ h = .ok ws h1) (e1 : biR b ws h1 = r) : evE P cl (.bi b as) σ h = r := by
  rw [ev_bi]
  show ((evEs P cl as σ h).bind fun ws h1 => biR b ws h1) = _
  rw [e0]
  exact e1
theorem add_str {s t : List Nat} {h : Hm} (hz : s.length + t.length ≤ SZ) : binop .add (.str s) (.str t) h = .ok (.str (s ++ t)) h := by
  show (if s.length + t.length ≤ SZ then R.ok (W.str (s ++ t)) h else .no) = _
  rw [if_pos hz]
theorem tm_of {P : Prog} {cl : Nat → List W → Hm → R W} {σ : Env} {h h1 : Hm} {a : E} {b : Bool} (e0 : evE P cl a σ h = .ok (.bl b) h1) : tmT (evE P cl a) σ h = .ok b h1 := by
  unfold tmT
  rw [e0]
  rfl
theorem or_tt {P : Prog} {cl : Nat → List W → Hm → R W} {σ : Env} {h h1 : Hm} {a b : E} (e0 : evE P cl a σ h = .ok (.bl true) h1) : evE P cl (.or_ a b) σ h = .ok (.bl true) h1 := by
  rw [ev_or]
  show ((evE P cl a σ h).bind fun x h1 => (truR x h1).bind fun k h2 => brB k (R.ok x h2) (evE P cl b σ h2)) = _
  rw [e0]
  rfl
theorem or_ff {P : Prog} {cl : Nat → List W → Hm → R W} {σ : Env} {h h1 : Hm} {a b : E} {r : R W} (e0 : evE P cl a σ h = .ok (.bl false) h1) (e1 : evE P cl b σ h1 = r) : evE P cl (.or_ a b) σ h = r := by
  rw [ev_or]
  show ((evE P cl a σ h).bind fun x h1 => (truR x h1).bind fun k h2 => brB k (R.ok x h2) (evE P cl b σ h2)) = _
  rw [e0]
  exact e1
theorem and_ff {P : Prog} {cl : Nat → List W → Hm → R W} {σ : Env} {h h1 : Hm} {a b : E} (e0 : evE P cl a σ h = .ok (.bl false) h1) : evE P cl (.and_ a b) σ h = .ok (.bl false) h1 := by
  rw [ev_and]
  show ((evE P cl a σ h).bind fun x h1 => (truR x h1).bind fun k h2 => brB k (evE P cl b σ h2) (R.ok x h2)) = _
  rw [e0]
  rfl
theorem and_tt {P : Prog} {cl : Nat → List W → Hm → R W} {σ : Env} {h h1 : Hm} {a b : E} {r : R W} (e0 : evE P cl a σ h = .ok (.bl true) h1) (e1 : evE P cl b σ h1 = r) : evE P cl (.and_ a b) σ h = r := by
  rw [ev_and]
  show ((evE P cl a σ h).bind fun x h1 => (truR x h1).bind fun k h2 => brB k (evE P cl b σ h2) (R.ok x h2)) = _
  rw [e0]
  exact e1
theorem glob_ok {P : Prog} {cl : Nat → List W → Hm → R W} {σ : Env} {h : Hm} {i : Nat} {w : W} (e0 : P.glob i = some w) : evE P cl (.g i) σ h = .ok w h := by
  rw [ev_g]
  show retO (P.glob i) h = _
  rw [e0]
  rfl
end Py
end
section
/-! the data of this law's head, printed by gen.py -/
namespace Q
open Py
abbrev row : PySem.W.OpenRow := PySem.W.OpenLaw.row PySem.Challenge.rw_nobodyspeaks_k03_names
def top (i : Nat) : PySem.Stmt := PySem.Challenge.pw_nobodyspeaks_k03_names.main.body.getD i (.Pass ⟨0, 0, 0, 0⟩)
def inClass (s : PySem.Stmt) (j : Nat) : PySem.Stmt := L2.inClass s j
def str (x : String) : PySem.Str := PySem.Str.ofString x
def mkD (g : String) (m : Option String) (n q : String) (s : PySem.Stmt) (N : List PySem.Str) (k : Nat) : Def := ⟨⟨(str g, m.map str), str n, str q, L2.defArgs s, L2.defBody s, L2.defScope s⟩, N, N.take k⟩
/-- law -/
def d0 : Def := mkD "law" none "law" "law" (top 12) ([str "_law_script", str "_law_state_here", str "_law_k", str "_law_text", str "_law_word"]) 1
def b0 : Ss := .cons (.asg (.nm 1) (.call 1 (.cons (.v 0) .nil))) (.cons (.for_ (.nm 2) (.r1 (.bin .add (.k (.int 3)) (.bi .min (.cons (.k (.int 60)) (.cons (.bi .len (.cons (.v 0) .nil)) .nil))))) (.cons (.asg (.nm 3) (.call 2 (.cons (.v 1) .nil))) (.cons (.if_ (.not_ (.call 3 (.cons (.call 4 (.cons (.v 3) .nil)) (.cons (.call 5 (.cons (.v 3) .nil)) .nil)))) (.cons (.ret (.k (.bl false))) .nil) .nil) .nil))) (.cons (.ret (.cmp .eq (.lc (.v 4) (.nm 4) (.val (.call 6 .nil)) (.some (.isB true false (.call 4 (.cons (.v 4) .nil)))) [4]) (.lst .nil))) .nil))
def f0 : FnD := ⟨1, 5, b0⟩
/-- _law_state -/
def d1 : Def := mkD "_law_state" none "_law_state" "_law_state" (top 6) ([str "_law_script"]) 1
def b1 : Ss := .cons (.ret (.lst (.cons (.bi .list (.cons (.v 0) .nil)) (.cons (.k (.int 0)) (.cons (.k (.int 7)) .nil))))) .nil
def f1 : FnD := ⟨1, 1, b1⟩
/-- _law_drawn -/
def d2 : Def := mkD "_law_drawn" none "_law_drawn" "_law_drawn" (top 10) ([str "_law_state_here", str "_law_small", str "_law_every", str "_law_word", str "_law_text", str "_law_k", str "_law_place"]) 1
def b2 : Ss := .cons (.asg (.nm 1) (.k (.str [97, 98, 99, 100, 101, 102, 103, 104, 105, 106, 107, 108, 109, 110, 111, 112, 113, 114, 115, 116, 117, 118, 119, 120, 121, 122, 48, 49, 50, 51, 52, 53, 54, 55, 56, 57]))) (.cons (.asg (.nm 2) (.k (.str [32, 33, 34, 35, 36, 38, 39, 40, 41, 42, 43, 44, 45, 46, 47, 58, 59, 60, 61, 62, 63, 64, 65, 66, 67, 68, 69, 70, 71, 72, 73, 74, 75, 76, 77, 78, 79, 80, 81, 82, 83, 84, 85, 86, 87, 88, 89, 90, 91, 92, 93, 94, 95, 96, 123, 124, 125, 126]))) (.cons (.if_ (.cmp .eq (.call 7 (.cons (.v 0) (.cons (.k (.int 3)) .nil))) (.k (.int 0))) (.cons (.asg (.nm 3) (.ix (.call 6 .nil) (.call 7 (.cons (.v 0) (.cons (.k (.int 42)) .nil))))) (.cons (.ret (.ix (.lst (.cons (.v 3) (.cons (.bin .add (.v 3) (.ix (.v 1) (.call 7 (.cons (.v 0) (.cons (.k (.int 36)) .nil))))) (.cons (.sl (.v 3) (.some (.k (.int 1))) .none) (.cons (.sl (.v 3) .none (.some (.neg (.k (.int 1))))) (.cons (.bm .upper (.v 3) .nil) .nil)))))) (.call 7 (.cons (.v 0) (.cons (.k (.int 5)) .nil))))) .nil)) .nil) (.cons (.asg (.nm 4) (.k (.str []))) (.cons (.for_ (.nm 5) (.r1 (.call 7 (.cons (.v 0) (.cons (.k (.int 15)) .nil)))) (.cons (.asg (.nm 4) (.bin .add (.v 4) (.ix (.v 1) (.call 7 (.cons (.v 0) (.cons (.ix (.lst (.cons (.k (.int 36)) (.cons (.k (.int 26)) .nil))) (.bi .int (.cons (.and_ (.cmp .eq (.v 5) (.k (.int 0))) (.cmp .gt (.call 7 (.cons (.v 0) (.cons (.k (.int 4)) .nil))) (.k (.int 0)))) .nil))) .nil)))))) .nil)) (.cons (.if_ (.and_ (.cmp .ne (.v 4) (.k (.str []))) (.cmp .eq (.call 7 (.cons (.v 0) (.cons (.k (.int 4)) .nil))) (.k (.int 0)))) (.cons (.asg (.nm 6) (.call 7 (.cons (.v 0) (.cons (.bi .len (.cons (.v 4) .nil)) .nil)))) (.cons (.asg (.nm 4) (.bin .add (.bin .add (.sl (.v 4) .none (.some (.v 6))) (.ix (.v 2) (.call 7 (.cons (.v 0) (.cons (.bi .len (.cons (.v 2) .nil)) .nil))))) (.sl (.v 4) (.some (.bin .add (.v 6) (.k (.int 1)))) .none))) .nil)) .nil) (.cons (.ret (.v 4)) .nil))))))
def f2 : FnD := ⟨1, 7, b2⟩
/-- _law_same -/
def d3 : Def := mkD "_law_same" none "_law_same" "_law_same" (top 8) ([str "_law_actual", str "_law_due_here", str "_law_k"]) 2
def b3 : Ss := .cons (.if_ (.isN (.v 1)) (.cons (.ret (.isN (.v 0))) .nil) .nil) (.cons (.if_ (.bi (.isi .bool) (.cons (.v 1) .nil)) (.cons (.ret (.and_ (.bi (.isi .bool) (.cons (.v 0) .nil)) (.cmp .eq (.v 0) (.v 1)))) .nil) .nil) (.cons (.if_ (.bi (.isi .int) (.cons (.v 1) .nil)) (.cons (.ret (.and_ (.bi (.isi .int) (.cons (.v 0) .nil)) (.and_ (.not_ (.bi (.isi .bool) (.cons (.v 0) .nil))) (.cmp .eq (.v 0) (.v 1))))) .nil) .nil) (.cons (.if_ (.bi (.isi .str) (.cons (.v 1) .nil)) (.cons (.ret (.and_ (.bi (.isi .str) (.cons (.v 0) .nil)) (.cmp .eq (.v 0) (.v 1)))) .nil) .nil) (.cons (.if_ (.or_ (.cmp .ne (.bi (.isi .list) (.cons (.v 1) .nil)) (.bi (.isi .list) (.cons (.v 0) .nil))) (.cmp .ne (.bi (.isi .tuple) (.cons (.v 1) .nil)) (.bi (.isi .tuple) (.cons (.v 0) .nil)))) (.cons (.ret (.k (.bl false))) .nil) .nil) (.cons (.if_ (.cmp .ne (.bi .len (.cons (.v 0) .nil)) (.bi .len (.cons (.v 1) .nil))) (.cons (.ret (.k (.bl false))) .nil) .nil) (.cons (.for_ (.nm 2) (.r1 (.bi .len (.cons (.v 1) .nil))) (.cons (.if_ (.not_ (.call 3 (.cons (.ix (.v 0) (.v 2)) (.cons (.ix (.v 1) (.v 2)) .nil)))) (.cons (.ret (.k (.bl false))) .nil) .nil) .nil)) (.cons (.ret (.k (.bl true))) .nil)))))))
def f3 : FnD := ⟨2, 3, b3⟩
/-- is_name -/
def d4 : Def := mkD "is_name" none "is_name" "is_name" (top 4) ([str "text", str "sign"]) 1
def b4 : Ss := .cons (.if_ (.or_ (.cmp .lt (.bi .len (.cons (.v 0) .nil)) (.k (.int 1))) (.or_ (.cmp .gt (.bi .len (.cons (.v 0) .nil)) (.k (.int 12))) (.cmp .in_ (.v 0) (.g 1)))) (.cons (.ret (.k (.bl false))) .nil) .nil) (.cons (.if_ (.cmp .nin (.ix (.v 0) (.k (.int 0))) (.g 0)) (.cons (.ret (.k (.bl false))) .nil) .nil) (.cons (.for_ (.nm 1) (.val (.v 0)) (.cons (.if_ (.and_ (.cmp .nin (.v 1) (.g 0)) (.cmp .nin (.v 1) (.g 2))) (.cons (.ret (.k (.bl false))) .nil) .nil) .nil)) (.cons (.ret (.k (.bl true))) .nil)))
def f4 : FnD := ⟨1, 2, b4⟩
/-- _law_due -/
def d5 : Def := mkD "_law_due" none "_law_due" "_law_due" (top 11) ([str "_law_text", str "_law_sign"]) 1
def b5 : Ss := .cons (.if_ (.or_ (.cmp .lt (.bi .len (.cons (.v 0) .nil)) (.k (.int 1))) (.or_ (.cmp .gt (.bi .len (.cons (.v 0) .nil)) (.k (.int 12))) (.or_ (.cmp .in_ (.v 0) (.call 6 .nil)) (.cmp .nin (.ix (.v 0) (.k (.int 0))) (.k (.str [97, 98, 99, 100, 101, 102, 103, 104, 105, 106, 107, 108, 109, 110, 111, 112, 113, 114, 115, 116, 117, 118, 119, 120, 121, 122])))))) (.cons (.ret (.k (.bl false))) .nil) .nil) (.cons (.ret (.cmp .eq (.lc (.v 1) (.nm 1) (.val (.v 0)) (.some (.cmp .nin (.v 1) (.k (.str [97, 98, 99, 100, 101, 102, 103, 104, 105, 106, 107, 108, 109, 110, 111, 112, 113, 114, 115, 116, 117, 118, 119, 120, 121, 122, 48, 49, 50, 51, 52, 53, 54, 55, 56, 57])))) [1]) (.lst .nil))) .nil)
def f5 : FnD := ⟨1, 2, b5⟩
/-- _law_kept -/
def d6 : Def := mkD "_law_kept" none "_law_kept" "_law_kept" (top 9) ([str "_law_words"]) 0
def b6 : Ss := .cons (.asg (.nm 0) (.k (.str [115, 121, 115, 116, 101, 109, 32, 100, 111, 109, 97, 105, 110, 32, 99, 104, 97, 110, 110, 101, 108, 32, 112, 101, 114, 115, 111, 110, 32, 99, 101, 108, 108, 32, 116, 111, 111, 108, 32, 102, 117, 110, 99, 116, 105, 111, 110, 32, 116, 97, 115, 107, 32, 103, 105, 118, 101, 115, 32, 98, 111, 100, 121, 32, 98, 101, 103, 105, 110, 32, 101, 110, 100, 32, 121, 101, 115, 32, 112, 111, 108, 105, 99, 121, 32, 115, 116, 97, 114, 116, 32, 116, 101, 120, 116, 32, 97, 110, 121, 32, 97, 108, 108, 111, 119]))) (.cons (.asg (.nm 0) (.bin .add (.v 0) (.k (.str [32, 100, 101, 110, 121, 32, 97, 110, 121, 111, 110, 101, 32, 110, 111, 98, 111, 100, 121, 32, 102, 114, 111, 109, 32, 97, 108, 119, 97, 121, 115, 32, 119, 105, 116, 104, 32, 101, 108, 115, 101, 32, 101, 100, 105, 116, 32, 99, 117, 116, 32, 114, 101, 97, 100, 32, 99, 104, 111, 111, 115, 101, 32, 119, 114, 105, 116, 101, 32, 116, 97, 107, 101, 32, 116, 114, 117, 115, 116, 32, 115, 101, 116, 32, 99, 111, 112, 121, 32, 107, 101, 101, 112])))) (.cons (.ret (.bm .split (.bin .add (.v 0) (.k (.str [32, 114, 101, 99, 97, 108, 108, 32, 105, 102, 32, 99, 97, 108, 108, 32, 112, 111, 115, 116, 32, 97, 115, 107, 32, 100, 111, 32, 114, 101, 116, 117, 114, 110]))) (.cons (.k (.str [32])) .nil))) .nil))
def f6 : FnD := ⟨0, 1, b6⟩
/-- _law_pick -/
def d7 : Def := mkD "_law_pick" none "_law_pick" "_law_pick" (top 7) ([str "_law_state_here", str "_law_many", str "_law_cell", str "_law_picked", str "_law_mixed"]) 2
def b7 : Ss := .cons (.if_ (.and_ (.cmp .le (.ix (.v 0) (.k (.int 1))) (.k (.int 1))) (.cmp .ne (.ix (.v 0) (.k (.int 0))) (.lst .nil))) (.cons (.asg (.nm 2) (.bm .popAt (.ix (.v 0) (.k (.int 0))) (.cons (.k (.int 0)) .nil))) (.cons (.if_ (.cmp .ge (.v 2) (.bin .pow (.k (.int 10)) (.k (.int 18)))) (.cons (.setIx (.v 0) (.k (.int 1)) (.bin .sub (.v 2) (.bin .pow (.k (.int 10)) (.k (.int 18))))) .nil) (.cons (.setIx (.v 0) (.k (.int 2)) (.bin .mod (.bi .int (.cons (.bin .add (.bin .mul (.ix (.v 0) (.k (.int 2))) (.k (.int 16807))) (.v 2)) .nil)) (.k (.int 2147483647)))) .nil)) .nil)) .nil) (.cons (.if_ (.cmp .gt (.ix (.v 0) (.k (.int 1))) (.k (.int 1))) (.cons (.asg (.nm 3) (.bin .mod (.bi .int (.cons (.ix (.v 0) (.k (.int 1))) .nil)) (.v 1))) (.cons (.setIx (.v 0) (.k (.int 1)) (.bin .fdiv (.ix (.v 0) (.k (.int 1))) (.v 1))) (.cons (.ret (.v 3)) .nil))) .nil) (.cons (.setIx (.v 0) (.k (.int 2)) (.bin .mod (.bi .int (.cons (.bin .add (.bin .mul (.ix (.v 0) (.k (.int 2))) (.k (.int 69621))) (.k (.int 12345))) .nil)) (.k (.int 2147483647)))) (.cons (.asg (.nm 4) (.bin .mod (.bi .int (.cons (.bin .add (.bin .mul (.ix (.v 0) (.k (.int 2))) (.k (.int 48271))) (.bin .fdiv (.ix (.v 0) (.k (.int 2))) (.k (.int 8191)))) .nil)) (.k (.int 2147483629)))) (.cons (.ret (.bin .mod (.bi .int (.cons (.bin .fdiv (.v 4) (.k (.int 32))) .nil)) (.v 1))) .nil))))
def f7 : FnD := ⟨2, 5, b7⟩
def con : List (PySem.Str × W) := [(str "LETTERS", .str [97, 98, 99, 100, 101, 102, 103, 104, 105, 106, 107, 108, 109, 110, 111, 112, 113, 114, 115, 116, 117, 118, 119, 120, 121, 122]), (str "KEPT", .tup [.str [115, 121, 115, 116, 101, 109], .str [100, 111, 109, 97, 105, 110], .str [99, 104, 97, 110, 110, 101, 108], .str [112, 101, 114, 115, 111, 110], .str [99, 101, 108, 108], .str [116, 111, 111, 108], .str [102, 117, 110, 99, 116, 105, 111, 110], .str [116, 97, 115, 107], .str [103, 105, 118, 101, 115], .str [98, 111, 100, 121], .str [98, 101, 103, 105, 110], .str [101, 110, 100], .str [121, 101, 115], .str [112, 111, 108, 105, 99, 121], .str [115, 116, 97, 114, 116], .str [116, 101, 120, 116], .str [97, 110, 121], .str [97, 108, 108, 111, 119], .str [100, 101, 110, 121], .str [97, 110, 121, 111, 110, 101], .str [110, 111, 98, 111, 100, 121], .str [102, 114, 111, 109], .str [97, 108, 119, 97, 121, 115], .str [119, 105, 116, 104], .str [101, 108, 115, 101], .str [101, 100, 105, 116], .str [99, 117, 116], .str [114, 101, 97, 100], .str [99, 104, 111, 111, 115, 101], .str [119, 114, 105, 116, 101], .str [116, 97, 107, 101], .str [116, 114, 117, 115, 116], .str [115, 101, 116], .str [99, 111, 112, 121], .str [107, 101, 101, 112], .str [114, 101, 99, 97, 108, 108], .str [105, 102], .str [99, 97, 108, 108], .str [112, 111, 115, 116], .str [97, 115, 107], .str [100, 111], .str [114, 101, 116, 117, 114, 110]]), (str "FIGURES", .str [48, 49, 50, 51, 52, 53, 54, 55, 56, 57])]
def cls : List Cl := []
def att : List PySem.Str := []
def fns0 : List (PySem.Str × Nat) := [(str "law", 0), (str "_law_state", 1), (str "_law_drawn", 2), (str "_law_same", 3), (str "is_name", 4), (str "_law_due", 5), (str "_law_kept", 6), (str "_law_pick", 7)]
def dat : Dat := ⟨[d0, d1, d2, d3, d4, d5, d6, d7], [f0, f1, f2, f3, f4, f5, f6, f7], fns0, cls, con, att⟩
theorem trees : (dat.defs.map fun d => cSs (cS dat.tab ⟨d.N, d.d.scope⟩ 50) d.d.body) = dat.ir.map fun d => d.body := by kernel_rfl
theorem nums : (dat.defs.map fun d => (d.ps.length, d.N.length)) = dat.ir.map fun d => (d.np, d.nl) := by kernel_rfl
theorem scs : (dat.defs.all fun d => scB d.N d.ps d.d.scope) = true := by kernel_rfl
theorem attB : dat.attB = true := by kernel_rfl
theorem bn0 : BndOk d0.d.name d0.d.qual d0.d.params d0.d.body d0.d.scope d0.ps := fun _ _ _ _ _ _ us hl => match us, hl with | [_], _ => rfl
theorem bn1 : BndOk d1.d.name d1.d.qual d1.d.params d1.d.body d1.d.scope d1.ps := fun _ _ _ _ _ _ us hl => match us, hl with | [_], _ => rfl
theorem bn2 : BndOk d2.d.name d2.d.qual d2.d.params d2.d.body d2.d.scope d2.ps := fun _ _ _ _ _ _ us hl => match us, hl with | [_], _ => rfl
theorem bn3 : BndOk d3.d.name d3.d.qual d3.d.params d3.d.body d3.d.scope d3.ps := fun _ _ _ _ _ _ us hl => match us, hl with | [_, _], _ => rfl
theorem bn4 : BndOk d4.d.name d4.d.qual d4.d.params d4.d.body d4.d.scope d4.ps := fun _ _ _ _ _ _ us hl => match us, hl with | [_], _ => rfl
theorem bn5 : BndOk d5.d.name d5.d.qual d5.d.params d5.d.body d5.d.scope d5.ps := fun _ _ _ _ _ _ us hl => match us, hl with | [_], _ => rfl
theorem bn6 : BndOk d6.d.name d6.d.qual d6.d.params d6.d.body d6.d.scope d6.ps := fun _ _ _ _ _ _ us hl => match us, hl with | [], _ => rfl
theorem bn7 : BndOk d7.d.name d7.d.qual d7.d.params d7.d.body d7.d.scope d7.ps := fun _ _ _ _ _ _ us hl => match us, hl with | [_, _], _ => rfl
theorem bnd : ∀ d ∈ dat.defs, BndOk d.d.name d.d.qual d.d.params d.d.body d.d.scope d.ps := List.forall_mem_cons.2 ⟨bn0, List.forall_mem_cons.2 ⟨bn1, List.forall_mem_cons.2 ⟨bn2, List.forall_mem_cons.2 ⟨bn3, List.forall_mem_cons.2 ⟨bn4, List.forall_mem_cons.2 ⟨bn5, List.forall_mem_cons.2 ⟨bn6, List.forall_mem_cons.2 ⟨bn7, fun _ h => nomatch h⟩⟩⟩⟩⟩⟩⟩⟩
theorem st : dat.St := ⟨attB, trees, nums, scs, bnd⟩
def nm0 : List PySem.Str := [str "LETTERS", str "FIGURES", str "KEPT", str "is_name", str "_law_state", str "_law_pick", str "_law_same", str "_law_kept", str "_law_drawn", str "_law_due"]
def names : List PySem.Str := nm0
theorem topRun (w : PySem.World) : HandSHeadRun.RunEq row (PySem.W.view row.prog [12]) dat.hook dat.ob 20000 names w := by
  intro os
  kernel_rfl
/-- the law, once its def of ours is shown to answer True -/
def Goal : Prop := ∀ ns : List Int, ns.length ≤ 63 → ∃ h', run dat.prog 101 0 [.ref 0] [.fro (ns.map .int)] = .ok (.bl true) h'
end Q
open PySem PySem.W PySem.Calls PyProof.Rows
theorem Q.holds (hg : Q.Goal) : PySem.Challenge.rw_nobodyspeaks_k03_names.Holds := by
  w_on; o_law
  refine HandSHeadRun.head_any (r := OpenLaw.row PySem.Challenge.rw_nobodyspeaks_k03_names) (q := view (OpenLaw.row PySem.Challenge.rw_nobodyspeaks_k03_names).prog [12]) (H := Q.dat.hook) (ob := Q.dat.ob) (M := 20000) (loose := Q.names) (d := HandSHeadRun.topDef (OpenLaw.row PySem.Challenge.rw_nobodyspeaks_k03_names).prog 12) (kwd := []) Q.dat.ob_eq
    (by kernel_rfl) (fun s => by kernel_rfl) Q.topRun (by kernel_rfl) (by kernel_rfl) (by kernel_rfl) (by rfl) (by first | assumption | decide +kernel) (by decide +kernel) ⟨rfl, rfl, rfl, rfl, rfl, by decide +kernel⟩ ?hw ?hc
  case hw => w_witness2
  case hc =>
    refine Py.walk_py (l := PySem.Challenge.rw_nobodyspeaks_k03_names) (n := 63) (k := 100) (i := 0) (x := Q.str "_law_script") (e := Q.d0) (ir := Q.f0) Q.st rfl (by decide) (by kernel_rfl) ⟨rfl, by decide, by decide⟩ ?hn rfl rfl rfl hg
    have e : (HandSHeadRun.topDef (OpenLaw.row PySem.Challenge.rw_nobodyspeaks_k03_names).prog 12).name = Q.str "law" := by kernel_rfl
    rw [e]
    exact List.mem_cons_self ..
end
section
namespace Q
open Py
/-- the state of the draws: its list of cells at m -/
def Sh (n m : Nat) (h : Hm) : Prop := n ≠ m ∧ ∃ (is : List Int) (a b : Int), h[n]? = some (.lst [.ref m, .int a, .int b]) ∧ h[m]? = some (.lst (is.map .int))
theorem Sh.app {n m : Nat} {h : Hm} (s : Sh n m h) (t : Hm) : Sh n m (h ++ t) := by
  obtain ⟨h1, is, a, b, h2, h3⟩ := s
  exact ⟨h1, is, a, b, app_get h2, app_get h3⟩
/-- all but the state stays -/
def Kp (n m : Nat) (h h' : Hm) : Prop := ∀ (j : Nat) (o : O), j ≠ n → j ≠ m → h[j]? = some o → h'[j]? = some o
theorem Kp.refl {n m : Nat} (h : Hm) : Kp n m h h := fun _ _ _ _ e => e
theorem Kp.trans {n m : Nat} {h h1 h2 : Hm} (a : Kp n m h h1) (b : Kp n m h1 h2) : Kp n m h h2 := fun j o h1 h2 e => b j o h1 h2 (a j o h1 h2 e)
theorem Kp.app {n m : Nat} (h t : Hm) : Kp n m h (h ++ t) := fun _ _ _ _ e => app_get e
theorem Kp.setn {n m : Nat} (h : Hm) (x : O) : Kp n m h (h.set n x) := fun j o h1 h2 e => by rw [List.getElem?_set_ne (Ne.symm h1)]; exact e
theorem Kp.setm {n m : Nat} (h : Hm) (x : O) : Kp n m h (h.set m x) := fun j o h1 h2 e => by rw [List.getElem?_set_ne (Ne.symm h2)]; exact e
theorem dd_rint {h : Hm} {m : Nat} {is : List Int} (e : h[m]? = some (.lst (is.map .int))) : toD h DD (.ref m) = some (.lst (is.map .int)) := by
  rw [DD, toD]
  simp only [lstAt, e, mapO_ints]
  rfl
abbrev bI : Py.S := match b7 with
  | .cons s _ => s
  | _ => .pass
abbrev bR : Ss := match b7 with
  | .cons _ r => r
  | _ => .nil
theorem pick_if (n m : Nat) (v : W) (h : Hm) (k : Nat) (s : Sh n m h) : ∃ o h1, evS dat.prog (run dat.prog k) bI [some (.ref n), some v, none, none, none] h = .ok (.nx [some (.ref n), some v, o, none, none]) h1 ∧ Sh n m h1 ∧ Kp n m h h1 := by
  obtain ⟨hne, is, a, b, h2, h3⟩ := s
  have ge : ∀ t : Hm, (h ++ t)[n]? = some (.lst [.ref m, .int a, .int b]) := fun t => app_get h2
  have gf : ∀ t : Hm, (h ++ t)[m]? = some (.lst (is.map .int)) := fun t => app_get h3
  simp only [bI, b7]
  cases hc : decide (a ≤ 1) with
  | false =>
    refine ⟨none, h, ?_, ⟨hne, is, a, b, h2, h3⟩, Kp.refl h⟩
    refine (if_ff ?_).trans nil_nx
    simp [ev_v, ev_k, ev_g, ev_bin, ev_neg, ev_cmp, ev_chain, ev_isN, ev_notN, ev_isB, ev_and, ev_or, ev_not, ev_ite, ev_call, ev_mk, ev_meth, ev_fld, ev_bi, ev_bm, ev_ix, ev_sl, ev_lst, ev_tup, ev_nil, ev_cons, ev_on, ev_os, es_asg, es_setIx, es_setF, es_augF, es_augV, es_ex, es_ret, es_retN, es_if, es_brk, es_cont, es_pass, es_nil, es_cons, tmT, getV, fin, start, seqF, asgR, asgT, optA, intA, refA, lstA, ifA, brB, truR, tru, binop, intOp, addW, mulW, newL, in64, in62, in63, cmpop, cmpI, ixR, ixL, ixS, atI, ixN, retO, biR, lenO, seqO, lstAt, cMod, cDiv, cPow, cAny, cShr, setIxR, setAll, isNon, isBl, isTy, Ty.ofBl, Ty.ofInt, Ty.ofStr, Ty.ofTup, Ty.ofLst, arg0, arg1, bmT, bmR, slR, sIx, negR, strA, dd_non, dd_bl, dd_int, dd_str, dd_ints, h2, hc]
  | true =>
    cases is with
    | nil =>
      refine ⟨none, h ++ [.lst []], ?_, ⟨hne, [], a, b, app_get h2, app_get h3⟩, Kp.app _ _⟩
      refine (if_ff ?_).trans nil_nx
      have en : eqR true (.ref m) (.ref h.length) (h ++ [.lst []]) = .ok (.bl false) (h ++ [.lst []]) := by
        have d1 := dd_rint (gf [.lst []])
        have d2 := dd_rint (m := h.length) (is := []) (h := h ++ [.lst []]) app_new
        simp [eqR, eqW, d1, d2, eqD, eqDs]
      simp [ev_v, ev_k, ev_g, ev_bin, ev_neg, ev_cmp, ev_chain, ev_isN, ev_notN, ev_isB, ev_and, ev_or, ev_not, ev_ite, ev_call, ev_mk, ev_meth, ev_fld, ev_bi, ev_bm, ev_ix, ev_sl, ev_lst, ev_tup, ev_nil, ev_cons, ev_on, ev_os, es_asg, es_setIx, es_setF, es_augF, es_augV, es_ex, es_ret, es_retN, es_if, es_brk, es_cont, es_pass, es_nil, es_cons, tmT, getV, fin, start, seqF, asgR, asgT, optA, intA, refA, lstA, ifA, brB, truR, tru, binop, intOp, addW, mulW, newL, in64, in62, in63, cmpop, cmpI, ixR, ixL, ixS, atI, ixN, retO, biR, lenO, seqO, lstAt, cMod, cDiv, cPow, cAny, cShr, setIxR, setAll, isNon, isBl, isTy, Ty.ofBl, Ty.ofInt, Ty.ofStr, Ty.ofTup, Ty.ofLst, arg0, arg1, bmT, bmR, slR, sIx, negR, strA, dd_non, dd_bl, dd_int, dd_str, dd_ints, h2, hc, en]
    | cons x xs =>
      have en : eqR true (.ref m) (.ref h.length) (h ++ [.lst []]) = .ok (.bl true) (h ++ [.lst []]) := by
        have d1 := dd_rint (gf [.lst []])
        have d2 := dd_rint (m := h.length) (is := []) (h := h ++ [.lst []]) app_new
        simp [eqR, eqW, d1, d2, eqD, eqDs]
      have e0 : tmT (evE dat.prog (run dat.prog k) (.and_ (.cmp .le (.ix (.v 0) (.k (.int 1))) (.k (.int 1))) (.cmp .ne (.ix (.v 0) (.k (.int 0))) (.lst .nil)))) [some (.ref n), some v, none, none, none] h = .ok true (h ++ [.lst []]) := by
        simp [ev_v, ev_k, ev_g, ev_bin, ev_neg, ev_cmp, ev_chain, ev_isN, ev_notN, ev_isB, ev_and, ev_or, ev_not, ev_ite, ev_call, ev_mk, ev_meth, ev_fld, ev_bi, ev_bm, ev_ix, ev_sl, ev_lst, ev_tup, ev_nil, ev_cons, ev_on, ev_os, es_asg, es_setIx, es_setF, es_augF, es_augV, es_ex, es_ret, es_retN, es_if, es_brk, es_cont, es_pass, es_nil, es_cons, tmT, getV, fin, start, seqF, asgR, asgT, optA, intA, refA, lstA, ifA, brB, truR, tru, binop, intOp, addW, mulW, newL, in64, in62, in63, cmpop, cmpI, ixR, ixL, ixS, atI, ixN, retO, biR, lenO, seqO, lstAt, cMod, cDiv, cPow, cAny, cShr, setIxR, setAll, isNon, isBl, isTy, Ty.ofBl, Ty.ofInt, Ty.ofStr, Ty.ofTup, Ty.ofLst, arg0, arg1, bmT, bmR, slR, sIx, negR, strA, dd_non, dd_bl, dd_int, dd_str, dd_ints, h2, hc, en]
      have g1 := ge [.lst []]
      have g2 := gf [.lst []]
      have hp : evE dat.prog (run dat.prog k) (.bm .popAt (.ix (.v 0) (.k (.int 0))) (.cons (.k (.int 0)) .nil)) [some (.ref n), some v, none, none, none] (h ++ [O.lst []]) = .ok (.int x) ((h ++ [O.lst []]).set m (.lst (xs.map .int))) := by
        have hl : (0 : Int) < (xs.length : Int) + 1 := by omega
        simp [ev_v, ev_k, ev_g, ev_bin, ev_neg, ev_cmp, ev_chain, ev_isN, ev_notN, ev_isB, ev_and, ev_or, ev_not, ev_ite, ev_call, ev_mk, ev_meth, ev_fld, ev_bi, ev_bm, ev_ix, ev_sl, ev_lst, ev_tup, ev_nil, ev_cons, ev_on, ev_os, es_asg, es_setIx, es_setF, es_augF, es_augV, es_ex, es_ret, es_retN, es_if, es_brk, es_cont, es_pass, es_nil, es_cons, tmT, getV, fin, start, seqF, asgR, asgT, optA, intA, refA, lstA, ifA, brB, truR, tru, binop, intOp, addW, mulW, newL, in64, in62, in63, cmpop, cmpI, ixR, ixL, ixS, atI, ixN, retO, biR, lenO, seqO, lstAt, cMod, cDiv, cPow, cAny, cShr, setIxR, setAll, isNon, isBl, isTy, Ty.ofBl, Ty.ofInt, Ty.ofStr, Ty.ofTup, Ty.ofLst, arg0, arg1, bmT, bmR, slR, sIx, negR, strA, dd_non, dd_bl, dd_int, dd_str, dd_ints, g1, g2, hl]
      have g3 : ((h ++ [O.lst []]).set m (.lst (xs.map .int)))[n]? = some (.lst [.ref m, .int a, .int b]) := by rw [List.getElem?_set_ne (Ne.symm hne)]; exact g1
      have g4 : ((h ++ [O.lst []]).set m (.lst (xs.map .int)))[m]? = some (.lst (xs.map .int)) := set_get g2 _
      have kp : Kp n m h ((h ++ [O.lst []]).set m (.lst (xs.map .int))) := (Kp.app _ _).trans (Kp.setm _ _)
      generalize (h ++ [O.lst []]).set m (.lst (xs.map .int)) = h4 at hp g3 g4 kp
      cases hx : decide ((1000000000000000000 : Int) ≤ x) with
      | true =>
        refine ⟨some (.int x), h4.set n (.lst [.ref m, .int (x - 1000000000000000000), .int b]), ?_, ⟨hne, xs, x - 1000000000000000000, b, set_get g3 _, by rw [List.getElem?_set_ne hne]; exact g4⟩, kp.trans (Kp.setn _ _)⟩
        refine (if_tt e0).trans ((seq_nx (asg_nx hp)).trans ?_)
        simp [ev_v, ev_k, ev_g, ev_bin, ev_neg, ev_cmp, ev_chain, ev_isN, ev_notN, ev_isB, ev_and, ev_or, ev_not, ev_ite, ev_call, ev_mk, ev_meth, ev_fld, ev_bi, ev_bm, ev_ix, ev_sl, ev_lst, ev_tup, ev_nil, ev_cons, ev_on, ev_os, es_asg, es_setIx, es_setF, es_augF, es_augV, es_ex, es_ret, es_retN, es_if, es_brk, es_cont, es_pass, es_nil, es_cons, tmT, getV, fin, start, seqF, asgR, asgT, optA, intA, refA, lstA, ifA, brB, truR, tru, binop, intOp, addW, mulW, newL, in64, in62, in63, cmpop, cmpI, ixR, ixL, ixS, atI, ixN, retO, biR, lenO, seqO, lstAt, cMod, cDiv, cPow, cAny, cShr, setIxR, setAll, isNon, isBl, isTy, Ty.ofBl, Ty.ofInt, Ty.ofStr, Ty.ofTup, Ty.ofLst, arg0, arg1, bmT, bmR, slR, sIx, negR, strA, dd_non, dd_bl, dd_int, dd_str, dd_ints, g3, hx]
      | false =>
        refine ⟨some (.int x), h4.set n (.lst [.ref m, .int a, .int ((b * 16807 + x) % 2147483647)]), ?_, ⟨hne, xs, a, (b * 16807 + x) % 2147483647, set_get g3 _, by rw [List.getElem?_set_ne hne]; exact g4⟩, kp.trans (Kp.setn _ _)⟩
        refine (if_tt e0).trans ((seq_nx (asg_nx hp)).trans ?_)
        simp [ev_v, ev_k, ev_g, ev_bin, ev_neg, ev_cmp, ev_chain, ev_isN, ev_notN, ev_isB, ev_and, ev_or, ev_not, ev_ite, ev_call, ev_mk, ev_meth, ev_fld, ev_bi, ev_bm, ev_ix, ev_sl, ev_lst, ev_tup, ev_nil, ev_cons, ev_on, ev_os, es_asg, es_setIx, es_setF, es_augF, es_augV, es_ex, es_ret, es_retN, es_if, es_brk, es_cont, es_pass, es_nil, es_cons, tmT, getV, fin, start, seqF, asgR, asgT, optA, intA, refA, lstA, ifA, brB, truR, tru, binop, intOp, addW, mulW, newL, in64, in62, in63, cmpop, cmpI, ixR, ixL, ixS, atI, ixN, retO, biR, lenO, seqO, lstAt, cMod, cDiv, cPow, cAny, cShr, setIxR, setAll, isNon, isBl, isTy, Ty.ofBl, Ty.ofInt, Ty.ofStr, Ty.ofTup, Ty.ofLst, arg0, arg1, bmT, bmR, slR, sIx, negR, strA, dd_non, dd_bl, dd_int, dd_str, dd_ints, g3, hx]
theorem pk {n m : Nat} {h : Hm} (s : Sh n m h) (v : Int) (hm : 0 < v) (hm2 : v < 1073741824) (k : Nat) : ∃ (r : Nat) (h' : Hm), (r : Int) < v ∧ run dat.prog (k + 1) 7 [.ref n, .int v] h = .ok (.int (r : Int)) h' ∧ Sh n m h' ∧ Kp n m h h' := by
  have hf : dat.prog.fn 7 = some f7 := rfl
  rw [run, hf]
  obtain ⟨o, h1, e1, ⟨hne, is, a, b, g1, g2⟩, kp⟩ := pick_if n m (.int v) h k s
  have hv : v ≠ 0 := by omega
  have key : ∃ (r : Int) (h' : Hm), 0 ≤ r ∧ r < v ∧ evSs dat.prog (run dat.prog k) bR [some (.ref n), some (.int v), o, none, none] h1 = .ok (.rt (.int r)) h' ∧ Sh n m h' ∧ Kp n m h1 h' := by
    have hs := fun x => set_get g1 x
    simp only [bR, b7]
    cases ha : decide (a > 1) with
    | true =>
      refine ⟨a % v, h1.set n (.lst [.ref m, .int (a / v), .int b]), Int.emod_nonneg _ hv, Int.emod_lt_of_pos _ hm, ?_, ⟨hne, is, a / v, b, hs _, by rw [List.getElem?_set_ne hne]; exact g2⟩, Kp.setn _ _⟩
      have ha : decide (1 < a) = true := ha
      simp [ev_v, ev_k, ev_g, ev_bin, ev_neg, ev_cmp, ev_chain, ev_isN, ev_notN, ev_isB, ev_and, ev_or, ev_not, ev_ite, ev_call, ev_mk, ev_meth, ev_fld, ev_bi, ev_bm, ev_ix, ev_sl, ev_lst, ev_tup, ev_nil, ev_cons, ev_on, ev_os, es_asg, es_setIx, es_setF, es_augF, es_augV, es_ex, es_ret, es_retN, es_if, es_brk, es_cont, es_pass, es_nil, es_cons, tmT, getV, fin, start, seqF, asgR, asgT, optA, intA, refA, lstA, ifA, brB, truR, tru, binop, intOp, addW, mulW, newL, in64, in62, in63, cmpop, cmpI, ixR, ixL, ixS, atI, ixN, retO, biR, lenO, seqO, lstAt, cMod, cDiv, cPow, cAny, cShr, setIxR, setAll, isNon, isBl, isTy, Ty.ofBl, Ty.ofInt, Ty.ofStr, Ty.ofTup, Ty.ofLst, arg0, arg1, bmT, bmR, slR, sIx, negR, strA, dd_non, dd_bl, dd_int, dd_str, dd_ints, g1, ha, hm, hm2, hs]
    | false =>
      refine ⟨((b * 69621 + 12345) % 2147483647 * 48271 + (b * 69621 + 12345) % 2147483647 / 8191) % 2147483629 / 32 % v, h1.set n (.lst [.ref m, .int a, .int ((b * 69621 + 12345) % 2147483647)]), Int.emod_nonneg _ hv, Int.emod_lt_of_pos _ hm, ?_, ⟨hne, is, a, _, hs _, by rw [List.getElem?_set_ne hne]; exact g2⟩, Kp.setn _ _⟩
      have ha : decide (1 < a) = false := ha
      simp [ev_v, ev_k, ev_g, ev_bin, ev_neg, ev_cmp, ev_chain, ev_isN, ev_notN, ev_isB, ev_and, ev_or, ev_not, ev_ite, ev_call, ev_mk, ev_meth, ev_fld, ev_bi, ev_bm, ev_ix, ev_sl, ev_lst, ev_tup, ev_nil, ev_cons, ev_on, ev_os, es_asg, es_setIx, es_setF, es_augF, es_augV, es_ex, es_ret, es_retN, es_if, es_brk, es_cont, es_pass, es_nil, es_cons, tmT, getV, fin, start, seqF, asgR, asgT, optA, intA, refA, lstA, ifA, brB, truR, tru, binop, intOp, addW, mulW, newL, in64, in62, in63, cmpop, cmpI, ixR, ixL, ixS, atI, ixN, retO, biR, lenO, seqO, lstAt, cMod, cDiv, cPow, cAny, cShr, setIxR, setAll, isNon, isBl, isTy, Ty.ofBl, Ty.ofInt, Ty.ofStr, Ty.ofTup, Ty.ofLst, arg0, arg1, bmT, bmR, slR, sIx, negR, strA, dd_non, dd_bl, dd_int, dd_str, dd_ints, g1, ha, hm, hm2, hs]
  obtain ⟨r, h', r1, r2, e2, s2, k2⟩ := key
  refine ⟨r.toNat, h', by omega, ?_, s2, kp.trans k2⟩
  have e3 : evSs dat.prog (run dat.prog k) b7 [some (.ref n), some (.int v), none, none, none] h = .ok (.rt (.int r)) h' := (seq_nx e1).trans e2
  show fin (evSs dat.prog (run dat.prog k) b7 [some (.ref n), some (.int v), none, none, none] h) = _
  rw [e3, show ((r.toNat : Nat) : Int) = r by omega]
  rfl

def LT : List Nat := [97, 98, 99, 100, 101, 102, 103, 104, 105, 106, 107, 108, 109, 110, 111, 112, 113, 114, 115, 116, 117, 118, 119, 120, 121, 122]
def FG : List Nat := [48, 49, 50, 51, 52, 53, 54, 55, 56, 57]
def KW : List (List Nat) := [[115, 121, 115, 116, 101, 109], [100, 111, 109, 97, 105, 110], [99, 104, 97, 110, 110, 101, 108], [112, 101, 114, 115, 111, 110], [99, 101, 108, 108], [116, 111, 111, 108], [102, 117, 110, 99, 116, 105, 111, 110], [116, 97, 115, 107], [103, 105, 118, 101, 115], [98, 111, 100, 121], [98, 101, 103, 105, 110], [101, 110, 100], [121, 101, 115], [112, 111, 108, 105, 99, 121], [115, 116, 97, 114, 116], [116, 101, 120, 116], [97, 110, 121], [97, 108, 108, 111, 119], [100, 101, 110, 121], [97, 110, 121, 111, 110, 101], [110, 111, 98, 111, 100, 121], [102, 114, 111, 109], [97, 108, 119, 97, 121, 115], [119, 105, 116, 104], [101, 108, 115, 101], [101, 100, 105, 116], [99, 117, 116], [114, 101, 97, 100], [99, 104, 111, 111, 115, 101], [119, 114, 105, 116, 101], [116, 97, 107, 101], [116, 114, 117, 115, 116], [115, 101, 116], [99, 111, 112, 121], [107, 101, 101, 112], [114, 101, 99, 97, 108, 108], [105, 102], [99, 97, 108, 108], [112, 111, 115, 116], [97, 115, 107], [100, 111], [114, 101, 116, 117, 114, 110]]
theorem g0 : dat.prog.glob 0 = some (.str LT) := rfl
theorem g1 : dat.prog.glob 1 = some (.tup (KW.map .str)) := rfl
theorem g2 : dat.prog.glob 2 = some (.str FG) := rfl
def sg (c : Nat) : Bool := decide (c ∈ LT) || decide (c ∈ FG)
def nmB (s : List Nat) : Bool := match s with
  | [] => false
  | c :: r => !decide ((c :: r).length > 12) && (!decide ((c :: r) ∈ KW) && (decide (c ∈ LT) && (c :: r).all sg))
theorem nmB_cons (c : Nat) (r : List Nat) : nmB (c :: r) = (!decide ((c :: r).length > 12) && (!decide ((c :: r) ∈ KW) && (decide (c ∈ LT) && (c :: r).all sg))) := rfl
theorem is_name_ok (k : Nat) (s : List Nat) (h : Hm) : run dat.prog (k + 1) 4 [.str s] h = .ok (.bl (nmB s)) h := by
  have hf : dat.prog.fn 4 = some f4 := rfl
  rw [run, hf]
  show fin (evSs dat.prog (run dat.prog k) b4 [some (.str s), none] h) = _
  have main : evSs dat.prog (run dat.prog k) b4 [some (.str s), none] h = .ok (.rt (.bl (nmB s))) h := by
    simp only [b4]
    have eg := in_tstrs (h := h) (ss := KW) (c := s) false
    cases s with
    | nil =>
      refine seq_rt ((if_tt (h1 := h) ?_).trans (seq_rt (ret_rt k_ok)))
      simp [ev_v, ev_k, ev_g, ev_bin, ev_neg, ev_cmp, ev_chain, ev_isN, ev_notN, ev_isB, ev_and, ev_or, ev_not, ev_ite, ev_call, ev_mk, ev_meth, ev_fld, ev_bi, ev_bm, ev_ix, ev_sl, ev_lst, ev_tup, ev_nil, ev_cons, ev_on, ev_os, es_asg, es_setIx, es_setF, es_augF, es_augV, es_ex, es_ret, es_retN, es_if, es_brk, es_cont, es_pass, es_nil, es_cons, tmT, getV, fin, start, seqF, asgR, asgT, optA, intA, refA, lstA, ifA, brB, truR, tru, binop, intOp, addW, mulW, newL, in64, in62, in63, cmpop, cmpI, ixR, ixL, ixS, atI, ixN, retO, biR, lenO, seqO, lstAt, cMod, cDiv, cPow, cAny, cShr, setIxR, setAll, isNon, isBl, isTy, Ty.ofBl, Ty.ofInt, Ty.ofStr, Ty.ofTup, Ty.ofLst, arg0, arg1, bmT, bmR, slR, sIx, negR, strA, dd_non, dd_bl, dd_int, dd_str, dd_ints]
    | cons c r =>
      cases h12 : decide ((c :: r).length > 12) with
      | true =>
        have e : nmB (c :: r) = false := by
          rw [nmB_cons]
          rw [h12]
          rfl
        rw [e]
        refine seq_rt ((if_tt (h1 := h) ?_).trans (seq_rt (ret_rt k_ok)))
        have h12 := of_decide_eq_true h12
        simp at h12
        have h13 : (12 : Int) < (r.length : Int) + 1 := by omega
        have h14 : ¬ (r.length : Int) + 1 < 1 := by omega
        simp [ev_v, ev_k, ev_g, ev_bin, ev_neg, ev_cmp, ev_chain, ev_isN, ev_notN, ev_isB, ev_and, ev_or, ev_not, ev_ite, ev_call, ev_mk, ev_meth, ev_fld, ev_bi, ev_bm, ev_ix, ev_sl, ev_lst, ev_tup, ev_nil, ev_cons, ev_on, ev_os, es_asg, es_setIx, es_setF, es_augF, es_augV, es_ex, es_ret, es_retN, es_if, es_brk, es_cont, es_pass, es_nil, es_cons, tmT, getV, fin, start, seqF, asgR, asgT, optA, intA, refA, lstA, ifA, brB, truR, tru, binop, intOp, addW, mulW, newL, in64, in62, in63, cmpop, cmpI, ixR, ixL, ixS, atI, ixN, retO, biR, lenO, seqO, lstAt, cMod, cDiv, cPow, cAny, cShr, setIxR, setAll, isNon, isBl, isTy, Ty.ofBl, Ty.ofInt, Ty.ofStr, Ty.ofTup, Ty.ofLst, arg0, arg1, bmT, bmR, slR, sIx, negR, strA, dd_non, dd_bl, dd_int, dd_str, dd_ints, h13, h14]
      | false =>
        have h12' := of_decide_eq_false h12
        simp at h12'
        have h13 : ¬ (12 : Int) < (r.length : Int) + 1 := by omega
        have h14 : ¬ (r.length : Int) + 1 < 1 := by omega
        cases hk : decide ((c :: r) ∈ KW) with
        | true =>
          have e : nmB (c :: r) = false := by
            rw [nmB_cons]
            rw [h12, hk]
            rfl
          rw [e]
          rw [hk] at eg
          refine seq_rt ((if_tt (h1 := h) ?_).trans (seq_rt (ret_rt k_ok)))
          simp [ev_v, ev_k, ev_g, ev_bin, ev_neg, ev_cmp, ev_chain, ev_isN, ev_notN, ev_isB, ev_and, ev_or, ev_not, ev_ite, ev_call, ev_mk, ev_meth, ev_fld, ev_bi, ev_bm, ev_ix, ev_sl, ev_lst, ev_tup, ev_nil, ev_cons, ev_on, ev_os, es_asg, es_setIx, es_setF, es_augF, es_augV, es_ex, es_ret, es_retN, es_if, es_brk, es_cont, es_pass, es_nil, es_cons, tmT, getV, fin, start, seqF, asgR, asgT, optA, intA, refA, lstA, ifA, brB, truR, tru, binop, intOp, addW, mulW, newL, in64, in62, in63, cmpop, cmpI, ixR, ixL, ixS, atI, ixN, retO, biR, lenO, seqO, lstAt, cMod, cDiv, cPow, cAny, cShr, setIxR, setAll, isNon, isBl, isTy, Ty.ofBl, Ty.ofInt, Ty.ofStr, Ty.ofTup, Ty.ofLst, arg0, arg1, bmT, bmR, slR, sIx, negR, strA, dd_non, dd_bl, dd_int, dd_str, dd_ints, h13, h14, g1, eg]
        | false =>
          rw [hk] at eg
          refine (seq_nx ((if_ff (h1 := h) (by simp [ev_v, ev_k, ev_g, ev_bin, ev_neg, ev_cmp, ev_chain, ev_isN, ev_notN, ev_isB, ev_and, ev_or, ev_not, ev_ite, ev_call, ev_mk, ev_meth, ev_fld, ev_bi, ev_bm, ev_ix, ev_sl, ev_lst, ev_tup, ev_nil, ev_cons, ev_on, ev_os, es_asg, es_setIx, es_setF, es_augF, es_augV, es_ex, es_ret, es_retN, es_if, es_brk, es_cont, es_pass, es_nil, es_cons, tmT, getV, fin, start, seqF, asgR, asgT, optA, intA, refA, lstA, ifA, brB, truR, tru, binop, intOp, addW, mulW, newL, in64, in62, in63, cmpop, cmpI, ixR, ixL, ixS, atI, ixN, retO, biR, lenO, seqO, lstAt, cMod, cDiv, cPow, cAny, cShr, setIxR, setAll, isNon, isBl, isTy, Ty.ofBl, Ty.ofInt, Ty.ofStr, Ty.ofTup, Ty.ofLst, arg0, arg1, bmT, bmR, slR, sIx, negR, strA, dd_non, dd_bl, dd_int, dd_str, dd_ints, h13, h14, g1, eg])).trans nil_nx)).trans ?_
          cases hc : decide (c ∈ LT) with
          | false =>
            have e : nmB (c :: r) = false := by
              rw [nmB_cons]
              rw [h12, hk, hc]
              rfl
            rw [e]
            have e2 := in_sign (h := h) (c := c) (t := LT) true
            rw [hc] at e2
            refine seq_rt ((if_tt (h1 := h) ?_).trans (seq_rt (ret_rt k_ok)))
            simp [ev_v, ev_k, ev_g, ev_bin, ev_neg, ev_cmp, ev_chain, ev_isN, ev_notN, ev_isB, ev_and, ev_or, ev_not, ev_ite, ev_call, ev_mk, ev_meth, ev_fld, ev_bi, ev_bm, ev_ix, ev_sl, ev_lst, ev_tup, ev_nil, ev_cons, ev_on, ev_os, es_asg, es_setIx, es_setF, es_augF, es_augV, es_ex, es_ret, es_retN, es_if, es_brk, es_cont, es_pass, es_nil, es_cons, tmT, getV, fin, start, seqF, asgR, asgT, optA, intA, refA, lstA, ifA, brB, truR, tru, binop, intOp, addW, mulW, newL, in64, in62, in63, cmpop, cmpI, ixR, ixL, ixS, atI, ixN, retO, biR, lenO, seqO, lstAt, cMod, cDiv, cPow, cAny, cShr, setIxR, setAll, isNon, isBl, isTy, Ty.ofBl, Ty.ofInt, Ty.ofStr, Ty.ofTup, Ty.ofLst, arg0, arg1, bmT, bmR, slR, sIx, negR, strA, dd_non, dd_bl, dd_int, dd_str, dd_ints, g0, e2]
          | true =>
            have e2 := in_sign (h := h) (c := c) (t := LT) true
            rw [hc] at e2
            have e : nmB (c :: r) = (c :: r).all sg := by
              rw [nmB_cons]
              rw [h12, hk, hc]
              rfl
            rw [e]
            refine (seq_nx ((if_ff (h1 := h) (by simp [ev_v, ev_k, ev_g, ev_bin, ev_neg, ev_cmp, ev_chain, ev_isN, ev_notN, ev_isB, ev_and, ev_or, ev_not, ev_ite, ev_call, ev_mk, ev_meth, ev_fld, ev_bi, ev_bm, ev_ix, ev_sl, ev_lst, ev_tup, ev_nil, ev_cons, ev_on, ev_os, es_asg, es_setIx, es_setF, es_augF, es_augV, es_ex, es_ret, es_retN, es_if, es_brk, es_cont, es_pass, es_nil, es_cons, tmT, getV, fin, start, seqF, asgR, asgT, optA, intA, refA, lstA, ifA, brB, truR, tru, binop, intOp, addW, mulW, newL, in64, in62, in63, cmpop, cmpI, ixR, ixL, ixS, atI, ixN, retO, biR, lenO, seqO, lstAt, cMod, cDiv, cPow, cAny, cShr, setIxR, setAll, isNon, isBl, isTy, Ty.ofBl, Ty.ofInt, Ty.ofStr, Ty.ofTup, Ty.ofLst, arg0, arg1, bmT, bmR, slR, sIx, negR, strA, dd_non, dd_bl, dd_int, dd_str, dd_ints, g0, e2])).trans nil_nx)).trans ?_
            have fa := forP_all (t := .nm 1) (h := h) (r := .bl false) (body := fun σ h => evSs dat.prog (run dat.prog k) (.cons (.if_ (.and_ (.cmp .nin (.v 1) (.g 0)) (.cmp .nin (.v 1) (.g 2))) (.cons (.ret (.k (.bl false))) .nil) .nil) .nil) σ h) (fun x => match x with
              | .str [c] => sg c
              | _ => false) (fun σ => ∃ o, σ = [some (.str (c :: r)), o]) ((c :: r).map fun c => .str [c]) (fun x hx σ hi => by
                obtain ⟨o, rfl⟩ := hi
                obtain ⟨d, _, rfl⟩ := List.mem_map.mp hx
                have i1 := in_sign (h := h) (c := d) (t := LT) true
                have i2 := in_sign (h := h) (c := d) (t := FG) true
                refine ⟨_, rfl, fun hp => ⟨_, (seq_nx ((if_ff ?_).trans nil_nx)).trans nil_nx, _, rfl⟩, fun hp => seq_rt ((if_tt ?_).trans (seq_rt (ret_rt k_ok)))⟩
                · have hp : (decide (d ∈ LT) || decide (d ∈ FG)) = true := hp
                  cases a1 : decide (d ∈ LT) <;> cases a2 : decide (d ∈ FG) <;> rw [a1] at i1 <;> rw [a2] at i2 <;> rw [a1, a2] at hp <;> first | exact Bool.noConfusion hp | simp [ev_v, ev_k, ev_g, ev_bin, ev_neg, ev_cmp, ev_chain, ev_isN, ev_notN, ev_isB, ev_and, ev_or, ev_not, ev_ite, ev_call, ev_mk, ev_meth, ev_fld, ev_bi, ev_bm, ev_ix, ev_sl, ev_lst, ev_tup, ev_nil, ev_cons, ev_on, ev_os, es_asg, es_setIx, es_setF, es_augF, es_augV, es_ex, es_ret, es_retN, es_if, es_brk, es_cont, es_pass, es_nil, es_cons, tmT, getV, fin, start, seqF, asgR, asgT, optA, intA, refA, lstA, ifA, brB, truR, tru, binop, intOp, addW, mulW, newL, in64, in62, in63, cmpop, cmpI, ixR, ixL, ixS, atI, ixN, retO, biR, lenO, seqO, lstAt, cMod, cDiv, cPow, cAny, cShr, setIxR, setAll, isNon, isBl, isTy, Ty.ofBl, Ty.ofInt, Ty.ofStr, Ty.ofTup, Ty.ofLst, arg0, arg1, bmT, bmR, slR, sIx, negR, strA, dd_non, dd_bl, dd_int, dd_str, dd_ints, g0, g2, i1, i2]
                · have hp : (decide (d ∈ LT) || decide (d ∈ FG)) = false := hp
                  cases a1 : decide (d ∈ LT) <;> cases a2 : decide (d ∈ FG) <;> rw [a1] at i1 <;> rw [a2] at i2 <;> rw [a1, a2] at hp <;> first | exact Bool.noConfusion hp | simp [ev_v, ev_k, ev_g, ev_bin, ev_neg, ev_cmp, ev_chain, ev_isN, ev_notN, ev_isB, ev_and, ev_or, ev_not, ev_ite, ev_call, ev_mk, ev_meth, ev_fld, ev_bi, ev_bm, ev_ix, ev_sl, ev_lst, ev_tup, ev_nil, ev_cons, ev_on, ev_os, es_asg, es_setIx, es_setF, es_augF, es_augV, es_ex, es_ret, es_retN, es_if, es_brk, es_cont, es_pass, es_nil, es_cons, tmT, getV, fin, start, seqF, asgR, asgT, optA, intA, refA, lstA, ifA, brB, truR, tru, binop, intOp, addW, mulW, newL, in64, in62, in63, cmpop, cmpI, ixR, ixL, ixS, atI, ixN, retO, biR, lenO, seqO, lstAt, cMod, cDiv, cPow, cAny, cShr, setIxR, setAll, isNon, isBl, isTy, Ty.ofBl, Ty.ofInt, Ty.ofStr, Ty.ofTup, Ty.ofLst, arg0, arg1, bmT, bmR, slR, sIx, negR, strA, dd_non, dd_bl, dd_int, dd_str, dd_ints, g0, g2, i1, i2]) [some (.str (c :: r)), none] ⟨none, rfl⟩
            have ea : (((c :: r).map fun c => W.str [c]).all fun x => match x with
              | .str [c] => sg c
              | _ => false) = (c :: r).all sg := by
              rw [List.all_map]
              rfl
            rw [ea] at fa
            have ei : evIt dat.prog (run dat.prog k) (.val (.v 0)) [some (.str (c :: r)), none] h = .ok (.pure ((c :: r).map fun c => .str [c])) h := by
              rw [ev_val]
              rfl
            rcases fa with ⟨a, σ2, e3, _⟩ | ⟨a, e3⟩
            · rw [a]
              exact (seq_nx ((for_pure ei).trans e3)).trans (seq_rt (ret_rt k_ok))
            · rw [a]
              exact seq_rt ((for_pure ei).trans e3)
  rw [main]
  rfl
def S1 : List Nat := [115, 121, 115, 116, 101, 109, 32, 100, 111, 109, 97, 105, 110, 32, 99, 104, 97, 110, 110, 101, 108, 32, 112, 101, 114, 115, 111, 110, 32, 99, 101, 108, 108, 32, 116, 111, 111, 108, 32, 102, 117, 110, 99, 116, 105, 111, 110, 32, 116, 97, 115, 107, 32, 103, 105, 118, 101, 115, 32, 98, 111, 100, 121, 32, 98, 101, 103, 105, 110, 32, 101, 110, 100, 32, 121, 101, 115, 32, 112, 111, 108, 105, 99, 121, 32, 115, 116, 97, 114, 116, 32, 116, 101, 120, 116, 32, 97, 110, 121, 32, 97, 108, 108, 111, 119]
def S2 : List Nat := [32, 100, 101, 110, 121, 32, 97, 110, 121, 111, 110, 101, 32, 110, 111, 98, 111, 100, 121, 32, 102, 114, 111, 109, 32, 97, 108, 119, 97, 121, 115, 32, 119, 105, 116, 104, 32, 101, 108, 115, 101, 32, 101, 100, 105, 116, 32, 99, 117, 116, 32, 114, 101, 97, 100, 32, 99, 104, 111, 111, 115, 101, 32, 119, 114, 105, 116, 101, 32, 116, 97, 107, 101, 32, 116, 114, 117, 115, 116, 32, 115, 101, 116, 32, 99, 111, 112, 121, 32, 107, 101, 101, 112]
def S3 : List Nat := [32, 114, 101, 99, 97, 108, 108, 32, 105, 102, 32, 99, 97, 108, 108, 32, 112, 111, 115, 116, 32, 97, 115, 107, 32, 100, 111, 32, 114, 101, 116, 117, 114, 110]
def SM : List Nat := [97, 98, 99, 100, 101, 102, 103, 104, 105, 106, 107, 108, 109, 110, 111, 112, 113, 114, 115, 116, 117, 118, 119, 120, 121, 122, 48, 49, 50, 51, 52, 53, 54, 55, 56, 57]
def EV : List Nat := [32, 33, 34, 35, 36, 38, 39, 40, 41, 42, 43, 44, 45, 46, 47, 58, 59, 60, 61, 62, 63, 64, 65, 66, 67, 68, 69, 70, 71, 72, 73, 74, 75, 76, 77, 78, 79, 80, 81, 82, 83, 84, 85, 86, 87, 88, 89, 90, 91, 92, 93, 94, 95, 96, 123, 124, 125, 126]
theorem b6_eq : b6 = .cons (.asg (.nm 0) (.k (.str S1))) (.cons (.asg (.nm 0) (.bin .add (.v 0) (.k (.str S2)))) (.cons (.ret (.bm .split (.bin .add (.v 0) (.k (.str S3))) (.cons (.k (.str [32])) .nil))) .nil)) := rfl
theorem split_all : splitW 32 (S1 ++ S2 ++ S3) = KW := by decide +kernel
theorem len12 : S1.length + S2.length ≤ SZ := by decide
theorem len123 : (S1 ++ S2).length + S3.length ≤ SZ := by decide
theorem len4 : (S1 ++ S2 ++ S3).length + 2 ≤ SZ := by decide
theorem kept_ok (k : Nat) (h : Hm) : run dat.prog (k + 1) 6 [] h = .ok (.ref h.length) (h ++ [.lst (KW.map .str)]) := by
  have hf : dat.prog.fn 6 = some f6 := rfl
  rw [run, hf]
  show fin (evSs dat.prog (run dat.prog k) b6 [none] h) = _
  have main : evSs dat.prog (run dat.prog k) b6 [none] h = .ok (.rt (.ref h.length)) (h ++ [.lst (KW.map .str)]) := by
    rw [b6_eq]
    refine (seq_nx (asg_nx k_ok)).trans ?_
    refine (seq_nx (asg_nx (bin_ok (v_ok rfl) k_ok (add_str len12)))).trans ?_
    refine seq_rt (ret_rt ?_)
    rw [ev_bm]
    show ((evE dat.prog (run dat.prog k) (.bin .add (.v 0) (.k (.str S3))) _ h).bind _) = _
    rw [bin_ok (v_ok rfl) k_ok (add_str len123)]
    show ((evEs dat.prog (run dat.prog k) (.cons (.k (.str [32])) .nil) [some (.str (S1 ++ S2))] h).bind fun ws h2 => bmR .split (.str (S1 ++ S2 ++ S3)) ws h2) = _
    rw [es_one k_ok]
    show ifA (decide ((S1 ++ S2 ++ S3).length + 2 ≤ SZ) && decide (32 < 256)) (newL ((splitW 32 (S1 ++ S2 ++ S3)).map .str) h) = _
    rw [split_all, decide_eq_true len4]
    rfl
  rw [main]
  rfl
theorem SM_eq : SM = LT ++ FG := rfl
abbrev eL : E := .cmp .eq (.lc (.v 1) (.nm 1) (.val (.v 0)) (.some (.cmp .nin (.v 1) (.k (.str SM)))) [1]) (.lst .nil)
theorem b5_eq : b5 = .cons (.if_ (.or_ (.cmp .lt (.bi .len (.cons (.v 0) .nil)) (.k (.int 1))) (.or_ (.cmp .gt (.bi .len (.cons (.v 0) .nil)) (.k (.int 12))) (.or_ (.cmp .in_ (.v 0) (.call 6 .nil)) (.cmp .nin (.ix (.v 0) (.k (.int 0))) (.k (.str LT)))))) (.cons (.ret (.k (.bl false))) .nil) .nil) (.cons (.ret eL) .nil) := rfl
theorem eL_ok (k : Nat) (s : List Nat) (hs : s.length ≤ 100) (h : Hm) : ∃ t, evE dat.prog (run dat.prog k) eL [some (.str s), none] h = .ok (.bl (s.all sg)) (h ++ t) := by
  have elc : evE dat.prog (run dat.prog k) (.lc (.v 1) (.nm 1) (.val (.v 0)) (.some (.cmp .nin (.v 1) (.k (.str SM)))) [1]) [some (.str s), none] h = .ok (.ref h.length) (h ++ [.lst (((s.filter fun c => !sg c).map fun c => [c]).map .str)]) := by
    refine (lc_pure (xs := s.map fun c => .str [c]) (h1 := h) (by rw [ev_val]; rfl) (lcP_pure (fun x => match x with
      | .str [c] => !sg c
      | _ => false) (fun x => x) _ (fun x hx => ?_) [] (by simp [SZ]; omega))).trans ?_
    · obtain ⟨c, _, rfl⟩ := List.mem_map.mp hx
      refine ⟨_, rfl, ?_, fun _ => v_ok rfl⟩
      rw [ev_cs]
      refine tm_of (cmp_ok (v_ok rfl) k_ok ?_)
      show inR true (.str [c]) (.str SM) h = _
      rw [in_sign, SM_eq]
      have e : decide (c ∈ LT ++ FG) = sg c := by
        unfold sg
        rw [Bool.eq_iff_iff]
        simp
      rw [e]
      rfl
    · rw [List.nil_append, List.filter_map, List.map_id', List.map_map]
      rfl
  refine ⟨[.lst (((s.filter fun c => !sg c).map fun c => [c]).map .str)] ++ [.lst []], ?_⟩
  refine cmp_ok elc (lst_ok (by rw [ev_nil])) ?_
  show eqR false _ _ _ = _
  have en := eq_nils (h := h ++ [.lst (((s.filter fun c => !sg c).map fun c => [c]).map .str)] ++ [.lst []]) (m := h.length) (p := (h ++ [O.lst (((s.filter fun c => !sg c).map fun c => [c]).map .str)]).length) (ss := (s.filter fun c => !sg c).map fun c => [c]) false (by
    unfold lstAt
    rw [app_get app_new]) (by
    unfold lstAt
    rw [app_new])
  rw [en, List.append_assoc]
  have e : ((s.filter fun c => !sg c).map fun c => [c]).isEmpty = s.all sg := by
    rw [List.isEmpty_map, Bool.eq_iff_iff, List.isEmpty_iff, List.filter_eq_nil_iff]
    simp
  rw [e]
  rfl
theorem due_ok (k : Nat) (s : List Nat) (h : Hm) : ∃ t, run dat.prog (k + 2) 5 [.str s] h = .ok (.bl (nmB s)) (h ++ t) := by
  have hf : dat.prog.fn 5 = some f5 := rfl
  rw [run, hf]
  show ∃ t, fin (evSs dat.prog (run dat.prog (k + 1)) b5 [some (.str s), none] h) = .ok (.bl (nmB s)) (h ++ t)
  have main : ∃ t, evSs dat.prog (run dat.prog (k + 1)) b5 [some (.str s), none] h = .ok (.rt (.bl (nmB s))) (h ++ t) := by
    rw [b5_eq]
    have ek := kept_ok k h
    have elen : evE dat.prog (run dat.prog (k + 1)) (.bi .len (.cons (.v 0) .nil)) [some (.str s), none] h = .ok (.int s.length) h := bi_ok (es_one (v_ok rfl)) rfl
    cases s with
    | nil =>
      refine ⟨[], ?_⟩
      rw [List.append_nil]
      exact seq_rt ((if_tt (tm_of (or_tt (cmp_ok elen k_ok rfl)))).trans (seq_rt (ret_rt k_ok)))
    | cons c r =>
      have e1 : evE dat.prog (run dat.prog (k + 1)) (.cmp .lt (.bi .len (.cons (.v 0) .nil)) (.k (.int 1))) [some (.str (c :: r)), none] h = .ok (.bl false) h := by
        refine cmp_ok elen k_ok ?_
        show R.ok (W.bl (decide (((c :: r).length : Int) < 1))) h = _
        rw [decide_eq_false (by simp; omega)]
      cases h12 : decide ((c :: r).length > 12) with
      | true =>
        refine ⟨[], ?_⟩
        have e : nmB (c :: r) = false := by
          rw [nmB_cons]
          rw [h12]
          rfl
        rw [e, List.append_nil]
        have h12 := of_decide_eq_true h12
        refine seq_rt ((if_tt (tm_of (or_ff e1 (or_tt (cmp_ok elen k_ok ?_))))).trans (seq_rt (ret_rt k_ok)))
        show R.ok (W.bl (decide ((12 : Int) < ((c :: r).length : Int)))) h = _
        rw [decide_eq_true (by omega)]
      | false =>
        have h12' := of_decide_eq_false h12
        have e2 : evE dat.prog (run dat.prog (k + 1)) (.cmp .gt (.bi .len (.cons (.v 0) .nil)) (.k (.int 12))) [some (.str (c :: r)), none] h = .ok (.bl false) h := by
          refine cmp_ok elen k_ok ?_
          show R.ok (W.bl (decide ((12 : Int) < ((c :: r).length : Int)))) h = _
          rw [decide_eq_false (by omega)]
        have hl : lstAt (h ++ [.lst (KW.map .str)]) h.length = some (KW.map .str) := by
          unfold lstAt
          rw [app_new]
        have e3 : evE dat.prog (run dat.prog (k + 1)) (.cmp .in_ (.v 0) (.call 6 .nil)) [some (.str (c :: r)), none] h = .ok (.bl (decide ((c :: r) ∈ KW))) (h ++ [.lst (KW.map .str)]) := by
          refine cmp_ok (v_ok rfl) (call_ok (by rw [ev_nil]) ek) ?_
          exact in_lstrs false hl
        cases hk : decide ((c :: r) ∈ KW) with
        | true =>
          refine ⟨[.lst (KW.map .str)], ?_⟩
          have e : nmB (c :: r) = false := by
            rw [nmB_cons]
            rw [h12, hk]
            rfl
          rw [e]
          rw [hk] at e3
          exact seq_rt ((if_tt (tm_of (or_ff e1 (or_ff e2 (or_tt e3))))).trans (seq_rt (ret_rt k_ok)))
        | false =>
          rw [hk] at e3
          have e4 : evE dat.prog (run dat.prog (k + 1)) (.cmp .nin (.ix (.v 0) (.k (.int 0))) (.k (.str LT))) [some (.str (c :: r)), none] (h ++ [.lst (KW.map .str)]) = .ok (.bl (!decide (c ∈ LT))) (h ++ [.lst (KW.map .str)]) :=
            cmp_ok (ix_ok (v_ok rfl) k_ok (ixS_nat (r := 0) (c := c) rfl)) k_ok rfl
          cases hc : decide (c ∈ LT) with
          | false =>
            refine ⟨[.lst (KW.map .str)], ?_⟩
            have e : nmB (c :: r) = false := by
              rw [nmB_cons]
              rw [h12, hk, hc]
              rfl
            rw [e]
            rw [hc] at e4
            exact seq_rt ((if_tt (tm_of (or_ff e1 (or_ff e2 (or_ff e3 e4))))).trans (seq_rt (ret_rt k_ok)))
          | true =>
            rw [hc] at e4
            obtain ⟨t, e5⟩ := eL_ok (k + 1) (c :: r) (by omega) (h ++ [.lst (KW.map .str)])
            refine ⟨[.lst (KW.map .str)] ++ t, ?_⟩
            have e : nmB (c :: r) = (c :: r).all sg := by
              rw [nmB_cons]
              rw [h12, hk, hc]
              rfl
            rw [e, ← List.append_assoc]
            exact (seq_nx ((if_ff (tm_of (or_ff e1 (or_ff e2 (or_ff e3 e4))))).trans nil_nx)).trans (seq_rt (ret_rt e5))
  obtain ⟨t, e⟩ := main
  refine ⟨t, ?_⟩
  rw [e]
  rfl
theorem SM_at : ∀ r : Nat, r < 36 → ∃ c, SM[r]? = some c := by
  intro r hr
  exact ⟨_, List.getElem?_eq_getElem (show r < SM.length from hr)⟩
theorem EV_at : ∀ r : Nat, r < 58 → ∃ c, EV[r]? = some c := by
  intro r hr
  exact ⟨_, List.getElem?_eq_getElem (show r < EV.length from hr)⟩
theorem KW_at : ∀ r : Nat, r < 42 → ∃ s, KW[r]? = some s := by
  intro r hr
  exact ⟨_, List.getElem?_eq_getElem (show r < KW.length from hr)⟩
theorem KW_fine : ∀ s ∈ KW, s.length ≤ 20 ∧ ascii s = true := by decide +kernel
abbrev eM : E := .ix (.lst (.cons (.k (.int 36)) (.cons (.k (.int 26)) .nil))) (.bi .int (.cons (.and_ (.cmp .eq (.v 5) (.k (.int 0))) (.cmp .gt (.call 7 (.cons (.v 0) (.cons (.k (.int 4)) .nil))) (.k (.int 0)))) .nil))
abbrev eD : E := .bin .add (.v 4) (.ix (.v 1) (.call 7 (.cons (.v 0) (.cons eM .nil))))
theorem pkE {n m : Nat} {h : Hm} (s : Sh n m h) (v : Int) (hm : 0 < v) (hm2 : v < 1073741824) (k : Nat) (σ : Env) (h0 : σ[0]? = some (some (.ref n))) (e : E) (he : ∀ h, evE dat.prog (run dat.prog (k + 1)) e σ h = .ok (.int v) h) :
    ∃ (r : Nat) (h' : Hm), (r : Int) < v ∧ evE dat.prog (run dat.prog (k + 1)) (.call 7 (.cons (.v 0) (.cons e .nil))) σ h = .ok (.int (r : Int)) h' ∧ Sh n m h' ∧ Kp n m h h' := by
  obtain ⟨r, h', r1, er, s1, k1⟩ := pk s v hm hm2 k
  exact ⟨r, h', r1, call_ok (es_more (v_ok h0) (es_one (he h))) er, s1, k1⟩
theorem Sh.ne {n m : Nat} {h : Hm} (s : Sh n m h) : h.length ≠ n ∧ h.length ≠ m := by
  obtain ⟨h1, is, a, b, h2, h3⟩ := s
  have l1 := (List.getElem?_eq_some_iff.mp h2).1
  have l2 := (List.getElem?_eq_some_iff.mp h3).1
  omega
theorem eM_ok {n m : Nat} {h : Hm} (s : Sh n m h) (k i : Nat) (σ : Env) (h0 : σ[0]? = some (some (.ref n))) (h5 : σ[5]? = some (some (.int (i : Int)))) : ∃ (v : Int) (h' : Hm), (v = 36 ∨ v = 26) ∧ evE dat.prog (run dat.prog (k + 1)) eM σ h = .ok (.int v) h' ∧ Sh n m h' ∧ Kp n m h h' := by
  have s1 := s.app [.lst [.int 36, .int 26]]
  have el : evE dat.prog (run dat.prog (k + 1)) (.lst (.cons (.k (.int 36)) (.cons (.k (.int 26)) .nil))) σ h = .ok (.ref h.length) (h ++ [.lst [.int 36, .int 26]]) := lst_ok (es_more k_ok (es_one k_ok))
  have hg : (h ++ [O.lst [.int 36, .int 26]])[h.length]? = some (.lst [.int 36, .int 26]) := app_new
  have ec : evE dat.prog (run dat.prog (k + 1)) (.cmp .eq (.v 5) (.k (.int 0))) σ (h ++ [.lst [.int 36, .int 26]]) = .ok (.bl ((i : Int) == 0)) (h ++ [.lst [.int 36, .int 26]]) := cmp_ok (v_ok h5) k_ok rfl
  cases hi : ((i : Int) == 0) with
  | false =>
    rw [hi] at ec
    refine ⟨36, _, .inl rfl, ix_ok el (bi_ok (es_one (and_ff ec)) rfl) ?_, s1, Kp.app _ _⟩
    show (match (h ++ [O.lst [.int 36, .int 26]])[h.length]? with
      | some (.lst xs) => ixL xs (.int 0) (h ++ [O.lst [.int 36, .int 26]])
      | some (.fro xs) => ixL xs (.int 0) (h ++ [O.lst [.int 36, .int 26]])
      | some (.dic kvs) => ixD kvs (.int 0) (h ++ [O.lst [.int 36, .int 26]])
      | _ => .no) = _
    rw [hg]
    rfl
  | true =>
    rw [hi] at ec
    obtain ⟨r, h', r1, er, s2, k2⟩ := pkE s1 4 (by decide) (by decide) k σ h0 (.k (.int 4)) fun _ => k_ok
    have hg2 := k2 _ _ s.ne.1 s.ne.2 hg
    have eg : evE dat.prog (run dat.prog (k + 1)) (.cmp .gt (.call 7 (.cons (.v 0) (.cons (.k (.int 4)) .nil))) (.k (.int 0))) σ (h ++ [.lst [.int 36, .int 26]]) = .ok (.bl (decide ((0 : Int) < (r : Int)))) h' := cmp_ok er k_ok rfl
    refine ⟨if decide ((0 : Int) < (r : Int)) = true then 26 else 36, h', by split <;> simp, ix_ok el (bi_ok (es_one (and_tt ec eg)) rfl) ?_, s2, (Kp.app _ _).trans k2⟩
    show (match h'[h.length]? with
      | some (.lst xs) => ixL xs (.int (if decide ((0 : Int) < (r : Int)) = true then 1 else 0)) h'
      | some (.fro xs) => ixL xs (.int (if decide ((0 : Int) < (r : Int)) = true then 1 else 0)) h'
      | some (.dic kvs) => ixD kvs (.int (if decide ((0 : Int) < (r : Int)) = true then 1 else 0)) h'
      | _ => .no) = _
    rw [hg2]
    cases decide ((0 : Int) < (r : Int)) <;> rfl
theorem eD_ok {n m : Nat} {h : Hm} (sh : Sh n m h) (k i : Nat) (s : List Nat) (hs : s.length ≤ 1000) (σ : Env) (h0 : σ[0]? = some (some (.ref n))) (h1 : σ[1]? = some (some (.str SM))) (h4 : σ[4]? = some (some (.str s))) (h5 : σ[5]? = some (some (.int (i : Int)))) :
    ∃ (c : Nat) (h' : Hm), evE dat.prog (run dat.prog (k + 1)) eD σ h = .ok (.str (s ++ [c])) h' ∧ Sh n m h' ∧ Kp n m h h' := by
  obtain ⟨v, h2, hv, ev, s2, k2⟩ := eM_ok sh k i σ h0 h5
  have hv1 : 0 < v := by rcases hv with rfl | rfl <;> decide
  have hv2 : v ≤ 36 := by rcases hv with rfl | rfl <;> decide
  obtain ⟨r, h3, r1, er, s3, k3⟩ := pk s2 v hv1 (by omega) k
  obtain ⟨c, hc⟩ := SM_at r (by omega)
  refine ⟨c, h3, ?_, s3, k2.trans k3⟩
  refine bin_ok (v_ok h4) (ix_ok (v_ok h1) (call_ok (es_more (v_ok h0) (es_one ev)) er) (ixS_nat hc)) (add_str ?_)
  simp [SZ]
  omega
abbrev eA : E := .ix (.lst (.cons (.v 3) (.cons (.bin .add (.v 3) (.ix (.v 1) (.call 7 (.cons (.v 0) (.cons (.k (.int 36)) .nil))))) (.cons (.sl (.v 3) (.some (.k (.int 1))) .none) (.cons (.sl (.v 3) .none (.some (.neg (.k (.int 1))))) (.cons (.bm .upper (.v 3) .nil) .nil)))))) (.call 7 (.cons (.v 0) (.cons (.k (.int 5)) .nil)))
abbrev cP (v : Int) : E := .call 7 (.cons (.v 0) (.cons (.k (.int v)) .nil))
abbrev eC : E := .bin .add (.bin .add (.sl (.v 4) .none (.some (.v 6))) (.ix (.v 2) (.call 7 (.cons (.v 0) (.cons (.bi .len (.cons (.v 2) .nil)) .nil))))) (.sl (.v 4) (.some (.bin .add (.v 6) (.k (.int 1)))) .none)
theorem b2_eq : b2 = .cons (.asg (.nm 1) (.k (.str SM))) (.cons (.asg (.nm 2) (.k (.str EV))) (.cons (.if_ (.cmp .eq (cP 3) (.k (.int 0))) (.cons (.asg (.nm 3) (.ix (.call 6 .nil) (cP 42))) (.cons (.ret eA) .nil)) .nil) (.cons (.asg (.nm 4) (.k (.str []))) (.cons (.for_ (.nm 5) (.r1 (cP 15)) (.cons (.asg (.nm 4) eD) .nil)) (.cons (.if_ (.and_ (.cmp .ne (.v 4) (.k (.str []))) (.cmp .eq (cP 4) (.k (.int 0)))) (.cons (.asg (.nm 6) (.call 7 (.cons (.v 0) (.cons (.bi .len (.cons (.v 4) .nil)) .nil)))) (.cons (.asg (.nm 4) eC) .nil)) .nil) (.cons (.ret (.v 4)) .nil)))))) := rfl
theorem ix_lst {h : Hm} {p r : Nat} {xs : List W} {w : W} (e : h[p]? = some (.lst xs)) (e2 : xs[r]? = some w) : ixR (.ref p) (.int (r : Int)) h = .ok w h := by
  show (match h[p]? with
    | some (.lst xs) => ixL xs (.int (r : Int)) h
    | some (.fro xs) => ixL xs (.int (r : Int)) h
    | some (.dic kvs) => ixD kvs (.int (r : Int)) h
    | _ => .no) = _
  rw [e]
  exact ixL_nat e2
theorem five (a b c d e : List Nat) : ∀ r : Nat, r < 5 → ∃ s, [W.str a, .str b, .str c, .str d, .str e][r]? = some (.str s)
  | 0, _ => ⟨a, rfl⟩
  | 1, _ => ⟨b, rfl⟩
  | 2, _ => ⟨c, rfl⟩
  | 3, _ => ⟨d, rfl⟩
  | 4, _ => ⟨e, rfl⟩
  | r + 5, h => by omega
theorem eA_ok {n m : Nat} {h : Hm} (sh : Sh n m h) (k : Nat) (w : List Nat) (hw : w ∈ KW) : ∃ (s : List Nat) (h' : Hm), evE dat.prog (run dat.prog (k + 1)) eA [some (.ref n), some (.str SM), some (.str EV), some (.str w), none, none, none] h = .ok (.str s) h' ∧ Sh n m h' := by
  obtain ⟨hw1, hw2⟩ := KW_fine w hw
  obtain ⟨r, h2, r1, er, s2, k2⟩ := pkE sh 36 (by decide) (by decide) k [some (.ref n), some (.str SM), some (.str EV), some (.str w), none, none, none] rfl (.k (.int 36)) fun _ => k_ok
  obtain ⟨c, hc⟩ := SM_at r (by omega)
  have e2 : evE dat.prog (run dat.prog (k + 1)) (.bin .add (.v 3) (.ix (.v 1) (cP 36))) [some (.ref n), some (.str SM), some (.str EV), some (.str w), none, none, none] h = .ok (.str (w ++ [c])) h2 := by
    refine bin_ok (v_ok rfl) (ix_ok (v_ok rfl) er (ixS_nat hc)) (add_str ?_)
    simp [SZ]
    omega
  have e3 : evE dat.prog (run dat.prog (k + 1)) (.sl (.v 3) (.some (.k (.int 1))) .none) [some (.ref n), some (.str SM), some (.str EV), some (.str w), none, none, none] h2 = .ok (.str (cut w (some 1) none)) h2 := by
    simp [ev_v, ev_k, ev_g, ev_bin, ev_neg, ev_cmp, ev_chain, ev_isN, ev_notN, ev_isB, ev_and, ev_or, ev_not, ev_ite, ev_call, ev_mk, ev_meth, ev_fld, ev_bi, ev_bm, ev_ix, ev_sl, ev_lst, ev_tup, ev_nil, ev_cons, ev_on, ev_os, es_asg, es_setIx, es_setF, es_augF, es_augV, es_ex, es_ret, es_retN, es_if, es_brk, es_cont, es_pass, es_nil, es_cons, tmT, getV, fin, start, seqF, asgR, asgT, optA, intA, refA, lstA, ifA, brB, truR, tru, binop, intOp, addW, mulW, newL, in64, in62, in63, cmpop, cmpI, ixR, ixL, ixS, atI, ixN, retO, biR, lenO, seqO, lstAt, cMod, cDiv, cPow, cAny, cShr, setIxR, setAll, isNon, isBl, isTy, Ty.ofBl, Ty.ofInt, Ty.ofStr, Ty.ofTup, Ty.ofLst, arg0, arg1, bmT, bmR, slR, sIx, negR, strA, dd_non, dd_bl, dd_int, dd_str, dd_ints]
  have e4 : evE dat.prog (run dat.prog (k + 1)) (.sl (.v 3) .none (.some (.neg (.k (.int 1))))) [some (.ref n), some (.str SM), some (.str EV), some (.str w), none, none, none] h2 = .ok (.str (cut w none (some (-1)))) h2 := by
    simp [ev_v, ev_k, ev_g, ev_bin, ev_neg, ev_cmp, ev_chain, ev_isN, ev_notN, ev_isB, ev_and, ev_or, ev_not, ev_ite, ev_call, ev_mk, ev_meth, ev_fld, ev_bi, ev_bm, ev_ix, ev_sl, ev_lst, ev_tup, ev_nil, ev_cons, ev_on, ev_os, es_asg, es_setIx, es_setF, es_augF, es_augV, es_ex, es_ret, es_retN, es_if, es_brk, es_cont, es_pass, es_nil, es_cons, tmT, getV, fin, start, seqF, asgR, asgT, optA, intA, refA, lstA, ifA, brB, truR, tru, binop, intOp, addW, mulW, newL, in64, in62, in63, cmpop, cmpI, ixR, ixL, ixS, atI, ixN, retO, biR, lenO, seqO, lstAt, cMod, cDiv, cPow, cAny, cShr, setIxR, setAll, isNon, isBl, isTy, Ty.ofBl, Ty.ofInt, Ty.ofStr, Ty.ofTup, Ty.ofLst, arg0, arg1, bmT, bmR, slR, sIx, negR, strA, dd_non, dd_bl, dd_int, dd_str, dd_ints]
  have hu : decide (w.length ≤ 5592405) = true := decide_eq_true (by omega)
  have e5 : evE dat.prog (run dat.prog (k + 1)) (.bm .upper (.v 3) .nil) [some (.ref n), some (.str SM), some (.str EV), some (.str w), none, none, none] h2 = .ok (.str (w.map upC)) h2 := by
    rw [ev_bm]
    show ((evE dat.prog (run dat.prog (k + 1)) (.v 3) _ h2).bind _) = _
    rw [v_ok (w := .str w) rfl]
    show ((evEs dat.prog (run dat.prog (k + 1)) .nil [some (.ref n), some (.str SM), some (.str EV), some (.str w), none, none, none] h2).bind fun ws h2 => bmR .upper (.str w) ws h2) = _
    rw [ev_nil]
    show ifA (decide (w.length ≤ 5592405) && ascii w) (R.ok (W.str (w.map upC)) h2) = _
    rw [hu, hw2]
    rfl
  have el := lst_ok (es_more (v_ok (P := dat.prog) (cl := run dat.prog (k + 1)) (h := h) (i := 3) (σ := [some (.ref n), some (.str SM), some (.str EV), some (.str w), none, none, none]) rfl) (es_more e2 (es_more e3 (es_more e4 (es_one e5)))))
  have s3 := s2.app [.lst [.str w, .str (w ++ [c]), .str (cut w (some 1) none), .str (cut w none (some (-1))), .str (w.map upC)]]
  have hg : (h2 ++ [O.lst [.str w, .str (w ++ [c]), .str (cut w (some 1) none), .str (cut w none (some (-1))), .str (w.map upC)]])[h2.length]? = some (.lst [.str w, .str (w ++ [c]), .str (cut w (some 1) none), .str (cut w none (some (-1))), .str (w.map upC)]) := app_new
  obtain ⟨r5, h4, q1, er5, s4, k4⟩ := pkE s3 5 (by decide) (by decide) k [some (.ref n), some (.str SM), some (.str EV), some (.str w), none, none, none] rfl (.k (.int 5)) fun _ => k_ok
  obtain ⟨s, hs⟩ := five w (w ++ [c]) (cut w (some 1) none) (cut w none (some (-1))) (w.map upC) r5 (by omega)
  exact ⟨s, h4, ix_ok el er5 (ix_lst (k4 _ _ s2.ne.1 s2.ne.2 hg) hs), s4⟩
theorem drawn_ok {n m : Nat} {h : Hm} (sh : Sh n m h) (k : Nat) : ∃ (s : List Nat) (h' : Hm), run dat.prog (k + 2) 2 [.ref n] h = .ok (.str s) h' ∧ Sh n m h' := by
  have hf : dat.prog.fn 2 = some f2 := rfl
  rw [run, hf]
  show ∃ (s : List Nat) (h' : Hm), fin (evSs dat.prog (run dat.prog (k + 1)) b2 [some (.ref n), none, none, none, none, none, none] h) = .ok (.str s) h' ∧ Sh n m h'
  have main : ∃ (s : List Nat) (h' : Hm), evSs dat.prog (run dat.prog (k + 1)) b2 [some (.ref n), none, none, none, none, none, none] h = .ok (.rt (.str s)) h' ∧ Sh n m h' := by
    rw [b2_eq]
    obtain ⟨r, h1, _, er, s1, k1⟩ := pkE sh 3 (by decide) (by decide) k [some (.ref n), some (.str SM), some (.str EV), none, none, none, none] rfl (.k (.int 3)) fun _ => k_ok
    have ec : evE dat.prog (run dat.prog (k + 1)) (.cmp .eq (cP 3) (.k (.int 0))) [some (.ref n), some (.str SM), some (.str EV), none, none, none, none] h = .ok (.bl ((r : Int) == 0)) h1 := cmp_ok er k_ok rfl
    cases hr : ((r : Int) == 0) with
    | true =>
      rw [hr] at ec
      have ek := kept_ok k h1
      have s2 := s1.app [.lst (KW.map .str)]
      have hg : (h1 ++ [O.lst (KW.map .str)])[h1.length]? = some (.lst (KW.map .str)) := app_new
      obtain ⟨r2, h3, q2, er2, s3, k3⟩ := pkE s2 42 (by decide) (by decide) k [some (.ref n), some (.str SM), some (.str EV), none, none, none, none] rfl (.k (.int 42)) fun _ => k_ok
      obtain ⟨w, hw⟩ := KW_at r2 (by omega)
      have hw2 : (KW.map W.str)[r2]? = some (.str w) := by rw [List.getElem?_map, hw]; rfl
      obtain ⟨s, h4, e4, s4⟩ := eA_ok s3 k w (List.mem_of_getElem? hw)
      refine ⟨s, h4, ?_, s4⟩
      refine (seq_nx (asg_nx k_ok)).trans ((seq_nx (asg_nx k_ok)).trans (seq_rt ((if_tt (tm_of ec)).trans ?_)))
      refine (seq_nx (asg_nx (ix_ok (call_ok (by rw [ev_nil]) ek) er2 (ix_lst (k3 _ _ s1.ne.1 s1.ne.2 hg) hw2)))).trans ?_
      exact seq_rt (ret_rt e4)
    | false =>
      rw [hr] at ec
      obtain ⟨r2, h2, q2, er2, s2, k2⟩ := pkE s1 15 (by decide) (by decide) k [some (.ref n), some (.str SM), some (.str EV), none, some (.str []), none, none] rfl (.k (.int 15)) fun _ => k_ok
      obtain ⟨σ2, h3, e3, ⟨s, hs, o5, rfl⟩, s3⟩ := forP_ix (t := .nm 5) (xs := rangeW 0 r2) (body := fun σ h => evSs dat.prog (run dat.prog (k + 1)) (.cons (.asg (.nm 4) eD) .nil) σ h)
        (fun i σ h => (∃ s : List Nat, s.length ≤ i ∧ ∃ o5, σ = [some (.ref n), some (.str SM), some (.str EV), none, some (.str s), o5, none]) ∧ Sh n m h) (fun i x σ h hx hi => by
          obtain ⟨⟨s, hs, o5, rfl⟩, sh⟩ := hi
          obtain ⟨hi, rfl⟩ := range_get hx
          rw [Int.zero_add]
          obtain ⟨c, h', e, s', _⟩ := eD_ok sh k i s (by omega) [some (.ref n), some (.str SM), some (.str EV), none, some (.str s), some (.int (i : Int)), none] rfl rfl rfl rfl
          exact ⟨_, rfl, _, h', .inl ((seq_nx (asg_nx e)).trans nil_nx), ⟨s ++ [c], by simp; omega, _, rfl⟩, s'⟩) r2 0 (by simp [range_len]) [some (.ref n), some (.str SM), some (.str EV), none, some (.str []), none, none] h2 ⟨⟨[], Nat.le_refl _, none, rfl⟩, s2⟩
      rw [range_len] at hs
      have hin : in62 (r2 : Int) = true := by
        simp [in62]
        omega
      have ef : evS dat.prog (run dat.prog (k + 1)) (.for_ (.nm 5) (.r1 (cP 15)) (.cons (.asg (.nm 4) eD) .nil)) [some (.ref n), some (.str SM), some (.str EV), none, some (.str []), none, none] h1 = .ok (.nx [some (.ref n), some (.str SM), some (.str EV), none, some (.str s), o5, none]) h3 := by
        rw [for_pure (r1_pure er2 hin)]
        exact e3
      have pre : ∀ rest, evSs dat.prog (run dat.prog (k + 1)) (.cons (.asg (.nm 1) (.k (.str SM))) (.cons (.asg (.nm 2) (.k (.str EV))) (.cons (.if_ (.cmp .eq (cP 3) (.k (.int 0))) (.cons (.asg (.nm 3) (.ix (.call 6 .nil) (cP 42))) (.cons (.ret eA) .nil)) .nil) (.cons (.asg (.nm 4) (.k (.str []))) (.cons (.for_ (.nm 5) (.r1 (cP 15)) (.cons (.asg (.nm 4) eD) .nil)) rest))))) [some (.ref n), none, none, none, none, none, none] h = evSs dat.prog (run dat.prog (k + 1)) rest [some (.ref n), some (.str SM), some (.str EV), none, some (.str s), o5, none] h3 := fun rest =>
        (seq_nx (asg_nx k_ok)).trans ((seq_nx (asg_nx k_ok)).trans ((seq_nx ((if_ff (tm_of ec)).trans nil_nx)).trans ((seq_nx (asg_nx k_ok)).trans (seq_nx ef))))
      rw [pre]
      cases s with
      | nil =>
        refine ⟨[], h3, ?_, s3⟩
        exact (seq_nx ((if_ff (tm_of (and_ff (cmp_ok (v_ok rfl) k_ok rfl)))).trans nil_nx)).trans (seq_rt (ret_rt (v_ok rfl)))
      | cons c t =>
        obtain ⟨r4, h4, q4, er4, s4, k4⟩ := pkE s3 4 (by decide) (by decide) k [some (.ref n), some (.str SM), some (.str EV), none, some (.str (c :: t)), o5, none] rfl (.k (.int 4)) fun _ => k_ok
        have en : evE dat.prog (run dat.prog (k + 1)) (.cmp .ne (.v 4) (.k (.str []))) [some (.ref n), some (.str SM), some (.str EV), none, some (.str (c :: t)), o5, none] h3 = .ok (.bl true) h3 := cmp_ok (v_ok rfl) k_ok rfl
        have ec4 : evE dat.prog (run dat.prog (k + 1)) (.cmp .eq (cP 4) (.k (.int 0))) [some (.ref n), some (.str SM), some (.str EV), none, some (.str (c :: t)), o5, none] h3 = .ok (.bl ((r4 : Int) == 0)) h4 := cmp_ok er4 k_ok rfl
        cases hr4 : ((r4 : Int) == 0) with
        | false =>
          rw [hr4] at ec4
          refine ⟨c :: t, h4, ?_, s4⟩
          exact (seq_nx ((if_ff (tm_of (and_tt en ec4))).trans nil_nx)).trans (seq_rt (ret_rt (v_ok rfl)))
        | true =>
          rw [hr4] at ec4
          have hlt : (c :: t).length ≤ 15 := by omega
          have hlt2 : t.length ≤ 14 := by
            simp at hlt
            omega
          obtain ⟨p, h5, q5, er5, s5, k5⟩ := pkE s4 ((c :: t).length : Int) (by simp) (by omega) k [some (.ref n), some (.str SM), some (.str EV), none, some (.str (c :: t)), o5, none] rfl (.bi .len (.cons (.v 4) .nil)) fun _ => bi_ok (es_one (v_ok rfl)) rfl
          obtain ⟨r6, h6, q6, er6, s6, k6⟩ := pkE s5 58 (by decide) (by decide) k [some (.ref n), some (.str SM), some (.str EV), none, some (.str (c :: t)), o5, some (.int (p : Int))] rfl (.bi .len (.cons (.v 2) .nil)) fun _ => bi_ok (es_one (v_ok rfl)) rfl
          obtain ⟨d, hd⟩ := EV_at r6 (by omega)
          have c1 : (cut (c :: t) none (some (p : Int))).length ≤ 100 := by
            simp [cut]
            omega
          have c2 : (cut (c :: t) (some ((p : Int) + 1)) none).length ≤ 100 := by
            simp [cut]
            omega
          have e7 : evE dat.prog (run dat.prog (k + 1)) eC [some (.ref n), some (.str SM), some (.str EV), none, some (.str (c :: t)), o5, some (.int (p : Int))] h5 = .ok (.str (cut (c :: t) none (some (p : Int)) ++ [d] ++ cut (c :: t) (some ((p : Int) + 1)) none)) h6 := by
            refine bin_ok (y := .str (cut (c :: t) (some ((p : Int) + 1)) none)) (h2 := h6) (bin_ok (x := .str (cut (c :: t) none (some (p : Int)))) (h1 := h5) (by simp [ev_v, ev_k, ev_g, ev_bin, ev_neg, ev_cmp, ev_chain, ev_isN, ev_notN, ev_isB, ev_and, ev_or, ev_not, ev_ite, ev_call, ev_mk, ev_meth, ev_fld, ev_bi, ev_bm, ev_ix, ev_sl, ev_lst, ev_tup, ev_nil, ev_cons, ev_on, ev_os, es_asg, es_setIx, es_setF, es_augF, es_augV, es_ex, es_ret, es_retN, es_if, es_brk, es_cont, es_pass, es_nil, es_cons, tmT, getV, fin, start, seqF, asgR, asgT, optA, intA, refA, lstA, ifA, brB, truR, tru, binop, intOp, addW, mulW, newL, in64, in62, in63, cmpop, cmpI, ixR, ixL, ixS, atI, ixN, retO, biR, lenO, seqO, lstAt, cMod, cDiv, cPow, cAny, cShr, setIxR, setAll, isNon, isBl, isTy, Ty.ofBl, Ty.ofInt, Ty.ofStr, Ty.ofTup, Ty.ofLst, arg0, arg1, bmT, bmR, slR, sIx, negR, strA, dd_non, dd_bl, dd_int, dd_str, dd_ints]) (ix_ok (v_ok rfl) er6 (ixS_nat hd)) (add_str (by simp [SZ]; omega))) (by simp [ev_v, ev_k, ev_g, ev_bin, ev_neg, ev_cmp, ev_chain, ev_isN, ev_notN, ev_isB, ev_and, ev_or, ev_not, ev_ite, ev_call, ev_mk, ev_meth, ev_fld, ev_bi, ev_bm, ev_ix, ev_sl, ev_lst, ev_tup, ev_nil, ev_cons, ev_on, ev_os, es_asg, es_setIx, es_setF, es_augF, es_augV, es_ex, es_ret, es_retN, es_if, es_brk, es_cont, es_pass, es_nil, es_cons, tmT, getV, fin, start, seqF, asgR, asgT, optA, intA, refA, lstA, ifA, brB, truR, tru, binop, intOp, addW, mulW, newL, in64, in62, in63, cmpop, cmpI, ixR, ixL, ixS, atI, ixN, retO, biR, lenO, seqO, lstAt, cMod, cDiv, cPow, cAny, cShr, setIxR, setAll, isNon, isBl, isTy, Ty.ofBl, Ty.ofInt, Ty.ofStr, Ty.ofTup, Ty.ofLst, arg0, arg1, bmT, bmR, slR, sIx, negR, strA, dd_non, dd_bl, dd_int, dd_str, dd_ints]) (add_str (by simp [SZ] at c1 c2 ⊢; omega))
          refine ⟨cut (c :: t) none (some (p : Int)) ++ [d] ++ cut (c :: t) (some ((p : Int) + 1)) none, h6, ?_, s6⟩
          refine (seq_nx ((if_tt (tm_of (and_tt en ec4))).trans ((seq_nx (asg_nx er5)).trans ((seq_nx (asg_nx e7)).trans nil_nx)))).trans ?_
          exact seq_rt (ret_rt (v_ok rfl))
  obtain ⟨s, h', e, s'⟩ := main
  refine ⟨s, h', ?_, s'⟩
  rw [e]
  rfl
theorem same_bl (k : Nat) (x : Bool) (h : Hm) : run dat.prog (k + 1) 3 [.bl x, .bl x] h = .ok (.bl true) h := by
  have hf : dat.prog.fn 3 = some f3 := rfl
  rw [run, hf]
  simp only [f3, b3]
  simp [ev_v, ev_k, ev_g, ev_bin, ev_neg, ev_cmp, ev_chain, ev_isN, ev_notN, ev_isB, ev_and, ev_or, ev_not, ev_ite, ev_call, ev_mk, ev_meth, ev_fld, ev_bi, ev_bm, ev_ix, ev_sl, ev_lst, ev_tup, ev_nil, ev_cons, ev_on, ev_os, es_asg, es_setIx, es_setF, es_augF, es_augV, es_ex, es_ret, es_retN, es_if, es_brk, es_cont, es_pass, es_nil, es_cons, tmT, getV, fin, start, seqF, asgR, asgT, optA, intA, refA, lstA, ifA, brB, truR, tru, binop, intOp, addW, mulW, newL, in64, in62, in63, cmpop, cmpI, ixR, ixL, ixS, atI, ixN, retO, biR, lenO, seqO, lstAt, cMod, cDiv, cPow, cAny, cShr, setIxR, setAll, isNon, isBl, isTy, Ty.ofBl, Ty.ofInt, Ty.ofStr, Ty.ofTup, Ty.ofLst, arg0, arg1, bmT, bmR, slR, sIx, negR, strA, eqR, eqW, eqD, dd_non, dd_bl, dd_int, dd_str, dd_ints]
theorem state_ok (k : Nat) (ns : List Int) : run dat.prog (k + 1) 1 [.ref 0] [.fro (ns.map .int)] = .ok (.ref 2) [.fro (ns.map .int), .lst (ns.map .int), .lst [.ref 1, .int 0, .int 7]] := by
  have hf : dat.prog.fn 1 = some f1 := rfl
  rw [run, hf]
  simp only [f1, b1]
  simp [ev_v, ev_k, ev_g, ev_bin, ev_neg, ev_cmp, ev_chain, ev_isN, ev_notN, ev_isB, ev_and, ev_or, ev_not, ev_ite, ev_call, ev_mk, ev_meth, ev_fld, ev_bi, ev_bm, ev_ix, ev_sl, ev_lst, ev_tup, ev_nil, ev_cons, ev_on, ev_os, es_asg, es_setIx, es_setF, es_augF, es_augV, es_ex, es_ret, es_retN, es_if, es_brk, es_cont, es_pass, es_nil, es_cons, tmT, getV, fin, start, seqF, asgR, asgT, optA, intA, refA, lstA, ifA, brB, truR, tru, binop, intOp, addW, mulW, newL, in64, in62, in63, cmpop, cmpI, ixR, ixL, ixS, atI, ixN, retO, biR, lenO, seqO, lstAt, cMod, cDiv, cPow, cAny, cShr, setIxR, setAll, isNon, isBl, isTy, Ty.ofBl, Ty.ofInt, Ty.ofStr, Ty.ofTup, Ty.ofLst, arg0, arg1, bmT, bmR, slR, sIx, negR, strA, dd_non, dd_bl, dd_int, dd_str, dd_ints]
abbrev bT : Ss := .cons (.asg (.nm 3) (.call 2 (.cons (.v 1) .nil))) (.cons (.if_ (.not_ (.call 3 (.cons (.call 4 (.cons (.v 3) .nil)) (.cons (.call 5 (.cons (.v 3) .nil)) .nil)))) (.cons (.ret (.k (.bl false))) .nil) .nil) .nil)
abbrev eE : E := .cmp .eq (.lc (.v 4) (.nm 4) (.val (.call 6 .nil)) (.some (.isB true false (.call 4 (.cons (.v 4) .nil)))) [4]) (.lst .nil)
abbrev eR : E := .bin .add (.k (.int 3)) (.bi .min (.cons (.k (.int 60)) (.cons (.bi .len (.cons (.v 0) .nil)) .nil)))
theorem b0_eq : b0 = .cons (.asg (.nm 1) (.call 1 (.cons (.v 0) .nil))) (.cons (.for_ (.nm 2) (.r1 eR) bT) (.cons (.ret eE) .nil)) := rfl
theorem cnt_ok (k : Nat) (ns : List Int) (σ : Env) (h : Hm) (hσ : σ[0]? = some (some (.ref 0))) (h0 : h[0]? = some (.fro (ns.map .int))) : ∃ j : Int, 0 ≤ j ∧ j ≤ 63 ∧ evE dat.prog (run dat.prog k) eR σ h = .ok (.int j) h := by
  by_cases hc : (ns.length : Int) < 60
  · refine ⟨3 + ns.length, by omega, by omega, ?_⟩
    have hm : (if (ns.length : Int) < 60 then (ns.length : Int) else 60) = ns.length := if_pos hc
    simp [ev_v, ev_k, ev_g, ev_bin, ev_neg, ev_cmp, ev_chain, ev_isN, ev_notN, ev_isB, ev_and, ev_or, ev_not, ev_ite, ev_call, ev_mk, ev_meth, ev_fld, ev_bi, ev_bm, ev_ix, ev_sl, ev_lst, ev_tup, ev_nil, ev_cons, ev_on, ev_os, es_asg, es_setIx, es_setF, es_augF, es_augV, es_ex, es_ret, es_retN, es_if, es_brk, es_cont, es_pass, es_nil, es_cons, tmT, getV, fin, start, seqF, asgR, asgT, optA, intA, refA, lstA, ifA, brB, truR, tru, binop, intOp, addW, mulW, newL, in64, in62, in63, cmpop, cmpI, ixR, ixL, ixS, atI, ixN, retO, biR, lenO, seqO, lstAt, cMod, cDiv, cPow, cAny, cShr, setIxR, setAll, isNon, isBl, isTy, Ty.ofBl, Ty.ofInt, Ty.ofStr, Ty.ofTup, Ty.ofLst, arg0, arg1, bmT, bmR, slR, sIx, negR, strA, dd_non, dd_bl, dd_int, dd_str, dd_ints, hσ, h0, hm]
  · refine ⟨63, by omega, by omega, ?_⟩
    have hm : (if (ns.length : Int) < 60 then (ns.length : Int) else 60) = 60 := if_neg hc
    simp [ev_v, ev_k, ev_g, ev_bin, ev_neg, ev_cmp, ev_chain, ev_isN, ev_notN, ev_isB, ev_and, ev_or, ev_not, ev_ite, ev_call, ev_mk, ev_meth, ev_fld, ev_bi, ev_bm, ev_ix, ev_sl, ev_lst, ev_tup, ev_nil, ev_cons, ev_on, ev_os, es_asg, es_setIx, es_setF, es_augF, es_augV, es_ex, es_ret, es_retN, es_if, es_brk, es_cont, es_pass, es_nil, es_cons, tmT, getV, fin, start, seqF, asgR, asgT, optA, intA, refA, lstA, ifA, brB, truR, tru, binop, intOp, addW, mulW, newL, in64, in62, in63, cmpop, cmpI, ixR, ixL, ixS, atI, ixN, retO, biR, lenO, seqO, lstAt, cMod, cDiv, cPow, cAny, cShr, setIxR, setAll, isNon, isBl, isTy, Ty.ofBl, Ty.ofInt, Ty.ofStr, Ty.ofTup, Ty.ofLst, arg0, arg1, bmT, bmR, slR, sIx, negR, strA, dd_non, dd_bl, dd_int, dd_str, dd_ints, hσ, h0, hm]
theorem turn_ok {n m : Nat} {h : Hm} (sh : Sh n m h) (k : Nat) (x : W) (o2 o3 o4 : Option W) : ∃ o3' h', evSs dat.prog (run dat.prog (k + 2)) bT [some (.ref 0), some (.ref n), some x, o3, o4] h = .ok (.nx [some (.ref 0), some (.ref n), some x, o3', o4]) h' ∧ Sh n m h' := by
  obtain ⟨s, h1, e1, s1⟩ := drawn_ok sh k
  have e2 := is_name_ok (k + 1) s h1
  obtain ⟨t, e3⟩ := due_ok k s h1
  have e4 := same_bl (k + 1) (nmB s) (h1 ++ t)
  refine ⟨some (.str s), h1 ++ t, ?_, s1.app t⟩
  refine (seq_nx (asg_nx (call_ok (es_one (v_ok rfl)) e1))).trans ?_
  exact (seq_nx ((if_ff (tm_not (call_ok (es_more (call_ok (es_one (v_ok rfl)) e2) (es_one (call_ok (es_one (v_ok rfl)) e3))) e4))).trans nil_nx)).trans nil_nx
theorem KW_not : ∀ s ∈ KW, nmB s = false := by decide +kernel
theorem eE_ok (k : Nat) (w0 w1 : W) (o2 o3 o4 : Option W) (h : Hm) : ∃ h', evE dat.prog (run dat.prog (k + 1)) eE [some w0, some w1, o2, o3, o4] h = .ok (.bl true) h' := by
  have ek := kept_ok k h
  have hl : lstAt (h ++ [.lst (KW.map .str)]) h.length = some (KW.map .str) := by
    unfold lstAt
    rw [app_new]
  have elc : evE dat.prog (run dat.prog (k + 1)) (.lc (.v 4) (.nm 4) (.val (.call 6 .nil)) (.some (.isB true false (.call 4 (.cons (.v 4) .nil)))) [4]) [some w0, some w1, o2, o3, o4] h = .ok (.ref (h ++ [O.lst (KW.map .str)]).length) (h ++ [.lst (KW.map .str)] ++ [.lst []]) := by
    have ei : evIt dat.prog (run dat.prog (k + 1)) (.val (.call 6 .nil)) [some w0, some w1, o2, o3, o4] h = .ok (.live h.length) (h ++ [.lst (KW.map .str)]) := by
      rw [ev_val]
      show ((evE dat.prog (run dat.prog (k + 1)) (.call 6 .nil) _ h).bind fun x h1 => srcV x h1) = _
      rw [call_ok (by rw [ev_nil]) ek]
      show (match lstAt (h ++ [O.lst (KW.map .str)]) h.length with
        | some _ => R.ok (Src.live h.length) (h ++ [O.lst (KW.map .str)])
        | none => .no) = _
      rw [hl]
    refine (lc_live ei hl (lcL_pure hl (fun _ => false) (fun x => x) (fun x hx => ?_) (by decide) _ 0 (by simp) [] (Nat.le_refl _))).trans ?_
    · obtain ⟨s, hs, rfl⟩ := List.mem_map.mp hx
      have e2 := is_name_ok k s (h ++ [.lst (KW.map .str)])
      rw [KW_not s hs] at e2
      refine ⟨_, rfl, ?_, fun hp => Bool.noConfusion hp⟩
      rw [ev_cs]
      refine tm_of (b := false) ?_
      rw [ev_isB]
      show ((evE dat.prog (run dat.prog (k + 1)) (.call 4 (.cons (.v 4) .nil)) _ _).bind fun x h1 => isBl true false x h1) = _
      rw [call_ok (es_one (v_ok rfl)) e2]
      rfl
    · rw [List.drop_zero, show (KW.map W.str).filter (fun _ => false) = [] by simp]
      rfl
  refine ⟨h ++ [.lst (KW.map .str)] ++ [.lst []] ++ [.lst []], cmp_ok elc (lst_ok (by rw [ev_nil])) ?_⟩
  show eqR false _ _ _ = _
  have en := eq_nils (h := h ++ [.lst (KW.map .str)] ++ [.lst []] ++ [.lst []]) (m := (h ++ [O.lst (KW.map .str)]).length) (p := (h ++ [O.lst (KW.map .str)] ++ [O.lst []]).length) (ss := []) false (by
    unfold lstAt
    rw [app_get app_new]
    rfl) (by
    unfold lstAt
    rw [app_new])
  rw [en]
  rfl
theorem law_ok (k : Nat) (ns : List Int) : ∃ h', run dat.prog (k + 3) 0 [.ref 0] [.fro (ns.map .int)] = .ok (.bl true) h' := by
  have hf : dat.prog.fn 0 = some f0 := rfl
  rw [run, hf]
  have es := state_ok (k + 1) ns
  have s0 : Sh 2 1 [.fro (ns.map .int), .lst (ns.map .int), .lst [.ref 1, .int 0, .int 7]] := ⟨by decide, ns, 0, 7, rfl, rfl⟩
  obtain ⟨j, hj1, hj, ej⟩ := cnt_ok (k + 2) ns [some (.ref 0), some (.ref 2), none, none, none] [.fro (ns.map .int), .lst (ns.map .int), .lst [.ref 1, .int 0, .int 7]] rfl rfl
  have hj0 : in62 j = true := by
    simp [in62]
    omega
  obtain ⟨σ2, h5, e5, ⟨o2, o3, o4, rfl⟩, s5⟩ := forP_ok (t := .nm 2) (body := fun σ h => evSs dat.prog (run dat.prog (k + 2)) bT σ h) (fun σ h => (∃ o2 o3 o4, σ = [some (.ref 0), some (.ref 2), o2, o3, o4]) ∧ Sh 2 1 h) (rangeW 0 j.toNat) (fun x _ σ h hi => by
    obtain ⟨⟨o2, o3, o4, rfl⟩, s⟩ := hi
    obtain ⟨o3', h', e, s'⟩ := turn_ok s k x o2 o3 o4
    exact ⟨_, rfl, _, h', .inl e, ⟨_, _, _, rfl⟩, s'⟩) [some (.ref 0), some (.ref 2), none, none, none] _ ⟨⟨none, none, none, rfl⟩, s0⟩
  obtain ⟨h6, e6⟩ := eE_ok (k + 1) (.ref 0) (.ref 2) o2 o3 o4 h5
  refine ⟨h6, ?_⟩
  show fin (evSs dat.prog (run dat.prog (k + 2)) b0 [some (.ref 0), none, none, none, none] [.fro (ns.map .int)]) = _
  have main : evSs dat.prog (run dat.prog (k + 2)) b0 [some (.ref 0), none, none, none, none] [.fro (ns.map .int)] = .ok (.rt (.bl true)) h6 := by
    rw [b0_eq]
    refine (seq_nx (asg_nx (call_ok (es_one (v_ok rfl)) es))).trans ?_
    refine (seq_nx ((for_pure (r1_pure ej hj0)).trans e5)).trans ?_
    exact seq_rt (ret_rt e6)
  rw [main]
  rfl
theorem goal : Goal := fun ns _ => law_ok 98 ns
end Q
theorem PySem.Challenge.cw_nobodyspeaks_k03_names_holds : PySem.Challenge.rw_nobodyspeaks_k03_names.Holds := by
  exact Q.holds Q.goal
end
