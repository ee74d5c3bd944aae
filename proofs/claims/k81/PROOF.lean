import PyProof.Rows.All
import Wide.All
import OpenK.AllK
import Wide.FinOn
import HandS.ForMost
import HandS.Exc
import HandS.Gcd
import HandS.IsInst
import HandS.TupAny
import HandS.TupMul
import HandS.Flow
import HandS.CallSlots
import HandS.WordsExc
import HandS.Zip
import HandS.Defaults
import KE.KStateDown
import HandS.Words
import HandS.More
import HandS.Head3
import HandS.HeadEnd
import HandS.HeadHook2
import HandS.EndBits
import PySem.Challenge.RW_loopworks_k81_elimination_of_conditions
section
set_option autoImplicit false
namespace Lw
abbrev Tx := List Nat
/-- data; loc n: the object n of the store -/
inductive D where
  | non | bl (b : Bool) | int (i : Int) | str (s : Tx) | tup (ds : List D) | loc (n : Nat)
mutual
def D.dec : (a b : D) → Decidable (a = b)
  | .non, .non => isTrue rfl
  | .bl a, .bl b => if h : a = b then isTrue (by rw [h]) else isFalse (fun e => h (by cases e; rfl))
  | .int a, .int b => if h : a = b then isTrue (by rw [h]) else isFalse (fun e => h (by cases e; rfl))
  | .str a, .str b => if h : a = b then isTrue (by rw [h]) else isFalse (fun e => h (by cases e; rfl))
  | .loc a, .loc b => if h : a = b then isTrue (by rw [h]) else isFalse (fun e => h (by cases e; rfl))
  | .tup a, .tup b => match D.decs a b with
    | isTrue h => isTrue (by rw [h])
    | isFalse h => isFalse (fun e => h (by cases e; rfl))
  | .non, .bl _ | .non, .int _ | .non, .str _ | .non, .tup _ | .non, .loc _ => isFalse (fun e => nomatch e)
  | .bl _, .non | .bl _, .int _ | .bl _, .str _ | .bl _, .tup _ | .bl _, .loc _ => isFalse (fun e => nomatch e)
  | .int _, .non | .int _, .bl _ | .int _, .str _ | .int _, .tup _ | .int _, .loc _ => isFalse (fun e => nomatch e)
  | .str _, .non | .str _, .bl _ | .str _, .int _ | .str _, .tup _ | .str _, .loc _ => isFalse (fun e => nomatch e)
  | .tup _, .non | .tup _, .bl _ | .tup _, .int _ | .tup _, .str _ | .tup _, .loc _ => isFalse (fun e => nomatch e)
  | .loc _, .non | .loc _, .bl _ | .loc _, .int _ | .loc _, .str _ | .loc _, .tup _ => isFalse (fun e => nomatch e)
def D.decs : (a b : List D) → Decidable (a = b)
  | [], [] => isTrue rfl
  | [], _ :: _ => isFalse (fun e => nomatch e)
  | _ :: _, [] => isFalse (fun e => nomatch e)
  | x :: xs, y :: ys => match D.dec x y with
    | isFalse h => isFalse (fun e => h (by cases e; rfl))
    | isTrue h => match D.decs xs ys with
      | isTrue h' => isTrue (by rw [h, h'])
      | isFalse h' => isFalse (fun e => h' (by cases e; rfl))
end
instance : DecidableEq D := D.dec
/-- objects: a list, a list that is only read, a dict (t: its keys are tuples), an instance -/
inductive O where
  | lst (ds : List D) | fro (ds : List D) | dct (t : Bool) (kvs : List (D × D)) | ins (c : Nat) (fs : List (Nat × D))
abbrev Store := List O
abbrev Env := List (Option D)
structure Xn where
  cls : Nat
  fs : List (Nat × D)
inductive R (α : Type) where
  | ok (a : α) (S : Store) | exc (x : Xn) (S : Store) | bad
def R.bind {α β : Type} (r : R α) (f : α → Store → R β) : R β := match r with
  | .ok a S => f a S
  | .exc x S => .exc x S
  | .bad => .bad
inductive F where
  | nx (en : Env) (S : Store) | rt (d : D) (S : Store) | bk (en : Env) (S : Store) | ct (en : Env) (S : Store) | exc (x : Xn) (en : Env) (S : Store) | bad
/-- behind an expression -/
def R.thn {α : Type} (r : R α) (en : Env) (f : α → Store → F) : F := match r with
  | .ok a S => f a S
  | .exc x S => .exc x en S
  | .bad => .bad
inductive Bop where | add | sub | mul | fdiv | mod | pow
  deriving DecidableEq
inductive Cop where | eq | ne | lt | le | gt | ge | isN | notN | in_ | nin
  deriving DecidableEq
inductive Ty where | tbool | tint | tstr | ttup | tlst | cls (c : Nat)
  deriving DecidableEq
inductive Bif where | len | abs | int | tuple | list | all | any | sum | max | min | gcd | lcm | str
  deriving DecidableEq
inductive Bmt where | append | extend
  deriving DecidableEq
mutual
inductive Tg where
  | nm (i : Nat) | tp (ts : Tgs)
inductive Tgs where
  | nil | cons (t : Tg) (ts : Tgs)
end
mutual
inductive E where
  | var (i : Nat) | cst (d : D) | bin (o : Bop) (a b : E) | neg (a : E) | not (a : E) | cmp (o : Cop) (a b : E) | chain (o p : Cop) (a b c : E) | and (a b : E) | or (a b : E) | ite (c a b : E)
  | tup (es : Es) | lst (es : Es) | dnew (t : Bool) | ix (a b : E) | sl (a lo hi : E) | attr (e : E) (f : Nat) | call (f : Nat) (es : Es) | meth (m : Nat) (e : E) (es : Es)
  | bif (b : Bif) (es : Es) | bmt (m : Bmt) (e : E) (es : Es) | mk (c : Nat) (es : Es) | isi (e : E) (t : Ty) | comp (elt : E) (tg : Tg) (own : List Nat) (it : It) (cond : E)
inductive Es where
  | nil | cons (e : E) (es : Es)
inductive It where
  | seq (e : E) | rng1 (a : E) | rng2 (a b : E) | enum (e : E) | zip (a b : E)
end
mutual
inductive Sm where
  | set (t : Tg) (e : E) | setIx (a i e : E) | setAt (o : E) (f : Nat) (e : E) | aug (i : Nat) (o : Bop) (e : E) | augAt (a : E) (f : Nat) (o : Bop) (e : E) | augIx (a i : E) (o : Bop) (e : E)
  | ex (e : E) | ret (e : E) | retN | ife (c : E) (a b : Sms) | forr (t : Tg) (it : It) (b : Sms) | whl (c : E) (b : Sms) | pass | brk | cont
inductive Sms where
  | nil | cons (s : Sm) (ss : Sms)
end

/-! ### values -/
/-- the greatest length of a list -/
def line : Nat := 16777216
/-- truth -/
def truth (S : Store) : D → Option Bool
  | .non => some false
  | .bl b => some b
  | .int i => some (decide (i ≠ 0))
  | .str s => if s.length ≤ line then some (!s.isEmpty) else none
  | .tup ds => some (!ds.isEmpty)
  | .loc n => match S[n]? with
    | some (.lst ds) => some (!ds.isEmpty)
    | some (.fro ds) => some (!ds.isEmpty)
    | _ => none
/-- an index as a place -/
def pix (n : Nat) (i : Int) : Option Nat := if 0 ≤ i then (if i < n then some i.toNat else none) else if -(n : Int) ≤ i then some (i + n).toNat else none
/-- a slice's bound -/
def six (n d : Nat) : Option Int → Nat
  | none => d
  | some v => if v < 0 then (v + (n : Int)).toNat else min v.toNat n
def cut {α : Type} (xs : List α) (lo hi : Option Int) : List α := (xs.drop (six xs.length 0 lo)).take (six xs.length xs.length hi - six xs.length 0 lo)
/-- a list or a tuple -/
def seqOf (S : Store) : D → Option (List D)
  | .tup ds => some ds
  | .loc n => match S[n]? with
    | some (.lst ds) => some ds
    | some (.fro ds) => some ds
    | _ => none
  | _ => none
/-- what is walked -/
def walkOf (S : Store) : D → Option (List D)
  | .str s => some (s.map fun c => .str [c])
  | d => seqOf S d
/-- a key: an int, a text -/
def isKey1 : D → Bool
  | .int _ => true
  | .str _ => true
  | _ => false
def isKey (kon : D → Bool) (t : Bool) (k : D) : Bool := match k with
  | .tup ds => t && ds.all isKey1 && !kon (.tup ds)
  | d => !t && isKey1 d
def dfind (kvs : List (D × D)) (k : D) : Option D := (kvs.find? fun kv => decide (kv.1 = k)).map (·.2)
def dput (kvs : List (D × D)) (k v : D) : List (D × D) := if kvs.any (fun kv => decide (kv.1 = k)) then kvs.map (fun kv => if kv.1 = k then (kv.1, v) else kv) else kvs ++ [(k, v)]
/-- whole data, told as a tree -/
inductive T where
  | non | bl (b : Bool) | int (i : Int) | str (s : Tx) | tup (ts : List T) | lst (ts : List T)
mutual
def teq : T → T → Bool
  | .non, .non => true
  | .bl a, .bl b => a == b
  | .bl a, .int j => (if a then 1 else 0) == j
  | .int i, .bl b => i == (if b then 1 else 0)
  | .int i, .int j => i == j
  | .str x, .str y => decide (x = y)
  | .tup xs, .tup ys => teqs xs ys
  | .lst xs, .lst ys => teqs xs ys
  | _, _ => false
def teqs : List T → List T → Bool
  | [], [] => true
  | x :: xs, y :: ys => teq x y && teqs xs ys
  | _, _ => false
end
def mapO {α β : Type} (f : α → Option β) : List α → Option (List β)
  | [] => some []
  | x :: xs => match f x with
    | none => none
    | some y => match mapO f xs with
      | none => none
      | some ys => some (y :: ys)
/-- the tree of a value, if it is at most n deep -/
def deep (S : Store) : Nat → D → Option T
  | 0, _ => none
  | n + 1, d => match d with
    | .non => some .non
    | .bl b => some (.bl b)
    | .int i => some (.int i)
    | .str s => if s.all (fun c => decide (c < 1114112)) then some (.str s) else none
    | .tup ds => (mapO (deep S n) ds).map .tup
    | .loc l => match S[l]? with
      | some (.lst ds) => (mapO (deep S n) ds).map .lst
      | some (.fro ds) => (mapO (deep S n) ds).map .lst
      | _ => none
/-- == -/
def deq (S : Store) (a b : D) : Option Bool := match a, b with
  | .int i, .int j => some (decide (i = j))
  | .str x, .str y => some (decide (x = y))
  | .bl i, .bl j => some (decide (i = j))
  | .non, .non => some true
  | .non, .int _ | .int _, .non | .non, .bl _ | .bl _, .non | .non, .str _ | .str _, .non | .int _, .str _ | .str _, .int _ | .bl _, .str _ | .str _, .bl _ => some false
  | _, _ => match deep S 60 a, deep S 60 b with
    | some x, some y => some (teq x y)
    | _, _ => none
/-- a value that is no bool, told apart by = -/
def plainD : D → Bool
  | .non => true
  | .int _ => true
  | .str _ => true
  | _ => false
def memD (neg : Bool) (x : D) (ds : List D) : Option Bool := if plainD x && ds.all plainD then some (if neg then !decide (x ∈ ds) else decide (x ∈ ds)) else none
def isin (kon : D → Bool) (S : Store) (neg : Bool) (x y : D) : Option Bool := match y with
  | .str s => match x with
    | .str [c] => some (if neg then !decide (c ∈ s) else decide (c ∈ s))
    | _ => none
  | .loc n => match S[n]? with
    | some (.dct t kvs) => if isKey kon t x then some (if neg then !(dfind kvs x).isSome else (dfind kvs x).isSome) else none
    | some (.lst ds) => memD neg x ds
    | some (.fro ds) => memD neg x ds
    | _ => none
  | .tup ds => memD neg x ds
  | _ => none
/-- a comparison -/
def cmpD (kon : D → Bool) (o : Cop) (S : Store) (a b : D) : Option Bool := match o with
  | .eq => deq S a b
  | .ne => (deq S a b).map (!·)
  | .lt => match a, b with | .int i, .int j => some (decide (i < j)) | _, _ => none
  | .le => match a, b with | .int i, .int j => some (decide (i ≤ j)) | _, _ => none
  | .gt => match a, b with | .int i, .int j => some (decide (j < i)) | _, _ => none
  | .ge => match a, b with | .int i, .int j => some (decide (j ≤ i)) | _, _ => none
  | .isN => match b with | .non => some (decide (a = .non)) | _ => none
  | .notN => match b with | .non => some (!decide (a = .non)) | _ => none
  | .in_ => isin kon S false a b
  | .nin => isin kon S true a b
def mulOk (i j : Int) : Bool := (decide (-(2 ^ 64) < i) && decide (i < 2 ^ 64)) || (decide (-(2 ^ 64) < j) && decide (j < 2 ^ 64))
def powOk (i j : Int) : Bool := decide (0 ≤ j) && decide (j ≤ 1000000) && decide (i.natAbs < 2 ^ 64)
def rlist (n : Nat) (xs : List D) : List D := (List.replicate n xs).flatten
/-- a binary operation -/
def binD (o : Bop) (a b : D) (S : Store) : R D := match o with
  | .add => match a, b with
    | .int i, .int j => .ok (.int (i + j)) S
    | .str x, .str y => if x.length + y.length ≤ line then .ok (.str (x ++ y)) S else .bad
    | .tup x, .tup y => if x.length + y.length ≤ line then .ok (.tup (x ++ y)) S else .bad
    | .loc l, .loc k => match S[l]?, S[k]? with
      | some (.lst x), some (.lst y) => if x.length + y.length ≤ line then .ok (.loc S.length) (S ++ [.lst (x ++ y)]) else .bad
      | _, _ => .bad
    | _, _ => .bad
  | .sub => match a, b with | .int i, .int j => .ok (.int (i - j)) S | _, _ => .bad
  | .mul => match a, b with
    | .int i, .int j => if mulOk i j then .ok (.int (i * j)) S else .bad
    | _, _ => .bad
  | .fdiv => match a, b with | .int i, .int j => if j ≠ 0 ∧ j.natAbs < 1073741824 then .ok (.int (i.fdiv j)) S else .bad | _, _ => .bad
  | .mod => match a, b with | .int i, .int j => if j ≠ 0 then .ok (.int (i.fmod j)) S else .bad | _, _ => .bad
  | .pow => match a, b with | .int i, .int j => if powOk i j then .ok (.int (i ^ j.toNat)) S else .bad | _, _ => .bad
def getIx (kon : D → Bool) (S : Store) (a b : D) : Option D := match a, b with
  | .tup ds, .int i => (pix ds.length i).bind (ds[·]?)
  | .str s, .int i => if s.length ≤ line then ((pix s.length i).bind (s[·]?)).map (fun c => .str [c]) else none
  | .loc n, k => match S[n]? with
    | some (.lst ds) => match k with | .int i => (pix ds.length i).bind (ds[·]?) | _ => none
    | some (.fro ds) => match k with | .int i => (pix ds.length i).bind (ds[·]?) | _ => none
    | some (.dct t kvs) => if isKey kon t k then dfind kvs k else none
    | _ => none
  | _, _ => none
def part : D → Option (Option Int)
  | .non => some none
  | .int i => some (some i)
  | _ => none
def sliceV (a : D) (l h : Option Int) (S : Store) : R D := match a with
  | .tup ds => .ok (.tup (cut ds l h)) S
  | .str s => if s.length ≤ line then .ok (.str (cut s l h)) S else .bad
  | .loc n => match S[n]? with
    | some (.lst ds) => .ok (.loc S.length) (S ++ [.lst (cut ds l h)])
    | some (.fro ds) => .ok (.loc S.length) (S ++ [.lst (cut ds l h)])
    | _ => .bad
  | _ => .bad
def sliceD (a lo hi : D) (S : Store) : R D := match part lo with
  | some l => match part hi with
    | some h => sliceV a l h S
    | none => .bad
  | none => .bad
def setIxD (kon : D → Bool) (a k v : D) (S : Store) : Option Store := match a with
  | .loc n => match S[n]? with
    | some (.lst ds) => match k with
      | .int i => (pix ds.length i).map fun j => S.set n (.lst (ds.set j v))
      | _ => none
    | some (.dct t kvs) => if isKey kon t k && decide (kvs.length < line) then some (S.set n (.dct t (dput kvs k v))) else none
    | _ => none
  | _ => none
def fput (f : Nat) (v : D) : List (Nat × D) → List (Nat × D)
  | [] => [(f, v)]
  | (g, u) :: r => if g = f then (f, v) :: r else (g, u) :: fput f v r
def lenD (S : Store) : D → Option Nat
  | .tup ds => some ds.length
  | .str s => if s.length ≤ line then some s.length else none
  | .loc n => match S[n]? with
    | some (.lst ds) => some ds.length
    | some (.fro ds) => some ds.length
    | _ => none
  | _ => none
def boolOf : D → Option Bool
  | .bl b => some b
  | _ => none
def intOf : D → Option Int
  | .int i => some i
  | _ => none
def one (f : D → Store → R D) : List D → Store → R D
  | [d], S => f d S
  | _, _ => .bad
def two (f : D → D → Store → R D) : List D → Store → R D
  | [d, e], S => f d e S
  | _, _ => .bad
def bLen (d : D) (S : Store) : R D := match lenD S d with | some n => .ok (.int n) S | none => .bad
def bAbs (d : D) (S : Store) : R D := match d with | .int i => .ok (.int (if i < 0 then -i else i)) S | _ => .bad
def bInt (d : D) (S : Store) : R D := match d with | .int i => .ok (.int i) S | .bl k => .ok (.int (if k then 1 else 0)) S | _ => .bad
def bTuple (d : D) (S : Store) : R D := match seqOf S d with | some xs => .ok (.tup xs) S | none => .bad
def bList (d : D) (S : Store) : R D := match seqOf S d with | some xs => .ok (.loc S.length) (S ++ [.lst xs]) | none => .bad
def boolsOf (S : Store) (d : D) : Option (List Bool) := match d with
  | .loc n => match seqOf S (.loc n) with
    | some xs => mapO boolOf xs
    | none => none
  | _ => none
def intsOf (S : Store) (d : D) : Option (List Int) := match d with
  | .loc n => match seqOf S (.loc n) with
    | some xs => mapO intOf xs
    | none => none
  | _ => none
def bAll (d : D) (S : Store) : R D := match boolsOf S d with | some bs => .ok (.bl (bs.all id)) S | none => .bad
def bAny (d : D) (S : Store) : R D := match boolsOf S d with | some bs => .ok (.bl (bs.any id)) S | none => .bad
def bSum (d : D) (S : Store) : R D := match intsOf S d with | some ns => .ok (.int ns.sum) S | none => .bad
def minI : Int → List Int → Int
  | m, [] => m
  | m, n :: ns => minI (if n < m then n else m) ns
def maxI : Int → List Int → Int
  | m, [] => m
  | m, n :: ns => maxI (if m < n then n else m) ns
def bMin (d : D) (S : Store) : R D := match intsOf S d with | some (n :: ns) => .ok (.int (minI n ns)) S | _ => .bad
def bMax (d : D) (S : Store) : R D := match intsOf S d with | some (n :: ns) => .ok (.int (maxI n ns)) S | _ => .bad
def bGcd (d e : D) (S : Store) : R D := match d, e with | .int a, .int c => .ok (.int (Nat.gcd a.natAbs c.natAbs)) S | _, _ => .bad
/-- the built-in functions -/
def bifD (b : Bif) : List D → Store → R D := match b with
  | .len => one bLen
  | .abs => one bAbs
  | .int => one bInt
  | .tuple => one bTuple
  | .list => one bList
  | .all => one bAll
  | .any => one bAny
  | .sum => one bSum
  | .gcd => two bGcd
  | .min => one bMin
  | .max => one bMax
  | _ => fun _ _ => .bad
/-- the methods of built-in types -/
def mAppend (o d : D) (S : Store) : R D := match o with
  | .loc n => match S[n]? with
    | some (.lst xs) => if xs.length < line then .ok .non (S.set n (.lst (xs ++ [d]))) else .bad
    | _ => .bad
  | _ => .bad
def mExtend (o d : D) (S : Store) : R D := match o with
  | .loc n => match S[n]? with
    | some (.lst xs) => match d with
      | .loc k => match S[k]? with
        | some (.lst ys) => if xs.length + ys.length ≤ line then .ok .non (S.set n (.lst (xs ++ ys))) else .bad
        | _ => .bad
      | _ => .bad
    | _ => .bad
  | _ => .bad
def bmtD (m : Bmt) (o : D) : List D → Store → R D := match m with
  | .append => one (mAppend o)
  | .extend => one (mExtend o)
def isLst (S : Store) (d : D) : Bool := match d with
  | .loc n => match S[n]? with
    | some (.lst _) => true
    | _ => false
  | _ => false
/-- isinstance -/
def isiD (S : Store) (t : Ty) : D → Option Bool
  | .non => some false
  | .bl _ => some (decide (t = .tbool ∨ t = .tint))
  | .int _ => some (decide (t = .tint))
  | .str _ => some (decide (t = .tstr))
  | .tup _ => some (decide (t = .ttup))
  | .loc n => match S[n]? with
    | some (.lst _) => some (decide (t = .tlst))
    | some (.fro _) => some (decide (t = .tlst))
    | _ => none

/-! ### running -/
mutual
def asg : Tg → D → Env → Option Env
  | .nm i, d, en => some (en.set i (some d))
  | .tp ts, d, en => match d with
    | .tup ds => asgs ts ds en
    | _ => none
def asgs : Tgs → List D → Env → Option Env
  | .nil, ds, en => match ds with
    | [] => some en
    | _ :: _ => none
  | .cons t ts, ds, en => match ds with
    | [] => none
    | d :: r => match asg t d en with
      | some en' => asgs ts r en'
      | none => none
end
def wipeE (en : Env) : List Nat → Env
  | [] => en
  | v :: vs => (wipeE en vs).set v none
/-- a loop's body over what is read at each turn; n: the number of turns; k: those that are left -/
def loopF (rd : Store → Option (List D)) (body : D → Env → Store → F) (n : Nat) : Nat → Env → Store → F
  | 0, en, S => match rd S with
    | some ds => if ds.length = n then .nx en S else .bad
    | none => .bad
  | k + 1, en, S => match rd S with
    | some ds => if ds.length = n then (match ds[n - (k + 1)]? with
      | some d => (match body d en S with
        | .nx en' S' => loopF rd body n k en' S'
        | .ct en' S' => loopF rd body n k en' S'
        | .bk en' S' => .nx en' S'
        | r => r)
      | none => .bad) else .bad
    | none => .bad
/-- a while loop -/
def loopW (c : Env → Store → R Bool) (body : Env → Store → F) : Nat → Env → Store → F
  | 0, _, _ => .bad
  | k + 1, en, S => (c en S).thn en fun b S1 => if b = true then (match body en S1 with
      | .nx en' S' => loopW c body k en' S'
      | .ct en' S' => loopW c body k en' S'
      | .bk en' S' => .nx en' S'
      | r => r) else .nx en S1
/-- a comprehension: the new list at D; one: the item told (none: left out) -/
def loopC (rd : Store → Option (List D)) (one : D → Store → R (Option D)) (n l : Nat) : Nat → Store → R D
  | 0, S => match rd S with
    | some ds => if ds.length = n then .ok (.loc l) S else .bad
    | none => .bad
  | k + 1, S => match rd S with
    | some ds => if ds.length = n then (match ds[n - (k + 1)]? with
      | some d => (match one d S with
        | .ok none S' => loopC rd one n l k S'
        | .ok (some y) S' => (match S'[l]? with
          | some (.lst acc) => if acc.length < line then loopC rd one n l k (S'.set l (.lst (acc ++ [y]))) else .bad
          | _ => .bad)
        | _ => .bad)
      | none => .bad) else .bad
    | none => .bad
structure Gam where
  call : Nat → List D → Store → R D
  make : Nat → List D → Store → R D
  meth : Nat → Nat → Option Nat
  fuel : Nat
  kon : D → Bool
  /-- the class has this attribute of its instances -/
  fld : Nat → Nat → Bool
def rngL (lo : Int) (n : Nat) : List D := (List.range n).map fun i : Nat => .int (lo + (i : Int))
def bound62 (i : Int) : Bool := decide (-(2 ^ 62) ≤ i) && decide (i < 2 ^ 62)
def numbered (ds : List D) : List D := ds.zipIdx.map fun p => .tup [.int p.2, p.1]
def zipped (xs ys : List D) : List D := (xs.zip ys).map fun p => .tup [p.1, p.2]
/-- two tuples, two lists, item by item -/
def zipD (S : Store) (x y : D) : Option (List D) := match x, y with
  | .tup xs, .tup ys => some (zipped xs ys)
  | .loc a, .loc b => match seqOf S (.loc a), seqOf S (.loc b) with
    | some xs, some ys => some (zipped xs ys)
    | _, _ => none
  | _, _ => none
/-- what is walked, read at each turn -/
structure Src where
  rd : Store → Option (List D)
  n : Nat
def srcOf (rd : Store → Option (List D)) (S : Store) : R Src := match rd S with
  | some ds => .ok ⟨rd, ds.length⟩ S
  | none => .bad
def boolR (o : Option Bool) (S : Store) : R D := match o with
  | some b => .ok (.bl b) S
  | none => .bad
def dR (o : Option D) (S : Store) : R D := match o with
  | some d => .ok d S
  | none => .bad
def testR (r : R D) : R Bool := r.bind fun d S => match truth S d with
  | some b => .ok b S
  | none => .bad
def E.isNon : E → Bool
  | .cst .non => true
  | _ => false
/-- a part of a slice: left out, or an int -/
def partR (left : Bool) (r : R D) : R D := r.bind fun x S => match x with
  | .int i => .ok (.int i) S
  | .non => if left = true then .ok .non S else .bad
  | _ => .bad
mutual
def ev (Γ : Gam) : E → Env → Store → R D
  | .var i, en, S => match en[i]? with
    | some (some d) => .ok d S
    | _ => .bad
  | .cst d, _, S => .ok d S
  | .bin o a b, en, S => (ev Γ a en S).bind fun x S1 => (ev Γ b en S1).bind fun y S2 => binD o x y S2
  | .neg a, en, S => (ev Γ a en S).bind fun x S1 => match x with
    | .int i => .ok (.int (-i)) S1
    | _ => .bad
  | .not a, en, S => (ev Γ a en S).bind fun x S1 => boolR ((truth S1 x).map (!·)) S1
  | .cmp o a b, en, S => (ev Γ a en S).bind fun x S1 => (ev Γ b en S1).bind fun y S2 => boolR (cmpD Γ.kon o S2 x y) S2
  | .chain o p a b c, en, S => (ev Γ a en S).bind fun x S1 => (ev Γ b en S1).bind fun y S2 => match cmpD Γ.kon o S2 x y with
    | some true => (ev Γ c en S2).bind fun z S3 => boolR (cmpD Γ.kon p S3 y z) S3
    | some false => .ok (.bl false) S2
    | none => .bad
  | .and a b, en, S => (ev Γ a en S).bind fun x S1 => match truth S1 x with
    | some true => ev Γ b en S1
    | some false => .ok x S1
    | none => .bad
  | .or a b, en, S => (ev Γ a en S).bind fun x S1 => match truth S1 x with
    | some true => .ok x S1
    | some false => ev Γ b en S1
    | none => .bad
  | .ite c a b, en, S => (testR (ev Γ c en S)).bind fun k S1 => if k = true then ev Γ a en S1 else ev Γ b en S1
  | .tup es, en, S => (evs Γ es en S).bind fun ds S1 => if ds.length ≤ line then .ok (.tup ds) S1 else .bad
  | .lst es, en, S => (evs Γ es en S).bind fun ds S1 => if ds.length ≤ line then .ok (.loc S1.length) (S1 ++ [.lst ds]) else .bad
  | .dnew t, _, S => .ok (.loc S.length) (S ++ [.dct t []])
  | .ix a b, en, S => (ev Γ a en S).bind fun x S1 => (ev Γ b en S1).bind fun y S2 => dR (getIx Γ.kon S2 x y) S2
  | .sl a lo hi, en, S => (ev Γ a en S).bind fun x S1 => (partR lo.isNon (ev Γ lo en S1)).bind fun y S2 => (partR hi.isNon (ev Γ hi en S2)).bind fun z S3 => sliceD x y z S3
  | .attr e f, en, S => (ev Γ e en S).bind fun x S1 => match x with
    | .loc n => match S1[n]? with
      | some (.ins c fs) => if Γ.fld c f = true then dR (fs.lookup f) S1 else .bad
      | _ => .bad
    | _ => .bad
  | .call f es, en, S => (evs Γ es en S).bind fun ds S1 => Γ.call f ds S1
  | .meth m e es, en, S => (ev Γ e en S).bind fun x S1 => match x with
    | .loc n => match S1[n]? with
      | some (.ins c fs) => match Γ.meth c m, fs.lookup m with
        | some f, none => (evs Γ es en S1).bind fun ds S2 => Γ.call f (x :: ds) S2
        | _, _ => .bad
      | _ => .bad
    | _ => .bad
  | .bif b es, en, S => (evs Γ es en S).bind fun ds S1 => bifD b ds S1
  | .bmt m e es, en, S => (ev Γ e en S).bind fun x S1 => if isLst S1 x = true then (evs Γ es en S1).bind fun ds S2 => bmtD m x ds S2 else .bad
  | .mk c es, en, S => (evs Γ es en S).bind fun ds S1 => match Γ.meth c 0 with
    | some f => (Γ.make f (.loc S1.length :: ds) (S1 ++ [.ins c []])).bind fun v S2 => match v with
      | .non => .ok (.loc S1.length) S2
      | _ => .bad
    | none => .bad
  | .isi e t, en, S => (ev Γ e en S).bind fun x S1 => boolR (isiD S1 t x) S1
  | .comp elt tg own it c, en, S => (evI Γ it en S).bind fun src S1 =>
      loopC src.rd (fun d S => match asg tg d (wipeE en own) with
        | some en' => (testR (ev Γ c en' S)).bind fun b S' => if b = true then (ev Γ elt en' S').bind fun y S'' => .ok (some y) S'' else .ok none S'
        | none => .bad) src.n S1.length src.n (S1 ++ [.lst []])
def evs (Γ : Gam) : Es → Env → Store → R (List D)
  | .nil, _, S => .ok [] S
  | .cons e es, en, S => (ev Γ e en S).bind fun x S1 => (evs Γ es en S1).bind fun xs S2 => .ok (x :: xs) S2
def evI (Γ : Gam) : It → Env → Store → R Src
  | .seq e, en, S => (ev Γ e en S).bind fun x S1 => srcOf (fun S => walkOf S x) S1
  | .rng1 a, en, S => (ev Γ a en S).bind fun x S1 => match x with
    | .int j => if bound62 j then .ok ⟨fun _ => some (rngL 0 j.toNat), j.toNat⟩ S1 else .bad
    | _ => .bad
  | .rng2 a b, en, S => (ev Γ a en S).bind fun x S1 => (ev Γ b en S1).bind fun y S2 => match x, y with
    | .int i, .int j => if bound62 i && bound62 j then .ok ⟨fun _ => some (rngL i (j - i).toNat), (j - i).toNat⟩ S2 else .bad
    | _, _ => .bad
  | .enum e, en, S => (ev Γ e en S).bind fun x S1 => srcOf (fun S => (seqOf S x).map numbered) S1
  | .zip a b, en, S => (ev Γ a en S).bind fun x S1 => (ev Γ b en S1).bind fun y S2 => srcOf (fun S => zipD S x y) S2
end
mutual
def ex (Γ : Gam) : Sm → Env → Store → F
  | .set t e, en, S => (ev Γ e en S).thn en fun x S1 => match asg t x en with
    | some en' => .nx en' S1
    | none => .bad
  | .setIx a i e, en, S => (ev Γ e en S).thn en fun v S1 => (ev Γ a en S1).thn en fun x S2 => (ev Γ i en S2).thn en fun k S3 => match setIxD Γ.kon x k v S3 with
    | some S4 => .nx en S4
    | none => .bad
  | .setAt o f e, en, S => (ev Γ e en S).thn en fun v S1 => (ev Γ o en S1).thn en fun x S2 => match x with
    | .loc n => match S2[n]? with
      | some (.ins c fs) => if fs.length < 1000 ∧ Γ.fld c f = true then .nx en (S2.set n (.ins c (fput f v fs))) else .bad
      | _ => .bad
    | _ => .bad
  | .aug i o e, en, S => match en[i]? with
    | some (some x) => (ev Γ e en S).thn en fun y S1 => (match x with
      | .loc _ => R.bad
      | _ => binD o x y S1).thn en fun z S2 => .nx (en.set i (some z)) S2
    | _ => .bad
  | .augAt a f o e, en, S => (ev Γ a en S).thn en fun x S1 => match x with
    | .loc n => match S1[n]? with
      | some (.ins c0 fs) => match (if Γ.fld c0 f = true then fs.lookup f else none) with
        | some v => (ev Γ e en S1).thn en fun y S2 => match v, y with
          | .int i, .int j => (binD o (.int i) (.int j) S2).thn en fun z S3 => match S3[n]? with
            | some (.ins c fs') => if fs'.length < 1000 ∧ c = c0 then .nx en (S3.set n (.ins c (fput f z fs'))) else .bad
            | _ => .bad
          | _, _ => .bad
        | none => .bad
      | _ => .bad
    | _ => .bad
  | .augIx a i o e, en, S => (ev Γ a en S).thn en fun x S1 => (ev Γ i en S1).thn en fun k S2 => match getIx Γ.kon S2 x k with
    | some (.int v) => (ev Γ e en S2).thn en fun y S3 => match y with
      | .int j => (binD o (.int v) (.int j) S3).thn en fun z S4 => match setIxD Γ.kon x k z S4 with
        | some S5 => .nx en S5
        | none => .bad
      | _ => .bad
    | _ => .bad
  | .ex e, en, S => (ev Γ e en S).thn en fun _ S1 => .nx en S1
  | .ret e, en, S => (ev Γ e en S).thn en fun x S1 => .rt x S1
  | .retN, _, S => .rt .non S
  | .ife c a b, en, S => (testR (ev Γ c en S)).thn en fun k S1 => if k = true then exs Γ a en S1 else exs Γ b en S1
  | .forr t it b, en, S => (evI Γ it en S).thn en fun src S1 => loopF src.rd (fun d en S => match asg t d en with
    | some en' => exs Γ b en' S
    | none => .bad) src.n src.n en S1
  | .whl c b, en, S => loopW (fun en S => testR (ev Γ c en S)) (fun en S => exs Γ b en S) Γ.fuel en S
  | .pass, en, S => .nx en S
  | .brk, en, S => .bk en S
  | .cont, en, S => .ct en S
def exs (Γ : Gam) : Sms → Env → Store → F
  | .nil, en, S => .nx en S
  | .cons s ss, en, S => match ex Γ s en S with
    | .nx en' S' => exs Γ ss en' S'
    | r => r
end
/-- a def: its parameters, its names, its body -/
structure Fn where
  arity : Nat
  slots : Nat
  body : Sms
def R.fin : F → R D
  | .nx _ S => .ok .non S
  | .rt d S => .ok d S
  | .exc x _ S => .exc x S
  | _ => .bad
structure Prog where
  fn : Nat → Option Fn
  meth : Nat → Nat → Option Nat
  fuel : Nat
  kon : D → Bool
  fld : Nat → Nat → Bool
def stepF (P : Prog) (call make : Nat → List D → Store → R D) (f : Nat) (ds : List D) (S : Store) : R D := match P.fn f with
  | some fn => if ds.length = fn.arity then R.fin (exs ⟨call, make, P.meth, P.fuel, P.kon, P.fld⟩ fn.body (ds.map some ++ List.replicate (fn.slots - fn.arity) none) S) else .bad
  | none => .bad
/-- calls with n levels of calls below, and those with one level less -/
def callP (P : Prog) : Nat → (Nat → List D → Store → R D) × (Nat → List D → Store → R D)
  | 0 => (fun _ _ _ => .bad, fun _ _ _ => .bad)
  | n + 1 => (stepF P (callP P n).1 (callP P n).2, (callP P n).1)
def callF (P : Prog) (n : Nat) : Nat → List D → Store → R D := (callP P n).1
def gamOf (P : Prog) (n : Nat) : Gam := ⟨callF P n, (callP P n).2, P.meth, P.fuel, P.kon, P.fld⟩
theorem make_succ (P : Prog) (n : Nat) : (gamOf P (n + 1)).make = callF P n := rfl
theorem callF_succ (P : Prog) (n f : Nat) (ds : List D) (S : Store) : callF P (n + 1) f ds S = match P.fn f with
    | some fn => if ds.length = fn.arity then R.fin (exs (gamOf P n) fn.body (ds.map some ++ List.replicate (fn.slots - fn.arity) none) S) else .bad
    | none => .bad := rfl
end Lw
end
section
set_option Elab.async false
set_option linter.all false
set_option autoImplicit false
namespace Lw
open PySem PySem.Spec PyProof.Rows L2

/-! ### texts -/
def toS (s : Tx) : Str := ⟨s.toArray⟩
theorem toS_cps (s : Tx) : (toS s).cps.toList = s := rfl
theorem toS_of (x : Str) : toS x.cps.toList = x := by cases x; rfl
theorem toS_inj {a b : Tx} (h : toS a = toS b) : a = b := by
  have e := congrArg (fun z : Str => z.cps.toList) h
  exact e
theorem toS_length (s : Tx) : (toS s).length = s.length := rfl

/-! ### data and values -/
/-- the names of the program's fields and methods, its classes -/
structure Tab where
  name : Nat → Str
  cls : Nat → Option Addr
  /-- the tuples that stand written in the module -/
  kon : D → Bool
mutual
inductive RV (B : Tab) (K : PySem.W.Frag) (H : Hp) (ro : List Addr) : D → V → Prop
  | non : RV B K H ro .non .non
  | bl (b : Bool) : RV B K H ro (.bl b) (.bl b)
  | int (i : Int) : RV B K H ro (.int i) (.int i)
  | str (s : Tx) : RV B K H ro (.str s) (.str (toS s))
  | tup {a : Addr} {vs : List V} {ds : List D} : (H a = some (.tup vs) ∨ (B.kon (.tup ds) = true ∧ SqT K H a vs)) → RVs B K H ro ds vs → RV B K H ro (.tup ds) (.ref a)
  | loc {n : Nat} {a : Addr} : ro[n]? = some a → RV B K H ro (.loc n) (.ref a)
inductive RVs (B : Tab) (K : PySem.W.Frag) (H : Hp) (ro : List Addr) : List D → List V → Prop
  | nil : RVs B K H ro [] []
  | cons {d : D} {v : V} {ds : List D} {vs : List V} : RV B K H ro d v → RVs B K H ro ds vs → RVs B K H ro (d :: ds) (v :: vs)
end
/-- what stays: the places of the store, tuples, what is locked -/
structure Ext (H : Hp) (ro : List Addr) (H' : Hp) (ro' : List Addr) : Prop where
  pre : ∀ (n : Nat) (a : Addr), ro[n]? = some a → ro'[n]? = some a
  tup : ∀ a vs, H a = some (.tup vs) → H' a = some (.tup vs)
  frz : ∀ a o u, H a = some (.frz o u) → H' a = some (.frz o u)
theorem Ext.refl {H : Hp} {ro : List Addr} : Ext H ro H ro := ⟨fun _ _ h => h, fun _ _ h => h, fun _ _ _ h => h⟩
theorem Ext.trans {H H1 H2 : Hp} {ro ro1 ro2 : List Addr} (x : Ext H ro H1 ro1) (y : Ext H1 ro1 H2 ro2) : Ext H ro H2 ro2 :=
  ⟨fun n a h => y.pre n a (x.pre n a h), fun a vs h => y.tup a vs (x.tup a vs h), fun a o u h => y.frz a o u (x.frz a o u h)⟩
section
variable {B : Tab} {K : PySem.W.Frag} {H H' : Hp} {ro ro' : List Addr}
theorem SqT.ext {a : Addr} {vs : List V} (x : Ext H ro H' ro') (h : SqT K H a vs) : SqT K H' a vs := by
  rcases h with (h | ⟨o, h⟩) | h
  · exact .inl (.inl (x.tup a vs h))
  · exact .inl (.inr ⟨o, x.frz a o _ h⟩)
  · exact .inr h
mutual
theorem RV.ext (x : Ext H ro H' ro') : ∀ (d : D) (v : V), RV B K H ro d v → RV B K H' ro' d v
  | .non, _, h => by cases h; exact .non
  | .bl _, _, h => by cases h; exact .bl _
  | .int _, _, h => by cases h; exact .int _
  | .str _, _, h => by cases h; exact .str _
  | .tup ds, _, h => by
    cases h with
    | tup h1 h2 => exact .tup (h1.imp (x.tup _ _) fun q => ⟨q.1, SqT.ext x q.2⟩) (RVs.ext x ds _ h2)
  | .loc _, _, h => by
    cases h with
    | loc h => exact .loc (x.pre _ _ h)
theorem RVs.ext (x : Ext H ro H' ro') : ∀ (ds : List D) (vs : List V), RVs B K H ro ds vs → RVs B K H' ro' ds vs
  | [], _, h => by cases h; exact .nil
  | d :: ds, _, h => by
    cases h with
    | cons h1 h2 => exact .cons (RV.ext x d _ h1) (RVs.ext x ds _ h2)
end
theorem RVs.length : ∀ {ds : List D} {vs : List V}, RVs B K H ro ds vs → ds.length = vs.length
  | [], _, h => by cases h; rfl
  | d :: ds, _, h => by
    cases h with
    | cons h1 h2 => simp [RVs.length h2]
theorem RVs.get : ∀ {ds : List D} {vs : List V} {i : Nat} {d : D}, RVs B K H ro ds vs → ds[i]? = some d → ∃ v, vs[i]? = some v ∧ RV B K H ro d v
  | [], _, _, _, _, e => by simp at e
  | d :: ds, _, 0, _, h, e => by
    cases h with
    | cons h1 h2 =>
      simp at e
      subst e
      exact ⟨_, rfl, h1⟩
  | d :: ds, _, i + 1, _, h, e => by
    cases h with
    | cons h1 h2 =>
      obtain ⟨v, q, r⟩ := RVs.get h2 (by simpa using e)
      exact ⟨v, by simpa using q, r⟩
theorem RVs.append : ∀ {ds es : List D} {vs us : List V}, RVs B K H ro ds vs → RVs B K H ro es us → RVs B K H ro (ds ++ es) (vs ++ us)
  | [], _, _, _, h, q => by cases h; exact q
  | d :: ds, _, _, _, h, q => by
    cases h with
    | cons h1 h2 => exact .cons h1 (RVs.append h2 q)
theorem RVs.take : ∀ {ds : List D} {vs : List V} (n : Nat), RVs B K H ro ds vs → RVs B K H ro (ds.take n) (vs.take n)
  | _, _, 0, _ => by rw [List.take_zero, List.take_zero]; exact .nil
  | [], _, n + 1, h => by cases h; exact .nil
  | d :: ds, _, n + 1, h => by
    cases h with
    | cons h1 h2 => exact .cons h1 (RVs.take n h2)
theorem RVs.drop : ∀ {ds : List D} {vs : List V} (n : Nat), RVs B K H ro ds vs → RVs B K H ro (ds.drop n) (vs.drop n)
  | _, _, 0, h => h
  | [], _, n + 1, h => by cases h; exact .nil
  | d :: ds, _, n + 1, h => by
    cases h with
    | cons h1 h2 => exact RVs.drop n h2
theorem RVs.set : ∀ {ds : List D} {vs : List V} {d : D} {v : V} (i : Nat), RVs B K H ro ds vs → RV B K H ro d v → RVs B K H ro (ds.set i d) (vs.set i v)
  | [], _, _, _, i, h, q => by cases h; exact .nil
  | _ :: _, _, _, _, 0, h, q => by
    cases h with
    | cons h1 h2 => exact .cons q h2
  | d :: ds, _, _, _, i + 1, h, q => by
    cases h with
    | cons h1 h2 => exact .cons h1 (RVs.set i h2 q)
theorem RVs.getV : ∀ {ds : List D} {vs : List V} {i : Nat} {v : V}, RVs B K H ro ds vs → vs[i]? = some v → ∃ d, ds[i]? = some d ∧ RV B K H ro d v
  | [], _, _, _, h, e => by cases h; simp at e
  | d :: ds, _, 0, _, h, e => by
    cases h with
    | cons h1 h2 =>
      simp at e
      subst e
      exact ⟨_, rfl, h1⟩
  | d :: ds, _, i + 1, _, h, e => by
    cases h with
    | cons h1 h2 =>
      obtain ⟨v, q, r⟩ := RVs.getV h2 (by simpa using e)
      exact ⟨v, by simpa using q, r⟩
end

/-! ### objects -/
/-- a list that is only read -/
def FroAt (K : PySem.W.Frag) (H : Hp) (a : Addr) (vs : List V) : Prop :=
  (∃ o, H a = some (.frz o (.lst vs))) ∨
    ∃ (o : Obj) (its : Array Value) (n : Nat), K.lookup a = some o ∧ o.cls = .type "list" ∧ o.dict = none ∧ o.data = .seq its n ∧ its.size ≤ sizeLine ∧ Vals vs its.toList
theorem FroAt.sql {K : PySem.W.Frag} {H : Hp} {a : Addr} {vs : List V} (h : FroAt K H a vs) : SqL K H a vs := by
  rcases h with h | h
  · exact .inl (.inr h)
  · exact .inr h
theorem FroAt.ext {K : PySem.W.Frag} {H H' : Hp} {ro ro' : List Addr} {a : Addr} {vs : List V} (x : Ext H ro H' ro') (h : FroAt K H a vs) : FroAt K H' a vs := by
  rcases h with ⟨o, h⟩ | h
  · exact .inl ⟨o, x.frz _ _ _ h⟩
  · exact .inr h
/-- a key as HandS tells it -/
def keyO : D → Option Key
  | .int i => some (.inl i)
  | .str s => some (.inr (toS s))
  | _ => none
inductive RK (B : Tab) (K : PySem.W.Frag) (H : Hp) (ro : List Addr) : List (D × D) → List (Key × V) → Prop
  | nil : RK B K H ro [] []
  | cons {k : D} {k' : Key} {d : D} {v : V} {r : List (D × D)} {r' : List (Key × V)} : keyO k = some k' → RV B K H ro d v → RK B K H ro r r' → RK B K H ro ((k, d) :: r) ((k', v) :: r')
def keysO : D → Option (List Key)
  | .tup ds => mapO keyO ds
  | _ => none
inductive RKT (B : Tab) (K : PySem.W.Frag) (H : Hp) (ro : List Addr) : List (D × D) → List (List Key × V) → Prop
  | nil : RKT B K H ro [] []
  | cons {k : D} {k' : List Key} {d : D} {v : V} {r : List (D × D)} {r' : List (List Key × V)} : keysO k = some k' → RV B K H ro d v → RKT B K H ro r r' → RKT B K H ro ((k, d) :: r) ((k', v) :: r')
inductive RF (B : Tab) (K : PySem.W.Frag) (H : Hp) (ro : List Addr) : List (Nat × D) → List (Str × V) → Prop
  | nil : RF B K H ro [] []
  | cons {f : Nat} {d : D} {v : V} {r : List (Nat × D)} {r' : List (Str × V)} : RV B K H ro d v → RF B K H ro r r' → RF B K H ro ((f, d) :: r) ((B.name f, v) :: r')
def RO (B : Tab) (K : PySem.W.Frag) (H : Hp) (ro : List Addr) (a : Addr) : O → Prop
  | .lst ds => ∃ vs, H a = some (.lst vs) ∧ RVs B K H ro ds vs
  | .fro ds => ∃ vs, FroAt K H a vs ∧ RVs B K H ro ds vs
  | .dct false kvs => ∃ ks, H a = some (.dK ks) ∧ RK B K H ro kvs ks
  | .dct true kvs => ∃ ks, H a = some (.dT ks) ∧ RKT B K H ro kvs ks
  | .ins c fs => ∃ C dx vs, B.cls c = some C ∧ H a = some (.ins C dx vs) ∧ RF B K H ro fs vs
def O.isFro : O → Bool
  | .fro _ => true
  | _ => false
/-- the store and the heap -/
structure RH (B : Tab) (K : PySem.W.Frag) (H : Hp) (ro : List Addr) (S : Store) : Prop where
  len : ro.length = S.length
  nd : ∀ (n m : Nat) (a : Addr) (o o' : O), n ≠ m → ro[n]? = some a → ro[m]? = some a → S[n]? = some o → S[m]? = some o' → o.isFro = true ∨ o'.isFro = true
  obj : ∀ (n : Nat) (o : O), S[n]? = some o → ∃ a, ro[n]? = some a ∧ RO B K H ro a o
section
variable {B : Tab} {K : PySem.W.Frag} {H H' : Hp} {ro ro' : List Addr} {S : Store}
theorem RK.ext (x : Ext H ro H' ro') : ∀ {r : List (D × D)} {r' : List (Key × V)}, RK B K H ro r r' → RK B K H' ro' r r'
  | _, _, .nil => .nil
  | _, _, .cons e h t => .cons e (RV.ext x _ _ h) (RK.ext x t)
theorem RKT.ext (x : Ext H ro H' ro') : ∀ {r : List (D × D)} {r' : List (List Key × V)}, RKT B K H ro r r' → RKT B K H' ro' r r'
  | _, _, .nil => .nil
  | _, _, .cons e h t => .cons e (RV.ext x _ _ h) (RKT.ext x t)
theorem RF.ext (x : Ext H ro H' ro') : ∀ {r : List (Nat × D)} {r' : List (Str × V)}, RF B K H ro r r' → RF B K H' ro' r r'
  | _, _, .nil => .nil
  | _, _, .cons h t => .cons (RV.ext x _ _ h) (RF.ext x t)
theorem RO.ext {a : Addr} {o : O} (x : Ext H ro H' ro') (e : H' a = H a) (h : RO B K H ro a o) : RO B K H' ro' a o := by
  cases o with
  | lst ds => obtain ⟨vs, h1, h2⟩ := h; exact ⟨vs, e.trans h1, RVs.ext x _ _ h2⟩
  | fro ds => obtain ⟨vs, h1, h2⟩ := h; exact ⟨vs, h1.ext x, RVs.ext x _ _ h2⟩
  | dct t kvs =>
    cases t with
    | false => obtain ⟨ks, h1, h2⟩ := h; exact ⟨ks, e.trans h1, h2.ext x⟩
    | true => obtain ⟨ks, h1, h2⟩ := h; exact ⟨ks, e.trans h1, h2.ext x⟩
  | ins c fs => obtain ⟨C, dx, vs, h1, h2, h3⟩ := h; exact ⟨C, dx, vs, h1, e.trans h2, h3.ext x⟩
/-- what may be changed or is new -/
def Loose (o : Option HO) : Prop := (∀ vs, o ≠ some (.tup vs)) ∧ ∀ b u, o ≠ some (.frz b u)
theorem Ext.upd {a : Addr} {o : HO} (h : Loose (H a)) : Ext H ro (upd H a o) ro := by
  refine ⟨fun _ _ q => q, fun b vs q => ?_, fun b ob u q => ?_⟩
  · rw [upd_ne (fun e => by subst e; exact h.1 vs q)]; exact q
  · rw [upd_ne (fun e => by subst e; exact h.2 ob u q)]; exact q
theorem loose_none {a : Addr} (h : H a = none) : Loose (H a) := by
  rw [h]; exact ⟨fun _ e => (nomatch e), fun _ _ e => (nomatch e)⟩
theorem loose_lst {a : Addr} {vs : List V} (h : H a = some (.lst vs)) : Loose (H a) := by
  rw [h]; exact ⟨fun _ e => (nomatch e), fun _ _ e => (nomatch e)⟩
theorem loose_ins {a C dx : Addr} {fs : List (Str × V)} (h : H a = some (.ins C dx fs)) : Loose (H a) := by
  rw [h]; exact ⟨fun _ e => (nomatch e), fun _ _ e => (nomatch e)⟩
theorem loose_dK {a : Addr} {ks : List (Key × V)} (h : H a = some (.dK ks)) : Loose (H a) := by
  rw [h]; exact ⟨fun _ e => (nomatch e), fun _ _ e => (nomatch e)⟩
theorem loose_dT {a : Addr} {ks : List (List Key × V)} (h : H a = some (.dT ks)) : Loose (H a) := by
  rw [h]; exact ⟨fun _ e => (nomatch e), fun _ _ e => (nomatch e)⟩
theorem Ext.new {p : Addr} {o : HO} (h : H p = none) : Ext H ro (L2.upd H p o) ro := Ext.upd (loose_none h)
theorem Ext.push {p : Addr} : Ext H ro H (ro ++ [p]) := by
  refine ⟨fun n a q => ?_, fun _ _ q => q, fun _ _ _ q => q⟩
  rw [List.getElem?_append_left (List.getElem?_eq_some_iff.mp q).1]; exact q
/-- what stands at a place of the store is tracked, or it is only read -/
theorem RO.there {a : Addr} {o : O} (h : RO B K H ro a o) : H a ≠ none ∨ ∃ ds, o = .fro ds := by
  cases o with
  | lst ds => obtain ⟨vs, h1, _⟩ := h; exact .inl (by rw [h1]; simp)
  | fro ds => exact .inr ⟨ds, rfl⟩
  | dct t kvs =>
    cases t with
    | false => obtain ⟨ks, h1, _⟩ := h; exact .inl (by rw [h1]; simp)
    | true => obtain ⟨ks, h1, _⟩ := h; exact .inl (by rw [h1]; simp)
  | ins c fs => obtain ⟨C, dx, vs, _, h1, _⟩ := h; exact .inl (by rw [h1]; simp)
/-- the heap goes on, nothing of the store changes -/
theorem RH.ext (h : RH B K H ro S) (x : Ext H ro H' ro) (e : ∀ (n : Nat) (a : Addr) (o : O), S[n]? = some o → ro[n]? = some a → H a ≠ none → H' a = H a) : RH B K H' ro S := by
  refine ⟨h.len, h.nd, fun n o q => ?_⟩
  obtain ⟨a, h1, h2⟩ := h.obj n o q
  refine ⟨a, h1, ?_⟩
  rcases h2.there with t | ⟨ds, rfl⟩
  · exact h2.ext x (e n a o q h1 t)
  · obtain ⟨vs, h3, h4⟩ := h2
    exact ⟨vs, h3.ext x, RVs.ext x _ _ h4⟩
/-- a new object that is no place of the store -/
theorem RH.new {p : Addr} {o : HO} (h : RH B K H ro S) (hp : H p = none) : RH B K (upd H p o) ro S :=
  h.ext (Ext.new hp) fun n a o' q h1 h2 => upd_ne (fun e => h2 (by rw [e]; exact hp))
/-- an object of the store is changed -/
theorem RH.set {n : Nat} {a : Addr} {o : HO} {O0 O' : O} (h : RH B K H ro S) (hn : ro[n]? = some a) (h0 : S[n]? = some O0) (hf : O0.isFro = false) (hf' : O'.isFro = false) (l : Loose (H a)) (w : RO B K (upd H a o) ro a O') : RH B K (upd H a o) ro (S.set n O') := by
  have get : ∀ (m : Nat) (ob : O), (S.set n O')[m]? = some ob → (n = m ∧ ob = O') ∨ (n ≠ m ∧ S[m]? = some ob) := fun m ob q => by
    by_cases e : n = m
    · subst e
      rw [List.getElem?_set_self (List.getElem?_eq_some_iff.mp h0).1] at q
      exact .inl ⟨rfl, (Option.some.inj q).symm⟩
    · rw [List.getElem?_set_ne e] at q
      exact .inr ⟨e, q⟩
  refine ⟨by rw [List.length_set]; exact h.len, fun m k b u u' ne hm hk qm qk => ?_, fun m ob q => ?_⟩
  · rcases get m u qm with ⟨rfl, rfl⟩ | ⟨e1, q1⟩
    · rcases get k u' qk with ⟨rfl, rfl⟩ | ⟨e2, q2⟩
      · exact absurd rfl ne
      · rcases h.nd _ _ _ _ _ ne hm hk h0 q2 with z | z
        · rw [hf] at z; cases z
        · exact .inr z
    · rcases get k u' qk with ⟨rfl, rfl⟩ | ⟨e2, q2⟩
      · rcases h.nd _ _ _ _ _ ne hm hk q1 h0 with z | z
        · exact .inl z
        · rw [hf] at z; cases z
      · exact h.nd _ _ _ _ _ ne hm hk q1 q2
  · rcases get m ob q with ⟨rfl, rfl⟩ | ⟨e, q1⟩
    · exact ⟨a, hn, w⟩
    · obtain ⟨b, h1, h2⟩ := h.obj m ob q1
      refine ⟨b, h1, ?_⟩
      by_cases nb : b = a
      · subst nb
        rcases h.nd _ _ _ _ _ e hn h1 h0 q1 with z | z
        · rw [hf] at z; cases z
        · cases ob with
          | fro ds =>
            obtain ⟨vs, h3, h4⟩ := h2
            exact ⟨vs, h3.ext (Ext.upd (ro := ro) l), RVs.ext (Ext.upd l) _ _ h4⟩
          | _ => cases z
      · exact h2.ext (Ext.upd l) (upd_ne nb)
/-- a new object of the store -/
theorem RH.push {p : Addr} {o : HO} {O' : O} (h : RH B K H ro S) (hp : H p = none) (w : RO B K (upd H p o) (ro ++ [p]) p O') : RH B K (upd H p o) (ro ++ [p]) (S ++ [O']) := by
  have x : Ext H ro (upd H p o) (ro ++ [p]) := (Ext.new hp).trans Ext.push
  have get : ∀ (m : Nat) (ob : O), (S ++ [O'])[m]? = some ob → (m = S.length ∧ ob = O') ∨ (m < S.length ∧ S[m]? = some ob) := fun m ob q => by
    by_cases e : m < S.length
    · rw [List.getElem?_append_left e] at q
      exact .inr ⟨e, q⟩
    · rw [List.getElem?_append_right (by omega)] at q
      have e2 : m - S.length = 0 := by
        have := (List.getElem?_eq_some_iff.mp q).1
        simp at this
        omega
      rw [e2] at q
      simp at q
      exact .inl ⟨by omega, q.symm⟩
  have getr : ∀ (m : Nat) (b : Addr), (ro ++ [p])[m]? = some b → m < S.length → ro[m]? = some b := fun m b q e => by
    rw [List.getElem?_append_left (by rw [h.len]; exact e)] at q
    exact q
  have lastr : ∀ b : Addr, (ro ++ [p])[S.length]? = some b → b = p := fun b q => by
    rw [List.getElem?_append_right (by rw [h.len]; exact Nat.le_refl _), h.len] at q
    simp at q
    exact q.symm
  have frOld : ∀ (m : Nat) (ob : O), ro[m]? = some p → S[m]? = some ob → ob.isFro = true := fun m ob q1 q2 => by
    obtain ⟨b, h1, h2⟩ := h.obj m ob q2
    have e : b = p := Option.some.inj (h1.symm.trans q1)
    subst e
    rcases h2.there with t | ⟨ds, rfl⟩
    · exact absurd hp t
    · rfl
  refine ⟨by rw [List.length_append, List.length_append, h.len]; rfl, fun m k b u u' ne hm hk qm qk => ?_, fun m ob q => ?_⟩
  · rcases get m u qm with ⟨rfl, rfl⟩ | ⟨e1, q1⟩
    · rcases get k u' qk with ⟨rfl, rfl⟩ | ⟨e2, q2⟩
      · exact absurd rfl ne
      · have eb := lastr b hm
        subst eb
        exact .inr (frOld k u' (getr k _ hk e2) q2)
    · rcases get k u' qk with ⟨rfl, rfl⟩ | ⟨e2, q2⟩
      · have eb := lastr b hk
        subst eb
        exact .inl (frOld m u (getr m _ hm e1) q1)
      · exact h.nd _ _ _ _ _ ne (getr m _ hm e1) (getr k _ hk e2) q1 q2
  · rcases get m ob q with ⟨rfl, rfl⟩ | ⟨e, q1⟩
    · refine ⟨p, ?_, w⟩
      rw [List.getElem?_append_right (by rw [h.len]; exact Nat.le_refl _), h.len]
      simp
    · obtain ⟨b, h1, h2⟩ := h.obj m ob q1
      refine ⟨b, x.pre _ _ h1, ?_⟩
      rcases h2.there with t | ⟨ds, rfl⟩
      · exact h2.ext x (upd_ne (fun z => t (by rw [z]; exact hp)))
      · obtain ⟨vs, h3, h4⟩ := h2
        exact ⟨vs, h3.ext x, RVs.ext x _ _ h4⟩
end
end Lw
end
section
set_option Elab.async false
set_option linter.all false
set_option autoImplicit false
namespace Lw
open PySem PySem.Spec PyProof.Rows L2

/-! ### what is wanted behind a piece of the interpreter -/
def RE (B : Tab) (K : PySem.W.Frag) (H : Hp) (ro : List Addr) (en : Env) (st : L2.St) : Prop :=
  en.length = st.length ∧ ∀ (i : Nat) (d : D), en[i]? = some (some d) → ∃ v, st[i]? = some (some v) ∧ RV B K H ro d v
/-- an exception: its class, the dict of its own -/
def RX (B : Tab) (K : PySem.W.Frag) (H : Hp) (ro : List Addr) (x : Xn) (c : Value) (dd : Option Addr) : Prop :=
  (∃ C, B.cls x.cls = some C ∧ c = .ref C) ∧ ((x.fs = [] ∧ dd = none) ∨ ∃ a vs, dd = some a ∧ H a = some (.xd vs) ∧ RF B K H ro x.fs vs)
abbrev Rel (a b : Type) : Type := Hp → List Addr → a → b → Prop
def Post {a b : Type} (B : Tab) (K : PySem.W.Frag) (W : WX) (rel : Rel a b) (H : Hp) (ro : List Addr) (st : L2.St) (Q : b → Hp → Prop) : R a → Prop
  | .ok d S => ∀ (H' : Hp) (ro' : List Addr) (v : b), Ext H ro H' ro' → RH B K H' ro' S → rel H' ro' d v → Q v H'
  | .exc x S => ∀ (H' : Hp) (ro' : List Addr) (c : Value) (dd : Option Addr), Ext H ro H' ro' → RH B K H' ro' S → RX B K H' ro' x c dd → W c dd st H'
  | .bad => False
def TI {a b : Type} (B : Tab) (K : PySem.W.Frag) (W : WX) (rel : Rel a b) (r : Env → Store → R a) : L2.St → Hp → (b → Hp → Prop) → Prop := fun st H Q =>
  ∃ (en : Env) (S : Store) (ro : List Addr), RE B K H ro en st ∧ RH B K H ro S ∧ Post B K W rel H ro st Q (r en S)
section
variable {a b a' b' : Type} {B : Tab} {K : PySem.W.Frag} {W : WX} {rel : Rel a b} {rel' : Rel a' b'} {H H' : Hp} {ro ro' : List Addr} {st : L2.St} {Q : b → Hp → Prop} {Q' : b' → Hp → Prop}
theorem RE.ext {en : Env} (h : RE B K H ro en st) (x : Ext H ro H' ro') : RE B K H' ro' en st :=
  ⟨h.1, fun i d e => by
    obtain ⟨v, h1, h2⟩ := h.2 i d e
    exact ⟨v, h1, RV.ext x _ _ h2⟩⟩
theorem RE.set {en : Env} {i : Nat} {d : D} {v : V} (h : RE B K H ro en st) (r : RV B K H ro d v) : RE B K H ro (en.set i (some d)) (st.set i (some v)) := by
  refine ⟨by rw [List.length_set, List.length_set]; exact h.1, fun j e q => ?_⟩
  by_cases hij : i = j
  · subst hij
    have hlt : i < en.length := by
      have := (List.getElem?_eq_some_iff.mp q).1
      rw [List.length_set] at this
      exact this
    rw [List.getElem?_set_self hlt] at q
    cases q
    exact ⟨v, List.getElem?_set_self (by rw [← h.1]; exact hlt), r⟩
  · rw [List.getElem?_set_ne hij] at q
    obtain ⟨u, h1, h2⟩ := h.2 j e q
    exact ⟨u, by rw [List.getElem?_set_ne hij]; exact h1, h2⟩
theorem RE.unset {en : Env} {i : Nat} (h : RE B K H ro en st) : RE B K H ro (en.set i none) (st.set i none) := by
  refine ⟨by rw [List.length_set, List.length_set]; exact h.1, fun j e q => ?_⟩
  by_cases hij : i = j
  · subst hij
    have hlt : i < en.length := by
      have := (List.getElem?_eq_some_iff.mp q).1
      rw [List.length_set] at this
      exact this
    rw [List.getElem?_set_self hlt] at q
    cases q
  · rw [List.getElem?_set_ne hij] at q
    obtain ⟨u, h1, h2⟩ := h.2 j e q
    exact ⟨u, by rw [List.getElem?_set_ne hij]; exact h1, h2⟩
theorem RE.wipe {en : Env} (h : RE B K H ro en st) : ∀ vs : List Nat, RE B K H ro (wipeE en vs) (wipe st vs)
  | [] => h
  | v :: vs => (RE.wipe h vs).unset
theorem Post.ext {r : R a} (h : Post B K W rel H ro st Q r) (x : Ext H ro H' ro') : Post B K W rel H' ro' st Q r := by
  cases r with
  | ok d S => exact fun H2 ro2 v y rh rv => h H2 ro2 v (x.trans y) rh rv
  | exc e S => exact fun H2 ro2 c dd y rh rx => h H2 ro2 c dd (x.trans y) rh rx
  | bad => exact h
theorem Post.bindE {r : R a} {f : a → Store → R a'} (h : Post B K W rel' H ro st Q' (r.bind f))
    (k : ∀ (d : a) (S : Store) (H1 : Hp) (ro1 : List Addr) (v : b), r = .ok d S → Ext H ro H1 ro1 → RH B K H1 ro1 S → rel H1 ro1 d v → Post B K W rel' H1 ro1 st Q' (f d S) → Q v H1) : Post B K W rel H ro st Q r := by
  cases r with
  | ok d S => exact fun H1 ro1 v x rh rv => k d S H1 ro1 v rfl x rh rv (Post.ext h x)
  | exc e S => exact h
  | bad => exact h
theorem Post.bind {r : R a} {f : a → Store → R a'} (h : Post B K W rel' H ro st Q' (r.bind f))
    (k : ∀ (d : a) (S : Store) (H1 : Hp) (ro1 : List Addr) (v : b), Ext H ro H1 ro1 → RH B K H1 ro1 S → rel H1 ro1 d v → Post B K W rel' H1 ro1 st Q' (f d S) → Q v H1) : Post B K W rel H ro st Q r :=
  h.bindE fun d S H1 ro1 v _ => k d S H1 ro1 v
theorem Post.here {d : a} {S : Store} {v : b} (h : Post B K W rel H ro st Q (.ok d S)) (rh : RH B K H ro S) (rv : rel H ro d v) : Q v H := h H ro v Ext.refl rh rv
theorem Post.mono {r : R a} {Q2 : b → Hp → Prop} (h : Post B K W rel H ro st Q r) (k : ∀ v H, Q v H → Q2 v H) : Post B K W rel H ro st Q2 r := by
  cases r with
  | ok d S => exact fun H1 ro1 v x rh rv => k _ _ (h H1 ro1 v x rh rv)
  | exc e S => exact h
  | bad => exact h
/-- a new list stands at a new place of the store -/
theorem Post.newL {S : Store} {ds : List D} {vs : List V} {p : Addr} {Qv : VK} (h : Post B K W (fun H ro d v => RV B K H ro d v) H ro st Qv (.ok (.loc S.length) (S ++ [.lst ds]))) (rh : RH B K H ro S) (rv : RVs B K H ro ds vs) (hp : H p = none) : Qv (.ref p) (upd H p (.lst vs)) := by
  have x : Ext H ro (upd H p (.lst vs)) (ro ++ [p]) := (Ext.new hp).trans Ext.push
  refine h _ (ro ++ [p]) (.ref p) x (rh.push hp ⟨vs, upd_same, RVs.ext x _ _ rv⟩) (.loc ?_)
  rw [← rh.len]
  simp
/-- a new tuple -/
theorem Post.newT {S : Store} {ds : List D} {vs : List V} {p : Addr} {Qv : VK} (h : Post B K W (fun H ro d v => RV B K H ro d v) H ro st Qv (.ok (.tup ds) S)) (rh : RH B K H ro S) (rv : RVs B K H ro ds vs) (hp : H p = none) : Qv (.ref p) (upd H p (.tup vs)) := by
  have x : Ext H ro (upd H p (.tup vs)) ro := Ext.new hp
  exact h _ ro (.ref p) x (rh.new hp) (.tup (.inl upd_same) (RVs.ext x _ _ rv))
end
abbrev rV (B : Tab) (K : PySem.W.Frag) : Rel D V := fun H ro d v => RV B K H ro d v
abbrev rVs (B : Tab) (K : PySem.W.Frag) : Rel (List D) (List V) := fun H ro d v => RVs B K H ro d v
abbrev rB : Rel Bool Bool := fun _ _ d v => v = d

theorem line_eq : line = sizeLine := by rw [sizeLine_eq]; rfl
theorem pix_eq (n : Nat) (i : Int) : pix n i = ixN n i := rfl
theorem six_eq (n d : Nat) (o : Option Int) : six n d o = HT.sIx n d o := by cases o <;> rfl
theorem cut_eq (xs : List V) (lo hi : Option Int) : cut xs lo hi = cutV xs lo hi := by
  unfold cut cutV
  rw [six_eq, six_eq]

section
variable {X : Cx} {B : Tab} {W : WX} {pins : List (Addr × Obj)} {st : L2.St} {H : Hp} {ro : List Addr} {S : Store} {Q : VK}

/-! ### binary operations -/
theorem PE.imp {e : Expr} {t t' : TE} (h : PE X e t) (k : ∀ st H Q, t' st H Q → t st H Q) : PE X e t' := ⟨fun pins s st H Q I q => h.run pins s st H Q I (k st H Q q)⟩
theorem PE.or {e : Expr} {t t' : TE} (h : PE X e t) (h' : PE X e t') : PE X e (fun st H Q => t st H Q ∨ t' st H Q) := ⟨fun pins s st H Q I q => q.elim (h.run pins s st H Q I) (h'.run pins s st H Q I)⟩
theorem PT.imp {e : Expr} {t t' : TT} (h : PT X e t) (k : ∀ st H Q, t' st H Q → t st H Q) : PT X e t' := ⟨fun pins s st H Q I q => h.run pins s st H Q I (k st H Q q)⟩
theorem PA.imp {e : List Expr} {t t' : TA} (h : PA X e t) (k : ∀ st H Q, t' st H Q → t st H Q) : PA X e t' := ⟨fun pos pins s st H Q I q => h.run pos pins s st H Q I (k st H Q q)⟩
theorem OpR.imp {f : Value → Value → Sem Value} {r r' : R2} (h : OpR X f r) (k : ∀ x y H Q, r' x y H Q → r x y H Q) : OpR X f r' := fun pins s st H x y v u Q I rx ry q => h pins s st H x y v u Q I rx ry (k _ _ _ _ q)
/-- an operation of the interpreter, by values -/
def OpS (X : Cx) (B : Tab) (f : Value → Value → Sem Value) (g : D → D → Store → R D) : Prop :=
  OpR X f fun x y H Q => ∃ (ro : List Addr) (S : Store) (d e : D) (W : WX) (st : L2.St), RH B X.K H ro S ∧ RV B X.K H ro d x ∧ RV B X.K H ro e y ∧ Post B X.K W (rV B X.K) H ro st Q (g d e S)
theorem OpS.of {f : Value → Value → Sem Value} {g : D → D → Store → R D} {r : R2} (h : OpR X f r)
    (k : ∀ (x y : V) (H : Hp) (Q : VK) (ro : List Addr) (S : Store) (d e : D) (W : WX) (st : L2.St), RH B X.K H ro S → RV B X.K H ro d x → RV B X.K H ro e y → Post B X.K W (rV B X.K) H ro st Q (g d e S) → r x y H Q) : OpS X B f g :=
  OpR.imp h fun x y H Q ⟨ro, S, d, e, W, st, rh, rd, re, q⟩ => k x y H Q ro S d e W st rh rd re q
theorem ops_sub : OpS X B (binaryOp .Sub) (binD .sub) := OpS.of op_sub fun x y H Q ro S d e W st rh rd re q => by
  cases d <;> try exact q.elim
  cases e <;> try exact q.elim
  cases rd; cases re
  exact ⟨_, _, rfl, rfl, q.here rh (.int _)⟩
theorem ops_fdiv : OpS X B (binaryOp .FloorDiv) (binD .fdiv) := OpS.of op_fdivN fun x y H Q ro S d e W st rh rd re q => by
  cases d <;> try exact q.elim
  cases e <;> try exact q.elim
  cases rd; cases re
  rename_i i j
  have q' : Post B X.K W (rV B X.K) H ro st Q (if j ≠ 0 ∧ j.natAbs < 1073741824 then .ok (.int (i.fdiv j)) S else .bad) := q
  by_cases h : j ≠ 0 ∧ j.natAbs < 1073741824
  · rw [if_pos h] at q'
    exact ⟨_, _, rfl, rfl, h, q'.here rh (.int _)⟩
  · rw [if_neg h] at q'
    exact q'.elim
theorem ops_mod : OpS X B (binaryOp .Mod) (binD .mod) := OpS.of op_modN fun x y H Q ro S d e W st rh rd re q => by
  cases d <;> try exact q.elim
  cases e <;> try exact q.elim
  cases rd; cases re
  rename_i i j
  have q' : Post B X.K W (rV B X.K) H ro st Q (if j ≠ 0 then .ok (.int (i.fmod j)) S else .bad) := q
  by_cases h : j ≠ 0
  · rw [if_pos h] at q'
    exact ⟨_, _, rfl, rfl, h, q'.here rh (.int _)⟩
  · rw [if_neg h] at q'
    exact q'.elim
theorem ops_pow : OpS X B (binaryOp .Pow) (binD .pow) := OpS.of op_pow fun x y H Q ro S d e W st rh rd re q => by
  cases d <;> try exact q.elim
  cases e <;> try exact q.elim
  cases rd; cases re
  rename_i i j
  have q' : Post B X.K W (rV B X.K) H ro st Q (if powOk i j then .ok (.int (i ^ j.toNat)) S else .bad) := q
  by_cases h : powOk i j = true
  · rw [if_pos h] at q'
    unfold powOk at h
    simp only [Bool.and_eq_true, decide_eq_true_eq] at h
    exact ⟨_, _, rfl, rfl, ⟨h.1.1, h.1.2, h.2⟩, q'.here rh (.int _)⟩
  · rw [if_neg h] at q'
    exact q'.elim
theorem ops_mul : OpS X B (binaryOp .Mult) (binD .mul) := OpS.of op_mul fun x y H Q ro S d e W st rh rd re q => by
  cases d <;> try exact q.elim
  cases e <;> try exact q.elim
  cases rd; cases re
  rename_i i j
  have q' : Post B X.K W (rV B X.K) H ro st Q (if mulOk i j then .ok (.int (i * j)) S else .bad) := q
  by_cases h : mulOk i j = true
  · rw [if_pos h] at q'
    unfold mulOk at h
    simp only [Bool.and_eq_true, Bool.or_eq_true, decide_eq_true_eq] at h
    exact ⟨_, _, rfl, rfl, h, q'.here rh (.int _)⟩
  · rw [if_neg h] at q'
    exact q'.elim
theorem RV.loc_inv {K : PySem.W.Frag} {n : Nat} {v : V} (h : RV B K H ro (.loc n) v) : ∃ a, v = .ref a ∧ ro[n]? = some a := by
  cases h with
  | loc h => exact ⟨_, rfl, h⟩
theorem RV.tup_inv {K : PySem.W.Frag} {ds : List D} {v : V} (h : RV B K H ro (.tup ds) v) : ∃ a vs, v = .ref a ∧ SqT K H a vs ∧ RVs B K H ro ds vs := by
  cases h with
  | tup h1 h2 => exact ⟨_, _, rfl, h1.elim (fun q => .inl (.inl q)) (fun q => q.2), h2⟩
/-- a tuple that is not written in the module -/
theorem RV.tup_own {K : PySem.W.Frag} {ds : List D} {v : V} (h : RV B K H ro (.tup ds) v) (k : B.kon (.tup ds) = false) : ∃ a vs, v = .ref a ∧ H a = some (.tup vs) ∧ RVs B K H ro ds vs := by
  cases h with
  | tup h1 h2 =>
    refine ⟨_, _, rfl, h1.elim id (fun q => ?_), h2⟩
    rw [k] at q
    cases q.1
/-- a list of the store -/
theorem RH.lst {K : PySem.W.Frag} {n : Nat} {a : Addr} {ds : List D} (rh : RH B K H ro S) (h : S[n]? = some (.lst ds)) (e : ro[n]? = some a) : ∃ vs, H a = some (.lst vs) ∧ RVs B K H ro ds vs := by
  obtain ⟨b, h1, h2⟩ := rh.obj n _ h
  obtain rfl : b = a := Option.some.inj (h1.symm.trans e)
  exact h2
theorem RH.seq {K : PySem.W.Frag} {n : Nat} {a : Addr} {ds : List D} (rh : RH B K H ro S) (h : seqOf S (.loc n) = some ds) (e : ro[n]? = some a) : ∃ vs, SqL K H a vs ∧ RVs B K H ro ds vs := by
  unfold seqOf at h
  dsimp only at h
  cases q : S[n]? with
  | none => rw [q] at h; cases h
  | some o =>
    obtain ⟨b, h1, h2⟩ := rh.obj n _ q
    obtain rfl : b = a := Option.some.inj (h1.symm.trans e)
    cases o with
    | lst xs =>
      rw [q] at h
      cases h
      obtain ⟨vs, h3, h4⟩ := h2
      exact ⟨vs, SqL.of h3, h4⟩
    | fro xs =>
      rw [q] at h
      cases h
      obtain ⟨vs, h3, h4⟩ := h2
      exact ⟨vs, h3.sql, h4⟩
    | dct t kvs => rw [q] at h; cases h
    | ins c fs => rw [q] at h; cases h
theorem toS_append (x y : Tx) : toS x ++ toS y = toS (x ++ y) := by
  show (⟨x.toArray ++ y.toArray⟩ : Str) = ⟨(x ++ y).toArray⟩
  rw [List.append_toArray]
theorem ops_add : OpS X B (binaryOp .Add) (binD .add) := OpS.of (op_add.or (op_add_str.or (op_catA.or op_cat))) fun x y H Q ro S d e W st rh rd re q => by
  cases d with
  | int i =>
    cases e <;> try exact q.elim
    cases rd; cases re
    exact .inl ⟨_, _, rfl, rfl, q.here rh (.int _)⟩
  | str s =>
    cases e <;> try exact q.elim
    cases rd; cases re
    rename_i t
    have q' : Post B X.K W (rV B X.K) H ro st Q (if s.length + t.length ≤ line then .ok (.str (s ++ t)) S else .bad) := q
    by_cases h : s.length + t.length ≤ line
    · rw [if_pos h] at q'
      refine .inr (.inl ⟨_, _, rfl, rfl, by rw [toS_length, toS_length, ← line_eq]; exact h, ?_⟩)
      rw [toS_append]
      exact q'.here rh (.str _)
    · rw [if_neg h] at q'
      exact q'.elim
  | tup xs =>
    cases e <;> try exact q.elim
    rename_i ys
    obtain ⟨a, vs, rfl, h1, h2⟩ := rd.tup_inv
    obtain ⟨b, us, rfl, h3, h4⟩ := re.tup_inv
    have q' : Post B X.K W (rV B X.K) H ro st Q (if xs.length + ys.length ≤ line then .ok (.tup (xs ++ ys)) S else .bad) := q
    by_cases h : xs.length + ys.length ≤ line
    · rw [if_pos h] at q'
      refine .inr (.inr (.inl ⟨_, _, vs, us, rfl, rfl, h1, h3, by rw [← h2.length, ← h4.length, ← line_eq]; exact h, fun z => ?_, fun z1 z2 => ?_, fun z1 z2 p hp => ?_⟩))
      · subst z
        cases h2
        exact q'.here rh re
      · subst z2
        cases h4
        rw [List.append_nil] at q'
        exact q'.here rh rd
      · exact q'.newT rh (h2.append h4) hp
    · rw [if_neg h] at q'
      exact q'.elim
  | loc l =>
    cases e <;> try exact q.elim
    rename_i k
    obtain ⟨a, rfl, h1⟩ := rd.loc_inv
    obtain ⟨b, rfl, h2⟩ := re.loc_inv
    unfold binD at q
    dsimp only at q
    split at q
    · rename_i x y e1 e2
      obtain ⟨vs, h3, h4⟩ := rh.lst e1 h1
      obtain ⟨us, h5, h6⟩ := rh.lst e2 h2
      by_cases h : x.length + y.length ≤ line
      · rw [if_pos h] at q
        exact .inr (.inr (.inr ⟨_, _, vs, us, rfl, rfl, h3, h5, by rw [← h4.length, ← h6.length, ← line_eq]; exact h, fun p hp => q.newL rh (h4.append h6) hp⟩))
      · rw [if_neg h] at q
        exact q.elim
    · exact q.elim
  | non => exact q.elim
  | bl _ => exact q.elim
def bopO : Bop → Operator
  | .add => .Add | .sub => .Sub | .mul => .Mult | .fdiv => .FloorDiv | .mod => .Mod | .pow => .Pow
theorem ops_bin (o : Bop) : OpS X B (binaryOp (bopO o)) (binD o) := by
  cases o
  · exact ops_add
  · exact ops_sub
  · exact ops_mul
  · exact ops_fdiv
  · exact ops_mod
  · exact ops_pow
end
end Lw
end
section
set_option Elab.async false
set_option linter.all false
set_option autoImplicit false
namespace Lw
open PySem PySem.Spec PyProof.Rows L2

/-! ### == -/
mutual
def T.py : T → PyData
  | .non => .none
  | .bl b => .bool b
  | .int i => .int i
  | .str s => .str (toS s)
  | .tup ts => .tuple (T.pys ts)
  | .lst ts => .list (T.pys ts)
def T.pys : List T → List PyData
  | [] => []
  | t :: ts => t.py :: T.pys ts
end
theorem toS_beq (x y : Tx) : (toS x == toS y) = decide (x = y) := by
  rw [Bool.eq_iff_iff]
  simp only [beq_iff_eq, decide_eq_true_eq]
  exact ⟨toS_inj, fun e => by rw [e]⟩
mutual
theorem teq_py : ∀ x y : T, PyData.eqv x.py y.py = teq x y
  | .non, y => by cases y <;> rfl
  | .bl _, y => by cases y <;> rfl
  | .int _, y => by cases y <;> rfl
  | .str s, y => by
    cases y with
    | str t => exact toS_beq s t
    | _ => rfl
  | .tup xs, y => by
    cases y with
    | tup ys => exact teqs_py xs ys
    | _ => rfl
  | .lst xs, y => by
    cases y with
    | lst ys => exact teqs_py xs ys
    | _ => rfl
theorem teqs_py : ∀ xs ys : List T, PyData.eqvAll (T.pys xs) (T.pys ys) = teqs xs ys
  | [], [] => rfl
  | [], _ :: _ => rfl
  | _ :: _, [] => rfl
  | x :: xs, y :: ys => by
    show (PyData.eqv x.py y.py && PyData.eqvAll (T.pys xs) (T.pys ys)) = (teq x y && teqs xs ys)
    rw [teq_py x y, teqs_py xs ys]
end
theorem mapO_cons {a b : Type} {f : a → Option b} {x : a} {xs : List a} {ys : List b} (h : mapO f (x :: xs) = some ys) : ∃ y r, f x = some y ∧ mapO f xs = some r ∧ ys = y :: r := by
  unfold mapO at h
  cases e : f x with
  | none => rw [e] at h; cases h
  | some y =>
    rw [e] at h
    dsimp only at h
    cases e2 : mapO f xs with
    | none => rw [e2] at h; cases h
    | some r =>
      rw [e2] at h
      cases h
      exact ⟨y, r, rfl, rfl, rfl⟩
section
variable {B : Tab} {K : PySem.W.Frag} {H : Hp} {ro : List Addr} {S : Store}
/-- a value's tree is its data -/
def DeepOk (B : Tab) (K : PySem.W.Frag) (S : Store) (n : Nat) : Prop := ∀ (H : Hp) (ro : List Addr) (d : D) (v : V) (t : T), RH B K H ro S → RV B K H ro d v → deep S n d = some t → Dp K H v t.py ∧ t.py.canLay0 = true ∧ t.py.depth ≤ n
theorem deepAll {n : Nat} (ih : DeepOk B K S n) : ∀ (ds : List D) (vs : List V) (ts : List T), RH B K H ro S → RVs B K H ro ds vs → mapO (deep S n) ds = some ts → DpAll K H vs (T.pys ts) ∧ PyData.canLayAll0 (T.pys ts) = true ∧ PyData.depthAll (T.pys ts) ≤ n
  | [], _, _, _, r, h => by
    cases r
    cases h
    exact ⟨.nil, rfl, Nat.zero_le _⟩
  | d :: ds, _, _, rh, r, h => by
    cases r with
    | cons r1 r2 =>
      obtain ⟨t, ts, h1, h2, rfl⟩ := mapO_cons h
      obtain ⟨a1, a2, a3⟩ := ih _ _ _ _ _ rh r1 h1
      obtain ⟨b1, b2, b3⟩ := deepAll ih ds _ ts rh r2 h2
      refine ⟨.cons a1 b1, ?_, ?_⟩
      · show (t.py.canLay0 && PyData.canLayAll0 (T.pys ts)) = true
        rw [a2, b2]; rfl
      · show max t.py.depth (PyData.depthAll (T.pys ts)) ≤ n
        omega
theorem deep_ok : ∀ n : Nat, DeepOk B K S n
  | 0 => fun H ro d v t _ _ h => by cases h
  | n + 1 => fun H ro d v t rh r h => by
    have ih : DeepOk B K S n := deep_ok n
    cases d with
    | non => cases r; cases h; exact ⟨.non, rfl, Nat.zero_le _⟩
    | bl b => cases r; cases h; exact ⟨.bl _, rfl, Nat.zero_le _⟩
    | int i => cases r; cases h; exact ⟨.int _, rfl, Nat.zero_le _⟩
    | str s =>
      cases r
      have h' : (if s.all (fun c => decide (c < 1114112)) then some (T.str s) else none) = some t := h
      split at h'
      · rename_i e
        cases h'
        refine ⟨.str _, ?_, Nat.zero_le _⟩
        show PyData.strOk (toS s) = true
        unfold PyData.strOk
        show (s.toArray).all (fun x => decide (x < 0x110000)) = true
        rw [List.all_toArray]
        exact e
      · cases h'
    | tup ds =>
      obtain ⟨a, vs, rfl, h1, h2⟩ := r.tup_inv
      have h' : (mapO (deep S n) ds).map T.tup = some t := h
      obtain ⟨ts, e1, rfl⟩ := Option.map_eq_some_iff.mp h'
      obtain ⟨b1, b2, b3⟩ := deepAll ih ds vs ts rh h2 e1
      exact ⟨.tup h1 b1, b2, Nat.succ_le_succ b3⟩
    | loc l =>
      obtain ⟨a, rfl, h1⟩ := r.loc_inv
      have h' : (match S[l]? with
        | some (.lst ds) => (mapO (deep S n) ds).map T.lst
        | some (.fro ds) => (mapO (deep S n) ds).map T.lst
        | _ => none) = some t := h
      have go : ∀ ds : List D, seqOf S (.loc l) = some ds → (mapO (deep S n) ds).map T.lst = some t → Dp K H (.ref a) t.py ∧ t.py.canLay0 = true ∧ t.py.depth ≤ n + 1 := fun ds e h2 => by
        obtain ⟨vs, h3, h4⟩ := rh.seq e h1
        obtain ⟨ts, e1, rfl⟩ := Option.map_eq_some_iff.mp h2
        obtain ⟨b1, b2, b3⟩ := deepAll ih ds vs ts rh h4 e1
        exact ⟨.lst h3 b1, b2, Nat.succ_le_succ b3⟩
      split at h'
      · rename_i ds e
        exact go ds (by unfold seqOf; dsimp only; rw [e]) h'
      · rename_i ds e
        exact go ds (by unfold seqOf; dsimp only; rw [e]) h'
      · cases h'
theorem deq_deep {x y : V} {d e : D} {b : Bool} (rh : RH B K H ro S) (rd : RV B K H ro d x) (re : RV B K H ro e y) (h : (match deep S 60 d, deep S 60 e with | some x, some y => some (teq x y) | _, _ => none) = some b) :
    ∃ p q, Dp K H x p ∧ Dp K H y q ∧ SeqAt.shaped p = true ∧ SeqAt.shaped q = true ∧ b = PyData.eqv p q := by
  split at h
  · rename_i t u e1 e2
    cases h
    obtain ⟨a1, a2, a3⟩ := deep_ok 60 H ro d x t rh rd e1
    obtain ⟨b1, b2, b3⟩ := deep_ok 60 H ro e y u rh re e2
    refine ⟨t.py, u.py, a1, b1, ?_, ?_, (teq_py t u).symm⟩
    · unfold SeqAt.shaped
      rw [a2, decide_eq_true (by omega)]; rfl
    · unfold SeqAt.shaped
      rw [b2, decide_eq_true (by omega)]; rfl
  · cases h
/-- what == tells: apart at once, or as data -/
theorem deq_ok {x y : V} {d e : D} {b : Bool} (rh : RH B K H ro S) (rd : RV B K H ro d x) (re : RV B K H ro e y) (h : deq S d e = some b) :
    (scal x y = true ∧ b = decide (x = y)) ∨ ∃ p q, Dp K H x p ∧ Dp K H y q ∧ SeqAt.shaped p = true ∧ SeqAt.shaped q = true ∧ b = PyData.eqv p q := by
  unfold deq at h
  cases d <;> cases e <;> dsimp only at h <;> first
    | exact .inr (deq_deep rh rd re h)
    | (cases rd; cases re; cases h; refine .inl ⟨rfl, ?_⟩; first | rfl | (symm; apply decide_eq_false; intro z; cases z; done) | (rw [Bool.eq_iff_iff]; simp only [decide_eq_true_eq, V.int.injEq, V.bl.injEq, V.str.injEq] ; first | done | exact ⟨fun e => by rw [e], toS_inj⟩))
end
section
variable {X : Cx} {B : Tab} {W : WX} {pins : List (Addr × Obj)} {st : L2.St} {H : Hp} {ro : List Addr} {S : Store} {Q : VK}
/-- a comparison of the interpreter, by values -/
abbrev CmS (X : Cx) (B : Tab) (o : Cop) (f : Value → Value → Sem Value) : Prop := OpS X B f fun d e S => boolR (cmpD B.kon o S d e) S
theorem Post.bool {K : PySem.W.Frag} {o : Option Bool} {Q : VK} (q : Post B K W (rV B K) H ro st Q (boolR o S)) (rh : RH B K H ro S) : ∃ b, o = some b ∧ Q (.bl b) H := by
  cases o with
  | none => exact q.elim
  | some b => exact ⟨b, rfl, Post.here q rh (.bl b)⟩
theorem ops_eq (hu : X.A.units + 64 < cLine) : CmS X B .eq (compareOp .Eq) := OpS.of (op_eq.or (op_eqD hu)) fun x y H Q ro S d e W st rh rd re q => by
  obtain ⟨b, h, q⟩ := q.bool rh
  rcases deq_ok rh rd re h with ⟨h1, rfl⟩ | ⟨p, p', h1, h2, h3, h4, rfl⟩
  · exact .inl ⟨h1, q⟩
  · exact .inr ⟨p, p', h1, h2, h3, h4, q⟩
theorem ops_ne (hu : X.A.units + 64 < cLine) : CmS X B .ne (compareOp .NotEq) := OpS.of (op_ne.or (op_neD hu)) fun x y H Q ro S d e W st rh rd re q => by
  obtain ⟨b, h, q⟩ := q.bool rh
  obtain ⟨b', h', rfl⟩ := Option.map_eq_some_iff.mp h
  rcases deq_ok rh rd re h' with ⟨h1, rfl⟩ | ⟨p, p', h1, h2, h3, h4, rfl⟩
  · exact .inl ⟨h1, q⟩
  · exact .inr ⟨p, p', h1, h2, h3, h4, q⟩
theorem ops_lt : CmS X B .lt (compareOp .Lt) := OpS.of op_lt fun x y H Q ro S d e W st rh rd re q => by
  obtain ⟨b, h, q⟩ := q.bool rh
  cases d <;> cases e <;> cases h
  cases rd; cases re
  exact ⟨_, _, rfl, rfl, q⟩
theorem ops_le : CmS X B .le (compareOp .LtE) := OpS.of op_le fun x y H Q ro S d e W st rh rd re q => by
  obtain ⟨b, h, q⟩ := q.bool rh
  cases d <;> cases e <;> cases h
  cases rd; cases re
  exact ⟨_, _, rfl, rfl, q⟩
theorem ops_gt : CmS X B .gt (compareOp .Gt) := OpS.of op_gt fun x y H Q ro S d e W st rh rd re q => by
  obtain ⟨b, h, q⟩ := q.bool rh
  cases d <;> cases e <;> cases h
  cases rd; cases re
  exact ⟨_, _, rfl, rfl, q⟩
theorem ops_ge : CmS X B .ge (compareOp .GtE) := OpS.of op_ge fun x y H Q ro S d e W st rh rd re q => by
  obtain ⟨b, h, q⟩ := q.bool rh
  cases d <;> cases e <;> cases h
  cases rd; cases re
  exact ⟨_, _, rfl, rfl, q⟩
theorem non_iff {K : PySem.W.Frag} {d : D} {x : V} (r : RV B K H ro d x) : decide (x = .non) = decide (d = .non) := by
  rw [Bool.eq_iff_iff, decide_eq_true_eq, decide_eq_true_eq]
  cases r <;> constructor <;> intro z <;> first | rfl | (cases z; done)
theorem ops_isN : CmS X B .isN (compareOp .Is) := OpS.of op_isN fun x y H Q ro S d e W st rh rd re q => by
  obtain ⟨b, h, q⟩ := q.bool rh
  cases e <;> cases h
  cases re
  rw [← non_iff rd] at q
  exact ⟨rfl, q⟩
theorem ops_notN : CmS X B .notN (compareOp .IsNot) := OpS.of op_notN fun x y H Q ro S d e W st rh rd re q => by
  obtain ⟨b, h, q⟩ := q.bool rh
  cases e <;> cases h
  cases re
  rw [← non_iff rd] at q
  exact ⟨rfl, q⟩

/-! ### in, not in -/
theorem plain_flat {K : PySem.W.Frag} {d : D} {x : V} (r : RV B K H ro d x) (h : plainD d = true) : flatV x = true := by
  cases r <;> first | rfl | exact Bool.noConfusion h
theorem plain_flats {K : PySem.W.Frag} : ∀ {ds : List D} {vs : List V}, RVs B K H ro ds vs → ds.all plainD = true → vs.all flatV = true
  | [], _, r, _ => by cases r; rfl
  | d :: ds, _, r, h => by
    cases r with
    | cons r1 r2 =>
      rw [List.all_cons, Bool.and_eq_true] at h
      rw [List.all_cons, plain_flat r1 h.1, plain_flats r2 h.2]
      rfl
theorem eqV_plain {K : PySem.W.Frag} {d e : D} {x y : V} (rd : RV B K H ro d x) (re : RV B K H ro e y) (h : plainD d = true) (h' : plainD e = true) : eqV y x = decide (d = e) := by
  have key : (d = e ↔ y = x) := by
    cases rd <;> cases re <;> (try exact Bool.noConfusion h) <;> (try exact Bool.noConfusion h') <;> constructor <;> intro z <;> first | (cases z; rfl) | (cases z; done) | (injection z with z; rw [toS_inj z])
  rw [Bool.eq_iff_iff, decide_eq_true_eq, key]
  cases rd <;> cases re <;> first | exact Bool.noConfusion h | exact Bool.noConfusion h' | (unfold eqV; simp)
theorem mem_inV {K : PySem.W.Frag} {d : D} {x : V} (rd : RV B K H ro d x) (h : plainD d = true) : ∀ {ds : List D} {vs : List V}, RVs B K H ro ds vs → ds.all plainD = true → inV x vs = decide (d ∈ ds)
  | [], _, r, _ => by cases r; simp [inV]
  | e :: ds, _, r, h' => by
    cases r with
    | cons r1 r2 =>
      rw [List.all_cons, Bool.and_eq_true] at h'
      have ih := mem_inV rd h r2 h'.2
      unfold inV at ih ⊢
      rw [List.any_cons, ih, eqV_plain rd r1 h h'.1, Bool.eq_iff_iff]
      simp
theorem memD_ok {K : PySem.W.Frag} {neg : Bool} {d : D} {x : V} {ds : List D} {vs : List V} {b : Bool} (rd : RV B K H ro d x) (r : RVs B K H ro ds vs) (h : memD neg d ds = some b) :
    flatV x = true ∧ vs.all flatV = true ∧ b = (if neg then !inV x vs else inV x vs) := by
  unfold memD at h
  split at h
  · rename_i e
    rw [Bool.and_eq_true] at e
    cases h
    exact ⟨plain_flat rd e.1, plain_flats r e.2, by rw [mem_inV rd e.1 r e.2]⟩
  · cases h
theorem RH.fro {K : PySem.W.Frag} {n : Nat} {a : Addr} {ds : List D} (rh : RH B K H ro S) (h : S[n]? = some (.fro ds)) (e : ro[n]? = some a) : ∃ vs, SqL K H a vs ∧ RVs B K H ro ds vs := by
  obtain ⟨b, h1, h2⟩ := rh.obj n _ h
  obtain rfl : b = a := Option.some.inj (h1.symm.trans e)
  obtain ⟨vs, h3, h4⟩ := h2
  exact ⟨vs, h3.sql, h4⟩
theorem seq_lst {n : Nat} {ds : List D} (h : S[n]? = some (.lst ds)) : seqOf S (.loc n) = some ds := by unfold seqOf; dsimp only; rw [h]
theorem seq_fro {n : Nat} {ds : List D} (h : S[n]? = some (.fro ds)) : seqOf S (.loc n) = some ds := by unfold seqOf; dsimp only; rw [h]
/-- what in asks of its sides, but for dicts -/
theorem isin_ok {K : PySem.W.Frag} {neg : Bool} {d e : D} {x y : V} {b : Bool} (rh : RH B K H ro S) (rd : RV B K H ro d x) (re : RV B K H ro e y) (h : isin B.kon S neg d e = some b) (nd : ∀ n t kvs, e = .loc n → S[n]? ≠ some (.dct t kvs)) :
    (∃ (c : Nat) (z : Str), x = .str ⟨#[c]⟩ ∧ y = .str z ∧ b = (if neg then !decide (c ∈ z.cps.toList) else decide (c ∈ z.cps.toList))) ∨
    ∃ p xs, y = .ref p ∧ (SqL K H p xs ∨ SqT K H p xs) ∧ flatV x = true ∧ xs.all flatV = true ∧ b = (if neg then !inV x xs else inV x xs) := by
  unfold isin at h
  cases e with
  | str s =>
    cases re
    dsimp only at h
    split at h
    · rename_i c
      cases rd
      cases h
      exact .inl ⟨c, _, rfl, rfl, rfl⟩
    · cases h
  | tup ds =>
    obtain ⟨a, vs, rfl, h1, h2⟩ := re.tup_inv
    obtain ⟨h3, h4, h5⟩ := memD_ok rd h2 h
    exact .inr ⟨a, vs, rfl, .inr h1, h3, h4, h5⟩
  | loc n =>
    obtain ⟨a, rfl, h1⟩ := re.loc_inv
    dsimp only at h
    split at h
    · rename_i t kvs q
      exact absurd q (nd n t kvs rfl)
    · rename_i ds q
      obtain ⟨vs, h2, h3⟩ := rh.seq (seq_lst q) h1
      obtain ⟨h4, h5, h6⟩ := memD_ok rd h3 h
      exact .inr ⟨a, vs, rfl, .inl h2, h4, h5, h6⟩
    · rename_i ds q
      obtain ⟨vs, h2, h3⟩ := rh.seq (seq_fro q) h1
      obtain ⟨h4, h5, h6⟩ := memD_ok rd h3 h
      exact .inr ⟨a, vs, rfl, .inl h2, h4, h5, h6⟩
    · cases h
  | _ => cases h
end
end Lw
end
section
set_option Elab.async false
set_option linter.all false
set_option autoImplicit false
namespace Lw
open PySem PySem.Spec PyProof.Rows L2
section
variable {X : Cx} {B : Tab} {W : WX} {pins : List (Addr × Obj)} {st : L2.St} {H : Hp} {ro : List Addr} {S : Store} {Q : VK}
theorem Post.opt {K : PySem.W.Frag} {o : Option D} {Q : VK} (q : Post B K W (rV B K) H ro st Q (dR o S)) : ∃ d, o = some d ∧ Post B K W (rV B K) H ro st Q (.ok d S) := by
  cases o with
  | none => exact q.elim
  | some b => exact ⟨b, rfl, q⟩
def notDict (S : Store) (d : D) : Prop := ∀ n t kvs, d = .loc n → S[n]? ≠ some (.dct t kvs)
theorem RVs.atI {K : PySem.W.Frag} {ds : List D} {vs : List V} {i : Int} {d : D} (r : RVs B K H ro ds vs) (h : (pix ds.length i).bind (ds[·]?) = some d) : ∃ v, L2.atI vs i = some v ∧ RV B K H ro d v := by
  obtain ⟨j, h1, h2⟩ := Option.bind_eq_some_iff.mp h
  obtain ⟨v, h3, h4⟩ := r.get h2
  refine ⟨v, ?_, h4⟩
  unfold L2.atI
  rw [← r.length, ← pix_eq, h1]
  exact h3
/-- a list, a tuple, a text at an index -/
theorem getIx_ok {K : PySem.W.Frag} {x y : V} {d e f : D} (rh : RH B K H ro S) (rd : RV B K H ro d x) (re : RV B K H ro e y) (h : getIx B.kon S d e = some f) (nd : notDict S d) (Q : VK) (q : ∀ v, RV B K H ro f v → Q v H) : rIx K x y H Q := by
  unfold getIx at h
  cases d with
  | tup ds =>
    cases e <;> first | (cases h; done) | skip
    obtain ⟨a, vs, rfl, h1, h2⟩ := rd.tup_inv
    cases re
    obtain ⟨v, h3, h4⟩ := h2.atI h
    exact .inr (.inl ⟨a, vs, _, v, rfl, rfl, h1, h3, q v h4⟩)
  | str s =>
    cases e <;> first | (cases h; done) | skip
    cases rd
    cases re
    dsimp only at h
    split at h
    · rename_i hl
      obtain ⟨c, h1, rfl⟩ := Option.map_eq_some_iff.mp h
      refine .inr (.inr ⟨toS s, _, c, rfl, rfl, by rw [toS_length, ← line_eq]; exact hl, ?_, q _ ?_⟩)
      · unfold L2.atI
        rw [toS_cps, ← pix_eq]
        exact h1
      · exact RV.str [c]
    · cases h
  | loc n =>
    obtain ⟨a, rfl, h1⟩ := rd.loc_inv
    dsimp only at h
    split at h
    · rename_i ds e1
      obtain ⟨vs, h2, h3⟩ := rh.seq (seq_lst e1) h1
      cases e <;> first | (cases h; done) | skip
      cases re
      obtain ⟨v, h4, h5⟩ := h3.atI h
      exact .inl ⟨a, vs, _, v, rfl, rfl, h2, h4, q v h5⟩
    · rename_i ds e1
      obtain ⟨vs, h2, h3⟩ := rh.seq (seq_fro e1) h1
      cases e <;> first | (cases h; done) | skip
      cases re
      obtain ⟨v, h4, h5⟩ := h3.atI h
      exact .inl ⟨a, vs, _, v, rfl, rfl, h2, h4, q v h5⟩
    · rename_i t kvs e1
      exact absurd e1 (nd n t kvs rfl)
    · cases h
  | _ => cases h

/-! ### dicts -/
theorem keyO_inj {a b : D} {k : Key} (ha : keyO a = some k) (hb : keyO b = some k) : a = b := by
  cases a <;> first | (cases ha; done) | skip
  all_goals cases b <;> first | (cases hb; done) | skip
  all_goals
    have e := ha.trans hb.symm
    unfold keyO at e
    simp only [Option.some.injEq, Sum.inl.injEq, Sum.inr.injEq] at e
    first
      | (subst e; rfl)
      | (rw [toS_inj e])
      | (cases e; done)
theorem mapO_inj : ∀ {a b : List D} {k : List Key}, mapO keyO a = some k → mapO keyO b = some k → a = b
  | [], [], _, _, _ => rfl
  | [], y :: ys, _, ha, hb => by
    cases ha
    obtain ⟨_, _, _, _, e⟩ := mapO_cons hb
    cases e
  | x :: xs, [], _, ha, hb => by
    cases hb
    obtain ⟨_, _, _, _, e⟩ := mapO_cons ha
    cases e
  | x :: xs, y :: ys, k, ha, hb => by
    obtain ⟨p, r, h1, h2, rfl⟩ := mapO_cons ha
    obtain ⟨p', r', h3, h4, e⟩ := mapO_cons hb
    cases e
    rw [keyO_inj h1 h3, mapO_inj h2 h4]
theorem keysO_inj {a b : D} {k : List Key} (ha : keysO a = some k) (hb : keysO b = some k) : a = b := by
  cases a <;> first | (cases ha; done) | skip
  cases b <;> first | (cases hb; done) | skip
  exact congrArg D.tup (mapO_inj ha hb)
theorem keyO_of {kon : D → Bool} {d : D} (h : isKey kon false d = true) : ∃ k, keyO d = some k := by
  cases d <;> first | exact ⟨_, rfl⟩ | (cases h; done)
theorem mapO_of : ∀ {ds : List D}, ds.all isKey1 = true → ∃ k, mapO keyO ds = some k
  | [], _ => ⟨[], rfl⟩
  | d :: ds, h => by
    rw [List.all_cons, Bool.and_eq_true] at h
    obtain ⟨r, hr⟩ := mapO_of h.2
    obtain ⟨k, hk⟩ : ∃ k, keyO d = some k := keyO_of (kon := fun _ => false) (by cases d <;> first | rfl | (cases h.1; done))
    exact ⟨k :: r, by unfold mapO; rw [hk]; dsimp only; rw [hr]⟩
theorem keysO_of {kon : D → Bool} {d : D} (h : isKey kon true d = true) : ∃ ds k, d = .tup ds ∧ kon (.tup ds) = false ∧ keysO d = some k := by
  cases d with
  | tup ds =>
    have h' : (true && ds.all isKey1 && !kon (.tup ds)) = true := h
    simp only [Bool.true_and, Bool.and_eq_true, Bool.not_eq_true'] at h'
    obtain ⟨k, hk⟩ := mapO_of h'.1
    exact ⟨ds, k, rfl, h'.2, hk⟩
  | _ => cases h
theorem keyO_V {K : PySem.W.Frag} {d : D} {k : Key} {v : V} (h : keyO d = some k) (r : RV B K H ro d v) : v = kV k := by
  cases d <;> first | (cases h; done) | skip
  all_goals cases r; cases h; rfl
theorem mapO_V {K : PySem.W.Frag} : ∀ {ds : List D} {ks : List Key} {vs : List V}, mapO keyO ds = some ks → RVs B K H ro ds vs → vs = ks.map kV
  | [], _, _, h, r => by cases h; cases r; rfl
  | d :: ds, _, _, h, r => by
    obtain ⟨k, t, h1, h2, rfl⟩ := mapO_cons h
    cases r with
    | cons r1 r2 => rw [keyO_V h1 r1, mapO_V h2 r2]; rfl
theorem RK.find {K : PySem.W.Frag} {k : D} {k' : Key} (hk : keyO k = some k') : ∀ {kvs : List (D × D)} {ks : List (Key × V)}, RK B K H ro kvs ks → (match dfind kvs k with | some d => ∃ v, valV ks k' = some v ∧ RV B K H ro d v | none => valV ks k' = none)
  | _, _, .nil => rfl
  | (j, d) :: r, (j', v) :: r', .cons (k := _) e hv t => by
    by_cases q : j = k
    · have q' : j' = k' := by
        subst q
        exact Option.some.inj (e.symm.trans hk)
      have e1 : dfind ((j, d) :: r) k = some d := by unfold dfind; simp [q]
      rw [e1]
      exact ⟨v, valV_pos q', hv⟩
    · have q' : ¬ j' = k' := fun z => by
        subst z
        exact q (keyO_inj e hk)
      have e1 : dfind ((j, d) :: r) k = dfind r k := by unfold dfind; simp [q]
      rw [e1, valV_neg q']
      exact RK.find hk t
theorem RKT.find {K : PySem.W.Frag} {k : D} {k' : List Key} (hk : keysO k = some k') : ∀ {kvs : List (D × D)} {ks : List (List Key × V)}, RKT B K H ro kvs ks → (match dfind kvs k with | some d => ∃ v, valV ks k' = some v ∧ RV B K H ro d v | none => valV ks k' = none)
  | _, _, .nil => rfl
  | (j, d) :: r, (j', v) :: r', .cons (k := _) e hv t => by
    by_cases q : j = k
    · have q' : j' = k' := by
        subst q
        exact Option.some.inj (e.symm.trans hk)
      have e1 : dfind ((j, d) :: r) k = some d := by unfold dfind; simp [q]
      rw [e1]
      exact ⟨v, valV_pos q', hv⟩
    · have q' : ¬ j' = k' := fun z => by
        subst z
        exact q (keysO_inj e hk)
      have e1 : dfind ((j, d) :: r) k = dfind r k := by unfold dfind; simp [q]
      rw [e1, valV_neg q']
      exact RKT.find hk t
theorem RK.length {K : PySem.W.Frag} : ∀ {kvs : List (D × D)} {ks : List (Key × V)}, RK B K H ro kvs ks → kvs.length = ks.length
  | _, _, .nil => rfl
  | _, _, .cons _ _ t => by simp [RK.length t]
theorem RKT.length {K : PySem.W.Frag} : ∀ {kvs : List (D × D)} {ks : List (List Key × V)}, RKT B K H ro kvs ks → kvs.length = ks.length
  | _, _, .nil => rfl
  | _, _, .cons _ _ t => by simp [RKT.length t]
theorem RK.repl {K : PySem.W.Frag} {k : D} {k' : Key} {d : D} {v : V} (hk : keyO k = some k') (rd : RV B K H ro d v) : ∀ {kvs : List (D × D)} {ks : List (Key × V)}, RK B K H ro kvs ks →
    RK B K H ro (kvs.map fun kv => if kv.1 = k then (kv.1, d) else kv) (ks.map fun kv => if kv.1 = k' then (kv.1, v) else kv) ∧ (kvs.any fun kv => decide (kv.1 = k)) = (ks.any fun kv => decide (kv.1 = k'))
  | _, _, .nil => ⟨.nil, rfl⟩
  | (j, e) :: r, (j', u) :: r', .cons he hv t => by
    obtain ⟨h1, h2⟩ := RK.repl hk rd t
    have iff : j = k ↔ j' = k' := ⟨fun z => by subst z; exact Option.some.inj (he.symm.trans hk), fun z => by subst z; exact keyO_inj he hk⟩
    by_cases q : j = k
    · have q' := iff.mp q
      simp only [List.map_cons, List.any_cons, q, q', if_true, decide_true, Bool.true_or]
      exact ⟨.cons hk rd h1, True.intro⟩
    · have q' : ¬ j' = k' := fun z => q (iff.mpr z)
      simp only [List.map_cons, List.any_cons, q, q', if_false, decide_false, Bool.false_or]
      exact ⟨.cons he hv h1, h2⟩
theorem RKT.repl {K : PySem.W.Frag} {k : D} {k' : List Key} {d : D} {v : V} (hk : keysO k = some k') (rd : RV B K H ro d v) : ∀ {kvs : List (D × D)} {ks : List (List Key × V)}, RKT B K H ro kvs ks →
    RKT B K H ro (kvs.map fun kv => if kv.1 = k then (kv.1, d) else kv) (ks.map fun kv => if kv.1 = k' then (kv.1, v) else kv) ∧ (kvs.any fun kv => decide (kv.1 = k)) = (ks.any fun kv => decide (kv.1 = k'))
  | _, _, .nil => ⟨.nil, rfl⟩
  | (j, e) :: r, (j', u) :: r', .cons he hv t => by
    obtain ⟨h1, h2⟩ := RKT.repl hk rd t
    have iff : j = k ↔ j' = k' := ⟨fun z => by subst z; exact Option.some.inj (he.symm.trans hk), fun z => by subst z; exact keysO_inj he hk⟩
    by_cases q : j = k
    · have q' := iff.mp q
      simp only [List.map_cons, List.any_cons, q, q', if_true, decide_true, Bool.true_or]
      exact ⟨.cons hk rd h1, True.intro⟩
    · have q' : ¬ j' = k' := fun z => q (iff.mpr z)
      simp only [List.map_cons, List.any_cons, q, q', if_false, decide_false, Bool.false_or]
      exact ⟨.cons he hv h1, h2⟩
theorem RK.snoc {K : PySem.W.Frag} {k : D} {k' : Key} {d : D} {v : V} (hk : keyO k = some k') (rd : RV B K H ro d v) : ∀ {kvs : List (D × D)} {ks : List (Key × V)}, RK B K H ro kvs ks → RK B K H ro (kvs ++ [(k, d)]) (ks ++ [(k', v)])
  | _, _, .nil => .cons hk rd .nil
  | _, _, .cons e h t => .cons e h (RK.snoc hk rd t)
theorem RKT.snoc {K : PySem.W.Frag} {k : D} {k' : List Key} {d : D} {v : V} (hk : keysO k = some k') (rd : RV B K H ro d v) : ∀ {kvs : List (D × D)} {ks : List (List Key × V)}, RKT B K H ro kvs ks → RKT B K H ro (kvs ++ [(k, d)]) (ks ++ [(k', v)])
  | _, _, .nil => .cons hk rd .nil
  | _, _, .cons e h t => .cons e h (RKT.snoc hk rd t)
theorem RK.put {K : PySem.W.Frag} {k : D} {k' : Key} {d : D} {v : V} (hk : keyO k = some k') (rd : RV B K H ro d v) {kvs : List (D × D)} {ks : List (Key × V)} (r : RK B K H ro kvs ks) : RK B K H ro (dput kvs k d) (putK ks k' v) := by
  obtain ⟨h1, h2⟩ := RK.repl hk rd r
  unfold dput putK
  rw [h2]
  split
  · exact h1
  · exact r.snoc hk rd
theorem RKT.put {K : PySem.W.Frag} {k : D} {k' : List Key} {d : D} {v : V} (hk : keysO k = some k') (rd : RV B K H ro d v) {kvs : List (D × D)} {ks : List (List Key × V)} (r : RKT B K H ro kvs ks) : RKT B K H ro (dput kvs k d) (putK ks k' v) := by
  obtain ⟨h1, h2⟩ := RKT.repl hk rd r
  unfold dput putK
  rw [h2]
  split
  · exact h1
  · exact r.snoc hk rd
theorem RH.dctF {K : PySem.W.Frag} {n : Nat} {a : Addr} {kvs : List (D × D)} (rh : RH B K H ro S) (h : S[n]? = some (.dct false kvs)) (e : ro[n]? = some a) : ∃ ks, H a = some (.dK ks) ∧ RK B K H ro kvs ks := by
  obtain ⟨b, h1, h2⟩ := rh.obj n _ h
  obtain rfl : b = a := Option.some.inj (h1.symm.trans e)
  exact h2
theorem RH.dctT {K : PySem.W.Frag} {n : Nat} {a : Addr} {kvs : List (D × D)} (rh : RH B K H ro S) (h : S[n]? = some (.dct true kvs)) (e : ro[n]? = some a) : ∃ ks, H a = some (.dT ks) ∧ RKT B K H ro kvs ks := by
  obtain ⟨b, h1, h2⟩ := rh.obj n _ h
  obtain rfl : b = a := Option.some.inj (h1.symm.trans e)
  exact h2
/-- what a look into a dict finds -/
theorem dict_get {K : PySem.W.Frag} {n : Nat} {a : Addr} {t : Bool} {kvs : List (D × D)} {k : D} {y : V} (rh : RH B K H ro S) (h : S[n]? = some (.dct t kvs)) (e : ro[n]? = some a) (hk : isKey B.kon t k = true) (rk : RV B K H ro k y) :
    match dfind kvs k with
    | some d => ∃ v, DGet H a y (some v) ∧ RV B K H ro d v
    | none => DGet H a y none := by
  cases t with
  | false =>
    obtain ⟨ks, h1, h2⟩ := rh.dctF h e
    obtain ⟨k', hk'⟩ := keyO_of hk
    have ey := keyO_V hk' rk
    subst ey
    have f := h2.find hk'
    split at f
    · obtain ⟨v, h3, h4⟩ := f
      exact ⟨v, by rw [← h3]; exact DGet.k h1, h4⟩
    · rw [← f]; exact DGet.k h1
  | true =>
    obtain ⟨ks, h1, h2⟩ := rh.dctT h e
    obtain ⟨ds, k', rfl, hc, hk'⟩ := keysO_of hk
    obtain ⟨b, vs, rfl, h3, h4⟩ := rk.tup_own hc
    have ev := mapO_V (show mapO keyO ds = some k' from hk') h4
    subst ev
    have f := h2.find hk'
    split at f
    · obtain ⟨v, h5, h6⟩ := f
      exact ⟨v, by rw [← h5]; exact DGet.t h1 h3, h6⟩
    · rw [← f]; exact DGet.t h1 h3
/-- a store into a dict -/
theorem dict_put {K : PySem.W.Frag} {n : Nat} {a : Addr} {t : Bool} {kvs : List (D × D)} {k d : D} {y v : V} (rh : RH B K H ro S) (h : S[n]? = some (.dct t kvs)) (e : ro[n]? = some a) (hk : isKey B.kon t k = true) (hl : kvs.length < line) (rk : RV B K H ro k y) (rd : RV B K H ro d v) :
    ∃ o, DPut H a y v (upd H a o) ∧ Ext H ro (upd H a o) ro ∧ RH B K (upd H a o) ro (S.set n (.dct t (dput kvs k d))) := by
  cases t with
  | false =>
    obtain ⟨ks, h1, h2⟩ := rh.dctF h e
    obtain ⟨k', hk'⟩ := keyO_of hk
    have ey := keyO_V hk' rk
    subst ey
    have x : Ext H ro (upd H a (.dK (putK ks k' v))) ro := Ext.upd (loose_dK h1)
    exact ⟨_, DPut.k h1 (by rw [← h2.length, ← line_eq]; exact hl), x, rh.set e h rfl rfl (loose_dK h1) ⟨_, upd_same, (h2.put hk' rd).ext x⟩⟩
  | true =>
    obtain ⟨ks, h1, h2⟩ := rh.dctT h e
    obtain ⟨ds, k', rfl, hc, hk'⟩ := keysO_of hk
    obtain ⟨b, vs, rfl, h3, h4⟩ := rk.tup_own hc
    have ev := mapO_V (show mapO keyO ds = some k' from hk') h4
    subst ev
    have x : Ext H ro (upd H a (.dT (putK ks k' v))) ro := Ext.upd (loose_dT h1)
    exact ⟨_, DPut.t h1 h3 (by rw [← h2.length, ← line_eq]; exact hl), x, rh.set e h rfl rfl (loose_dT h1) ⟨_, upd_same, (h2.put hk' rd).ext x⟩⟩
end
end Lw
end
section
set_option Elab.async false
set_option linter.all false
set_option autoImplicit false
namespace Lw
open PySem PySem.Spec PyProof.Rows L2
section
variable {X : Cx} {B : Tab} {W : WX} {pins : List (Addr × Obj)} {st : L2.St} {H : Hp} {ro : List Addr} {S : Store} {Q : VK}
/-! ### slices -/
theorem RVs.cut {K : PySem.W.Frag} {ds : List D} {vs : List V} (r : RVs B K H ro ds vs) (lo hi : Option Int) : RVs B K H ro (Lw.cut ds lo hi) (cutV vs lo hi) := by
  rw [← cut_eq]
  unfold Lw.cut
  rw [r.length]
  exact (r.drop _).take _
theorem sliceD_part {lo hi a : D} {K : PySem.W.Frag} (q : Post B K W (rV B K) H ro st Q (sliceD a lo hi S)) : ∃ l h, part lo = some l ∧ part hi = some h ∧ Post B K W (rV B K) H ro st Q (sliceV a l h S) := by
  unfold sliceD at q
  split at q
  · rename_i l e1
    split at q
    · rename_i h e2
      exact ⟨l, h, e1, e2, q⟩
    · exact q.elim
  · exact q.elim
def rSlice (K : PySem.W.Frag) : V → Option Int → Option Int → Hp → VK → Prop := fun x lo hi H Q => rSlL K x lo hi H Q ∨ rSlA K x lo hi H Q ∨ rSlS x lo hi H Q
theorem slr : SlR X (rSlice X.K) := sl_list.or (sl_tupA.or sl_str)
theorem cut_whole {a : Type} {xs : List a} {lo hi : Option Int} (h : HT.sIx xs.length 0 lo = 0 ∧ HT.sIx xs.length xs.length hi = xs.length) : cut xs lo hi = xs := by
  unfold cut
  rw [six_eq, six_eq, h.1, h.2]
  simp
theorem toS_cut (s : Tx) (lo hi : Option Int) : cutS (toS s) lo hi = toS (cut s lo hi) := by
  have e : (cutS (toS s) lo hi).cps.toList = cut s lo hi := by
    unfold cutS cut
    rw [six_eq, six_eq]
    first
      | rfl
      | (simp [toS, Str.length]; done)
      | (simp [toS]; done)
  rw [← toS_of (cutS (toS s) lo hi), e]
theorem slice_ok {K : PySem.W.Frag} {a : D} {x : V} {l h : Option Int} (rh : RH B K H ro S) (ra : RV B K H ro a x) (q : Post B K W (rV B K) H ro st Q (sliceV a l h S)) : rSlice K x l h H Q := by
  unfold sliceV at q
  cases a with
  | tup ds =>
    obtain ⟨b, vs, rfl, h1, h2⟩ := ra.tup_inv
    refine .inr (.inl ⟨b, vs, rfl, h1, fun w => ?_, fun w p hp => ?_⟩)
    · rw [← h2.length] at w
      dsimp only at q
      rw [cut_whole w] at q
      exact q.here rh ra
    · exact q.newT rh (h2.cut l h) hp
  | str s =>
    cases ra
    dsimp only at q
    split at q
    · rename_i hl
      refine .inr (.inr ⟨toS s, rfl, by rw [toS_length, ← line_eq]; exact hl, ?_⟩)
      rw [toS_cut]
      exact q.here rh (.str _)
    · exact q.elim
  | loc n =>
    obtain ⟨b, rfl, h1⟩ := ra.loc_inv
    dsimp only at q
    split at q
    · rename_i ds e
      obtain ⟨vs, h2, h3⟩ := rh.seq (seq_lst e) h1
      exact .inl ⟨b, vs, rfl, h2, fun p hp => q.newL rh (h3.cut l h) hp⟩
    · rename_i ds e
      obtain ⟨vs, h2, h3⟩ := rh.seq (seq_fro e) h1
      exact .inl ⟨b, vs, rfl, h2, fun p hp => q.newL rh (h3.cut l h) hp⟩
    · exact q.elim
  | _ => exact q.elim

/-! ### built-in functions -/
def CallS (X : Cx) (B : Tab) (f : Value) (g : List D → Store → R D) : Prop :=
  CallR X f fun xs H Q => ∃ (ro : List Addr) (S : Store) (ds : List D) (W : WX) (st : L2.St), RH B X.K H ro S ∧ RVs B X.K H ro ds xs ∧ Post B X.K W (rV B X.K) H ro st Q (g ds S)
theorem CallS.of {f : Value} {g : List D → Store → R D} {r : List V → Hp → VK → Prop} (h : CallR X f r)
    (k : ∀ (xs : List V) (H : Hp) (Q : VK) (ro : List Addr) (S : Store) (ds : List D) (W : WX) (st : L2.St), RH B X.K H ro S → RVs B X.K H ro ds xs → Post B X.K W (rV B X.K) H ro st Q (g ds S) → r xs H Q) : CallS X B f g :=
  fun pins s st H xs us Q I rs ⟨ro, S, ds, W, st', rh, rd, q⟩ => h pins s st H xs us Q I rs (k xs H Q ro S ds W st' rh rd q)
theorem RVs.one {K : PySem.W.Frag} {d : D} {vs : List V} (r : RVs B K H ro [d] vs) : ∃ v, vs = [v] ∧ RV B K H ro d v := by
  cases r with
  | cons r1 r2 => cases r2; exact ⟨_, rfl, r1⟩
theorem RVs.two {K : PySem.W.Frag} {d e : D} {vs : List V} (r : RVs B K H ro [d, e] vs) : ∃ v u, vs = [v, u] ∧ RV B K H ro d v ∧ RV B K H ro e u := by
  cases r with
  | cons r1 r2 =>
    obtain ⟨u, rfl, r3⟩ := r2.one
    exact ⟨_, _, rfl, r1, r3⟩
/-- what a list or a tuple is -/
theorem seqOf_ok {K : PySem.W.Frag} {d : D} {v : V} {ds : List D} (rh : RH B K H ro S) (r : RV B K H ro d v) (h : seqOf S d = some ds) : ∃ a vs, v = .ref a ∧ (SqL K H a vs ∨ (SqT K H a vs ∧ d = .tup ds)) ∧ RVs B K H ro ds vs := by
  cases d with
  | tup xs =>
    cases h
    obtain ⟨a, vs, rfl, h1, h2⟩ := r.tup_inv
    exact ⟨a, vs, rfl, .inr ⟨h1, rfl⟩, h2⟩
  | loc n =>
    obtain ⟨a, rfl, h1⟩ := r.loc_inv
    obtain ⟨vs, h2, h3⟩ := rh.seq h h1
    exact ⟨a, vs, rfl, .inl h2, h3⟩
  | _ => cases h
theorem Post.one {K : PySem.W.Frag} {f : D → Store → R D} {ds : List D} {xs : List V} (q : Post B K W (rV B K) H ro st Q (one f ds S)) (r : RVs B K H ro ds xs) : ∃ d v, ds = [d] ∧ xs = [v] ∧ RV B K H ro d v ∧ Post B K W (rV B K) H ro st Q (f d S) := by
  match ds, q with
  | [d], q =>
    obtain ⟨v, rfl, r1⟩ := r.one
    exact ⟨d, v, rfl, rfl, r1, q⟩
  | [], q => exact q.elim
  | _ :: _ :: _, q => exact q.elim
theorem Post.two {K : PySem.W.Frag} {f : D → D → Store → R D} {ds : List D} {xs : List V} (q : Post B K W (rV B K) H ro st Q (two f ds S)) (r : RVs B K H ro ds xs) : ∃ d e v u, ds = [d, e] ∧ xs = [v, u] ∧ RV B K H ro d v ∧ RV B K H ro e u ∧ Post B K W (rV B K) H ro st Q (f d e S) := by
  match ds, q with
  | [d, e], q =>
    obtain ⟨v, u, rfl, r1, r2⟩ := r.two
    exact ⟨d, e, v, u, rfl, rfl, r1, r2, q⟩
  | [], q => exact q.elim
  | [_], q => exact q.elim
  | _ :: _ :: _ :: _, q => exact q.elim
theorem cs_len : CallS X B (.builtin "len") (bifD .len) := CallS.of call_len fun xs H Q ro S ds W st rh rd q => by
  obtain ⟨d, v, rfl, rfl, r, q⟩ := Post.one (f := bLen) q rd
  unfold bLen at q
  split at q
  · rename_i n e
    refine ⟨v, n, rfl, ?_, q.here rh (.int _)⟩
    unfold lenD at e
    cases d with
    | tup ds =>
      obtain ⟨a, vs, rfl, h1, h2⟩ := r.tup_inv
      cases e
      exact .inr ⟨vs, h1, h2.length⟩
    | str s =>
      cases r
      dsimp only at e
      split at e
      · rename_i hl
        cases e
        exact ⟨by rw [toS_length, ← line_eq]; exact hl, rfl⟩
      · cases e
    | loc n =>
      obtain ⟨a, rfl, h1⟩ := r.loc_inv
      dsimp only at e
      split at e
      · rename_i ds e1
        obtain ⟨vs, h2, h3⟩ := rh.seq (seq_lst e1) h1
        cases e
        exact .inl ⟨vs, h2, h3.length⟩
      · rename_i ds e1
        obtain ⟨vs, h2, h3⟩ := rh.seq (seq_fro e1) h1
        cases e
        exact .inl ⟨vs, h2, h3.length⟩
      · cases e
    | _ => cases e
  · exact q.elim
theorem cs_abs : CallS X B (.builtin "abs") (bifD .abs) := CallS.of call_abs fun xs H Q ro S ds W st rh rd q => by
  obtain ⟨d, v, rfl, rfl, r, q⟩ := Post.one (f := bAbs) q rd
  unfold bAbs at q
  split at q
  · cases r
    exact ⟨_, rfl, q.here rh (.int _)⟩
  · exact q.elim
theorem cs_int : CallS X B (.type "int") (bifD .int) := CallS.of call_int1 fun xs H Q ro S ds W st rh rd q => by
  obtain ⟨d, v, rfl, rfl, r, q⟩ := Post.one (f := bInt) q rd
  unfold bInt at q
  split at q
  · cases r
    exact .inl ⟨_, rfl, q.here rh (.int _)⟩
  · cases r
    exact .inr ⟨_, rfl, q.here rh (.int _)⟩
  · exact q.elim
theorem cs_tuple : CallS X B (.type "tuple") (bifD .tuple) := CallS.of call_tuple_of fun xs H Q ro S ds W st rh rd q => by
  obtain ⟨d, v, rfl, rfl, r, q⟩ := Post.one (f := bTuple) q rd
  unfold bTuple at q
  split at q
  · rename_i ys e
    obtain ⟨a, vs, rfl, h, h2⟩ := seqOf_ok rh r e
    refine ⟨a, vs, rfl, ?_⟩
    rcases h with h | ⟨h, rfl⟩
    · exact .inl ⟨h, fun l hl => q.newT rh h2 hl⟩
    · exact .inr ⟨h, q.here rh r⟩
  · exact q.elim
theorem cs_list : CallS X B (.type "list") (bifD .list) := CallS.of call_list_of fun xs H Q ro S ds W st rh rd q => by
  obtain ⟨d, v, rfl, rfl, r, q⟩ := Post.one (f := bList) q rd
  unfold bList at q
  split at q
  · rename_i ys e
    obtain ⟨a, vs, rfl, h, h2⟩ := seqOf_ok rh r e
    exact ⟨a, vs, rfl, h.imp id (fun z => z.1), fun l hl => q.newL rh h2 hl⟩
  · exact q.elim
theorem bools_V {K : PySem.W.Frag} : ∀ {ds : List D} {vs : List V} {bs : List Bool}, RVs B K H ro ds vs → mapO boolOf ds = some bs → vs = bs.map V.bl
  | [], _, _, r, h => by cases r; cases h; rfl
  | d :: ds, _, _, r, h => by
    obtain ⟨b, t, h1, h2, rfl⟩ := mapO_cons h
    cases r with
    | cons r1 r2 =>
      cases d <;> first | (cases h1; done) | skip
      cases h1
      cases r1
      rw [bools_V r2 h2]
      rfl
theorem ints_V {K : PySem.W.Frag} : ∀ {ds : List D} {vs : List V} {ns : List Int}, RVs B K H ro ds vs → mapO intOf ds = some ns → vs = ns.map V.int
  | [], _, _, r, h => by cases r; cases h; rfl
  | d :: ds, _, _, r, h => by
    obtain ⟨b, t, h1, h2, rfl⟩ := mapO_cons h
    cases r with
    | cons r1 r2 =>
      cases d <;> first | (cases h1; done) | skip
      cases h1
      cases r1
      rw [ints_V r2 h2]
      rfl
theorem boolsOf_ok {K : PySem.W.Frag} {d : D} {v : V} {bs : List Bool} (rh : RH B K H ro S) (r : RV B K H ro d v) (h : boolsOf S d = some bs) : ∃ a, v = .ref a ∧ SqL K H a (bs.map V.bl) := by
  unfold boolsOf at h
  cases d <;> first | (cases h; done) | skip
  obtain ⟨a, rfl, h1⟩ := r.loc_inv
  dsimp only at h
  split at h
  · rename_i xs e
    obtain ⟨vs, h2, h3⟩ := rh.seq e h1
    rw [bools_V h3 h] at h2
    exact ⟨a, rfl, h2⟩
  · cases h
theorem intsOf_ok {K : PySem.W.Frag} {d : D} {v : V} {ns : List Int} (rh : RH B K H ro S) (r : RV B K H ro d v) (h : intsOf S d = some ns) : ∃ a, v = .ref a ∧ SqL K H a (ns.map V.int) := by
  unfold intsOf at h
  cases d <;> first | (cases h; done) | skip
  obtain ⟨a, rfl, h1⟩ := r.loc_inv
  dsimp only at h
  split at h
  · rename_i xs e
    obtain ⟨vs, h2, h3⟩ := rh.seq e h1
    rw [ints_V h3 h] at h2
    exact ⟨a, rfl, h2⟩
  · cases h
theorem cs_all (hc : X.calm = true) : CallS X B (.builtin "all") (bifD .all) := CallS.of (cr_all hc) fun xs H Q ro S ds W st rh rd q => by
  obtain ⟨d, v, rfl, rfl, r, q⟩ := Post.one (f := bAll) q rd
  unfold bAll at q
  split at q
  · rename_i bs e
    obtain ⟨a, rfl, h⟩ := boolsOf_ok rh r e
    exact ⟨a, bs, rfl, h, q.here rh (.bl _)⟩
  · exact q.elim
theorem cs_any (hc : X.calm = true) : CallS X B (.builtin "any") (bifD .any) := CallS.of (cr_any hc) fun xs H Q ro S ds W st rh rd q => by
  obtain ⟨d, v, rfl, rfl, r, q⟩ := Post.one (f := bAny) q rd
  unfold bAny at q
  split at q
  · rename_i bs e
    obtain ⟨a, rfl, h⟩ := boolsOf_ok rh r e
    exact ⟨a, bs, rfl, h, q.here rh (.bl _)⟩
  · exact q.elim
theorem cs_sum (hc : X.calm = true) : CallS X B (.builtin "sum") (bifD .sum) := CallS.of (cr_sum hc) fun xs H Q ro S ds W st rh rd q => by
  obtain ⟨d, v, rfl, rfl, r, q⟩ := Post.one (f := bSum) q rd
  unfold bSum at q
  split at q
  · rename_i bs e
    obtain ⟨a, rfl, h⟩ := intsOf_ok rh r e
    exact ⟨a, bs, rfl, h, q.here rh (.int _)⟩
  · exact q.elim
theorem minI_ok : ∀ (ns : List Int) (m : Int), (minI m ns = m ∨ minI m ns ∈ ns) ∧ minI m ns ≤ m ∧ ∀ y ∈ ns, minI m ns ≤ y
  | [], m => ⟨.inl rfl, Int.le_refl _, fun _ h => nomatch h⟩
  | n :: ns, m => by
    obtain ⟨h1, h2, h3⟩ := minI_ok ns (if n < m then n else m)
    unfold minI
    refine ⟨?_, ?_, fun y hy => ?_⟩
    · rcases h1 with h1 | h1
      · split at h1
        · rename_i h; rw [if_pos h, h1]; exact .inr (.head _)
        · rename_i h; rw [if_neg h, h1]; exact .inl rfl
      · exact .inr (.tail _ h1)
    · refine Int.le_trans h2 ?_
      split <;> omega
    · rcases List.mem_cons.mp hy with rfl | hy
      · refine Int.le_trans h2 ?_
        split <;> omega
      · exact h3 y hy
theorem maxI_ok : ∀ (ns : List Int) (m : Int), (maxI m ns = m ∨ maxI m ns ∈ ns) ∧ m ≤ maxI m ns ∧ ∀ y ∈ ns, y ≤ maxI m ns
  | [], m => ⟨.inl rfl, Int.le_refl _, fun _ h => nomatch h⟩
  | n :: ns, m => by
    obtain ⟨h1, h2, h3⟩ := maxI_ok ns (if m < n then n else m)
    unfold maxI
    refine ⟨?_, ?_, fun y hy => ?_⟩
    · rcases h1 with h1 | h1
      · split at h1
        · rename_i h; rw [if_pos h, h1]; exact .inr (.head _)
        · rename_i h; rw [if_neg h, h1]; exact .inl rfl
      · exact .inr (.tail _ h1)
    · refine Int.le_trans ?_ h2
      split <;> omega
    · rcases List.mem_cons.mp hy with rfl | hy
      · refine Int.le_trans ?_ h2
        split <;> omega
      · exact h3 y hy
theorem cs_min (hc : X.calm = true) : CallS X B (.builtin "min") (bifD .min) := CallS.of (cr_min hc) fun xs H Q ro S ds W st rh rd q => by
  obtain ⟨d, v, rfl, rfl, r, q⟩ := Post.one (f := bMin) q rd
  unfold bMin at q
  split at q
  · rename_i n ns e
    obtain ⟨a, rfl, h⟩ := intsOf_ok rh r e
    obtain ⟨h1, h2, h3⟩ := minI_ok ns n
    refine ⟨a, n :: ns, rfl, h, by rw [List.length_cons]; omega, fun m hm hy => ?_⟩
    have e2 : m = minI n ns := by
      have k1 : m ≤ minI n ns := by
        rcases h1 with h1 | h1
        · rw [h1]; exact hy _ (.head _)
        · exact hy _ (.tail _ h1)
      have k2 : minI n ns ≤ m := by
        rcases List.mem_cons.mp hm with rfl | hm
        · exact h2
        · exact h3 m hm
      omega
    rw [e2]
    exact q.here rh (.int _)
  · exact q.elim
theorem cs_max (hc : X.calm = true) : CallS X B (.builtin "max") (bifD .max) := CallS.of (cr_max hc) fun xs H Q ro S ds W st rh rd q => by
  obtain ⟨d, v, rfl, rfl, r, q⟩ := Post.one (f := bMax) q rd
  unfold bMax at q
  split at q
  · rename_i n ns e
    obtain ⟨a, rfl, h⟩ := intsOf_ok rh r e
    obtain ⟨h1, h2, h3⟩ := maxI_ok ns n
    refine ⟨a, n :: ns, rfl, h, by rw [List.length_cons]; omega, fun m hm hy => ?_⟩
    have e2 : m = maxI n ns := by
      have k1 : maxI n ns ≤ m := by
        rcases h1 with h1 | h1
        · rw [h1]; exact hy _ (.head _)
        · exact hy _ (.tail _ h1)
      have k2 : m ≤ maxI n ns := by
        rcases List.mem_cons.mp hm with rfl | hm
        · exact h2
        · exact h3 m hm
      omega
    rw [e2]
    exact q.here rh (.int _)
  · exact q.elim
theorem cs_gcd : CallS X B (.builtin "math.gcd") (bifD .gcd) := CallS.of cr_gcd fun xs H Q ro S ds W st rh rd q => by
  obtain ⟨d, e, v, u, rfl, rfl, r1, r2, q⟩ := Post.two (f := bGcd) q rd
  unfold bGcd at q
  split at q
  · cases r1
    cases r2
    exact ⟨_, _, rfl, q.here rh (.int _)⟩
  · exact q.elim

/-! ### methods of lists -/
theorem append_ok {K : PySem.W.Frag} {o d : D} {x y : V} (rh : RH B K H ro S) (r1 : RV B K H ro o x) (r2 : RV B K H ro d y) (q : Post B K W (rV B K) H ro st Q (mAppend o d S)) : rAppend x [y] H Q := by
  unfold mAppend at q
  cases o <;> first | exact q.elim | skip
  obtain ⟨a, rfl, h1⟩ := r1.loc_inv
  dsimp only at q
  split at q
  · rename_i xs e
    obtain ⟨vs, h2, h3⟩ := rh.lst e h1
    split at q
    · rename_i hl
      refine ⟨a, vs, y, rfl, rfl, h2, by rw [← h3.length, ← line_eq]; exact hl, ?_⟩
      have x : Ext H ro (upd H a (.lst (vs ++ [y]))) ro := Ext.upd (loose_lst h2)
      exact q _ ro _ x (rh.set h1 e rfl rfl (loose_lst h2) ⟨_, upd_same, RVs.ext x _ _ (h3.append (.cons r2 .nil))⟩) .non
    · exact q.elim
  · exact q.elim
theorem extend_ok {K : PySem.W.Frag} {o d : D} {x y : V} (rh : RH B K H ro S) (r1 : RV B K H ro o x) (r2 : RV B K H ro d y) (q : Post B K W (rV B K) H ro st Q (mExtend o d S)) : rExtend x [y] H Q := by
  unfold mExtend at q
  cases o <;> first | exact q.elim | skip
  obtain ⟨a, rfl, h1⟩ := r1.loc_inv
  dsimp only at q
  split at q
  · rename_i xs e
    obtain ⟨vs, h2, h3⟩ := rh.lst e h1
    cases d <;> first | exact q.elim | skip
    obtain ⟨b, rfl, h4⟩ := r2.loc_inv
    dsimp only at q
    split at q
    · rename_i ys e2
      obtain ⟨us, h5, h6⟩ := rh.lst e2 h4
      split at q
      · rename_i hl
        refine ⟨a, b, vs, us, rfl, rfl, h2, h5, by rw [← h3.length, ← h6.length, ← line_eq]; exact hl, ?_⟩
        have x : Ext H ro (upd H a (.lst (vs ++ us))) ro := Ext.upd (loose_lst h2)
        exact q _ ro _ x (rh.set h1 e rfl rfl (loose_lst h2) ⟨_, upd_same, RVs.ext x _ _ (h3.append h6)⟩) .non
      · exact q.elim
    · exact q.elim
  · exact q.elim

theorem isLst_ty {K : PySem.W.Frag} {d : D} {x : V} (rh : RH B K H ro S) (r : RV B K H ro d x) (h : isLst S d = true) : tyV K "list" x H := by
  unfold isLst at h
  cases d <;> first | (cases h; done) | skip
  obtain ⟨a, rfl, h1⟩ := r.loc_inv
  dsimp only at h
  split at h
  · rename_i ds e
    obtain ⟨vs, h2, _⟩ := rh.lst e h1
    exact .inl ⟨rfl, vs, SqL.of h2⟩
  · cases h
/-! ### isinstance -/
def tyS : Ty → Option String
  | .tbool => some "bool"
  | .tint => some "int"
  | .tstr => some "str"
  | .ttup => some "tuple"
  | .tlst => some "list"
  | .cls _ => none
theorem fro_ty {K : PySem.W.Frag} {a : Addr} {vs : List V} (h : FroAt K H a vs) : TyX K H (.ref a) (.type "list") := by
  rcases h with ⟨o, h⟩ | ⟨o, its, n, hk, hc, _⟩
  · exact .base (.frz h)
  · exact .kList hk hc
theorem tup_ty {K : PySem.W.Frag} {a : Addr} {vs : List V} (h : SqT K H a vs) : TyX K H (.ref a) (.type "tuple") := by
  rcases h with (h | ⟨o, h⟩) | ⟨o, its, n, hk, hc, _⟩
  · exact .base (.tup h)
  · exact .fTuple h
  · exact .kTuple hk hc
theorem isi_ok {K : PySem.W.Frag} {d : D} {v : V} {t : Ty} {T : String} {b : Bool} (rh : RH B K H ro S) (r : RV B K H ro d v) (ht : tyS t = some T) (h : isiD S t d = some b) : ∃ u, TyX K H v u ∧ PySem.W.kitOne K u (.type T) = some b := by
  have fin : ∀ (U : String), TyX K H v (.type U) → kitB U T = some b → ∃ u, TyX K H v u ∧ PySem.W.kitOne K u (.type T) = some b := fun U h1 h2 => ⟨_, h1, kit_ty h2⟩
  unfold isiD at h
  cases d with
  | non =>
    cases r
    cases h
    refine fin "NoneType" (.base .non) ?_
    cases t <;> cases ht <;> decide +kernel
  | bl k =>
    cases r
    cases h
    refine fin "bool" (.base (.bl k)) ?_
    cases t <;> cases ht <;> decide +kernel
  | int k =>
    cases r
    cases h
    refine fin "int" (.base (.int k)) ?_
    cases t <;> cases ht <;> decide +kernel
  | str k =>
    cases r
    cases h
    refine fin "str" (.base (.str _)) ?_
    cases t <;> cases ht <;> decide +kernel
  | tup ds =>
    obtain ⟨a, vs, rfl, h1, h2⟩ := r.tup_inv
    cases h
    refine fin "tuple" (tup_ty h1) ?_
    cases t <;> cases ht <;> decide +kernel
  | loc n =>
    obtain ⟨a, rfl, h1⟩ := r.loc_inv
    dsimp only at h
    split at h
    · rename_i ds e
      obtain ⟨vs, h2, h3⟩ := rh.lst e h1
      cases h
      refine fin "list" (.base (.lst h2)) ?_
      cases t <;> cases ht <;> decide +kernel
    · rename_i ds e
      obtain ⟨b, h2, h3⟩ := rh.obj n _ e
      obtain rfl : b = a := Option.some.inj (h2.symm.trans h1)
      obtain ⟨vs, h4, _⟩ := h3
      cases h
      refine fin "list" (fro_ty h4) ?_
      cases t <;> cases ht <;> decide +kernel
    · cases h
end
end Lw
end
section
set_option Elab.async false
set_option linter.all false
set_option autoImplicit false
namespace Lw
open PySem PySem.Spec PyProof.Rows L2

/-- an expression of the text is this piece of the interpreter -/
abbrev DE (X : Cx) (B : Tab) (W : WX) (e : Expr) (r : Env → Store → R D) : Prop := PE X e (TI B X.K W (rV B X.K) r)
abbrev DT (X : Cx) (B : Tab) (W : WX) (e : Expr) (r : Env → Store → R Bool) : Prop := PT X e (TI B X.K W rB r)
abbrev DA (X : Cx) (B : Tab) (W : WX) (es : List Expr) (r : Env → Store → R (List D)) : Prop := PA X es (TI B X.K W (rVs B X.K) r)

/-! ### forms of the text -/
def notStar : Expr → Bool
  | .Starred .. => false
  | _ => true
theorem star_each {e : Expr} {es : List Expr} {env : PySem.Env} (h : notStar e = true) : starEach (e :: es) env = (false, eval e env) :: starEach es env := by
  cases e <;> first | rfl | (cases h; done)
theorem stars_none : ∀ {es : List Expr} {env : PySem.Env} {pos : Pos}, es.all notStar = true → (backTo pos (starEach es env)).any (·.1) = false
  | [], _, _, _ => rfl
  | e :: es, env, pos, h => by
    rw [List.all_cons, Bool.and_eq_true] at h
    rw [star_each h.1]
    show (false || (backTo pos (starEach es env)).any (·.1)) = false
    rw [stars_none h.2]; rfl
/-- super() is none of ours -/
def notSuper : Expr → Bool
  | .Call (.Name id _) [] [] _ => !(id == ("super" : Str))
  | _ => true
theorem attr_base {e : Expr} {f : Str} {env : PySem.Env} (h : notSuper e = true) : attributeBase e f env (eval e env) = eval e env := by
  unfold attributeBase
  split
  · rename_i id p pos
    have h' : (!(id == ("super" : Str))) = true := h
    have e1 : (id != ("super" : Str)) = true := h'
    simp only [e1, Bool.true_or, if_true]
  · rfl
def notComp : Expr → Bool
  | .ListComp .. => false
  | .SetComp .. => false
  | .DictComp .. => false
  | _ => true
theorem swaps_with {e : Expr} {t : Option Expr} {l : Nat} {env : PySem.Env} (h : notComp e = true) : swapsWith e t l env = pure false := by
  cases e <;> first | rfl | (cases h; done)
/-- a test whose truth is that of its value -/
def plainTest : Expr → Bool
  | .UnaryOp .Not _ _ => false
  | .BoolOp .. => false
  | .IfExp .. => false
  | .Compare .. => false
  | _ => true
theorem plain_test {e : Expr} {env : PySem.Env} (h : plainTest e = true) (whole : Sem Value) : isTrue e env whole = (do let v ← whole; standAt e.pos; holding [v] (truthy v)) := by
  cases e <;> first | rfl | (cases h; done) | skip
  rename_i o x p
  cases o <;> first | rfl | (cases h; done)
def notSet : Expr → Bool
  | .Set .. => false
  | _ => true
theorem folded_set {e : Expr} {env : PySem.Env} (h : notSet e = true) (x : Value) : foldedSetIterable e env x = pure x := by
  cases e <;> first | rfl | (cases h; done)
theorem no_marks {op : CmpOp} {e : Expr} (h : notSet e = true) : behindInMarks op e = false := by
  cases e <;> first | rfl | (cases h; done)
def notSlice : Expr → Bool
  | .Slice .. => false
  | _ => true
theorem plain_ix {e : Expr} (h : notSlice e = true) : PlainIx e := fun o i => by
  cases e <;> first | rfl | (cases h; done)

section
variable {X : Cx} {B : Tab} {W : WX} {a b c e : Expr} {es : List Expr} {pos apos pos' : Pos} {ra rb rc : Env → Store → R D} {rs : Env → Store → R (List D)}
theorem DE.of {t : TE} {r : Env → Store → R D} (h : PE X e t) (k : ∀ (en : Env) (S : Store) (ro : List Addr) (st : L2.St) (H : Hp) (Q : VK), RE B X.K H ro en st → RH B X.K H ro S → Post B X.K W (rV B X.K) H ro st Q (r en S) → t st H Q) : DE X B W e r :=
  PE.imp h fun st H Q ⟨en, S, ro, re, rh, q⟩ => k en S ro st H Q re rh q
theorem DE.eq {r r' : Env → Store → R D} (h : DE X B W e r) (k : ∀ en S, r' en S = r en S) : DE X B W e r' := by
  have e : r' = r := funext fun en => funext fun S => k en S
  rw [e]
  exact h
theorem de_var {i : Nat} {x : Str} (hN : X.N[i]? = some x) (hv : Vis X.env.scope x) (hd : (x == ("__debug__" : Str)) = false) (hcd : (x == ("__classdict__" : Str)) = false) : DE X B W (.Name x pos) fun en S => match en[i]? with
    | some (some d) => .ok d S
    | _ => .bad :=
  DE.of (pe_var hN hv hd hcd) fun en S ro st H Q re rh q => by
    split at q
    · rename_i d h
      obtain ⟨v, h1, h2⟩ := re.2 i d h
      exact ⟨v, h1, q.here rh h2⟩
    · exact q.elim
theorem de_cst {d : D} {v : V} (h : PE X e (tC v)) (r : ∀ H ro, RV B X.K H ro d v) : DE X B W e fun _ S => .ok d S :=
  DE.of h fun en S ro st H Q re rh q => q.here rh (r H ro)
/-- one after the other -/
theorem Post.seq2 {a' b' : Type} {rel' : Rel a' b'} {ra : R D} {rb : Store → R D} {f : D → D → Store → R a'} {H : Hp} {ro : List Addr} {st : L2.St} {Q : b' → Hp → Prop} {en : Env} {Q2 : V → V → Hp → Prop} {r : Env → Store → R D}
    (re : RE B X.K H ro en st) (h : Post B X.K W rel' H ro st Q (ra.bind fun x S1 => (r en S1).bind fun y S2 => f x y S2))
    (k : ∀ (x y : D) (S : Store) (H1 : Hp) (ro1 : List Addr) (v u : V), Ext H ro H1 ro1 → RH B X.K H1 ro1 S → RV B X.K H1 ro1 x v → RV B X.K H1 ro1 y u → Post B X.K W rel' H1 ro1 st Q (f x y S) → Q2 v u H1) :
    Post B X.K W (rV B X.K) H ro st (fun x H1 => TI B X.K W (rV B X.K) r st H1 fun y H2 => Q2 x y H2) ra :=
  h.bind fun d1 S1 H1 ro1 v1 x1 rh1 rv1 h1 => ⟨en, S1, ro1, re.ext x1, rh1, h1.bind fun d2 S2 H2 ro2 v2 x2 rh2 rv2 h2 => k d1 d2 S2 H2 ro2 v1 v2 (x1.trans x2) rh2 (RV.ext x2 _ _ rv1) rv2 h2⟩
theorem de_op {o : Operator} {g : D → D → Store → R D} (ho : OpS X B (binaryOp o) g) (ha : DE X B W a ra) (hb : DE X B W b rb) : DE X B W (.BinOp a o b pos) fun en S => (ra en S).bind fun x S1 => (rb en S1).bind fun y S2 => g x y S2 :=
  DE.of (pe_op ho ha hb) fun en S ro st H Q re rh q => ⟨en, S, ro, re, rh, Post.seq2 (rb := fun S => rb en S) re q fun x y S H1 ro1 v u _ rh1 r1 r2 h => ⟨ro1, S, x, y, W, st, rh1, r1, r2, h⟩⟩
theorem de_cmp {o : CmpOp} {g : D → D → Store → R D} (ho : OpS X B (compareOp o) g) (ha : DE X B W a ra) (hb : DE X B W b rb) (hm : behindInMarks o b = false) : DE X B W (.Compare a [o] [b] pos) fun en S => (ra en S).bind fun x S1 => (rb en S1).bind fun y S2 => g x y S2 :=
  DE.of (pe_cmpR ho ha hb hm) fun en S ro st H Q re rh q => ⟨en, S, ro, re, rh, Post.seq2 (rb := fun S => rb en S) re q fun x y S H1 ro1 v u _ rh1 r1 r2 h => ⟨ro1, S, x, y, W, st, rh1, r1, r2, h⟩⟩
/-- the truth of a value -/
theorem truth_ok {K : PySem.W.Frag} {H : Hp} {ro : List Addr} {S : Store} {d : D} {v : V} {k : Bool} (rh : RH B K H ro S) (r : RV B K H ro d v) (h : truth S d = some k) : TruV K v H k := by
  unfold truth at h
  cases d with
  | non => cases r; cases h; rfl
  | bl b => cases r; cases h; rfl
  | int i =>
    cases r; cases h
    show decide (i ≠ 0) = (i != 0)
    rw [Bool.eq_iff_iff]; simp
  | str s =>
    cases r
    dsimp only at h
    split at h
    · rename_i hl
      cases h
      refine ⟨by rw [toS_length, ← line_eq]; exact hl, ?_⟩
      rw [toS_length]
      cases s with
      | nil => rfl
      | cons x t =>
        show true = (((x :: t).length : Int) != 0)
        rw [Bool.eq_iff_iff]; simp
        omega
    · cases h
  | tup ds =>
    obtain ⟨a, vs, rfl, h1, h2⟩ := r.tup_inv
    cases h
    refine .inr (.inl ⟨vs, h1, ?_⟩)
    cases h2 <;> rfl
  | loc n =>
    obtain ⟨a, rfl, h1⟩ := r.loc_inv
    dsimp only at h
    split at h
    · rename_i ds e
      obtain ⟨vs, h2, h3⟩ := rh.seq (seq_lst e) h1
      cases h
      refine .inl ⟨vs, h2, ?_⟩
      cases h3 <;> rfl
    · rename_i ds e
      obtain ⟨vs, h2, h3⟩ := rh.seq (seq_fro e) h1
      cases h
      refine .inl ⟨vs, h2, ?_⟩
      cases h3 <;> rfl
    · cases h
theorem Post.tst {a' b' : Type} {rel' : Rel a' b'} {K : PySem.W.Frag} {r : R D} {f : Bool → Store → R a'} {H : Hp} {ro : List Addr} {st : L2.St} {Q : b' → Hp → Prop} {Q2 : V → Hp → Prop} (h : Post B K W rel' H ro st Q ((testR r).bind f))
    (k : ∀ (b : Bool) (S : Store) (H1 : Hp) (ro1 : List Addr) (v : V), Ext H ro H1 ro1 → RH B K H1 ro1 S → TruV K v H1 b → Post B K W rel' H1 ro1 st Q (f b S) → Q2 v H1) : Post B K W (rV B K) H ro st Q2 r := by
  cases r with
  | ok d S =>
    have h' : Post B K W rel' H ro st Q ((match truth S d with | some b => R.ok b S | none => R.bad).bind f) := h
    intro H1 ro1 v x rh rv
    split at h'
    · rename_i b e
      exact k b S H1 ro1 v x rh (truth_ok rh rv e) (Post.ext h' x)
    · exact h'.elim
  | exc x S => exact h
  | bad => exact h
/-- a test by the truth of its value -/
theorem dt_plain (h : DE X B W e ra) (hp : plainTest e = true) : DT X B W e fun en S => testR (ra en S) :=
  PT.imp (pt_truth h (plain_test hp)) fun st H Q ⟨en, S, ro, re, rh, q⟩ => ⟨en, S, ro, re, rh, by
    have q' : Post B X.K W rB H ro st Q ((testR (ra en S)).bind fun b S => .ok b S) := by
      have e : ((testR (ra en S)).bind fun b S => R.ok b S) = testR (ra en S) := by
        cases testR (ra en S) <;> rfl
      rw [e]; exact q
    exact q'.tst fun b S1 H1 ro1 v x1 rh1 t1 h1 => ⟨b, t1, Post.here h1 rh1 rfl⟩⟩
/-- a comparison as a test -/
theorem dt_cmp {o : CmpOp} {g : D → D → Store → Option Bool} (ho : OpS X B (compareOp o) fun d e S => boolR (g d e S) S) (ha : DE X B W a ra) (hb : DE X B W b rb) (hm : behindInMarks o b = false) :
    DT X B W (.Compare a [o] [b] pos) fun en S => testR ((ra en S).bind fun x S1 => (rb en S1).bind fun y S2 => boolR (g x y S2) S2) :=
  PT.imp (pt_cmpR ho ha hb hm) fun st H Q ⟨en, S, ro, re, rh, q⟩ => by
    refine ⟨en, S, ro, re, rh, ?_⟩
    have q' : Post B X.K W rB H ro st Q ((ra en S).bind fun x S1 => (rb en S1).bind fun y S2 => testR (boolR (g x y S2) S2)) := by
      have e : testR ((ra en S).bind fun x S1 => (rb en S1).bind fun y S2 => boolR (g x y S2) S2) = (ra en S).bind fun x S1 => (rb en S1).bind fun y S2 => testR (boolR (g x y S2) S2) := by
        cases ra en S with
        | ok x S1 =>
          show testR ((rb en S1).bind _) = (rb en S1).bind _
          cases rb en S1 <;> rfl
        | exc _ _ => rfl
        | bad => rfl
      rw [← e]; exact q
    refine Post.seq2 (rb := fun S => rb en S) re q' fun x y S H1 ro1 v u x1 rh1 r1 r2 h => ?_
    cases eg : g x y S with
    | none => rw [eg] at h; exact h.elim
    | some k =>
      refine ⟨ro1, S, x, y, W, st, rh1, r1, r2, ?_⟩
      show Post B X.K W (rV B X.K) H1 ro1 st _ (boolR (g x y S) S)
      rw [eg] at h ⊢
      exact fun H2 ro2 v2 x2 rh2 rv2 => by
        cases rv2
        exact ⟨k, rfl, h H2 ro2 k x2 rh2 rfl⟩

/-! ### more expressions -/
theorem de_neg (ha : DE X B W a ra) : DE X B W (.UnaryOp .USub a pos) fun en S => (ra en S).bind fun x S1 => match x with
    | .int i => .ok (.int (-i)) S1
    | _ => .bad :=
  DE.of (pe_un un_neg ha) fun en S ro st H Q re rh q => ⟨en, S, ro, re, rh, q.bind fun d S1 H1 ro1 v x rh1 rv h => by
    cases d <;> first | exact h.elim | skip
    cases rv
    exact ⟨_, rfl, Post.here (show Post B X.K W (rV B X.K) H1 ro1 st Q (.ok (.int _) S1) from h) rh1 (.int _)⟩⟩
theorem de_not (ha : DE X B W a ra) : DE X B W (.UnaryOp .Not a pos) fun en S => (ra en S).bind fun x S1 => boolR ((truth S1 x).map (!·)) S1 :=
  DE.of (pe_notT ha) fun en S ro st H Q re rh q => ⟨en, S, ro, re, rh, q.bind fun d S1 H1 ro1 v x rh1 rv h => by
    obtain ⟨b, h1, h2⟩ := h.bool rh1
    obtain ⟨k, h3, rfl⟩ := Option.map_eq_some_iff.mp h1
    exact ⟨k, truth_ok rh1 rv h3, h2⟩⟩
/-- x and y, x or y -/
def andR (ra rb : Env → Store → R D) (en : Env) (S : Store) : R D := (ra en S).bind fun x S1 => match truth S1 x with
  | some true => rb en S1
  | some false => .ok x S1
  | none => .bad
def orR (ra rb : Env → Store → R D) (en : Env) (S : Store) : R D := (ra en S).bind fun x S1 => match truth S1 x with
  | some true => .ok x S1
  | some false => rb en S1
  | none => .bad
theorem de_and (ha : DE X B W a ra) (hb : DE X B W (.BoolOp .And (b :: es) pos) rb) : DE X B W (.BoolOp .And (a :: b :: es) pos) (andR ra rb) :=
  DE.of (pe_andT ha hb) fun en S ro st H Q re rh q => ⟨en, S, ro, re, rh, Post.bind (show Post B X.K W (rV B X.K) H ro st Q ((ra en S).bind _) from q) fun d S1 H1 ro1 v x rh1 rv h => by
    split at h
    · rename_i e
      exact ⟨true, truth_ok rh1 rv e, ⟨en, S1, ro1, re.ext x, rh1, h⟩⟩
    · rename_i e
      exact ⟨false, truth_ok rh1 rv e, h.here rh1 rv⟩
    · exact h.elim⟩
theorem de_or (ha : DE X B W a ra) (hb : DE X B W (.BoolOp .Or (b :: es) pos) rb) : DE X B W (.BoolOp .Or (a :: b :: es) pos) (orR ra rb) :=
  DE.of (pe_orT ha hb) fun en S ro st H Q re rh q => ⟨en, S, ro, re, rh, Post.bind (show Post B X.K W (rV B X.K) H ro st Q ((ra en S).bind _) from q) fun d S1 H1 ro1 v x rh1 rv h => by
    split at h
    · rename_i e
      exact ⟨true, truth_ok rh1 rv e, h.here rh1 rv⟩
    · rename_i e
      exact ⟨false, truth_ok rh1 rv e, ⟨en, S1, ro1, re.ext x, rh1, h⟩⟩
    · exact h.elim⟩
/-- tests -/
abbrev DW (X : Cx) (B : Tab) (W : WX) (e : Expr) (r : Env → Store → R Bool) : Prop := PW X e (TI B X.K W rB r)
theorem PW.imp {e : Expr} {t t' : TT} (h : PW X e t) (k : ∀ st H Q, t' st H Q → t st H Q) : PW X e t' := ⟨fun whole pins s st H Q I q => h.run whole pins s st H Q I (k st H Q q)⟩
theorem testR_and (r : R D) (rb : Store → R D) : (testR (r.bind fun x S1 => match truth S1 x with | some true => rb S1 | some false => .ok x S1 | none => .bad)) = (testR r).bind fun k S1 => if k = true then testR (rb S1) else .ok false S1 := by
  cases r with
  | ok x S1 =>
    show testR (match truth S1 x with | some true => rb S1 | some false => .ok x S1 | none => .bad) = (match truth S1 x with | some b => R.ok b S1 | none => R.bad).bind _
    cases e : truth S1 x with
    | none => rfl
    | some k =>
      cases k with
      | true => rfl
      | false =>
        show (match truth S1 x with | some b => R.ok b S1 | none => R.bad) = _
        rw [e]; rfl
  | exc x S => rfl
  | bad => rfl
theorem testR_or (r : R D) (rb : Store → R D) : (testR (r.bind fun x S1 => match truth S1 x with | some true => .ok x S1 | some false => rb S1 | none => .bad)) = (testR r).bind fun k S1 => if k = true then .ok true S1 else testR (rb S1) := by
  cases r with
  | ok x S1 =>
    show testR (match truth S1 x with | some true => .ok x S1 | some false => rb S1 | none => .bad) = (match truth S1 x with | some b => R.ok b S1 | none => R.bad).bind _
    cases e : truth S1 x with
    | none => rfl
    | some k =>
      cases k with
      | false => rfl
      | true =>
        show (match truth S1 x with | some b => R.ok b S1 | none => R.bad) = _
        rw [e]; rfl
  | exc x S => rfl
  | bad => rfl
theorem dw_and1 (ha : DT X B W a fun en S => testR (ra en S)) : DW X B W (.BoolOp .And [a] pos) fun en S => testR (ra en S) := pw_and1 ha
theorem dw_or1 (ha : DT X B W a fun en S => testR (ra en S)) : DW X B W (.BoolOp .Or [a] pos) fun en S => testR (ra en S) := pw_or1 ha
theorem Post.tbind {a' b' : Type} {rel' : Rel a' b'} {K : PySem.W.Frag} {r : R Bool} {f : Bool → Store → R a'} {H : Hp} {ro : List Addr} {st : L2.St} {Q : b' → Hp → Prop} {Q2 : Bool → Hp → Prop} (h : Post B K W rel' H ro st Q (r.bind f))
    (k : ∀ (b : Bool) (S : Store) (H1 : Hp) (ro1 : List Addr), Ext H ro H1 ro1 → RH B K H1 ro1 S → Post B K W rel' H1 ro1 st Q (f b S) → Q2 b H1) : Post B K W rB H ro st Q2 r :=
  h.bind fun b S H1 ro1 v x rh rv h => by
    cases rv
    exact k b S H1 ro1 x rh h
theorem dw_and (ha : DT X B W a fun en S => testR (ra en S)) (hb : DW X B W (.BoolOp .And (b :: es) pos) fun en S => testR (rb en S)) : DW X B W (.BoolOp .And (a :: b :: es) pos) fun en S => testR (andR ra rb en S) :=
  PW.imp (pw_and ha hb) fun st H Q ⟨en, S, ro, re, rh, q⟩ => ⟨en, S, ro, re, rh, by
    have q' : Post B X.K W rB H ro st Q ((testR (ra en S)).bind fun k S1 => if k = true then testR (rb en S1) else .ok false S1) := by
      rw [← testR_and]; exact q
    exact q'.tbind fun k S1 H1 ro1 x rh1 h => by
      cases k with
      | true => exact ⟨en, S1, ro1, re.ext x, rh1, h⟩
      | false => exact Post.here (show Post B X.K W rB H1 ro1 st Q (.ok false S1) from h) rh1 rfl⟩
theorem dw_or (ha : DT X B W a fun en S => testR (ra en S)) (hb : DW X B W (.BoolOp .Or (b :: es) pos) fun en S => testR (rb en S)) : DW X B W (.BoolOp .Or (a :: b :: es) pos) fun en S => testR (orR ra rb en S) :=
  PW.imp (pw_or ha hb) fun st H Q ⟨en, S, ro, re, rh, q⟩ => ⟨en, S, ro, re, rh, by
    have q' : Post B X.K W rB H ro st Q ((testR (ra en S)).bind fun k S1 => if k = true then .ok true S1 else testR (rb en S1)) := by
      rw [← testR_or]; exact q
    exact q'.tbind fun k S1 H1 ro1 x rh1 h => by
      cases k with
      | true => exact Post.here (show Post B X.K W rB H1 ro1 st Q (.ok true S1) from h) rh1 rfl
      | false => exact ⟨en, S1, ro1, re.ext x, rh1, h⟩⟩
theorem testR_not (r : R D) : testR (r.bind fun x S1 => boolR ((truth S1 x).map (!·)) S1) = (testR r).bind fun k S1 => .ok (!k) S1 := by
  cases r with
  | ok x S1 =>
    show testR (boolR ((truth S1 x).map (!·)) S1) = (match truth S1 x with | some b => R.ok b S1 | none => R.bad).bind _
    cases truth S1 x <;> rfl
  | exc x S => rfl
  | bad => rfl
theorem dt_not (ha : DT X B W a fun en S => testR (ra en S)) : DT X B W (.UnaryOp .Not a pos) fun en S => testR ((ra en S).bind fun x S1 => boolR ((truth S1 x).map (!·)) S1) :=
  PT.imp (pt_not ha) fun st H Q ⟨en, S, ro, re, rh, q⟩ => ⟨en, S, ro, re, rh, by
    have q' : Post B X.K W rB H ro st Q ((testR (ra en S)).bind fun k S1 => .ok (!k) S1) := by
      rw [← testR_not]; exact q
    exact q'.tbind fun k S1 H1 ro1 x rh1 h => Post.here (show Post B X.K W rB H1 ro1 st Q (.ok (!k) S1) from h) rh1 rfl⟩
theorem de_ite (hc : DT X B W c fun en S => testR (rc en S)) (ha : DE X B W a ra) (hb : DE X B W b rb) : DE X B W (.IfExp c a b pos) fun en S => (testR (rc en S)).bind fun k S1 => if k = true then ra en S1 else rb en S1 :=
  DE.of (pe_ifExp hc ha hb) fun en S ro st H Q re rh q => ⟨en, S, ro, re, rh, q.tbind fun k S1 H1 ro1 x rh1 h => by
    cases k with
    | true => exact ⟨en, S1, ro1, re.ext x, rh1, h⟩
    | false => exact ⟨en, S1, ro1, re.ext x, rh1, h⟩⟩
theorem da_nil : DA X B W [] fun _ S => .ok [] S :=
  PA.imp pa_nil fun st H Q ⟨en, S, ro, re, rh, q⟩ => Post.here q rh .nil
theorem da_cons (ha : DE X B W a ra) (hs : DA X B W es rs) (h : notStar a = true) : DA X B W (a :: es) fun en S => (ra en S).bind fun x S1 => (rs en S1).bind fun xs S2 => .ok (x :: xs) S2 :=
  PA.imp (pa_cons ha hs (star_each h)) fun st H Q ⟨en, S, ro, re, rh, q⟩ => ⟨en, S, ro, re, rh, q.bind fun d S1 H1 ro1 v x rh1 rv h1 => ⟨en, S1, ro1, re.ext x, rh1, h1.bind fun ds S2 H2 ro2 vs x2 rh2 rvs h2 => Post.here h2 rh2 (.cons (RV.ext x2 _ _ rv) rvs)⟩⟩
theorem de_tup {k : Nat} (hs : DA X B W es rs) : DE X B W (.Tuple es k pos) fun en S => (rs en S).bind fun ds S1 => if ds.length ≤ line then .ok (.tup ds) S1 else .bad :=
  DE.of (pe_tup hs) fun en S ro st H Q re rh q => ⟨en, S, ro, re, rh, q.bind fun ds S1 H1 ro1 vs x rh1 rvs h => by
    split at h
    · rename_i hl
      exact ⟨by rw [← rvs.length, ← line_eq]; exact hl, fun p hp => h.newT rh1 rvs hp⟩
    · exact h.elim⟩
theorem de_lst (hs : DA X B W es rs) : DE X B W (.List es pos) fun en S => (rs en S).bind fun ds S1 => if ds.length ≤ line then .ok (.loc S1.length) (S1 ++ [.lst ds]) else .bad :=
  DE.of (pe_lst hs) fun en S ro st H Q re rh q => ⟨en, S, ro, re, rh, q.bind fun ds S1 H1 ro1 vs x rh1 rvs h => by
    split at h
    · rename_i hl
      exact ⟨by rw [← rvs.length, ← line_eq]; exact hl, fun p hp => h.newL rh1 rvs hp⟩
    · exact h.elim⟩
theorem Post.newO {K : PySem.W.Frag} {S : Store} {O' : O} {o : HO} {p : Addr} {H : Hp} {ro : List Addr} {st : L2.St} {Q : VK} (h : Post B K W (rV B K) H ro st Q (.ok (.loc S.length) (S ++ [O']))) (rh : RH B K H ro S) (hp : H p = none) (w : RO B K (upd H p o) (ro ++ [p]) p O') : Q (.ref p) (upd H p o) := by
  refine h _ (ro ++ [p]) (.ref p) ((Ext.new hp).trans Ext.push) (rh.push hp w) (.loc ?_)
  rw [← rh.len]
  simp
theorem de_dnew (t : Bool) : DE X B W (.Dict [] [] pos) fun _ S => .ok (.loc S.length) (S ++ [.dct t []]) := by
  cases t with
  | false => exact DE.of pe_dnewK fun en S ro st H Q re rh q p hp => Post.newO q rh hp ⟨[], upd_same, .nil⟩
  | true => exact DE.of pe_dnewT fun en S ro st H Q re rh q p hp => Post.newO q rh hp ⟨[], upd_same, .nil⟩
/-- a[b] -/
theorem de_ix (hu : X.A.units + 1 < cLine) (ha : DE X B W a ra) (hb : DE X B W b rb) (h : notSlice b = true) : DE X B W (.Subscript a b pos) fun en S => (ra en S).bind fun x S1 => (rb en S1).bind fun y S2 => dR (getIx B.kon S2 x y) S2 :=
  DE.of (PE.or (pe_ix ix_seq ha hb (plain_ix h)) (pe_dget hu ha hb (plain_ix h))) fun en S ro st H Q re rh q => by
    by_cases nd : ∃ d1 S1 d2 S2 n t kvs, ra en S = .ok d1 S1 ∧ rb en S1 = .ok d2 S2 ∧ d1 = .loc n ∧ S2[n]? = some (.dct t kvs)
    · obtain ⟨d1, S1, d2, S2, n, t, kvs, e1, e2, rfl, e4⟩ := nd
      refine .inr ⟨en, S, ro, re, rh, q.bindE fun d S1' H1 ro1 v q1 x1 rh1 rv1 h1 => ⟨en, S1', ro1, re.ext x1, rh1, h1.bindE fun d' S2' H2 ro2 v2 q2 x2 rh2 rv2 h2 => ?_⟩⟩
      rw [e1] at q1
      cases q1
      rw [e2] at q2
      cases q2
      obtain ⟨f, e5, h3⟩ := h2.opt
      obtain ⟨a1, rfl, e6⟩ := (RV.ext x2 _ _ rv1).loc_inv
      unfold getIx at e5
      dsimp only at e5
      rw [e4] at e5
      dsimp only at e5
      split at e5
      · rename_i hk
        have g := dict_get rh2 e4 e6 hk rv2
        rw [e5] at g
        obtain ⟨v, g1, g2⟩ := g
        exact ⟨a1, v, rfl, g1, h3.here rh2 g2⟩
      · cases e5
    · refine .inl ⟨en, S, ro, re, rh, q.bindE fun d S1 H1 ro1 v q1 x1 rh1 rv1 h1 => ⟨en, S1, ro1, re.ext x1, rh1, h1.bindE fun d' S2 H2 ro2 v2 q2 x2 rh2 rv2 h2 => ?_⟩⟩
      obtain ⟨f, e5, h3⟩ := h2.opt
      exact getIx_ok rh2 (RV.ext x2 _ _ rv1) rv2 e5 (fun n t kvs z1 z2 => nd ⟨d, S1, d', S2, n, t, kvs, q1, q2, z1, z2⟩) Q fun v rv => h3.here rh2 rv
/-- a part of a slice -/
abbrev DO (X : Cx) (B : Tab) (W : WX) (e : Option Expr) (r : Env → Store → R D) : Prop := PO X e (TI B X.K W (fun H ro d o => part d = some o) r)
theorem PO.imp {e : Option Expr} {t t' : TO} (h : PO X e t) (k : ∀ st H Q, t' st H Q → t st H Q) : PO X e t' := ⟨fun pins s st H Q I q => h.run pins s st H Q I (k st H Q q)⟩
theorem do_none : DO X B W none fun _ S => partR true (.ok .non S) :=
  PO.imp po_none fun st H Q ⟨en, S, ro, re, rh, q⟩ => Post.here (show Post B X.K W (fun H ro d o => part d = some o) H ro st Q (.ok .non S) from q) rh rfl
theorem do_some (ha : DE X B W a ra) : DO X B W (some a) fun en S => partR false (ra en S) :=
  PO.imp (po_some ha) fun st H Q ⟨en, S, ro, re, rh, q⟩ => ⟨en, S, ro, re, rh, Post.bind (show Post B X.K W (fun H ro d o => part d = some o) H ro st Q ((ra en S).bind _) from q) fun d S1 H1 ro1 v x rh1 rv h => by
    cases d with
    | int i =>
      cases rv
      exact ⟨i, rfl, Post.here (show Post B X.K W (fun H ro d o => part d = some o) H1 ro1 st Q (.ok (.int i) S1) from h) rh1 rfl⟩
    | _ => exact h.elim⟩
theorem de_sl {lo hi : Option Expr} {p2 : Pos} (ha : DE X B W a ra) (hl : DO X B W lo rb) (hh : DO X B W hi rc) : DE X B W (.Subscript a (.Slice lo hi none p2) pos) fun en S => (ra en S).bind fun x S1 => (rb en S1).bind fun y S2 => (rc en S2).bind fun z S3 => sliceD x y z S3 :=
  DE.of (pe_slice slr ha hl hh) fun en S ro st H Q re rh q => ⟨en, S, ro, re, rh, q.bind fun d S1 H1 ro1 v x1 rh1 rv1 h1 => ⟨en, S1, ro1, re.ext x1, rh1, Post.bind (rel := fun H ro d o => part d = some o) h1 fun l S2 H2 ro2 o2 x2 rh2 rv2 h2 => ⟨en, S2, ro2, (re.ext x1).ext x2, rh2, Post.bind (rel := fun H ro d o => part d = some o) h2 fun u S3 H3 ro3 o3 x3 rh3 rv3 h3 => by
    obtain ⟨l', u', e1, e2, h4⟩ := sliceD_part h3
    rw [rv2] at e1
    rw [rv3] at e2
    cases e1
    cases e2
    exact slice_ok rh3 (RV.ext x3 _ _ (RV.ext x2 _ _ rv1)) h4⟩⟩⟩

/-! ### attributes -/
theorem RF.look {K : PySem.W.Frag} {H : Hp} {ro : List Addr} (inj : ∀ f g, B.name f = B.name g → f = g) {f : Nat} : ∀ {fs : List (Nat × D)} {vs : List (Str × V)}, RF B K H ro fs vs → (match fs.lookup f with | some d => ∃ v, vs.lookup (B.name f) = some v ∧ RV B K H ro d v | none => vs.lookup (B.name f) = none)
  | _, _, .nil => rfl
  | (g, d) :: r, _, .cons (v := v) (r' := r') h t => by
    by_cases e : f = g
    · subst e
      rw [List.lookup_cons_self, List.lookup_cons_self]
      exact ⟨v, rfl, h⟩
    · have e1 : (f == g) = false := beq_eq_false_iff_ne.mpr e
      have e2 : (B.name f == B.name g) = false := beq_eq_false_iff_ne.mpr fun z => e (inj _ _ z)
      rw [List.lookup_cons, List.lookup_cons, e1, e2]
      exact RF.look inj t
theorem RF.put {K : PySem.W.Frag} {H : Hp} {ro : List Addr} (inj : ∀ f g, B.name f = B.name g → f = g) {f : Nat} {d : D} {v : V} (rd : RV B K H ro d v) : ∀ {fs : List (Nat × D)} {vs : List (Str × V)}, RF B K H ro fs vs → RF B K H ro (fput f d fs) (putF (B.name f) v vs)
  | _, _, .nil => .cons rd .nil
  | (g, d') :: r, _, .cons (v := v') (r' := r') h t => by
    by_cases e : g = f
    · subst e
      unfold fput putF
      rw [if_pos rfl, if_pos rfl]
      exact .cons rd t
    · unfold fput putF
      rw [if_neg e, if_neg (fun z => e (inj _ _ z))]
      exact .cons h (RF.put inj rd t)
theorem RF.length {K : PySem.W.Frag} {H : Hp} {ro : List Addr} : ∀ {fs : List (Nat × D)} {vs : List (Str × V)}, RF B K H ro fs vs → fs.length = vs.length
  | _, _, .nil => rfl
  | _, _, .cons _ t => by simp [RF.length t]
theorem RH.ins {K : PySem.W.Frag} {H : Hp} {ro : List Addr} {S : Store} {n c : Nat} {a : Addr} {fs : List (Nat × D)} (rh : RH B K H ro S) (h : S[n]? = some (.ins c fs)) (e : ro[n]? = some a) : ∃ C dx vs, B.cls c = some C ∧ H a = some (.ins C dx vs) ∧ RF B K H ro fs vs := by
  obtain ⟨b, h1, h2⟩ := rh.obj n _ h
  obtain rfl : b = a := Option.some.inj (h1.symm.trans e)
  exact h2
/-- what the classes must have -/
structure ClsOk (B : Tab) (K : PySem.W.Frag) (fld : Nat → Nat → Bool) : Prop where
  inj : ∀ f g, B.name f = B.name g → f = g
  cls : ∀ c C, B.cls c = some C → Cls K C
  no : ∀ c C f, B.cls c = some C → fld c f = true → NoAttr K C (B.name f)
theorem de_attr {fld : Nat → Nat → Bool} {f : Nat} (ok : ClsOk B X.K fld) (ha : DE X B W a ra) (hs : notSuper a = true) : DE X B W (.Attribute a (B.name f) pos) fun en S => (ra en S).bind fun x S1 => match x with
    | .loc n => match S1[n]? with
      | some (.ins c fs) => if fld c f = true then dR (fs.lookup f) S1 else .bad
      | _ => .bad
    | _ => .bad :=
  DE.of (pe_fld ha (attr_base hs)) fun en S ro st H Q re rh q => ⟨en, S, ro, re, rh, q.bind fun d S1 H1 ro1 v x rh1 rv h => by
    cases d <;> first | exact h.elim | skip
    obtain ⟨a1, rfl, e1⟩ := rv.loc_inv
    dsimp only at h
    split at h
    · rename_i c fs e2
      obtain ⟨C, dx, vs, e3, e4, rf⟩ := rh1.ins e2 e1
      split at h
      · rename_i hf
        obtain ⟨d, e5, h2⟩ := h.opt
        have l := RF.look ok.inj (f := f) rf
        rw [e5] at l
        obtain ⟨u, l1, l2⟩ := l
        exact ⟨a1, C, dx, vs, u, rfl, e4, ok.cls c C e3, ok.no c C f e3 hf, l1, h2.here rh1 l2⟩
      · exact h.elim
    · exact h.elim⟩

/-! ### calls -/
/-- a def's promise: what the interpreter tells -/
def spI (B : Tab) (K : PySem.W.Frag) (g : List D → Store → R D) (k : Nat) : Sp := fun vs H Q E => vs.length = k ∧ ∃ (ds : List D) (S : Store) (ro : List Addr), RVs B K H ro ds vs ∧ RH B K H ro S ∧ Post B K (fun c d _ H => E c d H) (rV B K) H ro [] Q (g ds S)
theorem Post.wish {K : PySem.W.Frag} {H : Hp} {ro : List Addr} {st : L2.St} {Q : VK} {r : R D} (h : Post B K W (rV B K) H ro st Q r) : Post B K (fun c d _ H => W c d st H) (rV B K) H ro [] Q r := by
  cases r with
  | ok d S => exact h
  | exc x S => exact h
  | bad => exact h
theorem run_i {f : Addr} {fd : FuncData} {ps : List Str} {sp : Sp} {n : Nat} {pins : List (Addr × Obj)} {s : Shared} {st : L2.St} {H : Hp} {Q : VK} {us : List Value} {vs : List V} (F : FnOk X.prog X.w X.K X.mg X.base (L2.CX X.prog X.w) n f fd ps sp) (hr : Room n X.A) (hb : Binds X.K fd ps []) (tk : Takes X W)
    (I : Inv X pins st H s) (r : Vals vs us) (h : sp vs H Q (WE W st)) : wpAny (model X.prog X.w) X.A (call (.ref f) us) (EP X pins st Q) X.xe s :=
  run_fnSD (E := fun st => WE W st) (dvs := []) (ds := []) F hr hb .nil (passAt tk st) I r (by rw [List.append_nil]; exact h)
/-- f(e, ..), of a def of the program -/
theorem de_call {x : Str} {p : Pos} {f : Addr} {fd : FuncData} {ps : List Str} {n k : Nat} {g : List D → Store → R D} (F : FnOk X.prog X.w X.K X.mg X.base (L2.CX X.prog X.w) n f fd ps (spI B X.K g k)) (hr : Room n X.A) (hg : Gl X x) (hm : X.mg x = some (.ref f)) (hk : PySem.W.keepIn X.K (.ref f) = true) (hb : Binds X.K fd ps [])
    (tk : Takes X W) (hs : DA X B W es rs) (hdb : (x == ("__debug__" : Str)) = false) (hst : es.all notStar = true) (h0 : es = [] → ∀ en S, rs en S = .ok [] S) (hrs : ∀ en S ds S', rs en S = .ok ds S' → ds.length = k) : DE X B W (.Call (.Name x p) es [] pos) fun en S => (rs en S).bind fun ds S1 => g ds S1 := by
  have key : ∀ (en : Env) (S : Store) (ro : List Addr) (st : L2.St) (H : Hp) (Q : VK), RE B X.K H ro en st → RH B X.K H ro S → Post B X.K W (rV B X.K) H ro st Q ((rs en S).bind fun ds S1 => g ds S1) →
      Post B X.K W (rVs B X.K) H ro st (fun vs H1 => spI B X.K g k vs H1 Q (WE W st)) (rs en S) := fun en S ro st H Q re rh q => q.bindE fun ds S1 H1 ro1 vs q1 x rh1 rvs h =>
    ⟨by rw [← rvs.length]; exact hrs _ _ _ _ q1, ds, S1, ro1, rvs, rh1, h.wish⟩
  cases es with
  | nil =>
    refine ⟨fun pins s st H Q I ⟨en, S, ro, re, rh, q⟩ => ?_⟩
    refine wpAny_Call_Name_kw (ld_glob I hg hm ?_ hdb)
    refine PySem.W.callWith_K0 I.kIn hk (run_i (us := []) (vs := []) F hr hb tk I .nil ?_)
    have z := key en S ro st H Q re rh q
    rw [h0 rfl en S] at z
    exact z.here rh .nil
  | cons e es =>
    rw [List.all_cons, Bool.and_eq_true] at hst
    exact DE.of (pe_callSD (E := fun st => WE W st) (dvs := []) (ds := []) F hr hg hm hk hb .nil (passAt tk) hs hdb (star_each hst.1) (stars_none hst.2)) fun en S ro st H Q re rh q => ⟨en, S, ro, re, rh, (key en S ro st H Q re rh q).mono fun v H h => by rw [List.append_nil]; exact h⟩
/-- a built-in function, a built-in type -/
theorem de_bif {x : Str} {p : Pos} {id : String} {g : List D → Store → R D} (hc : CallS X B (.builtin id) g) (hg : Gl X x) (hm : X.mg x = none) (hv : bootBuiltins x = some (.builtin id)) (hs : DA X B W (e :: es) rs) (hn : x ≠ "__name__") (hdb : (x == ("__debug__" : Str)) = false) (hst : (e :: es).all notStar = true) :
    DE X B W (.Call (.Name x p) (e :: es) [] pos) fun en S => (rs en S).bind fun ds S1 => g ds S1 := by
  rw [List.all_cons, Bool.and_eq_true] at hst
  exact DE.of (pe_callB hc hg hm hv hs hn hdb (star_each hst.1) (stars_none hst.2)) fun en S ro st H Q re rh q => ⟨en, S, ro, re, rh, q.bind fun ds S1 H1 ro1 vs x rh1 rvs h => ⟨ro1, S1, ds, W, st, rh1, rvs, h⟩⟩
theorem de_bty {x : Str} {p : Pos} {T : String} {g : List D → Store → R D} (hc : CallS X B (.type T) g) (hg : Gl X x) (hm : X.mg x = none) (hv : bootBuiltins x = some (.type T)) (hs : DA X B W (e :: es) rs) (hn : x ≠ "__name__") (hdb : (x == ("__debug__" : Str)) = false) (hst : (e :: es).all notStar = true) :
    DE X B W (.Call (.Name x p) (e :: es) [] pos) fun en S => (rs en S).bind fun ds S1 => g ds S1 := by
  rw [List.all_cons, Bool.and_eq_true] at hst
  exact DE.of (pe_callTy hc hg hm hv hs hn hdb (star_each hst.1) (stars_none hst.2)) fun en S ro st H Q re rh q => ⟨en, S, ro, re, rh, q.bind fun ds S1 H1 ro1 vs x rh1 rvs h => ⟨ro1, S1, ds, W, st, rh1, rvs, h⟩⟩
/-- a function of a module (gcd) under the module's own name -/
theorem pe_callM {x : Str} {p : Pos} {id : String} {r : List V → Hp → VK → Prop} {t : TA} (hc : CallR X (.builtin id) r) (hg : Gl X x) (hm : X.mg x = some (.builtin id)) (ha : PA X (e :: es) t) (hdb : (x == ("__debug__" : Str)) = false)
    (he : starEach (e :: es) X.env = (false, eval e X.env) :: starEach es X.env) (hpl : (backTo pos (starEach es X.env)).any (·.1) = false) : PE X (.Call (.Name x p) (e :: es) [] pos) (tCB r t) := by
  refine ⟨fun pins s st H Q I h => ?_⟩
  refine wpAny_Call_Name_kw (ld_glob I hg hm ?_ hdb)
  exact PyProof.Rows.callWith_builtin1 (thn (ha.run pos pins s st H _ I h) fun us s1 ⟨vs, H1, I1, r1, q1⟩ => hc pins s1 st H1 vs us Q I1 r1 q1) he hpl
theorem de_bim {x : Str} {p : Pos} {id : String} {g : List D → Store → R D} (hc : CallS X B (.builtin id) g) (hg : Gl X x) (hm : X.mg x = some (.builtin id)) (hs : DA X B W (e :: es) rs) (hdb : (x == ("__debug__" : Str)) = false) (hst : (e :: es).all notStar = true) :
    DE X B W (.Call (.Name x p) (e :: es) [] pos) fun en S => (rs en S).bind fun ds S1 => g ds S1 := by
  rw [List.all_cons, Bool.and_eq_true] at hst
  exact DE.of (pe_callM hc hg hm hs hdb (star_each hst.1) (stars_none hst.2)) fun en S ro st H Q re rh q => ⟨en, S, ro, re, rh, q.bind fun ds S1 H1 ro1 vs x rh1 rvs h => ⟨ro1, S1, ds, W, st, rh1, rvs, h⟩⟩
/-- isinstance(e, T) -/
theorem de_isi {x y : Str} {p p2 : Pos} {t : Ty} {T : String} (hg : Gl X x) (hm : X.mg x = none) (hv : bootBuiltins x = some (.builtin "isinstance")) (hg2 : Gl X y) (hm2 : X.mg y = none) (hv2 : bootBuiltins y = some (.type T)) (ht : tyS t = some T) (ha : DE X B W a ra) (hn : x ≠ "__name__") (hdb : (x == ("__debug__" : Str)) = false) (hn2 : y ≠ "__name__") (hdb2 : (y == ("__debug__" : Str)) = false) (hst : notStar a = true) :
    DE X B W (.Call (.Name x p) [a, .Name y p2] [] pos) fun en S => (ra en S).bind fun x S1 => boolR (isiD S1 t x) S1 :=
  DE.of (pe_callB (t := tCons _ (tCons (tC (.ty T)) tNil)) call_isi hg hm hv (pa_cons ha (pa_cons (pe_bltn hg2 hm2 hv2 rfl hn2 hdb2) pa_nil rfl) (star_each hst)) hn hdb (star_each hst) rfl) fun en S ro st H Q re rh q => ⟨en, S, ro, re, rh, q.bind fun d S1 H1 ro1 v x rh1 rv h => by
    obtain ⟨b, h1, h2⟩ := h.bool rh1
    obtain ⟨u, h3, h4⟩ := isi_ok rh1 rv ht h1
    exact ⟨v, .ty T, u, .type T, b, rfl, .ty T, h3, h4, h2⟩⟩
/-- o.append(e), o.extend(e) -/
theorem few_ok (e : Expr) (pos : Pos) (env : PySem.Env) (h : notStar e = true) : ((backTo pos (starEach [e] env)).all (fun x => !x.1) && (backToKw pos (keywordEach [] env)).all (fun x => x.1.isSome)
      && decide (([e] : List Expr).length + ([] : List Keyword).length + (if ([] : List Keyword).isEmpty then 0 else 1) < 30)) = true := by
  rw [star_each h]
  rfl
theorem de_bmt {name : Str} {id : String} {m : Bmt} {r : V → List V → Hp → VK → Prop} (slot : Slot "list" name id) (hty : typeOf (.builtin id) = pure (.type "method_descriptor")) (hm : MtR X id r)
    (ok : ∀ (o : D) (ds : List D) (S : Store) (H : Hp) (ro : List Addr) (st : L2.St) (x : V) (xs : List V) (Q : VK), RH B X.K H ro S → RV B X.K H ro o x → RVs B X.K H ro ds xs → Post B X.K W (rV B X.K) H ro st Q (bmtD m o ds S) → r x xs H Q)
    (ha : DE X B W a ra) (hb : DA X B W [b] rs) (hs : notSuper a = true) (hst : notStar b = true) (hl : (apos.endLine == pos.line) = true) :
    DE X B W (.Call (.Attribute a name apos) [b] [] pos) fun en S => (ra en S).bind fun x S1 => if isLst S1 x = true then (rs en S1).bind fun ds S2 => bmtD m x ds S2 else .bad :=
  DE.of (pe_bm PySem.F.plainAttrs_list slot hty hm ha hb (attr_base hs) (few_ok b pos X.env hst) hl (star_each hst) rfl) fun en S ro st H Q re rh q => ⟨en, S, ro, re, rh, q.bind fun d S1 H1 ro1 v x rh1 rv h => by
    split at h
    · rename_i hl
      exact ⟨isLst_ty rh1 rv hl, en, S1, ro1, re.ext x, rh1, h.bind fun ds S2 H2 ro2 vs x2 rh2 rvs h2 => ok d ds S2 H2 ro2 st v vs Q rh2 (RV.ext x2 _ _ rv) rvs h2⟩
    · exact h.elim⟩
theorem de_append (ha : DE X B W a ra) (hb : DA X B W [b] rs) (hs : notSuper a = true) (hst : notStar b = true) (hl : (apos.endLine == pos.line) = true) :
    DE X B W (.Call (.Attribute a "append" apos) [b] [] pos) fun en S => (ra en S).bind fun x S1 => if isLst S1 x = true then (rs en S1).bind fun ds S2 => bmtD .append x ds S2 else .bad :=
  de_bmt (m := .append) PySem.F.slot_list_append PySem.F.type_list_append mt_append (fun o ds S H ro st x xs Q rh r rs q => by
    obtain ⟨d, v, rfl, rfl, r1, q⟩ := Post.one (f := mAppend o) q rs
    exact append_ok rh r r1 q) ha hb hs hst hl
theorem de_extend (ha : DE X B W a ra) (hb : DA X B W [b] rs) (hs : notSuper a = true) (hst : notStar b = true) (hl : (apos.endLine == pos.line) = true) :
    DE X B W (.Call (.Attribute a "extend" apos) [b] [] pos) fun en S => (ra en S).bind fun x S1 => if isLst S1 x = true then (rs en S1).bind fun ds S2 => bmtD .extend x ds S2 else .bad :=
  de_bmt (m := .extend) PySem.F.slot_list_extend PySem.F.type_list_extend mt_extend (fun o ds S H ro st x xs Q rh r rs q => by
    obtain ⟨d, v, rfl, rfl, r1, q⟩ := Post.one (f := mExtend o) q rs
    exact extend_ok rh r r1 q) ha hb hs hst hl

/-! ### in, not in -/
theorem op_din (hu : X.A.units + 1 < cLine) : OpR X (compareOp .In) fun x y H Q => ∃ a o, y = .ref a ∧ DGet H a x o ∧ Q (.bl o.isSome) H := by
  intro pins s st H x y v u Q I rx ry ⟨a, o, e, g, q⟩
  subst e
  obtain rfl : u = Value.ref a := ry
  exact d_in hu I g rx fun s3 I3 => ⟨.bl o.isSome, H, I3, rfl, q⟩
theorem op_dnin (hu : X.A.units + 1 < cLine) : OpR X (compareOp .NotIn) fun x y H Q => ∃ a o, y = .ref a ∧ DGet H a x o ∧ Q (.bl (!o.isSome)) H := by
  intro pins s st H x y v u Q I rx ry ⟨a, o, e, g, q⟩
  subst e
  obtain rfl : u = Value.ref a := ry
  exact d_notIn hu I g rx fun s3 I3 => ⟨.bl (!o.isSome), H, I3, rfl, q⟩
theorem isin_dict {K : PySem.W.Frag} {H : Hp} {ro : List Addr} {S : Store} {neg : Bool} {d e : D} {x y : V} {b : Bool} (rh : RH B K H ro S) (rd : RV B K H ro d x) (re : RV B K H ro e y) (h : isin B.kon S neg d e = some b) (hd : ∃ n t kvs, e = .loc n ∧ S[n]? = some (.dct t kvs)) :
    ∃ a o, y = .ref a ∧ DGet H a x o ∧ b = (if neg then !o.isSome else o.isSome) := by
  obtain ⟨n, t, kvs, rfl, e1⟩ := hd
  obtain ⟨a, rfl, e2⟩ := re.loc_inv
  unfold isin at h
  dsimp only at h
  rw [e1] at h
  dsimp only at h
  split at h
  · rename_i hk
    have g := dict_get rh e1 e2 hk rd
    cases h
    split at g
    · rename_i d' e3
      obtain ⟨v, g1, _⟩ := g
      exact ⟨a, some v, rfl, g1, by rw [e3]; rfl⟩
    · rename_i e3
      exact ⟨a, none, rfl, g, by rw [e3]; rfl⟩
  · cases h
theorem ops_in (hu : X.A.units + 1 < cLine) : CmS X B .in_ (compareOp .In) := OpS.of (op_in_sign.or (op_in_seq.or (op_din hu))) fun x y H Q ro S d e W st rh rd re q => by
  obtain ⟨b, h, q⟩ := q.bool rh
  by_cases hd : ∃ n t kvs, e = .loc n ∧ S[n]? = some (.dct t kvs)
  · obtain ⟨a, o, rfl, g, rfl⟩ := isin_dict rh rd re h hd
    exact .inr (.inr ⟨a, o, rfl, g, q⟩)
  · rcases isin_ok rh rd re h (fun n t kvs e1 e2 => hd ⟨n, t, kvs, e1, e2⟩) with ⟨c, z, h1, h2, rfl⟩ | ⟨p, xs, h1, h2, h3, h4, rfl⟩
    · exact .inl ⟨c, z, h1, h2, q⟩
    · exact .inr (.inl ⟨p, xs, h1, h2, h3, h4, q⟩)
theorem ops_nin (hu : X.A.units + 1 < cLine) : CmS X B .nin (compareOp .NotIn) := OpS.of (op_notIn_sign.or (op_notIn_seq.or (op_dnin hu))) fun x y H Q ro S d e W st rh rd re q => by
  obtain ⟨b, h, q⟩ := q.bool rh
  by_cases hd : ∃ n t kvs, e = .loc n ∧ S[n]? = some (.dct t kvs)
  · obtain ⟨a, o, rfl, g, rfl⟩ := isin_dict rh rd re h hd
    exact .inr (.inr ⟨a, o, rfl, g, q⟩)
  · rcases isin_ok rh rd re h (fun n t kvs e1 e2 => hd ⟨n, t, kvs, e1, e2⟩) with ⟨c, z, h1, h2, rfl⟩ | ⟨p, xs, h1, h2, h3, h4, rfl⟩
    · exact .inl ⟨c, z, h1, h2, q⟩
    · exact .inr (.inl ⟨p, xs, h1, h2, h3, h4, q⟩)
def copO : Cop → CmpOp
  | .eq => .Eq | .ne => .NotEq | .lt => .Lt | .le => .LtE | .gt => .Gt | .ge => .GtE | .isN => .Is | .notN => .IsNot | .in_ => .In | .nin => .NotIn
theorem ops_cmp (hu : X.A.units + 64 < cLine) (o : Cop) : CmS X B o (compareOp (copO o)) := by
  have hu1 : X.A.units + 1 < cLine := by omega
  cases o
  · exact ops_eq hu
  · exact ops_ne hu
  · exact ops_lt
  · exact ops_le
  · exact ops_gt
  · exact ops_ge
  · exact ops_isN
  · exact ops_notN
  · exact ops_in hu1
  · exact ops_nin hu1
end
end Lw
end
section
set_option Elab.async false
set_option linter.all false
set_option autoImplicit false
namespace Lw
open PySem PySem.Spec PyProof.Rows L2
/-- an iterator walks what the interpreter reads -/
structure RJ (B : Tab) (K : PySem.W.Frag) (H0 : Hp) (ro0 : List Addr) (J : L2.It) (src : Src) : Prop where
  go : ∀ (H : Hp) (ro : List Addr) (S : Store) (ds : List D) (i : Nat), Ext H0 ro0 H ro → RH B K H ro S → src.rd S = some ds → i < ds.length → J.go i H
  stop : ∀ (H : Hp) (ro : List Addr) (S : Store) (ds : List D) (i : Nat), Ext H0 ro0 H ro → RH B K H ro S → src.rd S = some ds → i = ds.length → J.stop i H
  yld : ∀ (H : Hp) (ro : List Addr) (S : Store) (ds : List D) (i : Nat) (d : D) (x : V) (H' : Hp), Ext H0 ro0 H ro → RH B K H ro S → src.rd S = some ds → ds[i]? = some d → J.yld i H x H' → Ext H ro H' ro ∧ RH B K H' ro S ∧ RV B K H' ro d x
def PostI (B : Tab) (K : PySem.W.Frag) (W : WX) (H : Hp) (ro : List Addr) (st : L2.St) (R : L2.It → Hp → Prop) : Lw.R Src → Prop
  | .ok src S => ∀ (H' : Hp) (ro' : List Addr) (J : L2.It), Ext H ro H' ro' → RH B K H' ro' S → RJ B K H' ro' J src → R J H'
  | .exc x S => ∀ (H' : Hp) (ro' : List Addr) (c : Value) (dd : Option Addr), Ext H ro H' ro' → RH B K H' ro' S → RX B K H' ro' x c dd → W c dd st H'
  | .bad => False
def TII (B : Tab) (K : PySem.W.Frag) (W : WX) (r : Env → Store → Lw.R Src) : L2.TI := fun st H R => ∃ (en : Env) (S : Store) (ro : List Addr), RE B K H ro en st ∧ RH B K H ro S ∧ PostI B K W H ro st R (r en S)
abbrev DI (X : Cx) (B : Tab) (W : WX) (tg it : Expr) (r : Env → Store → Lw.R Src) : Prop := PI X tg it (TII B X.K W r)
section
variable {X : Cx} {B : Tab} {W : WX} {a b tg : Expr} {es : List Expr} {pos : Pos} {ra rb : Env → Store → R D} {rs : Env → Store → R (List D)}
theorem PI.imp {tg it : Expr} {t t' : L2.TI} (h : PI X tg it t) (k : ∀ st H R, t' st H R → t st H R) : PI X tg it t' := ⟨fun pins s st H R I q => h.run pins s st H R I (k st H R q)⟩
theorem PI.or {tg it : Expr} {t t' : L2.TI} (h : PI X tg it t) (h' : PI X tg it t') : PI X tg it (fun st H R => t st H R ∨ t' st H R) := ⟨fun pins s st H R I q => q.elim (h.run pins s st H R I) (h'.run pins s st H R I)⟩
theorem DI.of {it : Expr} {t : L2.TI} {r : Env → Store → Lw.R Src} (h : PI X tg it t) (k : ∀ (en : Env) (S : Store) (ro : List Addr) (st : L2.St) (H : Hp) (R : L2.It → Hp → Prop), RE B X.K H ro en st → RH B X.K H ro S → PostI B X.K W H ro st R (r en S) → t st H R) : DI X B W tg it r :=
  PI.imp h fun st H R ⟨en, S, ro, re, rh, q⟩ => k en S ro st H R re rh q
theorem PostI.ext {K : PySem.W.Frag} {H H' : Hp} {ro ro' : List Addr} {st : L2.St} {R : L2.It → Hp → Prop} {r : Lw.R Src} (h : PostI B K W H ro st R r) (x : Ext H ro H' ro') : PostI B K W H' ro' st R r := by
  cases r with
  | ok d S => exact fun H2 ro2 v y rh rv => h H2 ro2 v (x.trans y) rh rv
  | exc e S => exact fun H2 ro2 c dd y rh rx => h H2 ro2 c dd (x.trans y) rh rx
  | bad => exact h
theorem PostI.bindE {a' b' : Type} {rel : Rel a' b'} {K : PySem.W.Frag} {H : Hp} {ro : List Addr} {st : L2.St} {R : L2.It → Hp → Prop} {Q : b' → Hp → Prop} {r : Lw.R a'} {f : a' → Store → Lw.R Src} (h : PostI B K W H ro st R (r.bind f))
    (k : ∀ (d : a') (S : Store) (H1 : Hp) (ro1 : List Addr) (v : b'), r = .ok d S → Ext H ro H1 ro1 → RH B K H1 ro1 S → rel H1 ro1 d v → PostI B K W H1 ro1 st R (f d S) → Q v H1) : Post B K W rel H ro st Q r := by
  cases r with
  | ok d S => exact fun H1 ro1 v x rh rv => k d S H1 ro1 v rfl x rh rv (PostI.ext h x)
  | exc e S => exact h
  | bad => exact h
theorem PostI.src {K : PySem.W.Frag} {H : Hp} {ro : List Addr} {st : L2.St} {S : Store} {R : L2.It → Hp → Prop} {rd : Store → Option (List D)} (h : PostI B K W H ro st R (srcOf rd S)) : ∃ ds, rd S = some ds ∧ PostI B K W H ro st R (.ok ⟨rd, ds.length⟩ S) := by
  unfold srcOf at h
  split at h
  · rename_i ds e
    exact ⟨ds, e, h⟩
  · exact h.elim
theorem PostI.here {K : PySem.W.Frag} {H : Hp} {ro : List Addr} {st : L2.St} {S : Store} {R : L2.It → Hp → Prop} {src : Src} {J : L2.It} (h : PostI B K W H ro st R (.ok src S)) (rh : RH B K H ro S) (j : RJ B K H ro J src) : R J H := h H ro J Ext.refl rh j
theorem SqL.get {K : PySem.W.Frag} {H : Hp} {ro : List Addr} {ds : List D} {vs : List V} {i : Nat} {a : Addr} (h : SqL K H a vs) (r : RVs B K H ro ds vs) (hi : i < ds.length) : ∃ v, vs[i]? = some v := by
  obtain ⟨v, h1, _⟩ := r.get (List.getElem?_eq_getElem hi)
  exact ⟨v, h1⟩
/-- a list at a place of the store -/
theorem rj_list {K : PySem.W.Frag} {H0 : Hp} {ro0 : List Addr} {n k : Nat} {a : Addr} (e : ro0[n]? = some a) : RJ B K H0 ro0 (Itl K a) ⟨fun S => seqOf S (.loc n), k⟩ where
  go := fun H ro S ds i x rh h hi => by
    obtain ⟨vs, h1, h2⟩ := rh.seq h (x.pre n a e)
    obtain ⟨v, h3⟩ := SqL.get h1 h2 hi
    exact ⟨vs, v, h1, h3⟩
  stop := fun H ro S ds i x rh h hi => by
    obtain ⟨vs, h1, h2⟩ := rh.seq h (x.pre n a e)
    exact ⟨vs, h1, by rw [hi, h2.length]; exact Nat.le_refl _⟩
  yld := fun H ro S ds i d v H' x rh h hd y => by
    obtain ⟨rfl, hy⟩ := y
    obtain ⟨vs, h1, h2⟩ := rh.seq h (x.pre n a e)
    obtain ⟨u, h3, h4⟩ := h2.get hd
    have e2 := (hy vs h1).symm.trans h3
    cases e2
    exact ⟨Ext.refl, rh, h4⟩
theorem rj_tup {K : PySem.W.Frag} {H0 : Hp} {ro0 : List Addr} {k : Nat} {a : Addr} {es : List D} {vs : List V} (hs : SqT K H0 a vs) (r : RVs B K H0 ro0 es vs) : RJ B K H0 ro0 (Itt K a) ⟨fun S => some es, k⟩ where
  go := fun H ro S ds i x rh h hi => by
    cases h
    obtain ⟨v, h1, _⟩ := r.get (List.getElem?_eq_getElem hi)
    exact ⟨vs, v, SqT.ext x hs, h1⟩
  stop := fun H ro S ds i x rh h hi => by
    cases h
    exact ⟨vs, SqT.ext x hs, by rw [hi, r.length]; exact Nat.le_refl _⟩
  yld := fun H ro S ds i d v H' x rh h hd y => by
    cases h
    obtain ⟨rfl, hy⟩ := y
    obtain ⟨u, h3, h4⟩ := r.get hd
    have e2 := (hy vs (SqT.ext x hs)).symm.trans h3
    cases e2
    exact ⟨Ext.refl, rh, RV.ext x _ _ h4⟩
theorem rj_str {K : PySem.W.Frag} {H0 : Hp} {ro0 : List Addr} {k : Nat} {s : Tx} : RJ B K H0 ro0 (Its (toS s)) ⟨fun S => some (s.map fun c => .str [c]), k⟩ where
  go := fun H ro S ds i x rh h hi => by
    cases h
    rw [List.length_map] at hi
    exact hi
  stop := fun H ro S ds i x rh h hi => by
    cases h
    rw [List.length_map] at hi
    show (toS s).cps.size ≤ i
    rw [hi]
    exact Nat.le_refl _
  yld := fun H ro S ds i d v H' x rh h hd y => by
    cases h
    obtain ⟨rfl, c, h1, rfl⟩ := y
    rw [List.getElem?_map] at hd
    have e : (toS s).cps[i]? = s[i]? := by simp [toS]
    rw [e] at h1
    rw [h1] at hd
    cases hd
    exact ⟨Ext.refl, rh, .str [c]⟩
theorem rngL_get {lo : Int} {n i : Nat} {d : D} (h : (rngL lo n)[i]? = some d) : i < n ∧ d = .int (lo + i) := by
  unfold rngL at h
  rw [List.getElem?_map] at h
  obtain ⟨j, h1, rfl⟩ := Option.map_eq_some_iff.mp h
  have h2 := List.getElem?_eq_some_iff.mp h1
  obtain ⟨h3, h4⟩ := h2
  rw [List.length_range] at h3
  rw [List.getElem_range] at h4
  subst h4
  exact ⟨h3, rfl⟩
theorem rngL_len {lo : Int} {n : Nat} : (rngL lo n).length = n := by unfold rngL; rw [List.length_map, List.length_range]
theorem rj_rng {K : PySem.W.Frag} {H0 : Hp} {ro0 : List Addr} {lo : Int} {n : Nat} : RJ B K H0 ro0 (Itr lo n) ⟨fun S => some (rngL lo n), n⟩ where
  go := fun H ro S ds i x rh h hi => by
    cases h
    rw [rngL_len] at hi
    exact hi
  stop := fun H ro S ds i x rh h hi => by
    cases h
    rw [rngL_len] at hi
    rw [hi]
    exact Nat.le_refl _
  yld := fun H ro S ds i d v H' x rh h hd y => by
    cases h
    obtain ⟨rfl, rfl⟩ := y
    obtain ⟨_, rfl⟩ := rngL_get hd
    exact ⟨Ext.refl, rh, .int _⟩
theorem zip_get {xs ys : List D} {i : Nat} {d : D} (h : (zipped xs ys)[i]? = some d) : ∃ x y, xs[i]? = some x ∧ ys[i]? = some y ∧ d = .tup [x, y] := by
  unfold zipped at h
  rw [List.getElem?_map] at h
  obtain ⟨p, h1, rfl⟩ := Option.map_eq_some_iff.mp h
  obtain ⟨h2, h3⟩ := List.getElem?_eq_some_iff.mp h1
  rw [List.getElem_zip] at h3
  rw [List.length_zip] at h2
  subst h3
  exact ⟨xs[i], ys[i], List.getElem?_eq_getElem _, List.getElem?_eq_getElem _, rfl⟩
theorem zip_len (xs ys : List D) : (zipped xs ys).length = min xs.length ys.length := by unfold zipped; rw [List.length_map, List.length_zip]
theorem zip_yld {K : PySem.W.Frag} {H : Hp} {ro : List Addr} {S : Store} {x y : V} {dx dy : D} {T : Addr} (rh : RH B K H ro S) (hT : H T = none) (rx : RV B K H ro dx x) (ry : RV B K H ro dy y) :
    Ext H ro (upd H T (.tup [x, y])) ro ∧ RH B K (upd H T (.tup [x, y])) ro S ∧ RV B K (upd H T (.tup [x, y])) ro (.tup [dx, dy]) (.ref T) :=
  ⟨Ext.new hT, rh.new hT, .tup (.inl upd_same) (.cons (RV.ext (Ext.new hT) _ _ rx) (.cons (RV.ext (Ext.new hT) _ _ ry) .nil))⟩
theorem rj_zipT {K : PySem.W.Frag} {H0 : Hp} {ro0 : List Addr} {k : Nat} {a b : Addr} {es fs : List D} {vs us : List V} (hs : SqT K H0 a vs) (ht : SqT K H0 b us) (r : RVs B K H0 ro0 es vs) (r2 : RVs B K H0 ro0 fs us) : RJ B K H0 ro0 (RZ.ItzT K a b) ⟨fun S => some (zipped es fs), k⟩ where
  go := fun H ro S ds i x rh h hi => by
    cases h
    obtain ⟨dx, dy, h1, h2, _⟩ := zip_get (List.getElem?_eq_getElem hi)
    obtain ⟨v, e1, _⟩ := r.get h1
    obtain ⟨u, e2, _⟩ := r2.get h2
    exact ⟨vs, us, v, u, SqT.ext x hs, SqT.ext x ht, e1, e2⟩
  stop := fun H ro S ds i x rh h hi => by
    cases h
    rw [zip_len] at hi
    refine ⟨vs, us, SqT.ext x hs, SqT.ext x ht, ?_⟩
    have l1 := r.length
    have l2 := r2.length
    omega
  yld := fun H ro S ds i d v H' x rh h hd y => by
    cases h
    obtain ⟨T, p, q, rfl, hT, rfl, hy1, hy2⟩ := y
    obtain ⟨dx, dy, h1, h2, rfl⟩ := zip_get hd
    obtain ⟨w1, e1, f1⟩ := r.get h1
    obtain ⟨w2, e2, f2⟩ := r2.get h2
    have g1 := (hy1 vs (SqT.ext x hs)).symm.trans e1
    have g2 := (hy2 us (SqT.ext x ht)).symm.trans e2
    cases g1
    cases g2
    exact zip_yld rh hT (RV.ext x _ _ f1) (RV.ext x _ _ f2)
theorem rj_zipL {K : PySem.W.Frag} {H0 : Hp} {ro0 : List Addr} {n m k : Nat} {a b : Addr} (e : ro0[n]? = some a) (e2 : ro0[m]? = some b) : RJ B K H0 ro0 (Itz K a b) ⟨fun S => zipD S (.loc n) (.loc m), k⟩ := by
  have key : ∀ (H : Hp) (ro : List Addr) (S : Store) (ds : List D), Ext H0 ro0 H ro → RH B K H ro S → zipD S (.loc n) (.loc m) = some ds → ∃ es fs vs us, ds = zipped es fs ∧ SqL K H a vs ∧ SqL K H b us ∧ RVs B K H ro es vs ∧ RVs B K H ro fs us := by
    intro H ro S ds x rh h
    have h' : (match seqOf S (.loc n), seqOf S (.loc m) with
      | some xs, some ys => some (zipped xs ys)
      | _, _ => none) = some ds := h
    cases q1 : seqOf S (.loc n) with
    | none => rw [q1] at h'; cases h'
    | some es =>
      cases q2 : seqOf S (.loc m) with
      | none => rw [q1, q2] at h'; cases h'
      | some fs =>
        rw [q1, q2] at h'
        cases h'
        obtain ⟨vs, h1, h2⟩ := rh.seq q1 (x.pre n a e)
        obtain ⟨us, h3, h4⟩ := rh.seq q2 (x.pre m b e2)
        exact ⟨es, fs, vs, us, rfl, h1, h3, h2, h4⟩
  exact {
    go := fun H ro S ds i x rh h hi => by
      obtain ⟨es, fs, vs, us, rfl, s1, s2, r, r2⟩ := key H ro S ds x rh h
      obtain ⟨dx, dy, h1, h2, _⟩ := zip_get (List.getElem?_eq_getElem hi)
      obtain ⟨v, e1, _⟩ := r.get h1
      obtain ⟨u, e2, _⟩ := r2.get h2
      exact ⟨vs, us, v, u, s1, s2, e1, e2⟩
    stop := fun H ro S ds i x rh h hi => by
      obtain ⟨es, fs, vs, us, rfl, s1, s2, r, r2⟩ := key H ro S ds x rh h
      rw [zip_len] at hi
      refine ⟨vs, us, s1, s2, ?_⟩
      have l1 := r.length
      have l2 := r2.length
      omega
    yld := fun H ro S ds i d v H' x rh h hd y => by
      obtain ⟨es, fs, vs, us, rfl, s1, s2, r, r2⟩ := key H ro S ds x rh h
      obtain ⟨T, p, q, rfl, hT, rfl, hy1, hy2⟩ := y
      obtain ⟨dx, dy, h1, h2, rfl⟩ := zip_get hd
      obtain ⟨w1, e1, f1⟩ := r.get h1
      obtain ⟨w2, e2, f2⟩ := r2.get h2
      have g1 := (hy1 vs s1).symm.trans e1
      have g2 := (hy2 us s2).symm.trans e2
      cases g1
      cases g2
      exact zip_yld rh hT f1 f2 }
/-- zip of two lists, of two tuples -/
theorem di_zip {p tpos : Pos} {elts : List Expr} {kk : Nat} (hg : Gl X "zip") (hm : X.mg "zip" = none) (ha : DE X B W a ra) (hb : DE X B W b rb) (hst : notStar a = true) (hst2 : notStar b = true) : DI X B W (.Tuple elts kk tpos) (.Call (.Name "zip" p) [a, b] [] pos) fun en S => (ra en S).bind fun x S1 => (rb en S1).bind fun y S2 => srcOf (fun S => zipD S x y) S2 :=
  DI.of (RZ.pi_zipA hg hm (pa_cons ha (pa_cons hb pa_nil (star_each hst2)) (star_each hst)) (by rw [star_each hst, star_each hst2] <;> rfl) (by rw [star_each hst2] <;> rfl)) fun en S ro st H R re rh q => ⟨en, S, ro, re, rh, q.bindE fun d S1 H1 ro1 v q1 x rh1 rv h => ⟨en, S1, ro1, re.ext x, rh1, PostI.bindE (rel := rV B X.K) h fun d' S2 H2 ro2 u q2 x2 rh2 ru h2 => by
    obtain ⟨ds, h3, h4⟩ := h2.src
    have rv2 := RV.ext x2 _ _ rv
    cases d <;> first | (cases h3; done) | skip
    · cases d' <;> first | (cases h3; done) | skip
      obtain ⟨a1, vs, rfl, s1, s2⟩ := rv2.tup_inv
      obtain ⟨b1, us, rfl, s3, s4⟩ := ru.tup_inv
      exact ⟨a1, b1, vs, us, rfl, .inr ⟨s1, s3, h4.here rh2 (rj_zipT s1 s3 s2 s4)⟩⟩
    · cases d' <;> first | (cases h3; done) | skip
      rename_i n m
      obtain ⟨a1, rfl, e1⟩ := rv2.loc_inv
      obtain ⟨b1, rfl, e2⟩ := ru.loc_inv
      have key : ∃ es fs, seqOf S2 (.loc n) = some es ∧ seqOf S2 (.loc m) = some fs := by
        have h' : (match seqOf S2 (.loc n), seqOf S2 (.loc m) with
          | some xs, some ys => some (zipped xs ys)
          | _, _ => none) = some ds := h3
        cases q1 : seqOf S2 (.loc n) with
        | none => rw [q1] at h'; cases h'
        | some es =>
          cases q2 : seqOf S2 (.loc m) with
          | none => rw [q1, q2] at h'; cases h'
          | some fs => exact ⟨es, fs, rfl, rfl⟩
      obtain ⟨es, fs, q1, q2⟩ := key
      obtain ⟨vs, s1, _⟩ := rh2.seq q1 e1
      obtain ⟨us, s3, _⟩ := rh2.seq q2 e2
      exact ⟨a1, b1, vs, us, rfl, .inl ⟨s1, s3, h4.here rh2 (rj_zipL e1 e2)⟩⟩⟩⟩
/-- a list, a tuple, a text -/
theorem di_seq (ha : DE X B W a ra) : DI X B W tg a fun en S => (ra en S).bind fun x S1 => srcOf (fun S => walkOf S x) S1 :=
  DI.of (PI.or (pi_list ha) (PI.or (pi_tup ha) (pi_str ha))) fun en S ro st H R re rh q => by
    have go : ∀ {Q1 Q2 Q3 : VK}, (∀ (d : D) (S1 : Store) (H1 : Hp) (ro1 : List Addr) (v : V), ra en S = .ok d S1 → Ext H ro H1 ro1 → RH B X.K H1 ro1 S1 → RV B X.K H1 ro1 d v → PostI B X.K W H1 ro1 st R (srcOf (fun S => walkOf S d) S1) →
        (∀ n, d = .loc n → Q1 v H1) ∧ (∀ ds, d = .tup ds → Q2 v H1) ∧ (∀ s, d = .str s → Q3 v H1)) → TI B X.K W (rV B X.K) ra st H Q1 ∨ TI B X.K W (rV B X.K) ra st H Q2 ∨ TI B X.K W (rV B X.K) ra st H Q3 := by
      intro Q1 Q2 Q3 k
      cases e : ra en S with
      | ok d S1 =>
        have no : ∀ {Q : VK}, (∀ S, walkOf S d = none) → Post B X.K W (rV B X.K) H ro st Q (ra en S) := fun {Q} hz => by
          exfalso
          rw [e] at q
          have q' : PostI B X.K W H ro st R (srcOf (fun S => walkOf S d) S1) := q
          obtain ⟨ds, h1, _⟩ := q'.src
          rw [hz] at h1
          cases h1
        cases d with
        | loc n => exact .inl ⟨en, S, ro, re, rh, q.bindE fun d S2 H1 ro1 v q1 x rh1 rv h => by
            have k1 := k d S2 H1 ro1 v q1 x rh1 rv h
            rw [e] at q1
            cases q1
            exact k1.1 n rfl⟩
        | tup ds => exact .inr (.inl ⟨en, S, ro, re, rh, q.bindE fun d S2 H1 ro1 v q1 x rh1 rv h => by
            have k1 := k d S2 H1 ro1 v q1 x rh1 rv h
            rw [e] at q1
            cases q1
            exact k1.2.1 ds rfl⟩)
        | str s => exact .inr (.inr ⟨en, S, ro, re, rh, q.bindE fun d S2 H1 ro1 v q1 x rh1 rv h => by
            have k1 := k d S2 H1 ro1 v q1 x rh1 rv h
            rw [e] at q1
            cases q1
            exact k1.2.2 s rfl⟩)
        | non => exact .inl ⟨en, S, ro, re, rh, no fun _ => rfl⟩
        | bl _ => exact .inl ⟨en, S, ro, re, rh, no fun _ => rfl⟩
        | int _ => exact .inl ⟨en, S, ro, re, rh, no fun _ => rfl⟩
      | exc x S1 => exact .inl ⟨en, S, ro, re, rh, q.bindE fun d S2 H1 ro1 v q1 => by rw [e] at q1; cases q1⟩
      | bad => exact .inl ⟨en, S, ro, re, rh, q.bindE fun d S2 H1 ro1 v q1 => by rw [e] at q1; cases q1⟩
    refine go fun d S1 H1 ro1 v q1 x rh1 rv h => ⟨fun n e => ?_, fun ds e => ?_, fun s e => ?_⟩
    · subst e
      obtain ⟨ds, h1, h2⟩ := h.src
      obtain ⟨a1, rfl, e1⟩ := rv.loc_inv
      obtain ⟨vs, h3, h4⟩ := rh1.seq h1 e1
      exact ⟨a1, rfl, ⟨vs, h3⟩, h2.here rh1 (rj_list e1)⟩
    · subst e
      obtain ⟨es, h1, h2⟩ := h.src
      obtain ⟨a1, vs, rfl, h3, h4⟩ := rv.tup_inv
      exact ⟨a1, rfl, ⟨vs, h3⟩, h2.here rh1 (rj_tup h3 h4)⟩
    · subst e
      obtain ⟨es, h1, h2⟩ := h.src
      cases rv
      exact ⟨_, rfl, h2.here rh1 rj_str⟩
theorem di_rng1 {p : Pos} (hg : Gl X "range") (hm : X.mg "range" = none) (ha : DE X B W a ra) (hst : notStar a = true) : DI X B W tg (.Call (.Name "range" p) [a] [] pos) fun en S => (ra en S).bind fun x S1 => match x with
    | .int j => if bound62 j then .ok ⟨fun _ => some (rngL 0 j.toNat), j.toNat⟩ S1 else .bad
    | _ => .bad :=
  DI.of (pi_range1 hg hm (pa_cons ha pa_nil (star_each hst)) (star_each hst)) fun en S ro st H R re rh q => ⟨en, S, ro, re, rh, q.bindE fun d S1 H1 ro1 v q1 x rh1 rv h => by
    cases d <;> first | exact h.elim | skip
    cases rv
    dsimp only at h
    split at h
    · rename_i j hb
      unfold bound62 at hb
      simp only [Bool.and_eq_true, decide_eq_true_eq] at hb
      exact ⟨_, rfl, hb.1, hb.2, PostI.here h rh1 rj_rng⟩
    · exact h.elim⟩
theorem di_rng2 {p : Pos} (hg : Gl X "range") (hm : X.mg "range" = none) (ha : DE X B W a ra) (hb : DE X B W b rb) (hst : notStar a = true) (hst2 : notStar b = true) : DI X B W tg (.Call (.Name "range" p) [a, b] [] pos) fun en S => (ra en S).bind fun x S1 => (rb en S1).bind fun y S2 => match x, y with
    | .int i, .int j => if bound62 i && bound62 j then .ok ⟨fun _ => some (rngL i (j - i).toNat), (j - i).toNat⟩ S2 else .bad
    | _, _ => .bad :=
  DI.of (pi_range2 hg hm (pa_cons ha (pa_cons hb pa_nil (star_each hst2)) (star_each hst)) (by rw [star_each hst, star_each hst2]; rfl) (star_each hst2)) fun en S ro st H R re rh q => ⟨en, S, ro, re, rh, q.bindE fun d S1 H1 ro1 v q1 x rh1 rv h => ⟨en, S1, ro1, re.ext x, rh1, PostI.bindE (rel := rV B X.K) h fun d' S2 H2 ro2 u q2 x2 rh2 ru h2 => by
    cases d <;> first | exact h2.elim | skip
    cases d' <;> first | exact h2.elim | skip
    cases rv
    cases ru
    dsimp only at h2
    split at h2
    · rename_i hb
      unfold bound62 at hb
      simp only [Bool.and_eq_true, decide_eq_true_eq] at hb
      exact ⟨_, _, rfl, ⟨hb.1.1, hb.1.2, hb.2.1, hb.2.2⟩, PostI.here h2 rh2 rj_rng⟩
    · exact h2.elim⟩⟩
end
end Lw
end
section
set_option Elab.async false
set_option linter.all false
set_option autoImplicit false
namespace Lw
open PySem PySem.Spec PyProof.Rows L2
/-! ### what is wanted behind statements -/
def PostF (B : Tab) (K : PySem.W.Frag) (W : WX) (H : Hp) (ro : List Addr) (D : Ends) : F → Prop
  | .nx en S => ∀ (H' : Hp) (ro' : List Addr) (st' : L2.St), Ext H ro H' ro' → RE B K H' ro' en st' → RH B K H' ro' S → D.nx st' H'
  | .bk en S => ∀ (H' : Hp) (ro' : List Addr) (st' : L2.St), Ext H ro H' ro' → RE B K H' ro' en st' → RH B K H' ro' S → D.bk st' H'
  | .ct en S => ∀ (H' : Hp) (ro' : List Addr) (st' : L2.St), Ext H ro H' ro' → RE B K H' ro' en st' → RH B K H' ro' S → D.ct st' H'
  | .rt d S => ∀ (H' : Hp) (ro' : List Addr) (v : V), Ext H ro H' ro' → RH B K H' ro' S → RV B K H' ro' d v → D.rt v H'
  | .exc x en S => ∀ (H' : Hp) (ro' : List Addr) (st' : L2.St) (c : Value) (dd : Option Addr), Ext H ro H' ro' → RE B K H' ro' en st' → RH B K H' ro' S → RX B K H' ro' x c dd → W c dd st' H'
  | .bad => False
def TSI (B : Tab) (K : PySem.W.Frag) (W : WX) (r : Env → Store → F) : TS := fun D st H => ∃ (en : Env) (S : Store) (ro : List Addr), RE B K H ro en st ∧ RH B K H ro S ∧ PostF B K W H ro D (r en S)
abbrev DS (X : Cx) (B : Tab) (W : WX) (s : Stmt) (r : Env → Store → F) : Prop := PS X s (TSI B X.K W r)
abbrev DSs (X : Cx) (B : Tab) (W : WX) (s : List Stmt) (r : Env → Store → F) : Prop := PSs X s (TSI B X.K W r)
section
variable {X : Cx} {B : Tab} {W : WX} {a b c e tg : Expr} {es : List Expr} {pos apos pos' : Pos} {ra rb rc : Env → Store → R D} {rs : Env → Store → R (List D)} {D0 : Ends} {K : PySem.W.Frag} {H H' : Hp} {ro ro' : List Addr} {st : L2.St} {en : Env} {S : Store}
theorem PS.imp {s : Stmt} {t t' : TS} (h : PS X s t) (k : ∀ D st H, t' D st H → t D st H) : PS X s t' := ⟨fun pins s st H D I q => h.run pins s st H D I (k D st H q)⟩
theorem PSs.imp {s : List Stmt} {t t' : TS} (h : PSs X s t) (k : ∀ D st H, t' D st H → t D st H) : PSs X s t' := ⟨fun pins s st H D I q => h.run pins s st H D I (k D st H q)⟩
theorem DS.of {s : Stmt} {t : TS} {r : Env → Store → F} (h : PS X s t) (k : ∀ (en : Env) (S : Store) (ro : List Addr) (st : L2.St) (H : Hp) (D : Ends), RE B X.K H ro en st → RH B X.K H ro S → PostF B X.K W H ro D (r en S) → t D st H) : DS X B W s r :=
  PS.imp h fun D st H ⟨en, S, ro, re, rh, q⟩ => k en S ro st H D re rh q
theorem PostF.ext {r : F} (h : PostF B K W H ro D0 r) (x : Ext H ro H' ro') : PostF B K W H' ro' D0 r := by
  cases r with
  | nx en S => exact fun H2 ro2 s2 y => h H2 ro2 s2 (x.trans y)
  | bk en S => exact fun H2 ro2 s2 y => h H2 ro2 s2 (x.trans y)
  | ct en S => exact fun H2 ro2 s2 y => h H2 ro2 s2 (x.trans y)
  | rt d S => exact fun H2 ro2 v y => h H2 ro2 v (x.trans y)
  | exc e en S => exact fun H2 ro2 s2 c dd y => h H2 ro2 s2 c dd (x.trans y)
  | bad => exact h
theorem PostF.thn {a' b' : Type} {rel : Rel a' b'} {r : R a'} {f : a' → Store → F} {Q : b' → Hp → Prop} (re : RE B K H ro en st) (h : PostF B K W H ro D0 (r.thn en f))
    (k : ∀ (d : a') (S : Store) (H1 : Hp) (ro1 : List Addr) (v : b'), r = .ok d S → Ext H ro H1 ro1 → RH B K H1 ro1 S → rel H1 ro1 d v → PostF B K W H1 ro1 D0 (f d S) → Q v H1) : Post B K W rel H ro st Q r := by
  cases r with
  | ok d S => exact fun H1 ro1 v x rh rv => k d S H1 ro1 v rfl x rh rv (PostF.ext h x)
  | exc e S => exact fun H1 ro1 c dd x rh rx => h H1 ro1 st c dd x (re.ext x) rh rx
  | bad => exact h
theorem PostF.thnI {r : R Src} {f : Src → Store → F} {Rr : L2.It → Hp → Prop} (re : RE B K H ro en st) (h : PostF B K W H ro D0 (r.thn en f))
    (k : ∀ (d : Src) (S : Store) (H1 : Hp) (ro1 : List Addr) (v : L2.It), Ext H ro H1 ro1 → RH B K H1 ro1 S → RJ B K H1 ro1 v d → PostF B K W H1 ro1 D0 (f d S) → Rr v H1) : PostI B K W H ro st Rr r := by
  cases r with
  | ok d S => exact fun H1 ro1 v x rh rv => k d S H1 ro1 v x rh rv (PostF.ext h x)
  | exc e S => exact fun H1 ro1 c dd x rh rx => h H1 ro1 st c dd x (re.ext x) rh rx
  | bad => exact h
theorem PostF.nx' (h : PostF B K W H ro D0 (.nx en S)) (re : RE B K H ro en st) (rh : RH B K H ro S) : D0.nx st H := h H ro st Ext.refl re rh

/-! ### targets -/
mutual
def tgS : Tg → List Nat
  | .nm i => [i]
  | .tp ts => tgsS ts
def tgsS : Tgs → List Nat
  | .nil => []
  | .cons t ts => tgS t ++ tgsS ts
end
/-- nothing but these places changes -/
def SameBut (st st' : L2.St) (l : List Nat) : Prop := st'.length = st.length ∧ ∀ j, j ∉ l → st'[j]? = st[j]?
def TGI (B : Tab) (K : PySem.W.Frag) (t : Tg) : TG := fun v st H Q => ∃ (en : Env) (d : D) (ro : List Addr) (en' : Env), RE B K H ro en st ∧ RV B K H ro d v ∧ asg t d en = some en' ∧ ∀ st', RE B K H ro en' st' → SameBut st st' (tgS t) → Q st' H
def TGIs (B : Tab) (K : PySem.W.Frag) (t : Tgs) : TGs := fun vs st H Q => ∃ (en : Env) (ds : List D) (ro : List Addr) (en' : Env), RE B K H ro en st ∧ RVs B K H ro ds vs ∧ asgs t ds en = some en' ∧ ∀ st', RE B K H ro en' st' → SameBut st st' (tgsS t) → Q st' H
theorem PG.imp {t t' : TG} (h : PG X tg t) (k : ∀ v st H Q, t' v st H Q → t v st H Q) : PG X tg t' := ⟨fun pins s st H v u Q I r q => h.run pins s st H v u Q I r (k v st H Q q)⟩
theorem PGs.imp {t t' : TGs} (h : PGs X es t) (k : ∀ v st H Q, t' v st H Q → t v st H Q) : PGs X es t' := ⟨fun pins s st H v u Q I r q => h.run pins s st H v u Q I r (k v st H Q q)⟩
theorem dg_name {i : Nat} {x : Str} (hN : X.N.Nodup) (hi : X.N[i]? = some x) (hx : Loc X.env.scope x) (hf : X.fn x = true ∨ X.env.scope.names.lookup x = some .local) : PG X (.Name x pos) (TGI B X.K (.nm i)) :=
  PG.imp (pg_name hN hi hx hf) fun v st H Q ⟨en, d, ro, en', re, rv, h, q⟩ => by
    cases h
    refine q _ (re.set rv) ⟨by rw [List.length_set], fun j hj => ?_⟩
    rw [List.getElem?_set_ne]
    intro z
    subst z
    exact hj (by unfold tgS; simp)
theorem dgs_nil : PGs X [] (TGIs B X.K .nil) := PGs.imp pgs_nil fun vs st H Q ⟨en, ds, ro, en', re, rv, h, q⟩ => by
  cases ds with
  | nil =>
    cases h
    cases rv
    exact ⟨rfl, q st re ⟨rfl, fun _ _ => rfl⟩⟩
  | cons _ _ => cases h
theorem each_one {env : PySem.Env} (h : notStar e = true) : assignEach (e :: es) env = (false, assign e env) :: assignEach es env := by
  cases e <;> first | rfl | (cases h; done)
theorem dgs_cons {t : Tg} {ts : Tgs} (h1 : PG X e (TGI B X.K t)) (h2 : PGs X es (TGIs B X.K ts)) (hst : notStar e = true) : PGs X (e :: es) (TGIs B X.K (.cons t ts)) :=
  PGs.imp (pgs_cons h1 h2 (by rw [each_one hst]; rfl)) fun vs st H Q ⟨en, ds, ro, en', re, rv, h, q⟩ => by
    cases ds with
    | nil => cases h
    | cons d r =>
      cases rv with
      | cons rv1 rv2 =>
        have h' : (match asg t d en with | some en' => asgs ts r en' | none => none) = some en' := h
        split at h'
        · rename_i en1 e1
          refine ⟨_, _, rfl, en, d, ro, en1, re, rv1, e1, fun st1 re1 sb1 => ⟨en1, r, ro, en', re1, rv2, h', fun st2 re2 sb2 => q st2 re2 ⟨sb2.1.trans sb1.1, fun j hj => ?_⟩⟩⟩
          have hj' : j ∉ tgS t ++ tgsS ts := hj
          rw [List.mem_append, not_or] at hj'
          rw [sb2.2 j hj'.2, sb1.2 j hj'.1]
        · cases h'
def tgsLen : Tgs → Nat
  | .nil => 0
  | .cons _ ts => tgsLen ts + 1
theorem asgs_len : ∀ {ts : Tgs} {ds : List D} {en en' : Env}, asgs ts ds en = some en' → ds.length = tgsLen ts
  | .nil, [], _, _, _ => rfl
  | .nil, _ :: _, _, _, h => by cases h
  | .cons t ts, [], _, _, h => by cases h
  | .cons t ts, d :: r, en, en', h => by
    have h' : (match asg t d en with | some en' => asgs ts r en' | none => none) = some en' := h
    split at h'
    · show r.length + 1 = tgsLen ts + 1
      rw [asgs_len h']
    · cases h'
theorem each_len : ∀ {es : List Expr} {env : PySem.Env}, es.all notStar = true → (assignEach es env).length = es.length ∧ (assignEach es env).findIdx? (·.1) = none
  | [], _, _ => ⟨rfl, rfl⟩
  | e :: es, env, h => by
    rw [List.all_cons, Bool.and_eq_true] at h
    obtain ⟨h1, h2⟩ := each_len (env := env) h.2
    rw [each_one h.1]
    refine ⟨by simp [h1], ?_⟩
    rw [List.findIdx?_cons, h2]
    rfl
theorem dg_tup {ts : Tgs} {k : Nat} (hc : X.calm = true) (h : PGs X es (TGIs B X.K ts)) (hst : es.all notStar = true) (hl : tgsLen ts = es.length) : PG X (.Tuple es k pos) (TGI B X.K (.tp ts)) :=
  PG.imp (pg_tup hc h (each_len hst).1 (each_len hst).2) fun v st H Q ⟨en, d, ro, en', re, rv, h, q⟩ => by
    cases d with
    | tup ds =>
      obtain ⟨a, vs, rfl, h1, h2⟩ := rv.tup_inv
      have h' : asgs ts ds en = some en' := h
      exact ⟨a, vs, rfl, h1, by rw [← h2.length, asgs_len h', hl], en, ds, ro, en', re, h2, h', q⟩
    | _ => cases h

/-! ### statements -/
theorem ds_pass : DS X B W (.Pass pos) fun en S => .nx en S := DS.of ps_pass fun en S ro st H D re rh q => q.nx' re rh
theorem ds_brk : DS X B W (.Break pos) fun en S => .bk en S := DS.of ps_break fun en S ro st H D re rh q => q H ro st Ext.refl re rh
theorem ds_cont : DS X B W (.Continue pos) fun en S => .ct en S := DS.of ps_continue fun en S ro st H D re rh q => q H ro st Ext.refl re rh
theorem ds_ret (ha : DE X B W a ra) : DS X B W (.Return (some a) pos) fun en S => (ra en S).thn en fun x S1 => .rt x S1 :=
  DS.of (ps_ret ha) fun en S ro st H D re rh q => ⟨en, S, ro, re, rh, PostF.thn re q fun d S1 H1 ro1 v _ x rh1 rv h => h H1 ro1 v Ext.refl rh1 rv⟩
theorem ds_retN : DS X B W (.Return none pos) fun _ S => .rt .non S := DS.of ps_retN fun en S ro st H D re rh q => q H ro .non Ext.refl rh .non
theorem ds_ex (ha : DE X B W a ra) (h : notComp a = true) : DS X B W (.Expr a pos) fun en S => (ra en S).thn en fun _ S1 => .nx en S1 :=
  DS.of (ps_expr ha (swaps_with h)) fun en S ro st H D re rh q => ⟨en, S, ro, re, rh, PostF.thn re q fun d S1 H1 ro1 v _ x rh1 rv h => h.nx' (re.ext x) rh1⟩
theorem ds_ife {ta fa : List Stmt} {rt rf : Env → Store → F} (hc : DT X B W c fun en S => testR (rc en S)) (ha : DSs X B W ta rt) (hb : DSs X B W fa rf) : DS X B W (.If c ta fa pos) fun en S => (testR (rc en S)).thn en fun k S1 => if k = true then rt en S1 else rf en S1 :=
  DS.of (ps_if hc ha hb) fun en S ro st H D re rh q => ⟨en, S, ro, re, rh, PostF.thn re q fun k S1 H1 ro1 v _ x rh1 rv h => by
    cases rv
    cases k with
    | true => exact ⟨en, S1, ro1, re.ext x, rh1, h⟩
    | false => exact ⟨en, S1, ro1, re.ext x, rh1, h⟩⟩
theorem dss_nil : DSs X B W [] fun en S => .nx en S := PSs.imp pss_nil fun D st H ⟨en, S, ro, re, rh, q⟩ => q.nx' re rh
theorem dss_cons {s : Stmt} {ss : List Stmt} {r1 r2 : Env → Store → F} (h1 : DS X B W s r1) (h2 : DSs X B W ss r2) : DSs X B W (s :: ss) fun en S => match r1 en S with
    | .nx en' S' => r2 en' S'
    | r => r :=
  PSs.imp (pss_cons h1 h2) fun D st H ⟨en, S, ro, re, rh, q⟩ => ⟨en, S, ro, re, rh, by
    dsimp only at q
    cases e : r1 en S with
    | nx en' S' =>
      rw [e] at q
      exact fun H1 ro1 st1 x re1 rh1 => ⟨en', S', ro1, re1, rh1, PostF.ext (show PostF B X.K W H ro D (r2 en' S') from q) x⟩
    | bk en' S' => rw [e] at q; exact q
    | ct en' S' => rw [e] at q; exact q
    | rt d S' => rw [e] at q; exact q
    | exc x en' S' => rw [e] at q; exact q
    | bad => rw [e] at q; exact q⟩
def notTup : Expr → Bool
  | .Tuple .. => false
  | .List .. => false
  | _ => true
theorem swapped_none {env : PySem.Env} (h : notTup tg = true ∨ notTup e = true) : swappedStores [tg] e env = pure none := by
  rcases h with h | h
  · cases tg <;> first | (cases h; done) | (cases e <;> rfl)
  · cases e <;> first | (cases h; done) | (cases tg <;> rfl)
theorem swaps_sole {l : Nat} {env : PySem.Env} (h : notComp e = true) : swapsWithSole [tg] e l env = pure false := by
  unfold swapsWithSole
  exact swaps_with h
theorem ds_set {t : Tg} (ha : DE X B W a ra) (hg : PG X tg (TGI B X.K t)) (hn : notComp a = true) (ht : notTup tg = true ∨ notTup a = true) (hst : notStar tg = true) : DS X B W (.Assign [tg] a pos) fun en S => (ra en S).thn en fun x S1 => match asg t x en with
    | some en' => .nx en' S1
    | none => .bad :=
  DS.of (ps_asg ha hg (swaps_with hn) (swapped_none ht) (by rw [each_one hst]; rfl)) fun en S ro st H D re rh q => ⟨en, S, ro, re, rh, PostF.thn re q fun d S1 H1 ro1 v _ x rh1 rv h => by
    split at h
    · rename_i en' e1
      exact ⟨en, d, ro1, en', re.ext x, rv, e1, fun st' re' _ => h H1 ro1 st' Ext.refl re' rh1⟩
    · exact h.elim⟩
/-- a name = a comprehension that stands on a line of its own, its target no plain local -/
theorem ds_setN {i : Nat} {x : Str} (ha : DE X B W a ra) (hN : X.N.Nodup) (hi : X.N[i]? = some x) (hx : Loc X.env.scope x) (hs : swapsWith a (some (.Name x pos')) pos.line X.env = pure false) (hf : X.fn x = true ∨ X.env.scope.names.lookup x = some .local) : DS X B W (.Assign [.Name x pos'] a pos) fun en S => (ra en S).thn en fun x S1 => match asg (.nm i) x en with
    | some en' => .nx en' S1
    | none => .bad :=
  DS.of (ps_set hN hi hx ha hs hf) fun en S ro st H D re rh q => ⟨en, S, ro, re, rh, PostF.thn re q fun d S1 H1 ro1 v _ x rh1 rv h => h H1 ro1 _ Ext.refl ((re.ext x).set rv) rh1⟩
/-- a, b = x, y -/
theorem ds_par {i j : Nat} {x y : Str} {px py pt : Pos} {kt k2 : Nat} {pt2 : Pos} (h : PS X (.Assign [.Tuple [.Name x px, .Name y py] kt pt] (.Tuple [a, b] k2 pt2) pos) (tPar i j (TI B X.K W (rVs B X.K) rs))) (hl : ∀ en S ds S', rs en S = .ok ds S' → ds.length = 2) :
    DS X B W (.Assign [.Tuple [.Name x px, .Name y py] kt pt] (.Tuple [a, b] k2 pt2) pos) fun en S => ((rs en S).bind fun ds S1 => if ds.length ≤ line then .ok (.tup ds) S1 else .bad).thn en fun x S1 => match asg (.tp (.cons (.nm i) (.cons (.nm j) .nil))) x en with
    | some en' => .nx en' S1
    | none => .bad :=
  DS.of h fun en S ro st H D re rh q => ⟨en, S, ro, re, rh, by
    cases e : rs en S with
    | ok ds S1 =>
      rw [e] at q
      have hl' := hl _ _ _ _ e
      match ds, hl' with
      | [d1, d2], _ =>
        intro H1 ro1 vs x rh1 rvs
        obtain ⟨v, u, rfl, r1, r2⟩ := RVs.two rvs
        have q' : PostF B X.K W H ro D (.nx ((en.set i (some d1)).set j (some d2)) S1) := q
        exact ⟨v, u, rfl, q' H1 ro1 _ x (((re.ext x).set r1).set r2) rh1⟩
    | exc z S1 =>
      rw [e] at q
      exact fun H1 ro1 c dd x rh rx => q H1 ro1 st c dd x (re.ext x) rh rx
    | bad => rw [e] at q; exact q⟩
/-- a store at an index: a list, a dict -/
theorem ds_setIx (hu : X.A.units + 1 < cLine) (hv : DE X B W e rc) (ha : DE X B W a ra) (hb : DE X B W b rb) (hn : notComp e = true) (hsl : notSlice b = true) : DS X B W (.Assign [.Subscript a b pos'] e pos) fun en S => (rc en S).thn en fun v S1 => (ra en S1).thn en fun x S2 => (rb en S2).thn en fun k S3 => match setIxD B.kon x k v S3 with
    | some S4 => .nx en S4
    | none => .bad := by
  have hL : PS X (.Assign [.Subscript a b pos'] e pos) (tAsg (TI B X.K W (rV B X.K) rc) (gSub (TI B X.K W (rV B X.K) ra) (TI B X.K W (rV B X.K) rb) rSetL)) := ps_asg hv (pg_sub ha hb set_list (fun v => by cases b <;> first | rfl | (cases hsl; done))) (swaps_sole hn) (swapped_none (.inl rfl))
  have hD : PS X (.Assign [.Subscript a b pos'] e pos) (sDPut (TI B X.K W (rV B X.K) ra) (TI B X.K W (rV B X.K) rb) (TI B X.K W (rV B X.K) rc)) := ps_dput hu ha hb hv (swaps_with hn)
  refine ⟨fun pins s st H D I ⟨en, S, ro, re, rh, q⟩ => ?_⟩
  by_cases nd : ∃ d0 S1 d1 S2 d2 S3 n t kvs, rc en S = .ok d0 S1 ∧ ra en S1 = .ok d1 S2 ∧ rb en S2 = .ok d2 S3 ∧ d1 = .loc n ∧ S3[n]? = some (.dct t kvs)
  · obtain ⟨d0, S1, d1, S2, d2, S3, n, t, kvs, e0, e1, e2, rfl, e4⟩ := nd
    refine hD.run pins s st H D I ⟨en, S, ro, re, rh, PostF.thn re q fun d S1' H1 ro1 v q1 x1 rh1 rv1 h1 => ⟨en, S1', ro1, re.ext x1, rh1, PostF.thn (re.ext x1) h1 fun d' S2' H2 ro2 v2 q2 x2 rh2 rv2 h2 => ⟨en, S2', ro2, (re.ext x1).ext x2, rh2, PostF.thn ((re.ext x1).ext x2) h2 fun d'' S3' H3 ro3 v3 q3 x3 rh3 rv3 h3 => ?_⟩⟩⟩
    rw [e0] at q1
    cases q1
    rw [e1] at q2
    cases q2
    rw [e2] at q3
    cases q3
    split at h3
    · rename_i S4 e5
      unfold setIxD at e5
      dsimp only at e5
      rw [e4] at e5
      dsimp only at e5
      split at e5
      · rename_i hk
        simp only [Bool.and_eq_true, decide_eq_true_eq] at hk
        cases e5
        obtain ⟨a1, rfl, e6⟩ := (RV.ext x3 _ _ rv2).loc_inv
        obtain ⟨o, g1, g2, g3⟩ := dict_put rh3 e4 e6 hk.1 hk.2 rv3 (RV.ext x3 _ _ (RV.ext x2 _ _ rv1))
        exact ⟨a1, _, rfl, g1, h3 _ ro3 st g2 ((((re.ext x1).ext x2).ext x3).ext g2) g3⟩
      · cases e5
    · exact h3.elim
  · refine hL.run pins s st H D I ⟨en, S, ro, re, rh, PostF.thn re q fun d S1' H1 ro1 v q1 x1 rh1 rv1 h1 => ⟨en, S1', ro1, re.ext x1, rh1, PostF.thn (re.ext x1) h1 fun d' S2' H2 ro2 v2 q2 x2 rh2 rv2 h2 => ⟨en, S2', ro2, (re.ext x1).ext x2, rh2, PostF.thn ((re.ext x1).ext x2) h2 fun d'' S3' H3 ro3 v3 q3 x3 rh3 rv3 h3 => ?_⟩⟩⟩
    split at h3
    · rename_i S4 e5
      unfold setIxD at e5
      cases d' <;> first | (cases e5; done) | skip
      rename_i n
      obtain ⟨a1, rfl, e6⟩ := (RV.ext x3 _ _ rv2).loc_inv
      dsimp only at e5
      split at e5
      · rename_i ds e7
        obtain ⟨vs, h4, h5⟩ := rh3.lst e7 e6
        cases d'' <;> first | (cases e5; done) | skip
        cases rv3
        obtain ⟨j, h6, rfl⟩ := Option.map_eq_some_iff.mp e5
        have g : Ext H3 ro3 (upd H3 a1 (.lst (vs.set j v))) ro3 := Ext.upd (loose_lst h4)
        refine ⟨a1, vs, _, j, rfl, rfl, h4, by rw [← h5.length, ← pix_eq]; exact h6, h3 _ ro3 st g ((((re.ext x1).ext x2).ext x3).ext g) (rh3.set e6 e7 rfl rfl (loose_lst h4) ⟨_, upd_same, ?_⟩)⟩
        exact RVs.set j (RVs.ext g _ _ h5) (RV.ext g _ _ (RV.ext x3 _ _ (RV.ext x2 _ _ rv1)))
      · rename_i t kvs e7
        exact absurd ⟨d, S1', .loc n, S2', d'', S3', n, t, kvs, q1, q2, q3, rfl, e7⟩ nd
      · cases e5
    · exact h3.elim
/-- a for loop -/
theorem ds_for {it : Expr} {t : Tg} {ri : Env → Store → R Src} {body : List Stmt} {rb : Env → Store → F} (po : PassesOwn (model X.prog X.w) X.A X.env X.xe) (hc : X.calm = true) (hi : DI X B W tg it ri) (hg : PG X tg (TGI B X.K t)) (hb : DSs X B W body rb) (hs : notSet it = true) :
    DS X B W (.For tg it body [] pos) fun en S => (ri en S).thn en fun src S1 => loopF src.rd (fun d en S => match asg t d en with
      | some en' => rb en' S
      | none => .bad) src.n src.n en S1 :=
  DS.of (ps_for po hc hi hg hb (folded_set hs)) fun en S ro st H D re rh q => ⟨en, S, ro, re, rh, PostF.thnI re q fun src S1 H1 ro1 J x1 rh1 rj h => by
    refine ⟨fun i m st H2 => ∃ (en2 : Env) (S2 : Store) (ro2 : List Addr), i + m = src.n ∧ Ext H1 ro1 H2 ro2 ∧ RE B X.K H2 ro2 en2 st ∧ RH B X.K H2 ro2 S2 ∧ PostF B X.K W H2 ro2 D (loopF src.rd (fun d en S => match asg t d en with
      | some en' => rb en' S
      | none => .bad) src.n m en2 S2), ⟨src.n, en, S1, ro1, Nat.zero_add _, Ext.refl, re.ext x1, rh1, h⟩, ?_⟩
    rintro i m st2 H2 ⟨en2, S2, ro2, him, x2, re2, rh2, h2⟩
    cases m with
    | zero =>
      unfold loopF at h2
      split at h2
      · rename_i ds e1
        split at h2
        · rename_i e2
          exact .inl ⟨rj.stop H2 ro2 S2 ds i x2 rh2 e1 (by omega), h2.nx' re2 rh2⟩
        · exact h2.elim
      · exact h2.elim
    | succ k =>
      unfold loopF at h2
      split at h2
      · rename_i ds e1
        split at h2
        · rename_i e2
          split at h2
          · rename_i d e3
            have ei : src.n - (k + 1) = i := by omega
            rw [ei] at e3
            have hlt : i < ds.length := (List.getElem?_eq_some_iff.mp e3).1
            refine .inr ⟨rj.go H2 ro2 S2 ds i x2 rh2 e1 hlt, fun st3 H3 => ∃ (en2 : Env) (S2 : Store) (ro2 : List Addr), (i + 1) + k = src.n ∧ Ext H1 ro1 H3 ro2 ∧ RE B X.K H3 ro2 en2 st3 ∧ RH B X.K H3 ro2 S2 ∧ PostF B X.K W H3 ro2 D (loopF src.rd (fun d en S => match asg t d en with
              | some en' => rb en' S
              | none => .bad) src.n k en2 S2), fun st3 H3 w => ⟨k, Nat.lt_succ_self k, w⟩, fun v H3 y => ?_⟩
            obtain ⟨x3, rh3, rv3⟩ := rj.yld H2 ro2 S2 ds i d v H3 x2 rh2 e1 e3 y
            have h3 := PostF.ext h2 x3
            cases ea : asg t d en2 with
            | none =>
              rw [ea] at h3
              exact h3.elim
            | some en3 =>
              rw [ea] at h3
              dsimp only at h3
              refine ⟨en2, d, ro2, en3, re2.ext x3, rv3, ea, fun st3 re3 _ => ⟨en3, S2, ro2, re3, rh3, ?_⟩⟩
              have x13 := x2.trans x3
              cases er : rb en3 S2 with
              | nx en4 S4 =>
                rw [er] at h3
                exact fun H4 ro4 st4 x4 re4 rh4 => ⟨en4, S4, ro4, by omega, x13.trans x4, re4, rh4, PostF.ext h3 x4⟩
              | ct en4 S4 =>
                rw [er] at h3
                exact fun H4 ro4 st4 x4 re4 rh4 => ⟨en4, S4, ro4, by omega, x13.trans x4, re4, rh4, PostF.ext h3 x4⟩
              | bk en4 S4 => rw [er] at h3; exact h3
              | rt d S4 => rw [er] at h3; exact h3
              | exc z en4 S4 => rw [er] at h3; exact h3
              | bad => rw [er] at h3; exact h3
          · exact h2.elim
        · exact h2.elim
      · exact h2.elim⟩
end
end Lw
end
section
set_option Elab.async false
set_option linter.all false
set_option autoImplicit false
namespace Lw
open PySem PySem.Spec PyProof.Rows L2
/-- nothing is raised -/
abbrev W0 : WX := fun _ _ _ _ => False
section
variable {X : Cx} {B : Tab} {W : WX} {a b c e tg it elt : Expr} {ifs : List Expr} {pos pos' : Pos} {re rc : Env → Store → R D} {ri : Env → Store → R Src}
theorem wipe_get : ∀ (st : L2.St) (vs : List Nat) (j : Nat), (wipe st vs)[j]? = if j ∈ vs ∧ j < st.length then some none else st[j]?
  | st, [], j => by simp [wipe]
  | st, v :: vs, j => by
    show ((wipe st vs).set v none)[j]? = _
    by_cases h : v = j
    · subst h
      by_cases hl : v < st.length
      · rw [List.getElem?_set_self (by rw [wipe_length]; exact hl), if_pos ⟨by simp, hl⟩]
      · rw [if_neg (fun z => hl z.2), List.getElem?_eq_none (by rw [List.length_set, wipe_length]; omega), List.getElem?_eq_none (by omega)]
    · rw [List.getElem?_set_ne h, wipe_get st vs j]
      simp only [List.mem_cons, Ne.symm h, false_or]
theorem wipe_same {st st' : L2.St} {vs l : List Nat} (h : SameBut (wipe st vs) st' l) (hl : ∀ j ∈ l, j ∈ vs) : wipe st' vs = wipe st vs := by
  apply List.ext_getElem?
  intro j
  have len : st'.length = st.length := by rw [h.1, wipe_length]
  rw [wipe_get, wipe_get, len]
  split
  · rfl
  · rename_i hj
    by_cases hv : j ∈ l
    · have h1 := hl j hv
      have h2 : ¬ j < st.length := fun z => hj ⟨h1, z⟩
      rw [List.getElem?_eq_none (by omega), List.getElem?_eq_none (by omega)]
    · rw [h.2 j hv, wipe_get, if_neg hj]
/-- one turn of a comprehension -/
def oneC (t : Tg) (own : List Nat) (rc re : Env → Store → R D) (en : Env) (d : D) (S : Store) : R (Option D) := match asg t d (wipeE en own) with
  | some en' => (testR (rc en' S)).bind fun b S' => if b = true then (re en' S').bind fun y S'' => .ok (some y) S'' else .ok none S'
  | none => .bad
def compR (t : Tg) (own : List Nat) (ri : Env → Store → R Src) (rc re : Env → Store → R D) (en : Env) (S : Store) : R D :=
  (ri en S).bind fun src S1 => loopC src.rd (oneC t own rc re en) src.n S1.length src.n (S1 ++ [.lst []])
theorem PostI.bindI {a' b' : Type} {rel : Rel a' b'} {K : PySem.W.Frag} {H : Hp} {ro : List Addr} {st : L2.St} {Q : b' → Hp → Prop} {R' : L2.It → Hp → Prop} {r : Lw.R Src} {f : Src → Store → Lw.R a'} (h : Post B K W rel H ro st Q (r.bind f))
    (k : ∀ (d : Src) (S : Store) (H1 : Hp) (ro1 : List Addr) (J : L2.It), Ext H ro H1 ro1 → RH B K H1 ro1 S → RJ B K H1 ro1 J d → Post B K W rel H1 ro1 st Q (f d S) → R' J H1) : PostI B K W H ro st R' r := by
  cases r with
  | ok d S => exact fun H1 ro1 v x rh rv => k d S H1 ro1 v x rh rv (Post.ext h x)
  | exc e S => exact h
  | bad => exact h
/-- the reading of a comprehension -/
theorem comp_read {K : PySem.W.Frag} {t : Tg} {own : List Nat} (hl : ∀ j ∈ tgS t, j ∈ own) {en : Env} {S : Store} {ro : List Addr} {st : L2.St} {H : Hp} {Q : VK} (hre : RE B K H ro en st) (rh : RH B K H ro S) (q : Post B K W (rV B K) H ro st Q (compR t own ri rc re en S)) :
    tLc (TII B K W ri) (TGI B K t) (TI B K W0 rB fun en S => testR (rc en S)) (TI B K W0 (rV B K) re) own st H Q := by
  refine ⟨en, S, ro, hre, rh, PostI.bindI (show Post B K W (rV B K) H ro st Q ((ri en S).bind _) from q) fun src S1 H1 ro1 J x1 rh1 rj h D hD => ?_⟩
  have x0 : Ext H1 ro1 (upd H1 D (.lst [])) (ro1 ++ [D]) := (Ext.new hD).trans Ext.push
  have lD : (ro1 ++ [D])[S1.length]? = some D := by rw [← rh1.len]; simp
  refine ⟨fun i m H2 => ∃ (S2 : Store) (ro2 : List Addr), i + m = src.n ∧ Ext (upd H1 D (.lst [])) (ro1 ++ [D]) H2 ro2 ∧ RH B K H2 ro2 S2 ∧ Post B K W (rV B K) H2 ro2 st Q (loopC src.rd (oneC t own rc re en) src.n S1.length m S2), ⟨src.n, S1 ++ [.lst []], ro1 ++ [D], Nat.zero_add _, Ext.refl, rh1.push (O' := .lst []) hD ⟨[], upd_same, .nil⟩, Post.ext h x0⟩, ?_⟩
  rintro i m H2 ⟨S2, ro2, him, x2, rh2, h2⟩
  have x02 := x0.trans x2
  cases m with
  | zero =>
    unfold loopC at h2
    split at h2
    · rename_i ds e1
      split at h2
      · rename_i e2
        exact .inl ⟨rj.stop H2 ro2 S2 ds i x02 rh2 e1 (by omega), h2.here rh2 (.loc (x2.pre _ _ lD))⟩
      · exact h2.elim
    · exact h2.elim
  | succ k =>
    unfold loopC at h2
    split at h2
    · rename_i ds e1
      split at h2
      · rename_i e2
        split at h2
        · rename_i d e3
          have ei : src.n - (k + 1) = i := by omega
          rw [ei] at e3
          have hlt : i < ds.length := (List.getElem?_eq_some_iff.mp e3).1
          refine .inr ⟨rj.go H2 ro2 S2 ds i x02 rh2 e1 hlt, fun H3 => ∃ (S3 : Store) (ro3 : List Addr), (i + 1) + k = src.n ∧ Ext (upd H1 D (.lst [])) (ro1 ++ [D]) H3 ro3 ∧ RH B K H3 ro3 S3 ∧ Post B K W (rV B K) H3 ro3 st Q (loopC src.rd (oneC t own rc re en) src.n S1.length k S3), fun H3 w => ⟨k, Nat.lt_succ_self k, w⟩, fun v H3 y => ?_⟩
          obtain ⟨x3, rh3, rv3⟩ := rj.yld H2 ro2 S2 ds i d v H3 x02 rh2 e1 e3 y
          have h3 := Post.ext h2 x3
          have re3 : RE B K H3 ro2 (wipeE en own) (wipe st own) := RE.wipe (hre.ext ((x1.trans x02).trans x3)) own
          have x23 := x2.trans x3
          cases ea : asg t d (wipeE en own) with
          | none =>
            unfold oneC at h3
            rw [ea] at h3
            exact h3.elim
          | some en3 =>
            have eo : oneC t own rc re en d S2 = (testR (rc en3 S2)).bind fun b S' => if b = true then (re en3 S').bind fun y S'' => .ok (some y) S'' else .ok none S' := by
              unfold oneC
              rw [ea]
            rw [eo] at h3
            refine ⟨wipeE en own, d, ro2, en3, re3, rv3, ea, fun st3 re4 sb => ⟨wipe_same sb hl, en3, S2, ro2, re4, rh3, ?_⟩⟩
            show Post B K W0 rB H3 ro2 st3 _ (testR (rc en3 S2))
            cases ec : testR (rc en3 S2) with
            | exc z S4 => rw [ec] at h3; exact h3.elim
            | bad => rw [ec] at h3; exact h3.elim
            | ok b S4 =>
              rw [ec] at h3
              intro H4 ro4 b' x4 rh4 rb4
              cases rb4
              cases b with
              | false =>
                exact ⟨S4, ro4, by omega, x23.trans x4, rh4, Post.ext (show Post B K W (rV B K) H3 ro2 st Q (loopC src.rd (oneC t own rc re en) src.n S1.length k S4) from h3) x4⟩
              | true =>
                refine ⟨en3, S4, ro4, re4.ext x4, rh4, ?_⟩
                show Post B K W0 (rV B K) H4 ro4 st3 _ (re en3 S4)
                have h4 : Post B K W (rV B K) H3 ro2 st Q (match (re en3 S4).bind (fun y S'' => R.ok (some y) S'') with
                  | .ok none S' => loopC src.rd (oneC t own rc re en) src.n S1.length k S'
                  | .ok (some y) S' => (match S'[S1.length]? with
                    | some (.lst acc) => if acc.length < line then loopC src.rd (oneC t own rc re en) src.n S1.length k (S'.set S1.length (.lst (acc ++ [y]))) else .bad
                    | _ => .bad)
                  | _ => .bad) := h3
                cases ee : re en3 S4 with
                | exc z S5 => rw [ee] at h4; exact h4.elim
                | bad => rw [ee] at h4; exact h4.elim
                | ok y5 S5 =>
                  rw [ee] at h4
                  have h5 : Post B K W (rV B K) H3 ro2 st Q (match S5[S1.length]? with
                    | some (.lst acc) => if acc.length < line then loopC src.rd (oneC t own rc re en) src.n S1.length k (S5.set S1.length (.lst (acc ++ [y5]))) else .bad
                    | _ => .bad) := h4
                  intro H5 ro5 u x5 rh5 ru5
                  have h6 := Post.ext h5 (x4.trans x5)
                  split at h6
                  · rename_i acc e6
                    split at h6
                    · rename_i hacc
                      have l5 : ro5[S1.length]? = some D := ((x23.trans x4).trans x5).pre _ _ lD
                      obtain ⟨vs, e7, e8⟩ := rh5.lst e6 l5
                      have x6 : Ext H5 ro5 (upd H5 D (.lst (vs ++ [u]))) ro5 := Ext.upd (loose_lst e7)
                      refine ⟨vs, e7, by rw [← e8.length, ← line_eq]; exact hacc, S5.set S1.length (.lst (acc ++ [y5])), ro5, by omega, ((x23.trans x4).trans x5).trans x6, rh5.set l5 e6 rfl rfl (loose_lst e7) ⟨_, upd_same, RVs.ext x6 _ _ (e8.append (.cons ru5 .nil))⟩, Post.ext h6 x6⟩
                    · exact h6.elim
                  · exact h6.elim
        · exact h2.elim
      · exact h2.elim
    · exact h2.elim
theorem PTs.imp {t t' : TT} (h : PTs X ifs t) (k : ∀ st H Q, t' st H Q → t st H Q) : PTs X ifs t' := ⟨fun pins s st H Q I q => h.run pins s st H Q I (k st H Q q)⟩
theorem dts_nil : PTs X [] (TI B X.K W rB fun _ S => testR (.ok (.bl true) S)) :=
  PTs.imp pts_nil fun st H Q ⟨en, S, ro, hre, rh, q⟩ => Post.here (show Post B X.K W rB H ro st Q (.ok true S) from q) rh rfl
/-- [elt for tg in it if ..] -/
theorem de_comp {scope : Scope} {own : List (Str × Nat)} {t : Tg} (hc : X.calm = true) (hN : X.N.Nodup) (hi : DI X B W tg it ri) (ok : BlkOk X.N X.env.scope scope own)
    (hg : ∀ (s : Shared) (H : Hp) (C : Addr) (cl : List (Str × Addr)) (fp : List Addr), PG (X.blk s H scope (compEnvC scope cl C X.env) fp) tg (TGI B X.K t))
    (ht : ∀ (s : Shared) (H : Hp) (C : Addr) (cl : List (Str × Addr)) (fp : List Addr), PTs (X.blk s H scope (compEnvC scope cl C X.env) fp) ifs (TI B X.K W0 rB fun en S => testR (rc en S)))
    (he : ∀ (s : Shared) (H : Hp) (C : Addr) (cl : List (Str × Addr)) (fp : List Addr), PE (X.blk s H scope (compEnvC scope cl C X.env) fp) elt (TI B X.K W0 (rV B X.K) re))
    (hs : notSet it = true) (hl : ∀ j ∈ tgS t, j ∈ own.map (·.2)) : DE X B W (.ListComp elt [⟨tg, it, ifs, 0⟩] scope pos) (compR t (own.map (·.2)) ri rc re) :=
  DE.of (pe_lc hc hN hi ok hg ht he (folded_set hs)) fun en S ro st H Q hre rh q => comp_read hl hre rh q
/-- name = [..] -/
theorem ds_setLc {scope : Scope} {own : List (Str × Nat)} {t : Tg} {i : Nat} {y : Str} {py : Pos} {spos : Pos} (hc : X.calm = true) (hN : X.N.Nodup) (hy : X.N[i]? = some y) (hyl : X.env.scope.names.lookup y = some .local)
    (hsw : swapsWith (.ListComp elt [⟨tg, it, ifs, 0⟩] scope pos) (some (.Name y py)) spos.line X.env = pure true) (hi : DI X B W tg it ri) (ok : BlkOk X.N X.env.scope scope own)
    (hg : ∀ (s : Shared) (H : Hp) (C : Addr) (cl : List (Str × Addr)) (fp : List Addr), PG (X.blk s H scope (compEnvC scope cl C X.env) fp) tg (TGI B X.K t))
    (ht : ∀ (s : Shared) (H : Hp) (C : Addr) (cl : List (Str × Addr)) (fp : List Addr), PTs (X.blk s H scope (compEnvC scope cl C X.env) fp) ifs (TI B X.K W0 rB fun en S => testR (rc en S)))
    (he : ∀ (s : Shared) (H : Hp) (C : Addr) (cl : List (Str × Addr)) (fp : List Addr), PE (X.blk s H scope (compEnvC scope cl C X.env) fp) elt (TI B X.K W0 (rV B X.K) re))
    (hs : notSet it = true) (hl : ∀ j ∈ tgS t, j ∈ own.map (·.2)) : DS X B W (.Assign [.Name y py] (.ListComp elt [⟨tg, it, ifs, 0⟩] scope pos) spos) fun en S => (compR t (own.map (·.2)) ri rc re en S).thn en fun x S1 => match asg (.nm i) x en with
    | some en' => .nx en' S1
    | none => .bad :=
  DS.of (ps_setLc hc hN hy hyl hsw hi ok hg ht he (folded_set hs)) fun en S ro st H D hre rh q => comp_read hl hre rh (PostF.thn hre q fun d S1 H1 ro1 v _ x rh1 rv h => h H1 ro1 _ Ext.refl ((hre.ext x).set rv) rh1)
/-- a while loop -/
theorem ds_whl {body : List Stmt} {rb : Env → Store → F} {n : Nat} (po : PassesOwn (model X.prog X.w) X.A X.env X.xe) (hc : DT X B W c fun en S => testR (rc en S)) (hb : DSs X B W body rb) : DS X B W (.While c body [] pos) fun en S => loopW (fun en S => testR (rc en S)) rb n en S :=
  DS.of (ps_while po hc hb) fun en S ro st H D hre rh q => by
    refine ⟨fun m st2 H2 => ∃ (en2 : Env) (S2 : Store) (ro2 : List Addr), RE B X.K H2 ro2 en2 st2 ∧ RH B X.K H2 ro2 S2 ∧ PostF B X.K W H2 ro2 D (loopW (fun en S => testR (rc en S)) rb m en2 S2), ⟨n, en, S, ro, hre, rh, q⟩, ?_⟩
    rintro m st2 H2 ⟨en2, S2, ro2, re2, rh2, h2⟩
    cases m with
    | zero => exact h2.elim
    | succ k =>
      unfold loopW at h2
      refine ⟨en2, S2, ro2, re2, rh2, PostF.thn re2 h2 fun b S3 H3 ro3 b' _ x3 rh3 rb3 h3 => ?_⟩
      cases rb3
      cases b with
      | false => exact h3.nx' (re2.ext x3) rh3
      | true =>
        refine ⟨fun st4 H4 => ∃ (en2 : Env) (S2 : Store) (ro2 : List Addr), RE B X.K H4 ro2 en2 st4 ∧ RH B X.K H4 ro2 S2 ∧ PostF B X.K W H4 ro2 D (loopW (fun en S => testR (rc en S)) rb k en2 S2), fun st4 H4 w => ⟨k, Nat.lt_succ_self k, w⟩, en2, S3, ro3, re2.ext x3, rh3, ?_⟩
        have h4 : PostF B X.K W H3 ro3 D (match rb en2 S3 with
          | .nx en' S' => loopW (fun en S => testR (rc en S)) rb k en' S'
          | .ct en' S' => loopW (fun en S => testR (rc en S)) rb k en' S'
          | .bk en' S' => .nx en' S'
          | r => r) := h3
        cases er : rb en2 S3 with
        | nx en4 S4 =>
          rw [er] at h4
          exact fun H4 ro4 st4 x4 re4 rh4 => ⟨en4, S4, ro4, re4, rh4, PostF.ext h4 x4⟩
        | ct en4 S4 =>
          rw [er] at h4
          exact fun H4 ro4 st4 x4 re4 rh4 => ⟨en4, S4, ro4, re4, rh4, PostF.ext h4 x4⟩
        | bk en4 S4 => rw [er] at h4; exact h4
        | rt d S4 => rw [er] at h4; exact h4
        | exc z en4 S4 => rw [er] at h4; exact h4
        | bad => rw [er] at h4; exact h4
end
end Lw
end
section
set_option Elab.async false
set_option linter.all false
set_option autoImplicit false
namespace Lw
open PySem PySem.Spec PyProof.Rows L2
/-- what a name of the module is: a def of so many parameters, a class, a function of a module, a constant -/
inductive GK where
  | fn (i k : Nat) | cls (c : Nat) | bm (b : Bif) | cst (d : D)
structure CC where
  N : List Str
  sc : Scope
  fn : Str → Bool
  gt : Str → Option GK
  fid : Str → Option Nat
  /-- is this {} to have tuples as keys -/
  dk : Bool
def ixS : List Str → Str → Option Nat
  | [], _ => none
  | y :: r, x => if y = x then some 0 else (ixS r x).map (· + 1)
def visB (sc : Scope) (x : Str) : Bool := match sc.names.lookup x with
  | some .local => true
  | some .cell => true
  | some .free => true
  | _ => false
def glB (sc : Scope) (x : Str) : Bool := match sc.names.lookup x with
  | some .globalImplicit => true
  | _ => false
def nameB (x : Str) : Bool := !(x == ("__debug__" : Str)) && !(x == ("__classdict__" : Str)) && decide (x ≠ "__name__")
def locB (cc : CC) (x : Str) : Bool := match cc.sc.names.lookup x with
  | some .local => true
  | some .cell => cc.fn x
  | _ => false
def bopC : Operator → Option Bop
  | .Add => some .add | .Sub => some .sub | .Mult => some .mul | .FloorDiv => some .fdiv | .Mod => some .mod | .Pow => some .pow
  | _ => none
def copC (o : CmpOp) (b : Expr) : Option Cop := match o with
  | .Eq => some .eq | .NotEq => some .ne | .Lt => some .lt | .LtE => some .le | .Gt => some .gt | .GtE => some .ge
  | .Is => some .isN
  | .IsNot => some .notN
  | .In => some .in_
  | .NotIn => some .nin
def bifC (x : Str) : Option Bif :=
  if x = "len" then some .len else if x = "abs" then some .abs else if x = "all" then some .all else if x = "any" then some .any else if x = "sum" then some .sum else if x = "min" then some .min else if x = "max" then some .max else none
def btyC (x : Str) : Option Bif :=
  if x = "int" then some .int else if x = "tuple" then some .tuple else if x = "list" then some .list else none
def tyC (x : Str) : Option Ty :=
  if x = "int" then some .tint else if x = "bool" then some .tbool else if x = "str" then some .tstr else if x = "tuple" then some .ttup else if x = "list" then some .tlst else none
def blts : List Str := ["len", "abs", "all", "any", "sum", "int", "tuple", "list", "bool", "str", "isinstance", "range", "enumerate", "zip", "min", "max"]
def freeB (cc : CC) (x : Str) : Bool := glB cc.sc x && (match cc.gt x with | none => true | some _ => false) && decide (x ∈ blts)
def ownOf (N : List Str) : List (Str × NameKind) → List (Str × Nat)
  | [] => []
  | (x, k) :: r => match k with
    | .local => (match ixS N x with | some i => (x, i) :: ownOf N r | none => ownOf N r)
    | .cell => (match ixS N x with | some i => (x, i) :: ownOf N r | none => ownOf N r)
    | _ => ownOf N r
def CC.blk (cc : CC) (scope : Scope) : CC := { cc with sc := relS scope cc.sc, fn := fun x => scope.names.lookup x == some .cell }
mutual
def cG : Nat → CC → Expr → Option Tg
  | 0, _, _ => none
  | n + 1, cc, e => match e with
    | .Name x _ => if locB cc x then (ixS cc.N x).map .nm else none
    | .Tuple es _ _ => if es.all notStar then (cGs n cc es).map .tp else none
    | _ => none
def cGs : Nat → CC → List Expr → Option Tgs
  | 0, _, _ => none
  | n + 1, cc, es => match es with
    | [] => some .nil
    | e :: es => match cG n cc e with
      | some t => (cGs n cc es).map (.cons t)
      | none => none
end
mutual
def cE : Nat → CC → Expr → Option E
  | 0, _, _ => none
  | n + 1, cc, e => match e with
    | .Constant c _ _ => (match c with
      | .none => some (.cst .non)
      | .bool b => some (.cst (.bl b))
      | .int i => some (.cst (.int i))
      | .str s => some (.cst (.str s.cps.toList))
      | _ => none)
    | .Name x _ => if nameB x then (if visB cc.sc x then (ixS cc.N x).map .var else if glB cc.sc x then (match cc.gt x with | some (.cst d) => some (.cst d) | _ => none) else none) else none
    | .BinOp a o b _ => (match bopC o, cE n cc a, cE n cc b with
      | some o, some a, some b => some (.bin o a b)
      | _, _, _ => none)
    | .UnaryOp o a _ => (match o, cE n cc a with
      | .USub, some a => some (.neg a)
      | .Not, some a => some (.not a)
      | _, _ => none)
    | .Compare a [o] [b] _ => if notSet b then (match copC o b, cE n cc a, cE n cc b with
      | some o, some a, some b => some (.cmp o a b)
      | _, _, _ => none) else none
    | .BoolOp o es p => cB n cc o es
    | .IfExp c a b _ => (match cT n cc c, cE n cc a, cE n cc b with
      | some c, some a, some b => some (.ite c a b)
      | _, _, _ => none)
    | .Tuple es _ _ => (cA n cc es).map .tup
    | .List es _ => (cA n cc es).map .lst
    | .Dict [] [] _ => some (.dnew cc.dk)
    | .Subscript a (.Slice lo hi none _) _ => (match cE n cc a, cP n cc lo, cP n cc hi with
      | some a, some lo, some hi => some (.sl a lo hi)
      | _, _, _ => none)
    | .Subscript a b _ => if notSlice b then (match cE n cc a, cE n cc b with
      | some a, some b => some (.ix a b)
      | _, _ => none) else none
    | .Attribute a f _ => if notSuper a then (match cE n cc a, cc.fid f with
      | some a, some f => some (.attr a f)
      | _, _ => none) else none
    | .Call (.Name x p) es [] pos => if nameB x then (match cc.gt x with
      | some (.fn i k) => if glB cc.sc x && decide (es.length = k) then (cA n cc es).map (.call i) else none
      | some (.bm b) => if glB cc.sc x && !es.isEmpty then (cA n cc es).map (.bif b) else none
      | some _ => none
      | none => if freeB cc x then cBlt n cc x es else none) else none
    | .Call (.Attribute a f ap) [b] [] p => if notSuper a && notStar b && (ap.endLine == p.line) then (match cE n cc a, cA n cc [b] with
      | some a, some bs => if f = "append" then some (.bmt .append a bs) else if f = "extend" then some (.bmt .extend a bs) else none
      | _, _ => none) else none
    | .ListComp elt [⟨tg, it, ifs, 0⟩] scope _ => cC n cc elt tg it ifs scope
    | _ => none
/-- a built-in's call -/
def cBlt : Nat → CC → Str → List Expr → Option E
  | 0, _, _, _ => none
  | n + 1, cc, x, es => if x = "isinstance" then (match es with
      | [a, .Name y _] => if notStar a && freeB cc y && nameB y then (match cE n cc a, tyC y with
        | some a, some t => some (.isi a t)
        | _, _ => none) else none
      | _ => none) else match bifC x with
      | some b => if !es.isEmpty then (cA n cc es).map (.bif b) else none
      | none => match btyC x with
        | some b => if !es.isEmpty then (cA n cc es).map (.bif b) else none
        | none => none
/-- and, or -/
def cB : Nat → CC → BoolOp → List Expr → Option E
  | 0, _, _, _ => none
  | n + 1, cc, o, es => match es with
    | [] => none
    | [a] => cE n cc a
    | a :: b :: r => match cE n cc a, cB n cc o (b :: r) with
      | some a, some b => some (match o with | .And => .and a b | .Or => .or a b)
      | _, _ => none
/-- a part of a slice -/
def cP : Nat → CC → Option Expr → Option E
  | 0, _, _ => none
  | n + 1, cc, e => match e with
    | none => some (.cst .non)
    | some e => match cE n cc e with
      | some e => if e.isNon then none else some e
      | none => none
/-- a test -/
def cT : Nat → CC → Expr → Option E
  | 0, _, _ => none
  | n + 1, cc, e => match e with
    | .UnaryOp .Not a _ => (cT n cc a).map .not
    | .BoolOp o es _ => cTB n cc o es
    | .Compare a [o] [b] _ => if notSet b then (match copC o b, cE n cc a, cE n cc b with
      | some o, some a, some b => some (.cmp o a b)
      | _, _, _ => none) else none
    | e => if plainTest e then cE n cc e else none
def cTB : Nat → CC → BoolOp → List Expr → Option E
  | 0, _, _, _ => none
  | n + 1, cc, o, es => match es with
    | [] => none
    | [a] => cT n cc a
    | a :: b :: r => match cT n cc a, cTB n cc o (b :: r) with
      | some a, some b => some (match o with | .And => .and a b | .Or => .or a b)
      | _, _ => none
def cA : Nat → CC → List Expr → Option Es
  | 0, _, _ => none
  | n + 1, cc, es => match es with
    | [] => some .nil
    | e :: es => if notStar e then (match cE n cc e, cA n cc es with
      | some e, some es => some (.cons e es)
      | _, _ => none) else none
/-- a comprehension -/
def cC : Nat → CC → Expr → Expr → Expr → List Expr → Scope → Option E
  | 0, _, _, _, _, _, _ => none
  | n + 1, cc, elt, tg, it, ifs, scope => if notSet it && blkC cc.N cc.sc scope (ownOf cc.N scope.names) then (match cI n cc tg it, cG n (cc.blk scope) tg, cE n (cc.blk scope) elt, cF n (cc.blk scope) ifs with
      | some it, some t, some e, some c => if (tgS t).all (fun j => (((ownOf cc.N scope.names).map (·.2)).contains j)) then some (.comp e t ((ownOf cc.N scope.names).map (·.2)) it c) else none
      | _, _, _, _ => none) else none
def cF : Nat → CC → List Expr → Option E
  | 0, _, _ => none
  | n + 1, cc, ifs => match ifs with
    | [] => some (.cst (.bl true))
    | [c] => cT n cc c
    | _ => none
/-- what is walked -/
def cI : Nat → CC → Expr → Expr → Option It
  | 0, _, _, _ => none
  | n + 1, cc, tg, it => match it with
    | .Call (.Name x p) es [] pos => if decide (x = "range") && freeB cc x then (match es with
        | [a] => if notStar a then (cE n cc a).map .rng1 else none
        | [a, b] => if notStar a && notStar b then (match cE n cc a, cE n cc b with
          | some a, some b => some (.rng2 a b)
          | _, _ => none) else none
        | _ => none) else if decide (x = "zip") && freeB cc x then (match tg, es with
        | .Tuple _ _ _, [a, b] => if notStar a && notStar b then (match cE n cc a, cE n cc b with
          | some a, some b => some (.zip a b)
          | _, _ => none) else none
        | _, _ => none) else (cE n cc it).map .seq
    | _ => (cE n cc it).map .seq
end
/-- a, b = x, y: two plain locals -/
def parB (cc : CC) (x y : Str) (i j : Nat) (px py : Pos) (a b : Expr) : Bool :=
  decide (i ≠ j) && decide (x ≠ y) && decide (cc.sc.names.lookup x = some .local) && decide (cc.sc.names.lookup y = some .local) && notStar a && notStar b && decide (py.line = px.line) && (match cc.sc.kind with | .function => true | _ => false) && !([a, b].all (foldedForSure 8)) && !([a, b].all (constantsAlone 8))
mutual
def cS : Nat → CC → Stmt → Option Sm
  | 0, _, _ => none
  | n + 1, cc, s => match s with
    | .Assign [.Tuple [.Name x px, .Name y py] kt pt] (.Tuple [a, b] k2 pt2) pos => (match ixS cc.N x, ixS cc.N y, cA n cc [a, b] with
      | some i, some j, some es => if parB cc x y i j px py a b then some (.set (.tp (.cons (.nm i) (.cons (.nm j) .nil))) (.tup es)) else none
      | _, _, _ => none)
    | .Assign [.Subscript a b _] e _ => if notComp e && notSlice b then (match cE n cc a, cE n cc b, cE n cc e with
      | some a, some b, some e => some (.setIx a b e)
      | _, _, _ => none) else none
    | .Assign [.Name x px] (.ListComp elt [⟨tg, it, ifs, 0⟩] scope cp) pos => (match cG n cc (.Name x px), cC n cc elt tg it ifs scope with
      | some (.nm i), some e => some (.set (.nm i) e)
      | _, _ => none)
    | .Assign [tg] e _ => if notComp e && notStar tg && (notTup tg || notTup e) then (match cG n cc tg, cE n cc e with
      | some t, some e => some (.set t e)
      | _, _ => none) else none
    | .Expr e _ => if notComp e then (cE n cc e).map .ex else none
    | .Return (some e) _ => (cE n cc e).map .ret
    | .Return none _ => some .retN
    | .If c a b _ => (match cT n cc c, cSs n cc a, cSs n cc b with
      | some c, some a, some b => some (.ife c a b)
      | _, _, _ => none)
    | .For tg it body [] _ => if notSet it then (match cG n cc tg, cI n cc tg it, cSs n cc body with
      | some t, some it, some b => some (.forr t it b)
      | _, _, _ => none) else none
    | .While c body [] _ => (match cT n cc c, cSs n cc body with
      | some c, some b => some (.whl c b)
      | _, _ => none)
    | .Pass _ => some .pass
    | .Break _ => some .brk
    | .Continue _ => some .cont
    | _ => none
def cSs : Nat → CC → List Stmt → Option Sms
  | 0, _, _ => none
  | n + 1, cc, ss => match ss with
    | [] => some .nil
    | s :: ss => match cS n cc s, cSs n cc ss with
      | some s, some ss => some (.cons s ss)
      | _, _ => none
end
end Lw
end
section
set_option Elab.async false
set_option linter.all false
set_option autoImplicit false
namespace Lw
open PySem PySem.Spec PyProof.Rows L2
def bmId : Bif → Option String
  | .gcd => some "math.gcd"
  | _ => none
/-- what stands behind the names of the module -/
structure GlobOk (P : Program) (w : World) (K : PySem.W.Frag) (mg : Str → Option Value) (base : Heap) (gt : Str → Option GK) (B : Tab) (G : Gam) (n : Nat) : Prop where
  fn : ∀ x i k, gt x = some (.fn i k) → ∃ (f : Addr) (fd : FuncData) (ps : List Str), mg x = some (.ref f) ∧ PySem.W.keepIn K (.ref f) = true ∧ Binds K fd ps [] ∧ FnOk P w K mg base (L2.CX P w) n f fd ps (spI B K (G.call i) k)
  bm : ∀ x b, gt x = some (.bm b) → ∃ id, bmId b = some id ∧ mg x = some (.builtin id)
  cst : ∀ x d, gt x = some (.cst d) → ∃ (v : V) (u : Value), mg x = some u ∧ RelV v u ∧ ∀ H ro, RV B K H ro d v
  free : ∀ x, gt x = none → x ∈ blts → mg x = none
structure Good (X : Cx) (cc : CC) (B : Tab) (W : WX) (G : Gam) (n : Nat) : Prop where
  N : X.N = cc.N
  nd : cc.N.Nodup
  sc : X.env.scope = cc.sc
  fn : X.fn = cc.fn
  calm : X.calm = true
  room : Room n X.A
  tk : Takes X W
  kon : G.kon = B.kon
  fld : ∀ f g, cc.fid f = some g → B.name g = f
  cl : ClsOk B X.K G.fld
  gl : GlobOk X.prog X.w X.K X.mg X.base cc.gt B G n
section
variable {X : Cx} {cc : CC} {B : Tab} {W : WX} {G : Gam} {lv : Nat}
theorem Good.blk (g : Good X cc B W G lv) (scope : Scope) (s : Shared) (H : Hp) (C : Addr) (cl : List (Str × Addr)) (fp : List Addr) : Good (X.blk s H scope (compEnvC scope cl C X.env) fp) (cc.blk scope) B W0 G lv where
  N := g.N
  nd := g.nd
  sc := by
    show relS scope X.env.scope = relS scope cc.sc
    rw [g.sc]
  fn := rfl
  calm := g.calm
  room := g.room
  tk := takes0
  kon := g.kon
  fld := g.fld
  cl := g.cl
  gl := g.gl
theorem ixS_get : ∀ {N : List Str} {x : Str} {i : Nat}, ixS N x = some i → N[i]? = some x
  | [], _, _, h => by cases h
  | y :: r, x, i, h => by
    have h' : (if y = x then some 0 else (ixS r x).map (· + 1)) = some i := h
    split at h'
    · rename_i e
      cases h'
      rw [e]; rfl
    · obtain ⟨j, h1, rfl⟩ := Option.map_eq_some_iff.mp h'
      rw [List.getElem?_cons_succ]
      exact ixS_get h1
theorem vis_of {sc : Scope} {x : Str} (h : visB sc x = true) : Vis sc x := by
  unfold visB at h
  split at h
  · rename_i e; exact .inl e
  · rename_i e; exact .inr (.inl e)
  · rename_i e; exact .inr (.inr e)
  · cases h
theorem gl_of (g : Good X cc B W G lv) {x : Str} (h : glB cc.sc x = true) : Gl X x := by
  unfold glB at h
  split at h
  · rename_i e
    show X.env.scope.names.lookup x = some .globalImplicit
    rw [g.sc]; exact e
  · cases h
theorem name_of {x : Str} (h : nameB x = true) : (x == ("__debug__" : Str)) = false ∧ (x == ("__classdict__" : Str)) = false ∧ x ≠ "__name__" := by
  unfold nameB at h
  simp only [Bool.and_eq_true, Bool.not_eq_true', decide_eq_true_eq] at h
  exact ⟨h.1.1, h.1.2, h.2⟩
theorem loc_of (g : Good X cc B W G lv) {x : Str} (h : locB cc x = true) : Loc X.env.scope x ∧ (X.fn x = true ∨ X.env.scope.names.lookup x = some .local) := by
  unfold locB at h
  rw [g.sc, g.fn]
  split at h
  · rename_i e; exact ⟨.inl e, .inr e⟩
  · rename_i e; exact ⟨.inr e, .inl h⟩
  · cases h
theorem free_of (g : Good X cc B W G lv) {x : Str} (h : freeB cc x = true) : Gl X x ∧ X.mg x = none := by
  unfold freeB at h
  simp only [Bool.and_eq_true, decide_eq_true_eq] at h
  refine ⟨gl_of g h.1.1, g.gl.free x ?_ h.2⟩
  have h2 := h.1.2
  split at h2
  · assumption
  · cases h2
theorem bop_of {o : Operator} {o' : Bop} (h : bopC o = some o') : bopO o' = o := by
  cases o <;> first | (cases h; rfl) | (cases h; done)
theorem cop_of {o : CmpOp} {b : Expr} {o' : Cop} (h : copC o b = some o') : copO o' = o := by
  cases o <;> first | (cases h; rfl) | (cases h; done)
theorem hu64 (g : Good X cc B W G lv) : X.A.units + 64 < cLine := g.room.units
theorem hu1 (g : Good X cc B W G lv) : X.A.units + 1 < cLine := hu_of g.room
theorem cs_bm {b : Bif} {id : String} (h : bmId b = some id) : CallS X B (.builtin id) (bifD b) := by
  cases b <;> first | (cases h; done) | skip
  cases h
  exact cs_gcd
theorem bif_of {x : Str} {b : Bif} (hc : X.calm = true) (h : bifC x = some b) : ∃ id, bootBuiltins x = some (.builtin id) ∧ CallS X B (.builtin id) (bifD b) := by
  unfold bifC at h
  split at h
  · rename_i e; subst e; cases h; exact ⟨"len", by decide +kernel, cs_len⟩
  · split at h
    · rename_i e; subst e; cases h; exact ⟨"abs", by decide +kernel, cs_abs⟩
    · split at h
      · rename_i e; subst e; cases h; exact ⟨"all", by decide +kernel, cs_all hc⟩
      · split at h
        · rename_i e; subst e; cases h; exact ⟨"any", by decide +kernel, cs_any hc⟩
        · split at h
          · rename_i e; subst e; cases h; exact ⟨"sum", by decide +kernel, cs_sum hc⟩
          · split at h
            · rename_i e; subst e; cases h; exact ⟨"min", by decide +kernel, cs_min hc⟩
            · split at h
              · rename_i e; subst e; cases h; exact ⟨"max", by decide +kernel, cs_max hc⟩
              · cases h
theorem bty_of {x : Str} {b : Bif} (h : btyC x = some b) : ∃ T, bootBuiltins x = some (.type T) ∧ CallS X B (.type T) (bifD b) := by
  unfold btyC at h
  split at h
  · rename_i e; subst e; cases h; exact ⟨"int", by decide +kernel, cs_int⟩
  · split at h
    · rename_i e; subst e; cases h; exact ⟨"tuple", by decide +kernel, cs_tuple⟩
    · split at h
      · rename_i e; subst e; cases h; exact ⟨"list", by decide +kernel, cs_list⟩
      · cases h
theorem ty_of {x : Str} {t : Ty} (h : tyC x = some t) : ∃ T, tyS t = some T ∧ bootBuiltins x = some (.type T) := by
  unfold tyC at h
  split at h
  · rename_i e; subst e; cases h; exact ⟨"int", rfl, by decide +kernel⟩
  · split at h
    · rename_i e; subst e; cases h; exact ⟨"bool", rfl, by decide +kernel⟩
    · split at h
      · rename_i e; subst e; cases h; exact ⟨"str", rfl, by decide +kernel⟩
      · split at h
        · rename_i e; subst e; cases h; exact ⟨"tuple", rfl, by decide +kernel⟩
        · split at h
          · rename_i e; subst e; cases h; exact ⟨"list", rfl, by decide +kernel⟩
          · cases h
/-- what a comprehension needs -/
structure CompOk (X : Cx) (B : Tab) (W : WX) (G : Gam) (elt tg it : Expr) (ifs : List Expr) (scope : Scope) (ir : E) : Prop where
  ex : ∃ (own : List (Str × Nat)) (t : Tg) (i : It) (c e : E), BlkOk X.N X.env.scope scope own ∧ DI X B W tg it (evI G i) ∧
    (∀ (s : Shared) (H : Hp) (C : Addr) (cl : List (Str × Addr)) (fp : List Addr), PG (X.blk s H scope (compEnvC scope cl C X.env) fp) tg (TGI B X.K t)) ∧
    (∀ (s : Shared) (H : Hp) (C : Addr) (cl : List (Str × Addr)) (fp : List Addr), PTs (X.blk s H scope (compEnvC scope cl C X.env) fp) ifs (TI B X.K W0 rB fun en S => testR (ev G c en S))) ∧
    (∀ (s : Shared) (H : Hp) (C : Addr) (cl : List (Str × Addr)) (fp : List Addr), PE (X.blk s H scope (compEnvC scope cl C X.env) fp) elt (TI B X.K W0 (rV B X.K) (ev G e))) ∧
    notSet it = true ∧ (∀ j ∈ tgS t, j ∈ own.map (·.2)) ∧ ir = .comp e t (own.map (·.2)) i c
/-- the compile function is right, with so much fuel -/
structure Snd (B : Tab) (G : Gam) (lv n : Nat) : Prop where
  e : ∀ (X : Cx) (cc : CC) (W : WX) (e : Expr) (ir : E), Good X cc B W G lv → cE n cc e = some ir → DE X B W e (ev G ir)
  b : ∀ (X : Cx) (cc : CC) (W : WX) (o : BoolOp) (es : List Expr) (pos : Pos) (ir : E), Good X cc B W G lv → cB n cc o es = some ir → DE X B W (.BoolOp o es pos) (ev G ir)
  p : ∀ (X : Cx) (cc : CC) (W : WX) (e : Option Expr) (ir : E), Good X cc B W G lv → cP n cc e = some ir → DO X B W e fun en S => partR ir.isNon (ev G ir en S)
  t : ∀ (X : Cx) (cc : CC) (W : WX) (e : Expr) (ir : E), Good X cc B W G lv → cT n cc e = some ir → DT X B W e fun en S => testR (ev G ir en S)
  tb : ∀ (X : Cx) (cc : CC) (W : WX) (o : BoolOp) (es : List Expr) (pos : Pos) (ir : E), Good X cc B W G lv → cTB n cc o es = some ir → DW X B W (.BoolOp o es pos) fun en S => testR (ev G ir en S)
  a : ∀ (X : Cx) (cc : CC) (W : WX) (es : List Expr) (ir : Es), Good X cc B W G lv → cA n cc es = some ir → DA X B W es (evs G ir)
  blt : ∀ (X : Cx) (cc : CC) (W : WX) (x : Str) (p pos : Pos) (es : List Expr) (ir : E), Good X cc B W G lv → freeB cc x = true → nameB x = true → cBlt n cc x es = some ir → DE X B W (.Call (.Name x p) es [] pos) (ev G ir)
  c : ∀ (X : Cx) (cc : CC) (W : WX) (elt tg it : Expr) (ifs : List Expr) (scope : Scope) (ir : E), Good X cc B W G lv → cC n cc elt tg it ifs scope = some ir → CompOk X B W G elt tg it ifs scope ir
  f : ∀ (X : Cx) (cc : CC) (ifs : List Expr) (ir : E), Good X cc B W0 G lv → cF n cc ifs = some ir → PTs X ifs (TI B X.K W0 rB fun en S => testR (ev G ir en S))
  i : ∀ (X : Cx) (cc : CC) (W : WX) (tg it : Expr) (ir : It), Good X cc B W G lv → cI n cc tg it = some ir → DI X B W tg it (evI G ir)
  g : ∀ (X : Cx) (cc : CC) (W : WX) (e : Expr) (t : Tg), Good X cc B W G lv → cG n cc e = some t → PG X e (TGI B X.K t)
  gs : ∀ (X : Cx) (cc : CC) (W : WX) (es : List Expr) (t : Tgs), Good X cc B W G lv → es.all notStar = true → cGs n cc es = some t → PGs X es (TGIs B X.K t) ∧ tgsLen t = es.length
theorem evs_len : ∀ {es : Es} {en : Env} {S S' : Store} {ds : List D}, evs G es en S = .ok ds S' → ∀ {l : List Expr} {n : Nat} {cc : CC}, cA n cc l = some es → ds.length = l.length
  | .nil, en, S, S', ds, h, l, n, cc, hc => by
    rw [evs] at h
    cases h
    cases n with
    | zero => cases hc
    | succ n =>
      unfold cA at hc
      split at hc
      · rfl
      · split at hc
        · split at hc <;> cases hc
        · cases hc
  | .cons e es, en, S, S', ds, h, l, n, cc, hc => by
    rw [evs] at h
    cases n with
    | zero => cases hc
    | succ n =>
      unfold cA at hc
      split at hc
      · cases hc
      · split at hc
        · split at hc
          · rename_i e1 es1 _ _ _ ir irs h1 h2
            cases hc
            cases hx : ev G e en S with
            | ok x S1 =>
              rw [hx] at h
              have h' : (evs G es en S1).bind (fun xs S2 => R.ok (x :: xs) S2) = .ok ds S' := h
              cases hy : evs G es en S1 with
              | ok xs S2 =>
                rw [hy] at h'
                cases h'
                rw [List.length_cons, List.length_cons, evs_len hy h2]
              | exc z S2 => rw [hy] at h'; cases h'
              | bad => rw [hy] at h'; cases h'
            | exc z S1 => rw [hx] at h; cases h
            | bad => rw [hx] at h; cases h
          · cases hc
        · cases hc
theorem cA_star {n : Nat} {cc : CC} : ∀ {l : List Expr} {es : Es}, cA n cc l = some es → l.all notStar = true := by
  induction n with
  | zero => intro l es h; cases h
  | succ n ih =>
    intro l es h
    unfold cA at h
    split at h
    · rfl
    · split at h
      · rename_i hs
        split at h
        · rename_i h1 h2
          rw [List.all_cons, hs, ih h2]
          rfl
        · cases h
      · cases h
theorem cA_nil {n : Nat} {cc : CC} {es : Es} (h : cA n cc [] = some es) : es = .nil := by
  cases n with
  | zero => cases h
  | succ n => cases h; rfl
end
end Lw
end
section
set_option Elab.async false
set_option linter.all false
set_option autoImplicit false
set_option maxHeartbeats 1000000
namespace Lw
open PySem PySem.Spec PyProof.Rows L2
section
variable {B : Tab} {G : Gam} {lv : Nat}
theorem snd_zero : Snd B G lv 0 where
  e := fun _ _ _ _ _ _ h => by unfold cE at h; cases h
  b := fun _ _ _ _ _ _ _ _ h => by unfold cB at h; cases h
  p := fun _ _ _ _ _ _ h => by unfold cP at h; cases h
  t := fun _ _ _ _ _ _ h => by unfold cT at h; cases h
  tb := fun _ _ _ _ _ _ _ _ h => by unfold cTB at h; cases h
  a := fun _ _ _ _ _ _ h => by unfold cA at h; cases h
  blt := fun _ _ _ _ _ _ _ _ _ _ _ h => by unfold cBlt at h; cases h
  c := fun _ _ _ _ _ _ _ _ _ _ h => by unfold cC at h; cases h
  f := fun _ _ _ _ _ h => by unfold cF at h; cases h
  i := fun _ _ _ _ _ _ _ h => by unfold cI at h; cases h
  g := fun _ _ _ _ _ _ h => by unfold cG at h; cases h
  gs := fun _ _ _ _ _ _ _ h => by unfold cGs at h; cases h
variable {n : Nat} (ih : Snd B G lv n)
include ih
theorem snd_p {X : Cx} {cc : CC} {W : WX} {e : Option Expr} {ir : E} (g : Good X cc B W G lv) (h : cP (n + 1) cc e = some ir) : DO X B W e fun en S => partR ir.isNon (ev G ir en S) := by
  unfold cP at h
  split at h
  · cases h
    exact do_none
  · rename_i e
    split at h
    · rename_i ir' h1
      split at h
      · cases h
      · rename_i hn
        cases h
        have hn' : ir.isNon = false := by simpa using hn
        rw [hn']
        exact do_some (ih.e X cc W e ir g h1)
    · cases h
theorem snd_a {X : Cx} {cc : CC} {W : WX} {es : List Expr} {ir : Es} (g : Good X cc B W G lv) (h : cA (n + 1) cc es = some ir) : DA X B W es (evs G ir) := by
  unfold cA at h
  split at h
  · cases h
    exact PA.imp da_nil fun st H Q ⟨en, S, ro, re, rh, q⟩ => ⟨en, S, ro, re, rh, by rw [evs] at q; exact q⟩
  · split at h
    · rename_i hs
      split at h
      · rename_i e1 es1 h1 h2
        cases h
        exact PA.imp (da_cons (ih.e X cc W _ e1 g h1) (ih.a X cc W _ es1 g h2) hs) fun st H Q ⟨en, S, ro, re, rh, q⟩ => ⟨en, S, ro, re, rh, by rw [evs] at q; exact q⟩
      · cases h
    · cases h
theorem snd_b {X : Cx} {cc : CC} {W : WX} {o : BoolOp} {es : List Expr} {pos : Pos} {ir : E} (g : Good X cc B W G lv) (h : cB (n + 1) cc o es = some ir) : DE X B W (.BoolOp o es pos) (ev G ir) := by
  unfold cB at h
  split at h
  · cases h
  · exact pe_one (ih.e X cc W _ ir g h)
  · split at h
    · rename_i a b h1 h2
      cases h
      cases o with
      | And => exact DE.eq (de_and (ih.e X cc W _ a g h1) (ih.b X cc W .And _ pos b g h2)) fun en S => by rw [ev] <;> rfl
      | Or => exact DE.eq (de_or (ih.e X cc W _ a g h1) (ih.b X cc W .Or _ pos b g h2)) fun en S => by rw [ev] <;> rfl
    · cases h
theorem snd_tb {X : Cx} {cc : CC} {W : WX} {o : BoolOp} {es : List Expr} {pos : Pos} {ir : E} (g : Good X cc B W G lv) (h : cTB (n + 1) cc o es = some ir) : DW X B W (.BoolOp o es pos) fun en S => testR (ev G ir en S) := by
  unfold cTB at h
  split at h
  · cases h
  · cases o with
    | And => exact dw_and1 (ih.t X cc W _ ir g h)
    | Or => exact dw_or1 (ih.t X cc W _ ir g h)
  · split at h
    · rename_i a b h1 h2
      cases h
      cases o with
      | And => exact PW.imp (dw_and (ih.t X cc W _ a g h1) (ih.tb X cc W .And _ pos b g h2)) fun st H Q ⟨en, S, ro, re, rh, q⟩ => ⟨en, S, ro, re, rh, by dsimp only at q; rw [ev] at q; exact q⟩
      | Or => exact PW.imp (dw_or (ih.t X cc W _ a g h1) (ih.tb X cc W .Or _ pos b g h2)) fun st H Q ⟨en, S, ro, re, rh, q⟩ => ⟨en, S, ro, re, rh, by dsimp only at q; rw [ev] at q; exact q⟩
    · cases h
theorem snd_cmp {X : Cx} {cc : CC} {W : WX} {a b : Expr} {o : CmpOp} {pos : Pos} {ir : E} (g : Good X cc B W G lv) (h : (if notSet b then (match copC o b, cE n cc a, cE n cc b with
      | some o, some a, some b => some (E.cmp o a b)
      | _, _, _ => none) else none) = some ir) : DE X B W (.Compare a [o] [b] pos) (ev G ir) ∧ DT X B W (.Compare a [o] [b] pos) fun en S => testR (ev G ir en S) := by
  split at h
  · rename_i hs
    split at h
    · rename_i o' a' b' h1 h2 h3
      cases h
      have eo := cop_of h1
      subst eo
      refine ⟨DE.eq (de_cmp (ops_cmp (hu64 g) o') (ih.e X cc W _ a' g h2) (ih.e X cc W _ b' g h3) (no_marks hs)) fun en S => by rw [ev, g.kon], ?_⟩
      exact PT.imp (dt_cmp (ops_cmp (hu64 g) o') (ih.e X cc W _ a' g h2) (ih.e X cc W _ b' g h3) (no_marks hs)) fun st H Q ⟨en, S, ro, re, rh, q⟩ => ⟨en, S, ro, re, rh, by dsimp only at q; rw [ev, g.kon] at q; exact q⟩
    · cases h
  · cases h
theorem snd_t {X : Cx} {cc : CC} {W : WX} {e : Expr} {ir : E} (g : Good X cc B W G lv) (h : cT (n + 1) cc e = some ir) : DT X B W e fun en S => testR (ev G ir en S) := by
  unfold cT at h
  split at h
  · obtain ⟨a, h1, rfl⟩ := Option.map_eq_some_iff.mp h
    exact PT.imp (dt_not (ih.t X cc W _ a g h1)) fun st H Q ⟨en, S, ro, re, rh, q⟩ => ⟨en, S, ro, re, rh, by dsimp only at q; rw [ev] at q; exact q⟩
  · exact (ih.tb X cc W _ _ _ ir g h).pt
  · exact (snd_cmp ih g h).2
  · split at h
    · rename_i hp
      exact dt_plain (ih.e X cc W _ ir g h) hp
    · cases h
theorem snd_f {X : Cx} {cc : CC} {ifs : List Expr} {ir : E} (g : Good X cc B W0 G lv) (h : cF (n + 1) cc ifs = some ir) : PTs X ifs (TI B X.K W0 rB fun en S => testR (ev G ir en S)) := by
  unfold cF at h
  split at h
  · cases h
    exact PTs.imp dts_nil fun st H Q ⟨en, S, ro, re, rh, q⟩ => ⟨en, S, ro, re, rh, by dsimp only at q; rw [ev] at q; exact q⟩
  · exact pts_one (ih.t X cc W0 _ ir g h)
  · cases h
theorem snd_g {X : Cx} {cc : CC} {W : WX} {e : Expr} {t : Tg} (g : Good X cc B W G lv) (h : cG (n + 1) cc e = some t) : PG X e (TGI B X.K t) := by
  unfold cG at h
  split at h
  · split at h
    · rename_i hl
      obtain ⟨i, h1, rfl⟩ := Option.map_eq_some_iff.mp h
      obtain ⟨h2, h3⟩ := loc_of g hl
      exact dg_name (by rw [g.N]; exact g.nd) (by rw [g.N]; exact ixS_get h1) h2 h3
    · cases h
  · split at h
    · rename_i hs
      obtain ⟨ts, h1, rfl⟩ := Option.map_eq_some_iff.mp h
      obtain ⟨h2, h3⟩ := ih.gs X cc W _ ts g hs h1
      exact dg_tup g.calm h2 hs h3
    · cases h
  · cases h
theorem snd_gs {X : Cx} {cc : CC} {W : WX} {es : List Expr} {t : Tgs} (g : Good X cc B W G lv) (hs : es.all notStar = true) (h : cGs (n + 1) cc es = some t) : PGs X es (TGIs B X.K t) ∧ tgsLen t = es.length := by
  unfold cGs at h
  split at h
  · cases h
    exact ⟨dgs_nil, rfl⟩
  · rw [List.all_cons, Bool.and_eq_true] at hs
    split at h
    · rename_i t1 h1
      obtain ⟨ts, h2, rfl⟩ := Option.map_eq_some_iff.mp h
      obtain ⟨h3, h4⟩ := ih.gs X cc W _ ts g hs.2 h2
      exact ⟨dgs_cons (ih.g X cc W _ t1 g h1) h3 hs.1, by rw [List.length_cons, ← h4]; rfl⟩
    · cases h
theorem snd_i {X : Cx} {cc : CC} {W : WX} {tg it : Expr} {ir : It} (g : Good X cc B W G lv) (h : cI (n + 1) cc tg it = some ir) : DI X B W tg it (evI G ir) := by
  have seq : ∀ (it : Expr), (cE n cc it).map It.seq = some ir → DI X B W tg it (evI G ir) := fun it h => by
    obtain ⟨a, h1, rfl⟩ := Option.map_eq_some_iff.mp h
    exact PI.imp (di_seq (ih.e X cc W _ a g h1)) fun st H R ⟨en, S, ro, re, rh, q⟩ => ⟨en, S, ro, re, rh, by rw [evI] at q; exact q⟩
  unfold cI at h
  split at h
  · rename_i x p es pos
    split at h
    · rename_i hx
      simp only [Bool.and_eq_true, decide_eq_true_eq] at hx
      obtain ⟨rfl, hf⟩ := hx
      obtain ⟨h1, h2⟩ := free_of g hf
      split at h
      · rename_i a
        split at h
        · rename_i hs
          obtain ⟨a', h3, rfl⟩ := Option.map_eq_some_iff.mp h
          exact PI.imp (di_rng1 h1 h2 (ih.e X cc W _ a' g h3) hs) fun st H R ⟨en, S, ro, re, rh, q⟩ => ⟨en, S, ro, re, rh, by rw [evI] at q; exact q⟩
        · cases h
      · rename_i a b
        split at h
        · rename_i hs
          rw [Bool.and_eq_true] at hs
          split at h
          · rename_i a' b' h3 h4
            cases h
            exact PI.imp (di_rng2 h1 h2 (ih.e X cc W _ a' g h3) (ih.e X cc W _ b' g h4) hs.1 hs.2) fun st H R ⟨en, S, ro, re, rh, q⟩ => ⟨en, S, ro, re, rh, by rw [evI] at q; exact q⟩
          · cases h
        · cases h
      · cases h
    · split at h
      · rename_i hx
        simp only [Bool.and_eq_true, decide_eq_true_eq] at hx
        obtain ⟨rfl, hf⟩ := hx
        obtain ⟨h1, h2⟩ := free_of g hf
        split at h
        · rename_i a b
          split at h
          · rename_i hs
            rw [Bool.and_eq_true] at hs
            split at h
            · rename_i a' b' h3 h4
              cases h
              exact PI.imp (di_zip h1 h2 (ih.e X cc W _ a' g h3) (ih.e X cc W _ b' g h4) hs.1 hs.2) fun st H R ⟨en, S, ro, re, rh, q⟩ => ⟨en, S, ro, re, rh, by rw [evI] at q; exact q⟩
            · cases h
          · cases h
        · cases h
      · exact seq _ h
  · exact seq _ h
theorem snd_c {X : Cx} {cc : CC} {W : WX} {elt tg it : Expr} {ifs : List Expr} {scope : Scope} {ir : E} (g : Good X cc B W G lv) (h : cC (n + 1) cc elt tg it ifs scope = some ir) : CompOk X B W G elt tg it ifs scope ir := by
  unfold cC at h
  split at h
  · rename_i hs
    rw [Bool.and_eq_true] at hs
    split at h
    · rename_i i t e c h1 h2 h3 h4
      split at h
      · rename_i hl
        cases h
        refine ⟨ownOf cc.N scope.names, t, i, c, e, ?_, ih.i X cc W tg it i g h1, fun s H C cl fp => ih.g _ _ W0 tg t (g.blk scope s H C cl fp) h2, fun s H C cl fp => ih.f _ _ ifs c (g.blk scope s H C cl fp) h4, fun s H C cl fp => ih.e _ _ W0 elt e (g.blk scope s H C cl fp) h3, hs.1, fun j hj => ?_, rfl⟩
        · have := blkOk_by hs.2
          rw [g.N, g.sc]
          exact this
        · have := List.all_eq_true.mp hl j hj
          exact List.contains_iff_mem.mp this
      · cases h
    · cases h
  · cases h
theorem snd_blt {X : Cx} {cc : CC} {W : WX} {x : Str} {p pos : Pos} {es : List Expr} {ir : E} (g : Good X cc B W G lv) (hf : freeB cc x = true) (hx : nameB x = true) (h : cBlt (n + 1) cc x es = some ir) : DE X B W (.Call (.Name x p) es [] pos) (ev G ir) := by
  obtain ⟨f1, f2⟩ := free_of g hf
  obtain ⟨n1, n2, n3⟩ := name_of hx
  unfold cBlt at h
  split at h
  · rename_i e
    subst e
    split at h
    · rename_i a y p2
      split at h
      · rename_i hs
        simp only [Bool.and_eq_true] at hs
        obtain ⟨⟨s1, s2⟩, s3⟩ := hs
        obtain ⟨f3, f4⟩ := free_of g s2
        obtain ⟨n4, n5, n6⟩ := name_of s3
        split at h
        · rename_i a' t h1 h2
          cases h
          obtain ⟨T, h3, h4⟩ := ty_of h2
          exact DE.eq (de_isi f1 f2 (by decide +kernel) f3 f4 h4 h3 (ih.e X cc W _ a' g h1) n3 n1 n6 n4 s1) fun en S => by rw [ev]
        · cases h
      · cases h
    · cases h
  · split at h
    · rename_i b hb
      split at h
      · rename_i he
        obtain ⟨as, h1, rfl⟩ := Option.map_eq_some_iff.mp h
        obtain ⟨id, h2, h3⟩ := bif_of (X := X) (B := B) g.calm hb
        cases es with
        | nil => cases he
        | cons e es => exact DE.eq (de_bif h3 f1 f2 h2 (ih.a X cc W _ as g h1) n3 n1 (cA_star h1)) fun en S => by rw [ev]
      · cases h
    · split at h
      · rename_i b hb
        split at h
        · rename_i he
          obtain ⟨as, h1, rfl⟩ := Option.map_eq_some_iff.mp h
          obtain ⟨T, h2, h3⟩ := bty_of (X := X) (B := B) hb
          cases es with
          | nil => cases he
          | cons e es => exact DE.eq (de_bty h3 f1 f2 h2 (ih.a X cc W _ as g h1) n3 n1 (cA_star h1)) fun en S => by rw [ev]
        · cases h
      · cases h
theorem snd_e {X : Cx} {cc : CC} {W : WX} {e : Expr} {ir : E} (g : Good X cc B W G lv) (h : cE (n + 1) cc e = some ir) : DE X B W e (ev G ir) := by
  unfold cE at h
  split at h
  · rename_i c k pos
    split at h
    · cases h
      exact DE.eq (de_cst pe_non fun H ro => .non) fun en S => by rw [ev]
    · cases h
      exact DE.eq (de_cst pe_bl fun H ro => .bl _) fun en S => by rw [ev]
    · cases h
      exact DE.eq (de_cst pe_int fun H ro => .int _) fun en S => by rw [ev]
    · rename_i s
      cases h
      exact DE.eq (de_cst pe_str fun H ro => by
        have e := RV.str (B := B) (K := X.K) (H := H) (ro := ro) s.cps.toList
        rw [toS_of] at e
        exact e) fun en S => by rw [ev]
    · cases h
  · rename_i x pos
    split at h
    · rename_i hx
      obtain ⟨n1, n2, n3⟩ := name_of hx
      split at h
      · rename_i hv
        obtain ⟨i, h1, rfl⟩ := Option.map_eq_some_iff.mp h
        exact DE.eq (de_var (by rw [g.N]; exact ixS_get h1) (by rw [g.sc]; exact vis_of hv) n1 n2) fun en S => by rw [ev] <;> rfl
      · split at h
        · rename_i hg
          split at h
          · rename_i d hd
            cases h
            obtain ⟨v, u, h1, h2, h3⟩ := g.gl.cst x d hd
            exact DE.eq (de_cst (pe_glob (gl_of g hg) h1 h2 n1) h3) fun en S => by rw [ev]
          · cases h
        · cases h
    · cases h
  · split at h
    · rename_i o' a' b' h1 h2 h3
      cases h
      have eo := bop_of h1
      subst eo
      exact DE.eq (de_op (ops_bin o') (ih.e X cc W _ a' g h2) (ih.e X cc W _ b' g h3)) fun en S => by rw [ev]
    · cases h
  · split at h
    · rename_i a' h1
      cases h
      exact DE.eq (de_neg (ih.e X cc W _ a' g h1)) fun en S => by rw [ev] <;> rfl
    · rename_i a' h1
      cases h
      exact DE.eq (de_not (ih.e X cc W _ a' g h1)) fun en S => by rw [ev]
    · cases h
  · exact (snd_cmp ih g h).1
  · exact ih.b X cc W _ _ _ ir g h
  · split at h
    · rename_i c' a' b' h1 h2 h3
      cases h
      exact DE.eq (de_ite (ih.t X cc W _ c' g h1) (ih.e X cc W _ a' g h2) (ih.e X cc W _ b' g h3)) fun en S => by rw [ev]
    · cases h
  · obtain ⟨as, h1, rfl⟩ := Option.map_eq_some_iff.mp h
    exact DE.eq (de_tup (ih.a X cc W _ as g h1)) fun en S => by rw [ev]
  · obtain ⟨as, h1, rfl⟩ := Option.map_eq_some_iff.mp h
    exact DE.eq (de_lst (ih.a X cc W _ as g h1)) fun en S => by rw [ev]
  · cases h
    exact DE.eq (de_dnew cc.dk) fun en S => by rw [ev]
  · split at h
    · rename_i a' l' h' h1 h2 h3
      cases h
      exact DE.eq (de_sl (ih.e X cc W _ a' g h1) (ih.p X cc W _ l' g h2) (ih.p X cc W _ h' g h3)) fun en S => by rw [ev]
    · cases h
  · split at h
    · rename_i hs
      split at h
      · rename_i a' b' h1 h2
        cases h
        exact DE.eq (de_ix (hu1 g) (ih.e X cc W _ a' g h1) (ih.e X cc W _ b' g h2) hs) fun en S => by rw [ev, g.kon]
      · cases h
    · cases h
  · split at h
    · rename_i hs
      split at h
      · rename_i a' f' h1 h2
        cases h
        have ef := g.fld _ _ h2
        subst ef
        exact DE.eq (de_attr g.cl (ih.e X cc W _ a' g h1) hs) fun en S => by rw [ev] <;> rfl
      · cases h
    · cases h
  · rename_i x p es pos
    split at h
    · rename_i hx
      obtain ⟨n1, n2, n3⟩ := name_of hx
      split at h
      · rename_i i k hg
        split at h
        · rename_i hs
          simp only [Bool.and_eq_true, decide_eq_true_eq] at hs
          obtain ⟨as, h1, rfl⟩ := Option.map_eq_some_iff.mp h
          obtain ⟨f, fd, ps, m1, m2, m3, m4⟩ := g.gl.fn x i k hg
          exact DE.eq (de_call m4 g.room (gl_of g hs.1) m1 m2 m3 g.tk (ih.a X cc W _ as g h1) n1 (cA_star h1) (fun e en S => by subst e; rw [cA_nil h1, evs]) fun en S ds S' he => by rw [← hs.2]; exact evs_len he h1) fun en S => by rw [ev]
        · cases h
      · rename_i b hg
        split at h
        · rename_i hs
          rw [Bool.and_eq_true] at hs
          obtain ⟨as, h1, rfl⟩ := Option.map_eq_some_iff.mp h
          obtain ⟨id, m1, m2⟩ := g.gl.bm x b hg
          cases es with
          | nil => cases hs.2
          | cons e es => exact DE.eq (de_bim (cs_bm m1) (gl_of g hs.1) m2 (ih.a X cc W _ as g h1) n1 (cA_star h1)) fun en S => by rw [ev]
        · cases h
      · cases h
      · split at h
        · rename_i hf
          exact ih.blt X cc W x p pos es ir g hf hx h
        · cases h
    · cases h
  · rename_i a f ap b p
    split at h
    · rename_i hs
      simp only [Bool.and_eq_true] at hs
      obtain ⟨⟨s1, s2⟩, s3⟩ := hs
      split at h
      · rename_i a' bs h1 h2
        split at h
        · rename_i e
          subst e
          cases h
          exact DE.eq (de_append (ih.e X cc W _ a' g h1) (ih.a X cc W _ bs g h2) s1 s2 s3) fun en S => by rw [ev]
        · split at h
          · rename_i e
            subst e
            cases h
            exact DE.eq (de_extend (ih.e X cc W _ a' g h1) (ih.a X cc W _ bs g h2) s1 s2 s3) fun en S => by rw [ev]
          · cases h
      · cases h
    · cases h
  · rename_i elt tg it ifs scope pos
    obtain ⟨own, t, i, c, e, h1, h2, h3, h4, h5, h6, h7, rfl⟩ := (ih.c X cc W elt tg it ifs scope ir g h).ex
    exact DE.eq (de_comp g.calm (by rw [g.N]; exact g.nd) h2 h1 h3 h4 h5 h6 h7) fun en S => by rw [ev] <;> rfl
  · cases h
omit ih in
theorem snd_all : ∀ n : Nat, Snd B G lv n
  | 0 => snd_zero
  | n + 1 =>
    have ih := snd_all n
    { e := fun X cc W e ir g h => snd_e ih g h
      b := fun X cc W o es pos ir g h => snd_b ih g h
      p := fun X cc W e ir g h => snd_p ih g h
      t := fun X cc W e ir g h => snd_t ih g h
      tb := fun X cc W o es pos ir g h => snd_tb ih g h
      a := fun X cc W es ir g h => snd_a ih g h
      blt := fun X cc W x p pos es ir g hf hx h => snd_blt ih g hf hx h
      c := fun X cc W elt tg it ifs scope ir g h => snd_c ih g h
      f := fun X cc ifs ir g h => snd_f ih g h
      i := fun X cc W tg it ir g h => snd_i ih g h
      g := fun X cc W e t g h => snd_g ih g h
      gs := fun X cc W es t g hs h => snd_gs ih g hs h }
end
end Lw
end
section
set_option Elab.async false
set_option linter.all false
set_option autoImplicit false
set_option maxHeartbeats 1000000
namespace Lw
open PySem PySem.Spec PyProof.Rows L2
theorem swapped_two {x y : Str} {px py pt pt2 : Pos} {kt k2 : Nat} {a b : Expr} {env : PySem.Env} (hk : env.scope.kind = .function) (hx : env.scope.names.lookup x = some .local) (hy : env.scope.names.lookup y = some .local) (hl : py.line = px.line) (hxy : x ≠ y)
    (ha : notStar a = true) (hb : notStar b = true) (hf : ([a, b].all (foldedForSure 8)) = false) (hc : ([a, b].all (constantsAlone 8)) = false) :
    swappedStores [.Tuple [.Name x px, .Name y py] kt pt] (.Tuple [a, b] k2 pt2) env = pure (some [x, y]) := by
  have hbk : env.blockKind = .function := by unfold Env.blockKind; rw [hk]; rfl
  have kx : env.kindOf x = some .local := hx
  have ky : env.kindOf y = some .local := hy
  have hyx : (y == x) = false := beq_eq_false_iff_ne.mpr (Ne.symm hxy)
  have hxy' : (x == y) = false := beq_eq_false_iff_ne.mpr hxy
  have hf' : (foldedForSure 8 a && (foldedForSure 8 b && true)) = false := hf
  have hc' : (constantsAlone 8 a && (constantsAlone 8 b && true)) = false := hc
  unfold swappedStores
  simp only [List.length_cons, List.length_nil, List.any_cons, List.any_nil, hbk, List.head?_cons, Option.map_some, Option.getD_some, Expr.pos, List.filterMap_cons, List.filterMap_nil, kx, ky, hl, beq_self_eq_true, Bool.and_self, if_true, List.all_cons, List.all_nil, hf', hc', List.eraseDups_cons, List.filter_cons, List.filter_nil, hyx, hxy', Bool.or_false, Bool.not_false, Bool.not_true, Bool.or_true, Bool.true_or, bne_self_eq_false, Bool.false_eq_true, if_false, List.eraseDups_nil, Nat.zero_add, Nat.reduceAdd, Nat.reduceBEq]
  cases a <;> first | (cases ha; done) | (cases b <;> first | (cases hb; done) | rfl)

/-- the context of a def's body -/
structure GoodS (X : Cx) (cc : CC) (B : Tab) (W : WX) (G : Gam) (n : Nat) : Prop where
  g : Good X cc B W G n
  po : PassesOwn (model X.prog X.w) X.A X.env X.xe
structure SndS (B : Tab) (G : Gam) (lv n : Nat) : Prop where
  s : ∀ (X : Cx) (cc : CC) (W : WX) (s : Stmt) (ir : Sm), GoodS X cc B W G lv → cS n cc s = some ir → DS X B W s (ex G ir)
  ss : ∀ (X : Cx) (cc : CC) (W : WX) (s : List Stmt) (ir : Sms), GoodS X cc B W G lv → cSs n cc s = some ir → DSs X B W s (exs G ir)
theorem DS.eq {X : Cx} {B : Tab} {W : WX} {s : Stmt} {r r' : Env → Store → F} (h : DS X B W s r) (k : ∀ en S, r' en S = r en S) : DS X B W s r' := by
  have e : r' = r := funext fun en => funext fun S => k en S
  rw [e]
  exact h
theorem DSs.eq {X : Cx} {B : Tab} {W : WX} {s : List Stmt} {r r' : Env → Store → F} (h : DSs X B W s r) (k : ∀ en S, r' en S = r en S) : DSs X B W s r' := by
  have e : r' = r := funext fun en => funext fun S => k en S
  rw [e]
  exact h
section
variable {B : Tab} {G : Gam} {lv : Nat}
theorem cG_name {n : Nat} {X : Cx} {cc : CC} {W : WX} {x : Str} {p : Pos} {i : Nat} (g : Good X cc B W G lv) (h : cG n cc (.Name x p) = some (.nm i)) : X.N[i]? = some x ∧ Loc X.env.scope x ∧ (X.fn x = true ∨ X.env.scope.names.lookup x = some .local) := by
  cases n with
  | zero => cases h
  | succ n =>
    unfold cG at h
    dsimp only at h
    split at h
    · rename_i hl
      obtain ⟨j, h1, h2⟩ := Option.map_eq_some_iff.mp h
      cases h2
      obtain ⟨h3, h4⟩ := loc_of g hl
      exact ⟨by rw [g.N]; exact ixS_get h1, h3, h4⟩
    · cases h
/-- whether a comprehension's store is exchanged -/
theorem swaps_name {elt : Expr} {gs : List Comprehension} {scope : Scope} {pos py : Pos} {y : Str} {l : Nat} {env : PySem.Env} : ∃ k, swapsWith (.ListComp elt gs scope pos) (some (.Name y py)) l env = pure k ∧ (k = true → env.scope.names.lookup y = some .local) := by
  refine ⟨_, rfl, fun h => ?_⟩
  simp only [Bool.and_eq_true, beq_iff_eq] at h
  exact h.1.1.2
theorem snds_zero : SndS B G lv 0 where
  s := fun _ _ _ _ _ _ h => by unfold cS at h; cases h
  ss := fun _ _ _ _ _ _ h => by unfold cSs at h; cases h
variable {n : Nat} (ih : SndS B G lv n)
include ih
theorem snds_ss {X : Cx} {cc : CC} {W : WX} {s : List Stmt} {ir : Sms} (g : GoodS X cc B W G lv) (h : cSs (n + 1) cc s = some ir) : DSs X B W s (exs G ir) := by
  unfold cSs at h
  split at h
  · cases h
    exact DSs.eq dss_nil fun en S => by rw [exs]
  · split at h
    · rename_i s1 ss1 h1 h2
      cases h
      exact DSs.eq (dss_cons (ih.s X cc W _ s1 g h1) (ih.ss X cc W _ ss1 g h2)) fun en S => by rw [exs] <;> rfl
    · cases h
theorem snds_s {X : Cx} {cc : CC} {W : WX} {s : Stmt} {ir : Sm} (g : GoodS X cc B W G lv) (h : cS (n + 1) cc s = some ir) : DS X B W s (ex G ir) := by
  have sn := snd_all (B := B) (G := G) (lv := lv) n
  have gg := g.g
  unfold cS at h
  split at h
  · rename_i x px y py kt pt a b k2 pt2 pos
    split at h
    · rename_i i j es h1 h2 h3
      split at h
      · rename_i hp
        cases h
        unfold parB at hp
        simp only [Bool.and_eq_true, decide_eq_true_eq, Bool.not_eq_true'] at hp
        obtain ⟨⟨⟨⟨⟨⟨⟨⟨⟨p1, p2⟩, p3⟩, p4⟩, p5⟩, p6⟩, p7⟩, p8⟩, p9⟩, p10⟩ := hp
        have hk : X.env.scope.kind = .function := by
          rw [gg.sc]
          split at p8
          · assumption
          · cases p8
        have p3' : X.env.scope.names.lookup x = some .local := by rw [gg.sc]; exact p3
        have p4' : X.env.scope.names.lookup y = some .local := by rw [gg.sc]; exact p4
        exact DS.eq (ds_par (rs := evs G es) (ps_par gg.calm (by rw [gg.N]; exact gg.nd) (by rw [gg.N]; exact ixS_get h1) (by rw [gg.N]; exact ixS_get h2) p1 p3' p4' (sn.a X cc W _ es gg h3) (swapped_two hk p3' p4' p7 p2 p5 p6 p9 p10) (swaps_sole rfl)) fun en S ds S' he => evs_len he h3) fun en S => by rw [ex, ev] <;> rfl
      · cases h
    · cases h
  · split at h
    · rename_i hs
      rw [Bool.and_eq_true] at hs
      split at h
      · rename_i a' b' e' h1 h2 h3
        cases h
        exact DS.eq (ds_setIx (hu1 gg) (sn.e X cc W _ e' gg h3) (sn.e X cc W _ a' gg h1) (sn.e X cc W _ b' gg h2) hs.1 hs.2) fun en S => by rw [ex, gg.kon] <;> rfl
      · cases h
    · cases h
  · rename_i x px elt tg it ifs scope cp pos
    split at h
    · rename_i i e h1 h2
      cases h
      obtain ⟨own, t, i', c, e', k1, k2, k3, k4, k5, k6, k7, rfl⟩ := (sn.c X cc W elt tg it ifs scope e gg h2).ex
      obtain ⟨n1, n2, n3⟩ := cG_name gg h1
      obtain ⟨k, hk, hl⟩ := swaps_name (elt := elt) (gs := [⟨tg, it, ifs, 0⟩]) (scope := scope) (pos := cp) (py := px) (y := x) (l := pos.line) (env := X.env)
      have nd : X.N.Nodup := by rw [gg.N]; exact gg.nd
      cases k with
      | true => exact DS.eq (ds_setLc gg.calm nd n1 (hl rfl) hk k2 k1 k3 k4 k5 k6 k7) fun en S => by rw [ex, ev] <;> rfl
      | false => exact DS.eq (ds_setN (de_comp gg.calm nd k2 k1 k3 k4 k5 k6 k7) nd n1 n2 hk n3) fun en S => by rw [ex, ev] <;> rfl
    · cases h
  · split at h
    · rename_i hs
      simp only [Bool.and_eq_true, Bool.or_eq_true] at hs
      split at h
      · rename_i t e h1 h2
        cases h
        exact DS.eq (ds_set (sn.e X cc W _ e gg h2) (sn.g X cc W _ t gg h1) hs.1.1 hs.2 hs.1.2) fun en S => by rw [ex] <;> rfl
      · cases h
    · cases h
  · split at h
    · rename_i hs
      obtain ⟨e, h1, rfl⟩ := Option.map_eq_some_iff.mp h
      exact DS.eq (ds_ex (sn.e X cc W _ e gg h1) hs) fun en S => by rw [ex]
    · cases h
  · obtain ⟨e, h1, rfl⟩ := Option.map_eq_some_iff.mp h
    exact DS.eq (ds_ret (sn.e X cc W _ e gg h1)) fun en S => by rw [ex]
  · cases h
    exact DS.eq ds_retN fun en S => by rw [ex]
  · split at h
    · rename_i c a b h1 h2 h3
      cases h
      exact DS.eq (ds_ife (sn.t X cc W _ c gg h1) (ih.ss X cc W _ a g h2) (ih.ss X cc W _ b g h3)) fun en S => by rw [ex]
    · cases h
  · split at h
    · rename_i hs
      split at h
      · rename_i t it b h1 h2 h3
        cases h
        exact DS.eq (ds_for g.po gg.calm (sn.i X cc W _ _ it gg h2) (sn.g X cc W _ t gg h1) (ih.ss X cc W _ b g h3) hs) fun en S => by rw [ex] <;> rfl
      · cases h
    · cases h
  · split at h
    · rename_i c b h1 h2
      cases h
      exact DS.eq (ds_whl (n := G.fuel) g.po (sn.t X cc W _ c gg h1) (ih.ss X cc W _ b g h2)) fun en S => by rw [ex]
    · cases h
  · cases h
    exact DS.eq ds_pass fun en S => by rw [ex]
  · cases h
    exact DS.eq ds_brk fun en S => by rw [ex]
  · cases h
    exact DS.eq ds_cont fun en S => by rw [ex]
  · cases h
omit ih in
theorem snds_all : ∀ n : Nat, SndS B G lv n
  | 0 => snds_zero
  | n + 1 =>
    have ih := snds_all n
    { s := fun X cc W s ir g h => snds_s ih g h
      ss := fun X cc W s ir g h => snds_ss ih g h }
end

/-! ### defs -/
theorem RE.start {B : Tab} {K : PySem.W.Frag} {H : Hp} {ro : List Addr} {ds : List D} {vs : List V} {N : List Str} {m : Nat} (r : RVs B K H ro ds vs) (hm : N.length = m) : RE B K H ro (ds.map some ++ List.replicate (m - ds.length) none) (L2.start N vs) := by
  unfold L2.start
  rw [hm, ← r.length]
  refine ⟨by rw [List.length_append, List.length_append, List.length_map, List.length_map, List.length_replicate, List.length_replicate, r.length], fun i d h => ?_⟩
  by_cases hi : i < ds.length
  · rw [List.getElem?_append_left (by rw [List.length_map]; exact hi), List.getElem?_map] at h
    obtain ⟨d', h1, h2⟩ := Option.map_eq_some_iff.mp h
    cases h2
    obtain ⟨v, h3, h4⟩ := r.get h1
    refine ⟨v, ?_, h4⟩
    rw [List.getElem?_append_left (by rw [List.length_map, ← r.length]; exact hi), List.getElem?_map, h3]
    rfl
  · rw [List.getElem?_append_right (by rw [List.length_map]; omega)] at h
    rw [List.getElem?_replicate] at h
    split at h <;> cases h
/-- THE DEF: the interpreter's call is what the def does -/
theorem fn_ok {P : Program} {w : World} {K : PySem.W.Frag} {mg : Str → Option Value} {base : Heap} {x qual : Str} {params : Arguments} {body : List Stmt} {scope : Scope} {dvs : List V} {kws : List (Str × V)} {f : Addr} {fd : FuncData} {N ps : List Str}
    {B : Tab} {Q : Prog} {n i fuel : Nat} {cc : CC} {fn : Fn} (F : FunD K x qual params body scope dvs kws f fd) (S : FnScope N ps scope) (hN : cc.N = N) (hsc : cc.sc = scope) (hfn : cc.fn = fun _ => true) (hf : Q.fn i = some fn) (hc : cSs fuel cc body = some fn.body) (ha : ps.length = fn.arity) (hs : N.length = fn.slots)
    (hk : Q.kon = B.kon) (hfid : ∀ f g, cc.fid f = some g → B.name g = f) (hcl : ClsOk B K Q.fld) (hg : GlobOk P w K mg base cc.gt B (gamOf Q n) n) : FnOk P w K mg base (L2.CX P w) (n + 1) f fd ps (spI B K (callF Q (n + 1) i) fn.arity) := by
  refine F.ok S (fun vs H Q E h => by rw [ha]; exact h.1) fun cdv A outer s H vs Qv E hr h => ?_
  obtain ⟨hl, ds, St, ro, rv, rh, q⟩ := h
  have hld : ds.length = fn.arity := by rw [rv.length]; exact hl
  have gd : GoodS (cxOf (L2.CX P w) P w K mg base N qual scope f cdv A outer s H E) cc B (fun c d _ H => E c d H) (gamOf Q n) n :=
    { g := { N := hN.symm, nd := by rw [hN]; exact S.nd, sc := hsc.symm, fn := hfn.symm, calm := rfl, room := hr, tk := takes_of rfl rfl rfl rfl, kon := hk, fld := hfid, cl := hcl, gl := hg }
      po := passes_of rfl }
  refine ⟨_, (snds_all fuel).ss _ cc _ body fn.body gd hc, ds.map some ++ List.replicate (fn.slots - fn.arity) none, St, ro, by rw [← hld]; exact RE.start rv hs, rh, ?_⟩
  rw [callF_succ, hf] at q
  dsimp only at q
  rw [if_pos hld] at q
  cases e : exs (gamOf Q n) fn.body (ds.map some ++ List.replicate (fn.slots - fn.arity) none) St with
  | nx en S' =>
    rw [e] at q
    exact fun H' ro' st' x re rh' => q H' ro' .non x rh' .non
  | rt d S' =>
    rw [e] at q
    exact fun H' ro' v x rh' rv' => q H' ro' v x rh' rv'
  | exc z en S' =>
    rw [e] at q
    exact fun H' ro' st' c dd x re rh' rx => q H' ro' c dd x rh' rx
  | bk en S' => rw [e] at q; exact q.elim
  | ct en S' => rw [e] at q; exact q.elim
  | bad => rw [e] at q; exact q.elim
end Lw
end
section
set_option Elab.async false
set_option linter.all false
set_option autoImplicit false
set_option maxHeartbeats 1000000
namespace Lw
open PySem PySem.Spec PyProof.Rows L2
/-! ### a part of the heap in a larger one -/
def Sub (A K : PySem.W.Frag) : Prop := ∀ a o, A.lookup a = some o → K.lookup a = some o
theorem frG_mem {g : Addr → Option Obj} {a : Addr} {o : Obj} (h : g a = some o) : ∀ {as : List Addr}, a ∈ as → (He.frG g as).lookup a = some o
  | [], m => nomatch m
  | b :: r, m => by
    unfold He.frG
    cases hb : g b with
    | none =>
      rw [List.filterMap_cons, hb]
      rcases List.mem_cons.mp m with rfl | m
      · rw [h] at hb; cases hb
      · exact frG_mem h m
    | some ob =>
      rw [List.filterMap_cons, hb]
      show (match a == b with | true => some ob | false => (He.frG g r).lookup a) = some o
      cases q : (a == b) with
      | true =>
        have e := beq_iff_eq.mp q
        subst e
        rw [h] at hb
        cases hb
        rfl
      | false =>
        rcases List.mem_cons.mp m with rfl | m
        · rw [beq_self_eq_true] at q; cases q
        · exact frG_mem h m
def allOf (g : Addr → Option Obj) (h : Heap) : PySem.W.Frag := He.frG g (List.range h.objs.size)
theorem sub_all {g : Addr → Option Obj} {h : Heap} (hg : ∀ a o, g a = some o → h.get? a = some o) (as : List Addr) : Sub (He.frG g as) (allOf g h) := fun a o e => by
  have e1 := He.frG_at as e
  refine frG_mem e1 (List.mem_range.mpr ?_)
  have e2 := hg a o e1
  unfold Heap.get? at e2
  rcases Nat.lt_or_ge a h.objs.size with q | q
  · exact q
  · rw [Array.getElem?_eq_none q] at e2
    cases e2
theorem all_in {g : Addr → Option Obj} {h : Heap} (hg : ∀ a o, g a = some o → h.get? a = some o) : (allOf g h).In h := fun a o e => hg a o (He.frG_at _ e)
section
variable {A K : PySem.W.Frag}
theorem Sub.ns (s : Sub A K) {n : Addr} {x : Str} {r : Option Value} (h : PySem.W.nsIn A n x = some r) : PySem.W.nsIn K n x = some r := by
  unfold PySem.W.nsIn at h ⊢
  split at h
  · rename_i e
    rw [s _ _ e]
    exact h
  · cases h
theorem Sub.code (s : Sub A K) {cd : Value} {q : Str} (h : PySem.W.codeIn A cd q = true) : PySem.W.codeIn K cd q = true := by
  unfold PySem.W.codeIn at h ⊢
  split at h
  · split at h
    · rename_i e
      rw [s _ _ e]
      exact h
    · cases h
  · cases h
theorem keep_fn {f : Addr} {oc : Value} {od : Option Addr} {fd : FuncData} {sl : Array (Option Value)} (h : K.lookup f = some ⟨oc, od, .func fd, sl⟩) : PySem.W.keepIn K (.ref f) = true := by
  unfold PySem.W.keepIn
  dsimp only
  rw [h]
theorem Sub.funD (s : Sub A K) {x qual : Str} {params : Arguments} {body : List Stmt} {scope : Scope} {f : Addr} {fd : FuncData} (F : FunD A x qual params body scope [] [] f fd) : FunD K x qual params body scope [] [] f fd := by
  obtain ⟨oc, od, dV, kV, doc, pm, an, cdv, ct, osl, e, lk, hcd, hD, hK⟩ := F.ex
  refine ⟨⟨oc, od, dV, kV, doc, pm, an, cdv, ct, osl, e, s _ _ lk, s.code hcd, ?_, .inl rfl⟩, keep_fn (s _ _ lk)⟩
  rcases hD with h | ⟨h, _⟩
  · exact .inl h
  · exact absurd rfl h
end
/-! ### the head's facts -/
inductive Fb where
  | blt (x : Str) (id : String)
  | fr (x : Str)
  | int (x : Str) (i : Int)
  | str (x z : Str)
def Fb.ok (K : PySem.W.Frag) : Fb → Bool
  | .blt x id => He.eqO (PySem.W.nsIn K mainGlobals x) (some (some (.builtin id)))
  | .fr x => (He.Fa.free x).ok K
  | .int x i => (He.Fa.int x i).ok K
  | .str x z => (He.Fa.str x z).ok K
/-- what the def at f needs -/
def atD (g : Addr → Option Obj) (f : Addr) : List Addr := mainGlobals :: f :: (match g f with
  | some o => He.refsD o
  | none => [])
def kMain (g : Addr → Option Obj) : PySem.W.Frag := He.frG g [mainGlobals]
def kDef (g : Addr → Option Obj) (d : He.DefD) : PySem.W.Frag := He.frG g (atD g (He.fAd (kMain g) d.at_))
def okDef (g : Addr → Option Obj) (d : He.DefD) : Bool := d.ok (kDef g d) && (He.Fa.glo d.at_.1).ok (kDef g d)
abbrev AlL : Type := Bool × List He.FnW
def obsL (fb : List Fb) (fn : List He.DefD) (g : Addr → Option Obj) : AlL := ((fb.all fun f => f.ok (kMain g)) && fn.all fun d => okDef g d, fn.map fun d => He.fnW (kDef g d) d.at_)
def valL (fn : List He.DefD) : AlL := (true, fn.map He.DefD.val)
def SaysL (fb : List Fb) (fn : List He.DefD) (h : Heap) : Prop := ∃ g : Addr → Option Obj, (∀ a o, g a = some o → h.get? a = some o) ∧ obsL fb fn g = valL fn
def hookL (fb : List Fb) (fn : List He.DefD) : PySem.W.Hook where
  α := AlL
  obs := fun s => obsL fb fn s.heap.get?
  val := fun _ => valL fn
  says := fun _ h => SaysL fb fn h
  of := fun _ _ e => ⟨_, fun _ _ z => z, e⟩
  keeps := fun _ _ _ ⟨g, hg, c⟩ k => ⟨g, fun a o e => k _ _ (hg a o e), c⟩
theorem obsL_eq {fb : List Fb} {fn : List He.DefD} {g : Addr → Option Obj} {s : Shared} (h : ∀ a, g a = s.heap.get? a) : obsL fb fn g = (hookL fb fn).obs s := by
  have e : g = s.heap.get? := funext h
  rw [e] <;> rfl
section
variable {fb : List Fb} {fn : List He.DefD} {g : Addr → Option Obj} {h : Heap} {mg : Str → Option Value}
theorem l_fact (c : obsL fb fn g = valL fn) {f : Fb} (m : f ∈ fb) : f.ok (kMain g) = true := by
  have c1 := (He.ba (show ((fb.all fun f => f.ok (kMain g)) && fn.all fun d => okDef g d) = true from congrArg (fun z : AlL => z.1) c)).1
  exact List.all_eq_true.mp c1 f m
theorem l_def (hg : ∀ a o, g a = some o → h.get? a = some o) (G : h.Ns mainGlobals mg) (c : obsL fb fn g = valL fn) {d : He.DefD} (m : d ∈ fn) (hd : d.dfl = []) (hk : d.kwd = []) (hn : d.at_.2 = none) :
    ∃ f fd, mg d.at_.1 = some (.ref f) ∧ FunD (allOf g h) d.name d.qual d.params d.body d.scope [] [] f fd := by
  have c2 := (He.ba (show ((fb.all fun f => f.ok (kMain g)) && fn.all fun d => okDef g d) = true from congrArg (fun z : AlL => z.1) c)).2
  have e : fn.map (fun d => He.fnW (kDef g d) d.at_) = fn.map He.DefD.val := congrArg (fun z : AlL => z.2) c
  obtain ⟨i, hi⟩ := List.getElem?_of_mem m
  have e2 : (fn.map fun d => He.fnW (kDef g d) d.at_)[i]? = (fn.map He.DefD.val)[i]? := by rw [e]
  rw [List.getElem?_map, List.getElem?_map, hi] at e2
  obtain ⟨k1, k2⟩ := He.ba (show (d.ok (kDef g d) && (He.Fa.glo d.at_.1).ok (kDef g d)) = true from List.all_eq_true.mp c2 d m)
  obtain ⟨fd, F⟩ := He.DefD.funD (Option.some.inj e2) k1
  have Xi : (kDef g d).In h := fun a o e => hg a o (He.frG_at _ e)
  have gm := He.glo_ok Xi G k2
  have F2 : FunD (kDef g d) d.name d.qual d.params d.body d.scope [] [] (He.fAd (kDef g d) d.at_) fd := by
    have e1 : d.dvs (kDef g d) = [] := by unfold He.DefD.dvs; rw [hd]; rfl
    have e2 : d.kws (kDef g d) = [] := by unfold He.DefD.kws; rw [hk]; rfl
    rw [e1, e2] at F
    exact F
  refine ⟨_, fd, ?_, (sub_all hg _).funD F2⟩
  rw [gm]
  unfold He.fAd
  rw [hn]
theorem l_blt (hg : ∀ a o, g a = some o → h.get? a = some o) (G : h.Ns mainGlobals mg) (c : obsL fb fn g = valL fn) {x : Str} {id : String} (m : Fb.blt x id ∈ fb) : mg x = some (.builtin id) :=
  PySem.W.mg_of (K := kMain g) (fun a o e => hg a o (He.frG_at _ e)) G (He.eqO_ok (l_fact c m))
theorem l_free (hg : ∀ a o, g a = some o → h.get? a = some o) (G : h.Ns mainGlobals mg) (c : obsL fb fn g = valL fn) {x : Str} (m : Fb.fr x ∈ fb) : mg x = none :=
  He.free_ok (K := kMain g) (fun a o e => hg a o (He.frG_at _ e)) G (l_fact c m)
theorem l_int (hg : ∀ a o, g a = some o → h.get? a = some o) (G : h.Ns mainGlobals mg) (c : obsL fb fn g = valL fn) {x : Str} {i : Int} (m : Fb.int x i ∈ fb) : ∃ t, mg x = some (.int i t) :=
  He.int_ok (K := kMain g) (fun a o e => hg a o (He.frG_at _ e)) G (l_fact c m)
theorem l_str (hg : ∀ a o, g a = some o → h.get? a = some o) (G : h.Ns mainGlobals mg) (c : obsL fb fn g = valL fn) {x z : Str} (m : Fb.str x z ∈ fb) : ∃ t, mg x = some (.str z t) :=
  He.str_ok (K := kMain g) (fun a o e => hg a o (He.frG_at _ e)) G (l_fact c m)
end
/-! ### all defs, level by level -/
structure DefL where
  d : He.DefD
  N : List Str
  ps : List Str
  fn : Fn
  dk : Bool
structure DefOk (gt : Str → Option GK) (fid : Str → Option Nat) (fuel : Nat) (L : DefL) : Prop where
  sc : FnScope L.N L.ps L.d.scope
  comp : cSs fuel ⟨L.N, L.d.scope, fun _ => true, gt, fid, L.dk⟩ L.d.body = some L.fn.body
  ar : L.ps.length = L.fn.arity
  sl : L.N.length = L.fn.slots
  bind : ∀ (kV doc pm : Value) (an : Option Addr) (cdv ct : Value) (us : List Value), us.length = L.ps.length → bindArgs (PySem.W.fnOf L.d.name L.d.qual L.d.params L.d.body L.d.scope .none kV doc pm an cdv ct) ⟨us, []⟩ = pure (L.ps.zip us)
  dfl : L.d.dfl = []
  kwd : L.d.kwd = []
  at_ : L.d.at_.2 = none
/-- the module's names: the defs by their places, functions of other modules, constants -/
def gtFns : Nat → List DefL → List (Str × GK)
  | _, [] => []
  | i, L :: r => (L.d.at_.1, .fn i L.fn.arity) :: gtFns (i + 1) r
def gtOf (Ls : List DefL) (bs : List (Str × Bif)) (cs : List (Str × D)) : Str → Option GK := fun x => (gtFns 0 Ls ++ (bs.map (fun p : Str × Bif => (p.1, GK.bm p.2)) ++ cs.map fun p : Str × D => (p.1, GK.cst p.2))).lookup x
def progOf (Ls : List DefL) (fuel : Nat) (kon : D → Bool) (meth : Nat → Nat → Option Nat) (fld : Nat → Nat → Bool) : Prog := ⟨fun i => (Ls[i]?).map (·.fn), meth, fuel, kon, fld⟩
theorem lookup_mem {β : Type} {x : Str} {b : β} : ∀ {l : List (Str × β)}, l.lookup x = some b → (x, b) ∈ l
  | [], h => by cases h
  | (y, c) :: r, h => by
    have h' : (match x == y with | true => some c | false => r.lookup x) = some b := h
    cases q : (x == y) with
    | true =>
      rw [q] at h'
      cases h'
      have e : x = y := eq_of_beq q
      rw [e]
      exact .head _
    | false =>
      rw [q] at h'
      exact .tail _ (lookup_mem h')
theorem gtFns_mem {x : Str} {g : GK} : ∀ {Ls : List DefL} {j : Nat}, (x, g) ∈ gtFns j Ls → ∃ i L, Ls[i]? = some L ∧ x = L.d.at_.1 ∧ g = .fn (j + i) L.fn.arity
  | [], _, h => by cases h
  | L :: r, j, h => by
    rcases List.mem_cons.mp h with h | h
    · cases h
      exact ⟨0, L, rfl, rfl, rfl⟩
    · obtain ⟨i, L', h1, h2, h3⟩ := gtFns_mem h
      exact ⟨i + 1, L', h1, h2, by rw [h3]; congr 1; omega⟩
theorem spI_bad {B : Tab} {K : PySem.W.Frag} {k : Nat} {vs : List V} {H : Hp} {Q : VK} {E : XK} (h : spI B K (fun _ _ => .bad) k vs H Q E) : False := by
  obtain ⟨_, _, _, _, _, _, q⟩ := h
  exact q
section
variable {P : Program} {w : World} {K : PySem.W.Frag} {mg : Str → Option Value} {base : Heap} {Ls : List DefL} {bs : List (Str × Bif)} {cs : List (Str × D)} {fid : Str → Option Nat} {fuel wf : Nat} {B : Tab} {meth : Nat → Nat → Option Nat} {fld : Nat → Nat → Bool}
/-- what the head gives -/
structure HeadOk (K : PySem.W.Frag) (mg : Str → Option Value) (Ls : List DefL) (bs : List (Str × Bif)) (cs : List (Str × D)) (B : Tab) (gt : Str → Option GK) : Prop where
  fn : ∀ L ∈ Ls, ∃ f fd, mg L.d.at_.1 = some (.ref f) ∧ FunD K L.d.name L.d.qual L.d.params L.d.body L.d.scope [] [] f fd
  bm : ∀ p ∈ bs, ∃ id, bmId p.2 = some id ∧ mg p.1 = some (.builtin id)
  cst : ∀ p ∈ cs, ∃ (v : V) (u : Value), mg p.1 = some u ∧ RelV v u ∧ ∀ H ro, RV B K H ro p.2 v
  free : ∀ x, gt x = none → x ∈ blts → mg x = none
theorem glob_all (hk : (progOf Ls wf B.kon meth fld).kon = B.kon) (hfid : ∀ f g, fid f = some g → B.name g = f) (hcl : ClsOk B K fld) (hh : HeadOk K mg Ls bs cs B (gtOf Ls bs cs)) (hd : ∀ L ∈ Ls, DefOk (gtOf Ls bs cs) fid fuel L) :
    ∀ n, GlobOk P w K mg base (gtOf Ls bs cs) B (gamOf (progOf Ls wf B.kon meth fld) n) n := by
  have fns : ∀ x i k, gtOf Ls bs cs x = some (.fn i k) → ∃ L, Ls[i]? = some L ∧ x = L.d.at_.1 ∧ k = L.fn.arity := fun x i k h => by
    rcases List.mem_append.mp (lookup_mem h) with h | h
    · obtain ⟨j, L, h1, h2, h3⟩ := gtFns_mem h
      cases h3
      exact ⟨L, by rw [Nat.zero_add]; exact h1, h2, rfl⟩
    · rcases List.mem_append.mp h with h | h
      · obtain ⟨p, _, e⟩ := List.mem_map.mp h
        cases e
      · obtain ⟨p, _, e⟩ := List.mem_map.mp h
        cases e
  have bms : ∀ x b, gtOf Ls bs cs x = some (.bm b) → (x, b) ∈ bs := fun x b h => by
    rcases List.mem_append.mp (lookup_mem h) with h | h
    · obtain ⟨j, L, h1, h2, h3⟩ := gtFns_mem h
      cases h3
    · rcases List.mem_append.mp h with h | h
      · obtain ⟨p, m, e⟩ := List.mem_map.mp h
        cases e
        exact m
      · obtain ⟨p, _, e⟩ := List.mem_map.mp h
        cases e
  have css : ∀ x d, gtOf Ls bs cs x = some (.cst d) → (x, d) ∈ cs := fun x d h => by
    rcases List.mem_append.mp (lookup_mem h) with h | h
    · obtain ⟨j, L, h1, h2, h3⟩ := gtFns_mem h
      cases h3
    · rcases List.mem_append.mp h with h | h
      · obtain ⟨p, _, e⟩ := List.mem_map.mp h
        cases e
      · obtain ⟨p, m, e⟩ := List.mem_map.mp h
        cases e
        exact m
  have step : ∀ n, (∀ x i k, gtOf Ls bs cs x = some (.fn i k) → ∃ (f : Addr) (fd : FuncData) (ps : List Str), mg x = some (.ref f) ∧ PySem.W.keepIn K (.ref f) = true ∧ Binds K fd ps [] ∧ FnOk P w K mg base (L2.CX P w) n f fd ps (spI B K ((gamOf (progOf Ls wf B.kon meth fld) n).call i) k)) →
      GlobOk P w K mg base (gtOf Ls bs cs) B (gamOf (progOf Ls wf B.kon meth fld) n) n := fun n h =>
    { fn := h
      bm := fun x b e => hh.bm _ (bms x b e)
      cst := fun x d e => hh.cst _ (css x d e)
      free := hh.free }
  intro n
  induction n with
  | zero =>
    refine step 0 fun x i k h => ?_
    obtain ⟨L, h1, h2, h3⟩ := fns x i k h
    obtain ⟨f, fd, m, F⟩ := hh.fn L (List.mem_of_getElem? h1)
    have D := hd L (List.mem_of_getElem? h1)
    refine ⟨f, fd, L.ps, by rw [h2]; exact m, F.kp, F.bindsN D.bind, ?_⟩
    exact ⟨fun vs H Q E q => (spI_bad q).elim, fun A outer s H args us vs Q E hr he hb hv q => (spI_bad q).elim⟩
  | succ n ih =>
    refine step (n + 1) fun x i k h => ?_
    obtain ⟨L, h1, h2, h3⟩ := fns x i k h
    obtain ⟨f, fd, m, F⟩ := hh.fn L (List.mem_of_getElem? h1)
    have D := hd L (List.mem_of_getElem? h1)
    refine ⟨f, fd, L.ps, by rw [h2]; exact m, F.kp, F.bindsN D.bind, ?_⟩
    have hf : (progOf Ls wf B.kon meth fld).fn i = some L.fn := by
      show (Ls[i]?).map (·.fn) = _
      rw [h1]; rfl
    rw [h3]
    exact fn_ok (cc := ⟨L.N, L.d.scope, fun _ => true, gtOf Ls bs cs, fid, L.dk⟩) F D.sc rfl rfl rfl hf D.comp D.ar D.sl hk hfid hcl ih
end
/-! ### the law's end -/
theorem only_fro {K : PySem.W.Frag} {H : Hp} {a : Addr} {vs : List V} (o : Only H) (h : SqL K H a vs) : FroAt K H a vs := by
  rcases h with h | h
  · rcases h with h | h
    · rcases o a with z | ⟨ob, xs, z⟩
      · rw [z] at h; cases h
      · rw [z] at h; cases h
    · exact .inl h
  · exact .inr h
theorem ints_rv {B : Tab} {K : PySem.W.Frag} {H : Hp} {ro : List Addr} : ∀ ns : List Int, RVs B K H ro (ns.map D.int) (ns.map V.int)
  | [] => .nil
  | n :: ns => .cons (.int n) (ints_rv ns)
theorem law_sp {B : Tab} {K : PySem.W.Frag} {g : List D → Store → R D} {H : Hp} {a : Addr} {ns : List Int} (o : Only H) (h : SqL K H a (ns.map V.int)) (hp : ∃ S, g [.loc 0] [.fro (ns.map D.int)] = .ok (.bl true) S) :
    spI B K g 1 [.ref a] H (fun v _ => v = .bl true) fun _ _ _ => False := by
  obtain ⟨S, e⟩ := hp
  refine ⟨rfl, [.loc 0], [.fro (ns.map D.int)], [a], .cons (.loc rfl) .nil, ⟨rfl, ?_, ?_⟩, ?_⟩
  · intro n m b o o' hn h1 h2
    rcases n with _ | n
    · rcases m with _ | m
      · exact absurd rfl hn
      · cases h2
    · cases h1
  · intro n o h1
    rcases n with _ | n
    · cases h1
      exact ⟨a, rfl, _, only_fro ‹_› h, ints_rv ns⟩
    · cases h1
  · rw [e]
    intro H' ro' v x rh rv
    cases rv
    rfl
end Lw
namespace Lw
open PySem PySem.Spec PyProof.Rows L2
/-- field names where there are no classes -/
def nameA (i : Nat) : Str := ⟨Array.replicate i 97⟩
def tab0 (kon : D → Bool) : Tab := ⟨nameA, fun _ => none, kon⟩
theorem cls0 {kon : D → Bool} {K : PySem.W.Frag} {fld : Nat → Nat → Bool} : ClsOk (tab0 kon) K fld where
  inj := fun f g e => by
    have e1 : (nameA f).cps.size = (nameA g).cps.size := by
      have e2 : nameA f = nameA g := e
      rw [e2]
    unfold nameA at e1
    rw [Array.size_replicate, Array.size_replicate] at e1
    exact e1
  cls := fun _ _ h => by cases h
  no := fun _ _ _ h => by cases h
/-- a law of a program without classes; its constants are ints and texts -/
theorem law_end0 {P : Program} {w : World} {mg : Str → Option Value} {h : Heap} {f : Addr} {Ls : List DefL} {bs : List (Str × Bif)} {cs : List (Str × D)} {fuel wf lv i : Nat} {fb : List Fb} {L : DefL} {x : Str} {g : Addr → Option Obj}
    (hg : ∀ a o, g a = some o → h.get? a = some o) (G : h.Ns mainGlobals mg) (c : obsL fb (Ls.map (·.d)) g = valL (Ls.map (·.d)))
    (hd : ∀ L ∈ Ls, DefOk (gtOf Ls bs cs) (fun _ => none) fuel L) (hb : ∀ p ∈ bs, ∃ id, bmId p.2 = some id ∧ Fb.blt p.1 id ∈ fb) (hfr : ∀ x ∈ blts, gtOf Ls bs cs x = none → Fb.fr x ∈ fb) (hcs : ∀ p ∈ cs, (∃ i, p.2 = .int i ∧ Fb.int p.1 i ∈ fb) ∨ ∃ z, p.2 = .str z ∧ Fb.str p.1 (toS z) ∈ fb)
    (hl : Ls[i]? = some L) (hx : L.ps = [x]) (hfa : mg L.d.at_.1 = some (.ref f)) (hgt : gtOf Ls bs cs L.d.at_.1 = some (.fn i 1)) :
    ∃ fd : FuncData, (∀ (s : Shared) (u : Value), BindsTo s fd ⟨[u], []⟩ [(x, u)]) ∧
      ∀ base : Heap, (allOf g h).In base → base.Ns mainGlobals mg → FnOk P w (allOf g h) mg base (L2.CX P w) lv f fd [x] (spI (tab0 fun _ => false) (allOf g h) (callF (progOf Ls wf (fun _ => false) (fun _ _ => none) fun _ _ => false) lv i) 1) := by
  have hh : ∀ L ∈ Ls, ∃ f fd, mg L.d.at_.1 = some (.ref f) ∧ FunD (allOf g h) L.d.name L.d.qual L.d.params L.d.body L.d.scope [] [] f fd := fun L m =>
    l_def hg G c (List.mem_map.mpr ⟨L, m, rfl⟩) (hd L m).dfl (hd L m).kwd (hd L m).at_
  have m := List.mem_of_getElem? hl
  obtain ⟨f', fd, e1, F⟩ := hh L m
  rw [hfa] at e1
  cases e1
  have D := hd L m
  refine ⟨fd, fun s u => ?_, fun base _ _ => ?_⟩
  · have b := FunD.bindsA F D.bind s [u] (by rw [hx]; rfl)
    rw [hx] at b
    exact b
  · have H : HeadOk (allOf g h) mg Ls bs cs (tab0 fun _ => false) (gtOf Ls bs cs) :=
      { fn := hh
        bm := fun p m => by
          obtain ⟨id, e, m'⟩ := hb p m
          exact ⟨id, e, l_blt hg G c m'⟩
        cst := fun p m => by
          obtain ⟨x, d⟩ := p
          rcases hcs _ m with ⟨i, e, m'⟩ | ⟨z, e, m'⟩
          · obtain ⟨t, e2⟩ := l_int hg G c m'
            have e' : d = .int i := e
            subst e'
            exact ⟨.int i, .int i t, e2, ⟨t, rfl⟩, fun _ _ => .int i⟩
          · obtain ⟨t, e2⟩ := l_str hg G c m'
            have e' : d = .str z := e
            subst e'
            exact ⟨.str (toS z), .str (toS z) t, e2, ⟨t, rfl⟩, fun _ _ => .str z⟩
        free := fun x e m => l_free hg G c (hfr x m e) }
    have gl := glob_all (P := P) (w := w) (base := base) (fid := fun _ => none) (fuel := fuel) (wf := wf) (meth := fun _ _ => none) (fld := fun _ _ => false) rfl (fun _ _ e => by cases e) cls0 H hd lv
    obtain ⟨f2, fd2, ps, e2, kp, bi, ok⟩ := gl.fn _ _ _ hgt
    rw [hfa] at e2
    cases e2
    cases lv with
    | zero => exact ⟨fun vs H Q E q => (spI_bad q).elim, fun A outer s H args us vs Q E hr he hb hv q => (spI_bad q).elim⟩
    | succ n =>
      have gn := glob_all (P := P) (w := w) (base := base) (fid := fun _ => none) (fuel := fuel) (wf := wf) (meth := fun _ _ => none) (fld := fun _ _ => false) rfl (fun _ _ e => by cases e) cls0 H hd n
      have hf : (progOf Ls wf (fun _ => false) (fun _ _ => none) fun _ _ => false).fn i = some L.fn := by
        show (Ls[i]?).map (·.fn) = _
        rw [hl]; rfl
      have ar : L.fn.arity = 1 := by rw [← D.ar, hx]; rfl
      have q := fn_ok (cc := ⟨L.N, L.d.scope, fun _ => true, gtOf Ls bs cs, fun _ => none, L.dk⟩) (B := tab0 fun _ => false) (Q := progOf Ls wf (fun _ => false) (fun _ _ => none) fun _ _ => false) F D.sc rfl rfl rfl hf D.comp D.ar D.sl rfl (fun _ _ e => by cases e) cls0 gn
      rw [hx, ar] at q
      exact q
end Lw
namespace Lw
open PySem PySem.Spec PyProof.Rows L2
/-- the end, what flies out may lean on the world -/
theorem walkL {l : PySem.W.OpenLaw} {n k : Nat} {q : Program} {loose : List Str} {XP : (Str → Option Value) → Heap → Prop} {YP : World → Heap → Prop} {d : DefRec} {x : Str}
    (e1 : l.most = some n) (e2 : n ≤ sizeLine) (e3 : d.params.defaults = []) (rm : Room k callerA)
    (F : ∀ (w : World) (mg : Str → Option Value) (fa : Addr) (h : Heap), YP w h → h.Ns mainGlobals mg → mg d.name = some (.ref fa) →
      ∃ (K : PySem.W.Frag) (fd : FuncData) (sp : Sp), K.In h ∧ (∀ (s : Shared) (u : Value), BindsTo s fd ⟨[u], []⟩ [(x, u)]) ∧
        (∀ (H : Hp) (a : Addr) (ns : List Int), ns.length ≤ n → (∀ z ∈ ns, Builtin.Int.intBits z ≤ 1048576) → Only H → SqL K H a (ns.map V.int) → sp [.ref a] H (fun v _ => v = .bl true) fun _ _ _ => False) ∧
        ∀ base : Heap, K.In base → base.Ns mainGlobals mg → FnOk l.prog w K mg base (L2.CX l.prog w) k fa fd [x] sp) :
    PySem.W.WalkO q loose XP YP l.row.toRowW d [] (fun f vs => PySem.call f vs) :=
  Att.attach_callB e1 e3 fun w t₀ t₁ mg mb fa ob pm cd doc a us zs gr Y p1 p2 p3 p4 p5 p6 p7 p8 p9 =>
    have ⟨_, _, _, KX, hb, hsp, hF⟩ := F w mg fa _ Y gr.T.g p4
    law_call KX gr.T.g gr.T.b gr.T.builtins gr.T.nolimit p9 p5 p6 (Nat.le_trans p7 e2) rm hF hb (fun H hO hS => hsp H a zs p7 p8 hO hS) fun H e s' h =>
      have ⟨_, _, _, _, _, _, _, _, _, _, _, _, z⟩ := h
      z
end Lw
end
section
set_option Elab.async false
set_option linter.all false
set_option autoImplicit false
namespace Lw
/-! ### running by simp -/
/-- the body of a for, of a comprehension -/
def forB (Γ : Gam) (t : Tg) (b : Sms) (d : D) (en : Env) (S : Store) : F := match asg t d en with
    | some en' => exs Γ b en' S
    | none => .bad
def cmpB (Γ : Gam) (elt : E) (tg : Tg) (own : List Nat) (c : E) (en : Env) (d : D) (S : Store) : R (Option D) := match asg tg d (wipeE en own) with
        | some en' => (testR (ev Γ c en' S)).bind fun b S' => if b = true then (ev Γ elt en' S').bind fun y S'' => .ok (some y) S'' else .ok none S'
        | none => .bad
section
variable {α β : Type} (Γ : Gam) (en : Env) (S : Store)
@[simp] theorem bind_ok (a : α) (f : α → Store → R β) : R.bind (.ok a S) f = f a S := Eq.trans rfl rfl
@[simp] theorem bind_bad (f : α → Store → R β) : R.bind .bad f = .bad := Eq.trans rfl rfl
@[simp] theorem thn_ok (a : α) (f : α → Store → F) : R.thn (.ok a S) en f = f a S := Eq.trans rfl rfl
@[simp] theorem fin_nx : R.fin (.nx en S) = .ok .non S := Eq.trans rfl rfl
@[simp] theorem fin_rt (d : D) : R.fin (.rt d S) = .ok d S := Eq.trans rfl rfl
@[simp] theorem evr_var (i : Nat) : ev Γ (.var i) en S = match en[i]? with | some (some d) => .ok d S | _ => .bad := by rw [ev] <;> rfl
@[simp] theorem evr_cst (d : D) : ev Γ (.cst d) en S = .ok d S := by rw [ev]
@[simp] theorem evr_bin (o : Bop) (a b : E) : ev Γ (.bin o a b) en S = (ev Γ a en S).bind fun x S1 => (ev Γ b en S1).bind fun y S2 => binD o x y S2 := by rw [ev]
@[simp] theorem evr_neg (a : E) : ev Γ (.neg a) en S = (ev Γ a en S).bind fun x S1 => match x with
    | .int i => .ok (.int (-i)) S1
    | _ => .bad := by rw [ev] <;> rfl
@[simp] theorem evr_not (a : E) : ev Γ (.not a) en S = (ev Γ a en S).bind fun x S1 => boolR ((truth S1 x).map (!·)) S1 := by rw [ev]
@[simp] theorem evr_cmp (o : Cop) (a b : E) : ev Γ (.cmp o a b) en S = (ev Γ a en S).bind fun x S1 => (ev Γ b en S1).bind fun y S2 => boolR (cmpD Γ.kon o S2 x y) S2 := by rw [ev]
@[simp] theorem evr_and (a b : E) : ev Γ (.and a b) en S = (ev Γ a en S).bind fun x S1 => match truth S1 x with
    | some true => ev Γ b en S1
    | some false => .ok x S1
    | none => .bad := by rw [ev] <;> rfl
@[simp] theorem evr_or (a b : E) : ev Γ (.or a b) en S = (ev Γ a en S).bind fun x S1 => match truth S1 x with
    | some true => .ok x S1
    | some false => ev Γ b en S1
    | none => .bad := by rw [ev] <;> rfl
@[simp] theorem evr_ite (c a b : E) : ev Γ (.ite c a b) en S = (testR (ev Γ c en S)).bind fun k S1 => if k = true then ev Γ a en S1 else ev Γ b en S1 := by rw [ev]
@[simp] theorem evr_tup (es : Es) : ev Γ (.tup es) en S = (evs Γ es en S).bind fun ds S1 => if ds.length ≤ line then .ok (.tup ds) S1 else .bad := by rw [ev]
@[simp] theorem evr_lst (es : Es) : ev Γ (.lst es) en S = (evs Γ es en S).bind fun ds S1 => if ds.length ≤ line then .ok (.loc S1.length) (S1 ++ [.lst ds]) else .bad := by rw [ev]
@[simp] theorem evr_dnew (t : Bool) : ev Γ (.dnew t) en S = .ok (.loc S.length) (S ++ [.dct t []]) := by rw [ev]
@[simp] theorem evr_ix (a b : E) : ev Γ (.ix a b) en S = (ev Γ a en S).bind fun x S1 => (ev Γ b en S1).bind fun y S2 => dR (getIx Γ.kon S2 x y) S2 := by rw [ev]
@[simp] theorem evr_sl (a lo hi : E) : ev Γ (.sl a lo hi) en S = (ev Γ a en S).bind fun x S1 => (partR lo.isNon (ev Γ lo en S1)).bind fun y S2 => (partR hi.isNon (ev Γ hi en S2)).bind fun z S3 => sliceD x y z S3 := by rw [ev]
@[simp] theorem evr_call (f : Nat) (es : Es) : ev Γ (.call f es) en S = (evs Γ es en S).bind fun ds S1 => Γ.call f ds S1 := by rw [ev]
@[simp] theorem evr_bif (b : Bif) (es : Es) : ev Γ (.bif b es) en S = (evs Γ es en S).bind fun ds S1 => bifD b ds S1 := by rw [ev]
@[simp] theorem evr_bmt (m : Bmt) (e : E) (es : Es) : ev Γ (.bmt m e es) en S = (ev Γ e en S).bind fun x S1 => if isLst S1 x = true then (evs Γ es en S1).bind fun ds S2 => bmtD m x ds S2 else .bad := by rw [ev]
@[simp] theorem evr_isi (e : E) (t : Ty) : ev Γ (.isi e t) en S = (ev Γ e en S).bind fun x S1 => boolR (isiD S1 t x) S1 := by rw [ev]
@[simp] theorem evr_comp (elt : E) (tg : Tg) (own : List Nat) (it : It) (c : E) : ev Γ (.comp elt tg own it c) en S = (evI Γ it en S).bind fun src S1 =>
      loopC src.rd (cmpB Γ elt tg own c en) src.n S1.length src.n (S1 ++ [.lst []]) := by rw [ev] <;> rfl
@[simp] theorem evs_nil : evs Γ .nil en S = .ok [] S := by rw [evs]
@[simp] theorem evs_cons (e : E) (es : Es) : evs Γ (.cons e es) en S = (ev Γ e en S).bind fun x S1 => (evs Γ es en S1).bind fun xs S2 => .ok (x :: xs) S2 := by rw [evs]
@[simp] theorem evI_seq (e : E) : evI Γ (.seq e) en S = (ev Γ e en S).bind fun x S1 => srcOf (fun S => walkOf S x) S1 := by rw [evI]
@[simp] theorem evI_rng1 (a : E) : evI Γ (.rng1 a) en S = (ev Γ a en S).bind fun x S1 => match x with
    | .int j => if bound62 j then .ok ⟨fun _ => some (rngL 0 j.toNat), j.toNat⟩ S1 else .bad
    | _ => .bad := by rw [evI] <;> rfl
@[simp] theorem evI_rng2 (a b : E) : evI Γ (.rng2 a b) en S = (ev Γ a en S).bind fun x S1 => (ev Γ b en S1).bind fun y S2 => match x, y with
    | .int i, .int j => if bound62 i && bound62 j then .ok ⟨fun _ => some (rngL i (j - i).toNat), (j - i).toNat⟩ S2 else .bad
    | _, _ => .bad := by rw [evI] <;> rfl
@[simp] theorem evI_zip (a b : E) : evI Γ (.zip a b) en S = (ev Γ a en S).bind fun x S1 => (ev Γ b en S1).bind fun y S2 => srcOf (fun S => zipD S x y) S2 := by rw [evI]
@[simp] theorem exr_set (t : Tg) (e : E) : ex Γ (.set t e) en S = (ev Γ e en S).thn en fun x S1 => match asg t x en with
    | some en' => .nx en' S1
    | none => .bad := by rw [ex] <;> rfl
@[simp] theorem exr_setIx (a i e : E) : ex Γ (.setIx a i e) en S = (ev Γ e en S).thn en fun v S1 => (ev Γ a en S1).thn en fun x S2 => (ev Γ i en S2).thn en fun k S3 => match setIxD Γ.kon x k v S3 with
    | some S4 => .nx en S4
    | none => .bad := by rw [ex] <;> rfl
@[simp] theorem exr_ex (e : E) : ex Γ (.ex e) en S = (ev Γ e en S).thn en fun _ S1 => .nx en S1 := by rw [ex]
@[simp] theorem exr_ret (e : E) : ex Γ (.ret e) en S = (ev Γ e en S).thn en fun x S1 => .rt x S1 := by rw [ex]
@[simp] theorem exr_retN : ex Γ .retN en S = .rt .non S := by rw [ex]
@[simp] theorem exr_ife (c : E) (a b : Sms) : ex Γ (.ife c a b) en S = (testR (ev Γ c en S)).thn en fun k S1 => if k = true then exs Γ a en S1 else exs Γ b en S1 := by rw [ex]
@[simp] theorem exr_forr (t : Tg) (it : It) (b : Sms) : ex Γ (.forr t it b) en S = (evI Γ it en S).thn en fun src S1 => loopF src.rd (forB Γ t b) src.n src.n en S1 := by rw [ex] <;> rfl
@[simp] theorem exs_nil : exs Γ .nil en S = .nx en S := by rw [exs]
@[simp] theorem exs_cons (s : Sm) (ss : Sms) : exs Γ (.cons s ss) en S = match ex Γ s en S with
    | .nx en' S' => exs Γ ss en' S'
    | r => r := by rw [exs] <;> rfl
@[simp] theorem asg_nm (i : Nat) (d : D) : asg (.nm i) d en = some (en.set i (some d)) := by rw [asg]
@[simp] theorem asg_tp (ts : Tgs) (ds : List D) : asg (.tp ts) (.tup ds) en = asgs ts ds en := by rw [asg] <;> rfl
@[simp] theorem asgs_nil : asgs .nil [] en = some en := by rw [asgs] <;> rfl
@[simp] theorem asgs_cons (t : Tg) (ts : Tgs) (d : D) (r : List D) : asgs (.cons t ts) (d :: r) en = match asg t d en with
      | some en' => asgs ts r en'
      | none => none := by rw [asgs] <;> rfl
@[simp] theorem testR_ok (d : D) : testR (.ok d S) = match truth S d with
  | some b => .ok b S
  | none => .bad := Eq.trans rfl rfl
@[simp] theorem truth_bl (b : Bool) : truth S (.bl b) = some b := Eq.trans rfl rfl
@[simp] theorem truth_int (i : Int) : truth S (.int i) = some (decide (i ≠ 0)) := Eq.trans rfl rfl
@[simp] theorem boolR_some (b : Bool) : boolR (some b) S = .ok (.bl b) S := Eq.trans rfl rfl
@[simp] theorem dR_some (d : D) : dR (some d) S = .ok d S := Eq.trans rfl rfl
@[simp] theorem srcOf_of {rd : Store → Option (List D)} {ds : List D} (h : rd S = some ds) : srcOf rd S = .ok ⟨rd, ds.length⟩ S := by unfold srcOf; rw [h]
@[simp] theorem bif_len (d : D) : bifD .len [d] S = bLen d S := Eq.trans rfl rfl
@[simp] theorem bif_abs (d : D) : bifD .abs [d] S = bAbs d S := Eq.trans rfl rfl
@[simp] theorem bif_int (d : D) : bifD .int [d] S = bInt d S := Eq.trans rfl rfl
@[simp] theorem bif_tuple (d : D) : bifD .tuple [d] S = bTuple d S := Eq.trans rfl rfl
@[simp] theorem bif_list (d : D) : bifD .list [d] S = bList d S := Eq.trans rfl rfl
@[simp] theorem bif_all (d : D) : bifD .all [d] S = bAll d S := Eq.trans rfl rfl
@[simp] theorem bif_any (d : D) : bifD .any [d] S = bAny d S := Eq.trans rfl rfl
@[simp] theorem bif_sum (d : D) : bifD .sum [d] S = bSum d S := Eq.trans rfl rfl
@[simp] theorem bif_gcd (d e : D) : bifD .gcd [d, e] S = bGcd d e S := Eq.trans rfl rfl
@[simp] theorem bAbs_int (i : Int) : bAbs (.int i) S = .ok (.int (if i < 0 then -i else i)) S := Eq.trans rfl rfl
@[simp] theorem bInt_int (i : Int) : bInt (.int i) S = .ok (.int i) S := Eq.trans rfl rfl
@[simp] theorem bGcd_int (i j : Int) : bGcd (.int i) (.int j) S = .ok (.int (Nat.gcd i.natAbs j.natAbs)) S := Eq.trans rfl rfl
@[simp] theorem bin_add (i j : Int) : binD .add (.int i) (.int j) S = .ok (.int (i + j)) S := Eq.trans rfl rfl
@[simp] theorem bin_sub (i j : Int) : binD .sub (.int i) (.int j) S = .ok (.int (i - j)) S := Eq.trans rfl rfl
theorem bin_mul {i j : Int} (h : mulOk i j = true) : binD .mul (.int i) (.int j) S = .ok (.int (i * j)) S := by
  show (if mulOk i j then _ else _) = _
  rw [if_pos h]
theorem bin_mod {i j : Int} (h : j ≠ 0) : binD .mod (.int i) (.int j) S = .ok (.int (i.fmod j)) S := by
  show (if j ≠ 0 then _ else _) = _
  rw [if_pos h]
theorem bin_fdiv {i j : Int} (h : j ≠ 0) (h2 : j.natAbs < 1073741824) : binD .fdiv (.int i) (.int j) S = .ok (.int (i.fdiv j)) S := by
  show (if j ≠ 0 ∧ j.natAbs < 1073741824 then _ else _) = _
  rw [if_pos ⟨h, h2⟩]
theorem mulOk_l {i j : Int} (h1 : -(2 ^ 64) < i) (h2 : i < 2 ^ 64) : mulOk i j = true := by
  unfold mulOk
  simp only [h1, h2, decide_true, Bool.and_self, Bool.true_or]
theorem mulOk_r {i j : Int} (h1 : -(2 ^ 64) < j) (h2 : j < 2 ^ 64) : mulOk i j = true := by
  unfold mulOk
  simp only [h1, h2, decide_true, Bool.and_self, Bool.or_true]
variable (kon : D → Bool)
@[simp] theorem cmp_lt (i j : Int) : cmpD kon .lt S (.int i) (.int j) = some (decide (i < j)) := Eq.trans rfl rfl
@[simp] theorem cmp_le (i j : Int) : cmpD kon .le S (.int i) (.int j) = some (decide (i ≤ j)) := Eq.trans rfl rfl
@[simp] theorem cmp_gt (i j : Int) : cmpD kon .gt S (.int i) (.int j) = some (decide (j < i)) := Eq.trans rfl rfl
@[simp] theorem cmp_ge (i j : Int) : cmpD kon .ge S (.int i) (.int j) = some (decide (j ≤ i)) := Eq.trans rfl rfl
@[simp] theorem cmp_eq (a b : D) : cmpD kon .eq S a b = deq S a b := Eq.trans rfl rfl
@[simp] theorem cmp_ne (a b : D) : cmpD kon .ne S a b = (deq S a b).map (!·) := Eq.trans rfl rfl
@[simp] theorem cmp_in (a b : D) : cmpD kon .in_ S a b = isin kon S false a b := Eq.trans rfl rfl
@[simp] theorem cmp_nin (a b : D) : cmpD kon .nin S a b = isin kon S true a b := Eq.trans rfl rfl
@[simp] theorem cmp_isN (a : D) : cmpD kon .isN S a .non = some (decide (a = .non)) := Eq.trans rfl rfl
@[simp] theorem deq_int (i j : Int) : deq S (.int i) (.int j) = some (decide (i = j)) := Eq.trans rfl rfl
@[simp] theorem part_ok_int (l : Bool) (i : Int) : partR l (.ok (.int i) S) = .ok (.int i) S := Eq.trans rfl rfl
@[simp] theorem part_ok_non : partR true (.ok .non S) = .ok .non S := Eq.trans rfl rfl
@[simp] theorem isNon_cst : E.isNon (.cst .non) = true := Eq.trans rfl rfl
@[simp] theorem isNon_neg (a : E) : E.isNon (.neg a) = false := Eq.trans rfl rfl
@[simp] theorem isNon_int (i : Int) : E.isNon (.cst (.int i)) = false := Eq.trans rfl rfl
@[simp] theorem isNon_var (i : Nat) : E.isNon (.var i) = false := Eq.trans rfl rfl
@[simp] theorem slice_tup (ds : List D) (l h : D) : sliceD (.tup ds) l h S = match part l with
  | some l => match part h with
    | some h => .ok (.tup (cut ds l h)) S
    | none => .bad
  | none => .bad := Eq.trans rfl rfl
@[simp] theorem part_int (i : Int) : part (.int i) = some (some i) := Eq.trans rfl rfl
@[simp] theorem part_non : part .non = some none := Eq.trans rfl rfl
@[simp] theorem walk_tup (ds : List D) : walkOf S (.tup ds) = some ds := Eq.trans rfl rfl
@[simp] theorem seq_tup (ds : List D) : seqOf S (.tup ds) = some ds := Eq.trans rfl rfl
@[simp] theorem len_tup (ds : List D) : lenD S (.tup ds) = some ds.length := Eq.trans rfl rfl
@[simp] theorem wipe_nil : wipeE en [] = en := Eq.trans rfl rfl
@[simp] theorem wipe_cons (v : Nat) (vs : List Nat) : wipeE en (v :: vs) = (wipeE en vs).set v none := Eq.trans rfl rfl
end
section
variable (P : Prog) (n : Nat)
@[simp] theorem gam_call : (gamOf P n).call = callF P n := Eq.trans rfl rfl
@[simp] theorem gam_kon : (gamOf P n).kon = P.kon := Eq.trans rfl rfl
end
/-! ### places -/
theorem cut_init {α : Type} (xs : List α) : cut xs none (some (-1)) = xs.dropLast := by
  unfold cut six
  simp only [List.drop_zero, Nat.sub_zero]
  rw [List.dropLast_eq_take]
  congr 1
  rw [if_pos (by decide)]
  omega
theorem cut_last {α : Type} (xs : List α) : cut xs (some (-1)) none = xs.drop (xs.length - 1) := by
  unfold cut six
  simp only
  rw [if_pos (by decide)]
  have e : ((-1 : Int) + xs.length).toNat = xs.length - 1 := by omega
  rw [e, List.take_of_length_le]
  rw [List.length_drop]
  omega
theorem pix_last {n : Nat} (h : 0 < n) : pix n (-1) = some (n - 1) := by
  unfold pix
  rw [if_neg (by decide), if_pos (by omega)]
  congr 1
  omega
theorem pix_nat {n k : Nat} (h : k < n) : pix n (k : Int) = some k := by
  unfold pix
  rw [if_pos (by omega), if_pos (by omega)]
  rfl
@[simp] theorem pix_zero {n : Nat} : pix (n + 1) 0 = some 0 := pix_nat (k := 0) (by omega)
/-! ### loops -/
/-- a for loop with an invariant -/
theorem loopF_inv {rd : Store → Option (List D)} {body : D → Env → Store → F} {ds : List D} (I : Nat → Env → Store → Prop) (Rt : D → Store → Prop) (hrd : ∀ k en S, I k en S → rd S = some ds)
    (step : ∀ k d en S, ds[k]? = some d → I k en S → (∃ en' S', body d en S = .nx en' S' ∧ I (k + 1) en' S') ∨ ∃ x S', body d en S = .rt x S' ∧ Rt x S') :
    ∀ j k en S, j + k = ds.length → I k en S → (∃ en' S', loopF rd body ds.length j en S = .nx en' S' ∧ I ds.length en' S') ∨ ∃ x S', loopF rd body ds.length j en S = .rt x S' ∧ Rt x S' := by
  intro j
  induction j with
  | zero =>
    intro k en S hk hi
    have e : k = ds.length := by omega
    subst e
    left
    refine ⟨en, S, ?_, hi⟩
    unfold loopF
    rw [hrd _ _ _ hi]
    simp
  | succ j ih =>
    intro k en S hk hi
    have hlt : k < ds.length := by omega
    have e1 : ds.length - (j + 1) = k := by omega
    unfold loopF
    rw [hrd _ _ _ hi]
    simp only [if_true, e1]
    rw [List.getElem?_eq_getElem hlt]
    rcases step k _ en S (List.getElem?_eq_getElem hlt) hi with ⟨en', S', h1, h2⟩ | ⟨x, S', h1, h2⟩
    · simp only [h1]
      exact ih (k + 1) en' S' (by omega) h2
    · right
      refine ⟨x, S', ?_, h2⟩
      simp only [h1]
/-- without a return -/
theorem loopF_nx {rd : Store → Option (List D)} {body : D → Env → Store → F} {ds : List D} {en : Env} {S : Store} (I : Nat → Env → Store → Prop) (hrd : ∀ k en S, I k en S → rd S = some ds)
    (step : ∀ k d en S, ds[k]? = some d → I k en S → ∃ en' S', body d en S = .nx en' S' ∧ I (k + 1) en' S') (h0 : I 0 en S) : ∃ en' S', loopF rd body ds.length ds.length en S = .nx en' S' ∧ I ds.length en' S' := by
  rcases loopF_inv I (fun _ _ => False) hrd (fun k d en S h1 h2 => .inl (step k d en S h1 h2)) ds.length 0 en S (by omega) h0 with h | ⟨_, _, _, h⟩
  · exact h
  · exact h.elim
/-- a comprehension that only adds to the store -/
theorem loopC_pure {rd : Store → Option (List D)} {one : D → Store → R (Option D)} {ds : List D} (f : D → Option D) (S0 : Store) (hrd : ∀ g, rd (S0 ++ g) = some ds)
    (h1 : ∀ d ∈ ds, ∀ acc g, ∃ g', one d (S0 ++ .lst acc :: g) = .ok (f d) (S0 ++ .lst acc :: (g ++ g'))) (hl : ds.length ≤ line) :
    ∀ j k acc g, j + k = ds.length → acc.length ≤ k → ∃ g', loopC rd one ds.length S0.length j (S0 ++ .lst acc :: g) = .ok (.loc S0.length) (S0 ++ .lst (acc ++ (ds.drop k).filterMap f) :: (g ++ g')) := by
  intro j
  induction j with
  | zero =>
    intro k acc g hk ha
    have e : k = ds.length := by omega
    subst e
    refine ⟨[], ?_⟩
    unfold loopC
    rw [hrd]
    simp
  | succ j ih =>
    intro k acc g hk ha
    have hlt : k < ds.length := by omega
    have e1 : ds.length - (j + 1) = k := by omega
    unfold loopC
    rw [hrd]
    simp only [if_true, e1]
    rw [List.getElem?_eq_getElem hlt]
    obtain ⟨g1, e2⟩ := h1 _ (List.getElem_mem hlt) acc g
    simp only [e2]
    rw [List.drop_eq_getElem_cons hlt, List.filterMap_cons]
    cases hf : f ds[k] with
    | none =>
      simp only
      obtain ⟨g2, e3⟩ := ih (k + 1) acc (g ++ g1) (by omega) (by omega)
      exact ⟨g1 ++ g2, by rw [e3, List.append_assoc]⟩
    | some y =>
      simp only
      have e4 : (S0 ++ O.lst acc :: (g ++ g1))[S0.length]? = some (.lst acc) := by
        rw [List.getElem?_append_right (Nat.le_refl _), Nat.sub_self]; rfl
      rw [e4]
      simp only
      rw [if_pos (by omega)]
      have e5 : (S0 ++ O.lst acc :: (g ++ g1)).set S0.length (.lst (acc ++ [y])) = S0 ++ .lst (acc ++ [y]) :: (g ++ g1) := by
        rw [List.set_append_right _ _ (Nat.le_refl _), Nat.sub_self]; rfl
      rw [e5]
      obtain ⟨g2, e3⟩ := ih (k + 1) (acc ++ [y]) (g ++ g1) (by omega) (by rw [List.length_append]; simp; omega)
      refine ⟨g1 ++ g2, ?_⟩
      rw [e3, List.append_assoc, List.append_assoc]
      rfl
theorem comp_pure {rd : Store → Option (List D)} {one : D → Store → R (Option D)} {ds : List D} (f : D → Option D) (S0 : Store) (hrd : ∀ g, rd (S0 ++ g) = some ds)
    (h1 : ∀ d ∈ ds, ∀ acc g, ∃ g', one d (S0 ++ .lst acc :: g) = .ok (f d) (S0 ++ .lst acc :: (g ++ g'))) (hl : ds.length ≤ line) :
    ∃ g', loopC rd one ds.length S0.length ds.length (S0 ++ [.lst []]) = .ok (.loc S0.length) (S0 ++ .lst (ds.filterMap f) :: g') := by
  obtain ⟨g', e⟩ := loopC_pure f S0 hrd h1 hl ds.length 0 [] [] (by omega) (by simp)
  exact ⟨g', by rw [e]; simp⟩
end Lw
namespace Lw
theorem loop_rt {rd : Store → Option (List D)} {body : D → Env → Store → F} {n : Nat} {en : Env} {S : Store} (ds : List D) (hn : n = ds.length) (I : Nat → Env → Store → Prop) (Rt : D → Store → Prop) (hrd : ∀ k en S, I k en S → rd S = some ds)
    (h0 : I 0 en S) (step : ∀ k d en S, ds[k]? = some d → I k en S → (∃ en' S', body d en S = .nx en' S' ∧ I (k + 1) en' S') ∨ ∃ x S', body d en S = .rt x S' ∧ Rt x S') :
    (∃ en' S', loopF rd body n n en S = .nx en' S' ∧ I n en' S') ∨ ∃ x S', loopF rd body n n en S = .rt x S' ∧ Rt x S' := by
  subst hn
  exact loopF_inv I Rt hrd step ds.length 0 en S (by omega) h0
theorem loop_nx {rd : Store → Option (List D)} {body : D → Env → Store → F} {n : Nat} {en : Env} {S : Store} (ds : List D) (hn : n = ds.length) (I : Nat → Env → Store → Prop) (hrd : ∀ k en S, I k en S → rd S = some ds)
    (h0 : I 0 en S) (step : ∀ k d en S, ds[k]? = some d → I k en S → ∃ en' S', body d en S = .nx en' S' ∧ I (k + 1) en' S') : ∃ en' S', loopF rd body n n en S = .nx en' S' ∧ I n en' S' := by
  subst hn
  exact loopF_nx I hrd step h0
theorem comp_ok {rd : Store → Option (List D)} {one : D → Store → R (Option D)} {n l : Nat} (ds : List D) (f : D → Option D) (S0 : Store) (hn : n = ds.length) (hl0 : l = S0.length) (hl : ds.length ≤ line) (hrd : ∀ g, rd (S0 ++ g) = some ds)
    (h1 : ∀ d ∈ ds, ∀ acc g, ∃ g', one d (S0 ++ .lst acc :: g) = .ok (f d) (S0 ++ .lst acc :: (g ++ g'))) :
    ∃ g', loopC rd one n l n (S0 ++ [.lst []]) = .ok (.loc l) (S0 ++ .lst (ds.filterMap f) :: g') := by
  subst hn hl0
  exact comp_pure f S0 hrd h1 hl
theorem take_snoc {α : Type} {xs : List α} {k : Nat} {x : α} (h : xs[k]? = some x) : xs.take (k + 1) = xs.take k ++ [x] := by
  rw [List.take_add_one, h]; rfl
end Lw
namespace Lw
theorem loopN {rd : Store → Option (List D)} {body : D → Env → Store → F} {n : Nat} {en : Env} {S : Store} {r : F} (hL : loopF rd body n n en S = r) (ds : List D) (hn : n = ds.length) (I : Nat → Env → Store → Prop) (hrd : ∀ k en S, I k en S → rd S = some ds)
    (h0 : I 0 en S) (step : ∀ (k : Nat) (d : D) (en : Env) (S : Store) (Q : F → Prop), ds[k]? = some d → I k en S → (∀ en' S', I (k + 1) en' S' → Q (.nx en' S')) → Q (body d en S)) : ∃ en' S', r = .nx en' S' ∧ I n en' S' := by
  subst hL
  exact loop_nx ds hn I hrd h0 fun k d en S h1 h2 => step k d en S (fun r => ∃ en' S', r = .nx en' S' ∧ I (k + 1) en' S') h1 h2 fun en' S' h => ⟨en', S', rfl, h⟩
theorem loopR {rd : Store → Option (List D)} {body : D → Env → Store → F} {n : Nat} {en : Env} {S : Store} {r : F} (hL : loopF rd body n n en S = r) (ds : List D) (hn : n = ds.length) (I : Nat → Env → Store → Prop) (Rt : D → Store → Prop) (hrd : ∀ k en S, I k en S → rd S = some ds)
    (h0 : I 0 en S) (step : ∀ (k : Nat) (d : D) (en : Env) (S : Store) (Q : F → Prop), ds[k]? = some d → I k en S → (∀ en' S', I (k + 1) en' S' → Q (.nx en' S')) → (∀ x S', Rt x S' → Q (.rt x S')) → Q (body d en S)) :
    (∃ en' S', r = .nx en' S' ∧ I n en' S') ∨ ∃ x S', r = .rt x S' ∧ Rt x S' := by
  subst hL
  exact loop_rt ds hn I Rt hrd h0 fun k d en S h1 h2 => step k d en S (fun r => (∃ en' S', r = .nx en' S' ∧ I (k + 1) en' S') ∨ ∃ x S', r = .rt x S' ∧ Rt x S') h1 h2 (fun en' S' h => .inl ⟨en', S', rfl, h⟩) fun x S' h => .inr ⟨x, S', rfl, h⟩
/-- a comprehension with an invariant -/
theorem compI {rd : Store → Option (List D)} {one : D → Store → R (Option D)} {n l : Nat} {S : Store} {r : R D} (hL : loopC rd one n l n S = r) (ds : List D) (hn : n = ds.length) (hl : ds.length ≤ line) (I : Nat → List D → Store → Prop)
    (hacc : ∀ k acc S, I k acc S → acc.length ≤ k) (hrd : ∀ k acc S, I k acc S → rd S = some ds) (h0 : I 0 [] S)
    (step : ∀ (k : Nat) (d : D) (acc : List D) (S : Store) (Q : R (Option D) → Prop), ds[k]? = some d → I k acc S → (∀ S', I (k + 1) acc S' → Q (.ok none S')) →
      (∀ y S', S'[l]? = some (.lst acc) → I (k + 1) (acc ++ [y]) (S'.set l (.lst (acc ++ [y]))) → Q (.ok (some y) S')) → Q (one d S)) : ∃ acc S', r = .ok (.loc l) S' ∧ I n acc S' := by
  have key : ∀ j k acc S, j + k = ds.length → I k acc S → ∃ acc' S', loopC rd one ds.length l j S = .ok (.loc l) S' ∧ I ds.length acc' S' := by
    intro j
    induction j with
    | zero =>
      intro k acc S hk hi
      have e : k = ds.length := by omega
      subst e
      refine ⟨acc, S, ?_, hi⟩
      unfold loopC
      rw [hrd _ _ _ hi]
      simp
    | succ j ih =>
      intro k acc S hk hi
      have hlt : k < ds.length := by omega
      have e1 : ds.length - (j + 1) = k := by omega
      unfold loopC
      rw [hrd _ _ _ hi]
      simp only [if_true, e1]
      rw [List.getElem?_eq_getElem hlt]
      simp only
      have ha := hacc _ _ _ hi
      refine step k _ acc S (fun r => ∃ acc' S', (match r with
        | .ok none S' => loopC rd one ds.length l j S'
        | .ok (some y) S' => (match S'[l]? with
          | some (.lst acc) => if acc.length < line then loopC rd one ds.length l j (S'.set l (.lst (acc ++ [y]))) else .bad
          | _ => .bad)
        | _ => .bad) = .ok (.loc l) S' ∧ I ds.length acc' S') (List.getElem?_eq_getElem hlt) hi (fun S' h => ?_) fun y S' e h => ?_
      · exact ih (k + 1) acc S' (by omega) h
      · simp only
        rw [e]
        simp only
        rw [if_pos (by omega)]
        exact ih (k + 1) (acc ++ [y]) _ (by omega) h
  subst hL hn
  exact key ds.length 0 [] S (by omega) h0
theorem compN {rd : Store → Option (List D)} {one : D → Store → R (Option D)} {n l : Nat} {S0 : Store} {r : R D} (hL : loopC rd one n l n (S0 ++ [.lst []]) = r) (ds : List D) (f : D → Option D) (hn : n = ds.length) (hl0 : l = S0.length) (hl : ds.length ≤ line) (hrd : ∀ g, rd (S0 ++ g) = some ds)
    (h1 : ∀ d ∈ ds, ∀ acc g, ∃ g', one d (S0 ++ .lst acc :: g) = .ok (f d) (S0 ++ .lst acc :: (g ++ g'))) : ∃ g', r = .ok (.loc l) (S0 ++ .lst (ds.filterMap f) :: g') := by
  subst hL
  exact comp_ok ds f S0 hn hl0 hl hrd h1
theorem get_app {S g : Store} {n : Nat} {o : O} (h : S[n]? = some o) : (S ++ g)[n]? = some o := by
  rw [List.getElem?_append_left (List.getElem?_eq_some_iff.mp h).1]; exact h
@[simp] theorem get_new {S g : Store} {o : O} : (S ++ o :: g)[S.length]? = some o := by
  rw [List.getElem?_append_right (Nat.le_refl _), Nat.sub_self]; rfl
end Lw
namespace Lw
/-- a comprehension over told items -/
theorem loopC_X {X : Type} {rd : Store → Option (List D)} {one : D → Store → R (Option D)} {xs : List X} (h : X → D) (f : X → Option D) (S0 : Store) (hrd : ∀ g, rd (S0 ++ g) = some (xs.map h))
    (h1 : ∀ x ∈ xs, ∀ acc g, ∃ g', one (h x) (S0 ++ .lst acc :: g) = .ok (f x) (S0 ++ .lst acc :: (g ++ g'))) (hl : xs.length ≤ line) :
    ∀ j k acc g, j + k = xs.length → acc.length ≤ k → ∃ g', loopC rd one xs.length S0.length j (S0 ++ .lst acc :: g) = .ok (.loc S0.length) (S0 ++ .lst (acc ++ (xs.drop k).filterMap f) :: (g ++ g')) := by
  intro j
  induction j with
  | zero =>
    intro k acc g hk ha
    have e : k = xs.length := by omega
    subst e
    refine ⟨[], ?_⟩
    unfold loopC
    rw [hrd]
    simp
  | succ j ih =>
    intro k acc g hk ha
    have hlt : k < xs.length := by omega
    have e1 : xs.length - (j + 1) = k := by omega
    unfold loopC
    rw [hrd]
    simp only [List.length_map, if_true, e1]
    have e6 : (xs.map h)[k]? = some (h xs[k]) := by rw [List.getElem?_map, List.getElem?_eq_getElem hlt]; rfl
    rw [e6]
    obtain ⟨g1, e2⟩ := h1 _ (List.getElem_mem hlt) acc g
    simp only [e2]
    rw [List.drop_eq_getElem_cons hlt, List.filterMap_cons]
    cases hf : f xs[k] with
    | none =>
      simp only
      obtain ⟨g2, e3⟩ := ih (k + 1) acc (g ++ g1) (by omega) (by omega)
      exact ⟨g1 ++ g2, by rw [e3, List.append_assoc]⟩
    | some y =>
      simp only
      have e4 : (S0 ++ O.lst acc :: (g ++ g1))[S0.length]? = some (.lst acc) := get_new
      rw [e4]
      simp only
      rw [if_pos (by omega)]
      have e5 : (S0 ++ O.lst acc :: (g ++ g1)).set S0.length (.lst (acc ++ [y])) = S0 ++ .lst (acc ++ [y]) :: (g ++ g1) := by
        rw [List.set_append_right _ _ (Nat.le_refl _), Nat.sub_self]; rfl
      rw [e5]
      obtain ⟨g2, e3⟩ := ih (k + 1) (acc ++ [y]) (g ++ g1) (by omega) (by rw [List.length_append]; simp; omega)
      refine ⟨g1 ++ g2, ?_⟩
      rw [e3, List.append_assoc, List.append_assoc]
      rfl
theorem compX {X : Type} {rd : Store → Option (List D)} {one : D → Store → R (Option D)} {n l : Nat} {S0 : Store} {r : R D} (hL : loopC rd one n l n (S0 ++ [.lst []]) = r) (xs : List X) (h : X → D) (f : X → Option D) (hn : n = xs.length) (hl0 : l = S0.length) (hl : xs.length ≤ line)
    (hrd : ∀ g, rd (S0 ++ g) = some (xs.map h)) (h1 : ∀ x ∈ xs, ∀ acc g, ∃ g', one (h x) (S0 ++ .lst acc :: g) = .ok (f x) (S0 ++ .lst acc :: (g ++ g'))) : ∃ g', r = .ok (.loc l) (S0 ++ .lst (xs.filterMap f) :: g') := by
  subst hL hn hl0
  obtain ⟨g', e⟩ := loopC_X h f S0 hrd h1 hl xs.length 0 [] [] (by omega) (by simp)
  exact ⟨g', by rw [e]; simp⟩
end Lw
end
section
set_option Elab.async false
set_option linter.all false
set_option autoImplicit false
set_option maxRecDepth 10000
namespace Lw
/-! ### what the laws' own defs do -/
def fCell : Fn := ⟨2, 2,
  (.cons (.ife (.cmp .lt (.var 1) (.bif .len (.cons (.var 0) .nil))) 
    (.cons (.ret (.bif .int (.cons (.ix (.var 0) (.var 1)) .nil))) .nil) .nil)
  (.cons (.ret (.cst (.int 0))) .nil))⟩
def bDraws : Sms :=
    (.cons (.ife (.and (.cmp .lt (.var 5) (.var 1)) (.var 3)) 
      (.cons (.ex (.bmt .append (.var 4) (.cons (.bin .mod (.var 2) (.cst (.int 60))) .nil)))
      (.cons (.set (.nm 2) (.bin .fdiv (.var 2) (.cst (.int 60)))) .nil))
      (.cons (.ife (.cmp .lt (.var 5) (.var 1)) 
        (.cons (.set (.nm 6) (.bin .mod (.bin .add (.bin .add (.bin .mul (.bif .int (.cons (.var 2) .nil)) (.cst (.int 48271))) (.bin .mul (.var 5) (.cst (.int 69621)))) (.cst (.int 11))) (.cst (.int 2147483647))))
        (.cons (.set (.nm 6) (.bin .mod (.bin .add (.bin .add (.bin .mul (.bif .int (.cons (.var 6) .nil)) (.bif .int (.cons (.var 6) .nil))) (.bin .mul (.var 5) (.cst (.int 7919)))) (.cst (.int 5))) (.cst (.int 998244353))))
        (.cons (.ex (.bmt .append (.var 4) (.cons (.bin .mod (.bif .int (.cons (.var 6) .nil)) (.cst (.int 60))) .nil))) .nil))) .nil) .nil)) .nil)
def fDraws : Fn := ⟨2, 7,
  (.cons (.set (.nm 2) (.bif .abs (.cons (.bif .int (.cons (.var 0) .nil)) .nil)))
  (.cons (.set (.nm 3) (.cmp .ge (.var 2) (.bin .pow (.cst (.int 10)) (.cst (.int 18)))))
  (.cons (.set (.nm 4) (.lst .nil))
  (.cons (.forr (.nm 5) (.rng1 (.cst (.int 60)))
    bDraws)
  (.cons (.ret (.var 4)) .nil)))))⟩
def fStream (ic id : Nat) : Fn := ⟨3, 5,
  (.cons (.set (.nm 3) (.lst .nil))
  (.cons (.forr (.nm 4) (.rng1 (.var 2))
    (.cons (.ex (.bmt .extend (.var 3) (.cons (.call id (.cons (.call ic (.cons (.var 0) (.cons (.bin .add (.var 1) (.var 4)) .nil))) (.cons (.cst (.int 12)) .nil))) .nil))) .nil))
  (.cons (.ret (.lst (.cons (.var 3) (.cons (.lst (.cons (.cst (.int 0)) .nil)) .nil)))) .nil)))⟩
def fNext : Fn := ⟨2, 5,
  (.cons (.set (.nm 2) (.ix (.var 0) (.cst (.int 0))))
  (.cons (.set (.nm 3) (.ix (.var 0) (.cst (.int 1))))
  (.cons (.set (.nm 4) (.bin .mod (.bif .int (.cons (.ix (.var 2) (.bin .mod (.bif .int (.cons (.ix (.var 3) (.cst (.int 0))) .nil)) (.bif .len (.cons (.var 2) .nil)))) .nil)) (.var 1)))
  (.cons (.setIx (.var 3) (.cst (.int 0)) (.bin .add (.ix (.var 3) (.cst (.int 0))) (.cst (.int 1))))
  (.cons (.ret (.var 4)) .nil)))))⟩
def fExpr (inx : Nat) : Fn := ⟨4, 6,
  (.cons (.set (.nm 4) (.comp (.bin .sub (.call inx (.cons (.var 0) (.cons (.bin .add (.bin .mul (.cst (.int 2)) (.var 2)) (.cst (.int 1))) .nil))) (.var 2)) (.nm 5) [5] (.rng1 (.var 1)) (.cst (.bl true))))
  (.cons (.ex (.bmt .append (.var 4) (.cons (.bin .sub (.call inx (.cons (.var 0) (.cons (.bin .add (.bin .mul (.cst (.int 2)) (.var 3)) (.cst (.int 1))) .nil))) (.var 3)) .nil)))
  (.cons (.ret (.bif .tuple (.cons (.var 4) .nil))) .nil)))⟩
section
variable {P : Prog} {i : Nat}
theorem getIx_nat {kon : D → Bool} {S : Store} {a k : Nat} {ds : List D} {d : D} (h : S[a]? = some (.lst ds)) (hd : ds[k]? = some d) : getIx kon S (.loc a) (.int (k : Int)) = some d := by
  have hk := (List.getElem?_eq_some_iff.mp hd).1
  show (match S[a]? with
    | some (.lst ds) => (pix ds.length (k : Int)).bind (ds[·]?)
    | some (.fro ds) => (pix ds.length (k : Int)).bind (ds[·]?)
    | some (.dct t kvs) => if isKey kon t (.int k) then dfind kvs (.int k) else none
    | _ => none) = some d
  rw [h]
  simp only [pix_nat hk, Option.bind_some, hd]
theorem getIx_nat' {kon : D → Bool} {S : Store} {a k : Nat} {ds : List D} {d : D} (h : S[a]? = some (.fro ds)) (hd : ds[k]? = some d) : getIx kon S (.loc a) (.int (k : Int)) = some d := by
  have hk := (List.getElem?_eq_some_iff.mp hd).1
  show (match S[a]? with
    | some (.lst ds) => (pix ds.length (k : Int)).bind (ds[·]?)
    | some (.fro ds) => (pix ds.length (k : Int)).bind (ds[·]?)
    | some (.dct t kvs) => if isKey kon t (.int k) then dfind kvs (.int k) else none
    | _ => none) = some d
  rw [h]
  simp only [pix_nat hk, Option.bind_some, hd]
theorem len_lst {S : Store} {a : Nat} {ds : List D} (h : S[a]? = some (.lst ds)) : lenD S (.loc a) = some ds.length := by
  show (match S[a]? with
    | some (.lst ds) => some ds.length
    | some (.fro ds) => some ds.length
    | _ => none) = _
  rw [h]
theorem len_fro {S : Store} {a : Nat} {ds : List D} (h : S[a]? = some (.fro ds)) : lenD S (.loc a) = some ds.length := by
  show (match S[a]? with
    | some (.lst ds) => some ds.length
    | some (.fro ds) => some ds.length
    | _ => none) = _
  rw [h]
theorem seqL_of {S : Store} {a : Nat} {ds : List D} (h : S[a]? = some (.lst ds)) : seqOf S (.loc a) = some ds := by
  show (match S[a]? with
    | some (.lst ds) => some ds
    | some (.fro ds) => some ds
    | _ => none) = _
  rw [h]
theorem walk_lst {S : Store} {a : Nat} {ds : List D} (h : S[a]? = some (.lst ds)) : walkOf S (.loc a) = some ds := seqL_of h
theorem isLst_of {S : Store} {a : Nat} {ds : List D} (h : S[a]? = some (.lst ds)) : isLst S (.loc a) = true := by
  show (match S[a]? with
    | some (.lst _) => true
    | _ => false) = true
  rw [h]
theorem app_of {S : Store} {a : Nat} {ds : List D} {d : D} (h : S[a]? = some (.lst ds)) (hl : ds.length < line) : bmtD .append (.loc a) [d] S = .ok .non (S.set a (.lst (ds ++ [d]))) := by
  show (match S[a]? with
    | some (.lst xs) => if xs.length < line then R.ok D.non (S.set a (.lst (xs ++ [d]))) else .bad
    | _ => .bad) = _
  rw [h]
  simp only
  rw [if_pos hl]
theorem ext_of {S : Store} {a b : Nat} {xs ys : List D} (h : S[a]? = some (.lst xs)) (h2 : S[b]? = some (.lst ys)) (hl : xs.length + ys.length ≤ line) : bmtD .extend (.loc a) [.loc b] S = .ok .non (S.set a (.lst (xs ++ ys))) := by
  show (match S[a]? with
    | some (.lst xs) => match S[b]? with
        | some (.lst ys) => if xs.length + ys.length ≤ line then R.ok D.non (S.set a (.lst (xs ++ ys))) else .bad
        | _ => .bad
    | _ => .bad) = _
  rw [h]
  simp only
  rw [h2]
  simp only
  rw [if_pos hl]
theorem setIx_nat {kon : D → Bool} {S : Store} {a k : Nat} {ds : List D} {v : D} (h : S[a]? = some (.lst ds)) (hk : k < ds.length) : setIxD kon (.loc a) (.int (k : Int)) v S = some (S.set a (.lst (ds.set k v))) := by
  show (match S[a]? with
    | some (.lst ds) => (pix ds.length (k : Int)).map fun j => S.set a (.lst (ds.set j v))
    | some (.dct t kvs) => if isKey kon t (.int k) && decide (kvs.length < line) then some (S.set a (.dct t (dput kvs (.int k) v))) else none
    | _ => none) = _
  rw [h]
  simp only [pix_nat hk, Option.map_some]
theorem s_cell (h : P.fn i = some fCell) (n : Nat) {ns : List Int} {a k : Nat} {S : Store} (ha : S[a]? = some (.fro (ns.map .int))) : ∃ v, callF P (n + 1) i [.loc a, .int (k : Int)] S = .ok (.int v) S := by
  rw [callF_succ, h]
  simp [fCell, bLen, len_fro ha]
  by_cases hk : k < ns.length
  · simp [hk, getIx_nat' ha (k := k) (d := .int ns[k]) (by simp [hk])]
  · simp [hk]
theorem rngL_at {lo : Int} {n k : Nat} {d : D} (h : (rngL lo n)[k]? = some d) : d = .int (lo + k) ∧ k < n := by
  unfold rngL at h
  rw [List.getElem?_map] at h
  obtain ⟨j, h1, rfl⟩ := Option.map_eq_some_iff.mp h
  obtain ⟨h2, h3⟩ := List.getElem?_eq_some_iff.mp h1
  rw [List.getElem_range] at h3
  subst h3
  rw [List.length_range] at h2
  exact ⟨rfl, h2⟩
@[simp] theorem rngL_n {lo : Int} {n : Nat} : (rngL lo n).length = n := by unfold rngL; simp
theorem set_new {S : Store} {o o' : O} {g : Store} : (S ++ o :: g).set S.length o' = S ++ o' :: g := by
  rw [List.set_append_right _ _ (Nat.le_refl _), Nat.sub_self]; rfl
theorem b60 : bound62 60 = true := by decide +kernel
theorem p18 (S : Store) : binD .pow (.int 10) (.int 18) S = .ok (.int 1000000000000000000) S := by
  have h : powOk 10 18 = true := by decide +kernel
  show (if powOk 10 18 then R.ok (D.int (10 ^ (18 : Int).toNat)) S else .bad) = _
  rw [if_pos h]
  rfl
theorem draws_else {Γ : Gam} {k c : Nat} {x num : Int} {gr : Bool} {l : D} {r5 r6 : Option D} {S : Store} (hkc : ¬ k < c) : forB Γ (.nm 5) bDraws (.int k) [some (.int x), some (.int c), some (.int num), some (.bl gr), some l, r5, r6] S = .nx [some (.int x), some (.int c), some (.int num), some (.bl gr), some l, some (.int k), r6] S := by
  simp [forB, bDraws, hkc]
theorem draws_great {Γ : Gam} {k c : Nat} {x num : Int} {r5 r6 : Option D} {S : Store} {zs : List Int} (hkc : k < c) (hl : zs.length < line) : forB Γ (.nm 5) bDraws (.int k) [some (.int x), some (.int c), some (.int num), some (.bl true), some (.loc S.length), r5, r6] (S ++ [.lst (zs.map .int)]) =
    .nx [some (.int x), some (.int c), some (.int (num.fdiv 60)), some (.bl true), some (.loc S.length), some (.int k), r6] (S ++ [.lst ((zs ++ [num.fmod 60]).map .int)]) := by
  simp [forB, bDraws, hkc, bin_mod, bin_fdiv, isLst_of, app_of, hl, set_new]
theorem draws_small {Γ : Gam} {k c : Nat} {x num : Int} {r5 r6 : Option D} {S : Store} {zs : List Int} (hkc : k < c) (hl : zs.length < line) : ∃ m z, forB Γ (.nm 5) bDraws (.int k) [some (.int x), some (.int c), some (.int num), some (.bl false), some (.loc S.length), r5, r6] (S ++ [.lst (zs.map .int)]) =
    .nx [some (.int x), some (.int c), some (.int num), some (.bl false), some (.loc S.length), some (.int k), some (.int m)] (S ++ [.lst ((zs ++ [z]).map .int)]) := by
  have m1 : mulOk num 48271 = true := mulOk_r (by omega) (by omega)
  have m2 : mulOk (k : Int) 69621 = true := mulOk_r (by omega) (by omega)
  have m4 : mulOk (k : Int) 7919 = true := mulOk_r (by omega) (by omega)
  generalize hm : (num * 48271 + (k : Int) * 69621 + 11).fmod 2147483647 = m
  have b1 : 0 ≤ m := by rw [← hm]; exact Int.fmod_nonneg_of_pos _ (by omega)
  have b2 : m < 2147483647 := by rw [← hm]; exact Int.fmod_lt_of_pos _ (by omega)
  have m3 : mulOk m m = true := mulOk_r (by omega) (by omega)
  refine ⟨(m * m + (k : Int) * 7919 + 5).fmod 998244353, ((m * m + (k : Int) * 7919 + 5).fmod 998244353).fmod 60, ?_⟩
  simp [forB, bDraws, hkc, bin_mod, bin_mul, m1, m2, hm, m3, m4, isLst_of, app_of, hl, set_new]
theorem s_draws (h : P.fn i = some fDraws) (n : Nat) (x : Int) (c : Nat) (hc : c ≤ 60) (S : Store) : ∃ zs : List Int, callF P (n + 1) i [.int x, .int (c : Int)] S = .ok (.loc S.length) (S ++ [.lst (zs.map .int)]) ∧ zs.length = c := by
  rw [callF_succ, h]
  simp [fDraws, p18, b60]
  generalize (if x < 0 then -x else x) = num
  generalize (decide (1000000000000000000 ≤ num)) = gr
  generalize hL : loopF _ _ _ _ _ _ = r
  obtain ⟨en', S', rfl, num, gr, zs, r5, r6, rfl, rfl, hz⟩ := loopN hL (rngL 0 60) (by simp) (fun k en S' => ∃ (num : Int) (gr : Bool) (zs : List Int) (r5 r6 : Option D), en = [some (.int x), some (.int c), some (.int num), some (.bl gr), some (.loc S.length), r5, r6] ∧ S' = S ++ [.lst (zs.map .int)] ∧ zs.length = min k c)
    (fun _ _ _ _ => rfl) ⟨num, gr, [], none, none, rfl, rfl, by simp⟩ (by
      rintro k d en S1 Q hd ⟨num, gr, zs, r5, r6, rfl, rfl, hz⟩ hQ
      obtain ⟨rfl, hk⟩ := rngL_at hd
      rw [Int.zero_add]
      have hl : zs.length < line := by rw [hz]; show _ < 16777216; omega
      by_cases hkc : k < c
      · cases gr with
        | true =>
          rw [draws_great hkc hl]
          exact hQ _ _ ⟨_, _, _, _, _, rfl, rfl, by simp [hz]; omega⟩
        | false =>
          obtain ⟨m, z, e⟩ := draws_small (Γ := gamOf P n) (x := x) (num := num) (r5 := r5) (r6 := r6) (S := S) hkc hl
          rw [e]
          exact hQ _ _ ⟨_, _, _, _, _, rfl, rfl, by simp [hz]; omega⟩
      · rw [draws_else hkc]
        exact hQ _ _ ⟨_, _, _, _, _, rfl, rfl, by rw [hz]; omega⟩)
  simp
  exact ⟨zs, rfl, by rw [hz]; omega⟩

/-- the objects of S but c stay -/
def Frm (c : Nat) (S S' : Store) : Prop := S.length ≤ S'.length ∧ ∀ j, j < S.length → j ≠ c → S'[j]? = S[j]?
theorem Frm.refl (c : Nat) (S : Store) : Frm c S S := ⟨Nat.le_refl _, fun _ _ _ => rfl⟩
theorem Frm.trans {c : Nat} {S1 S2 S3 : Store} (a : Frm c S1 S2) (b : Frm c S2 S3) : Frm c S1 S3 := ⟨Nat.le_trans a.1 b.1, fun j h h2 => by rw [b.2 j (Nat.lt_of_lt_of_le h a.1) h2, a.2 j h h2]⟩
theorem Frm.app (c : Nat) (S g : Store) : Frm c S (S ++ g) := ⟨by rw [List.length_append]; omega, fun j h _ => List.getElem?_append_left h⟩
theorem Frm.setc (c : Nat) (S : Store) (o : O) : Frm c S (S.set c o) := ⟨by rw [List.length_set]; exact Nat.le_refl _, fun j _ h => by rw [List.getElem?_set_ne (Ne.symm h)]⟩
theorem Frm.setn {c l : Nat} {S S' : Store} (f : Frm c S S') (h : S.length ≤ l) (o : O) : Frm c S (S'.set l o) := ⟨by rw [List.length_set]; exact f.1, fun j h1 h2 => by rw [List.getElem?_set_ne (by omega)]; exact f.2 j h1 h2⟩
theorem Frm.get {c : Nat} {S S' : Store} (f : Frm c S S') {j : Nat} {o : O} (h : S[j]? = some o) (hc : j ≠ c) : S'[j]? = some o := by
  rw [f.2 j (List.getElem?_eq_some_iff.mp h).1 hc]; exact h
/-- the stream at s: its digits at b, its place at c -/
def StrAt (s b c : Nat) (S : Store) : Prop := (s ≠ c ∧ b ≠ c) ∧ ∃ (zs : List Int) (p : Int), S[s]? = some (.lst [.loc b, .loc c]) ∧ S[b]? = some (.lst (zs.map .int)) ∧ S[c]? = some (.lst [.int p]) ∧ zs ≠ []
theorem StrAt.app {s b c : Nat} {S : Store} (h : StrAt s b c S) (g : Store) : StrAt s b c (S ++ g) := by
  obtain ⟨h0, zs, p, h1, h2, h3, h4⟩ := h
  exact ⟨h0, zs, p, get_app h1, get_app h2, get_app h3, h4⟩
theorem StrAt.set {s b c l : Nat} {S : Store} (h : StrAt s b c S) (o : O) (h1 : l ≠ s) (h2 : l ≠ b) (h3 : l ≠ c) : StrAt s b c (S.set l o) := by
  obtain ⟨h0, zs, p, e1, e2, e3, h4⟩ := h
  exact ⟨h0, zs, p, by rw [List.getElem?_set_ne h1]; exact e1, by rw [List.getElem?_set_ne h2]; exact e2, by rw [List.getElem?_set_ne h3]; exact e3, h4⟩
theorem StrAt.lt {s b c : Nat} {S : Store} (h : StrAt s b c S) : s < S.length ∧ b < S.length ∧ c < S.length := by
  obtain ⟨h0, zs, p, e1, e2, e3, h4⟩ := h
  exact ⟨(List.getElem?_eq_some_iff.mp e1).1, (List.getElem?_eq_some_iff.mp e2).1, (List.getElem?_eq_some_iff.mp e3).1⟩
theorem s_next (h : P.fn i = some fNext) (n : Nat) {s b c : Nat} {S : Store} (hs : StrAt s b c S) (m : Int) (hm : 0 < m) : ∃ (v p : Int), callF P (n + 1) i [.loc s, .int m] S = .ok (.int v) (S.set c (.lst [.int p])) ∧ 0 ≤ v ∧ v < m ∧ StrAt s b c (S.set c (.lst [.int p])) := by
  obtain ⟨⟨k1, k2⟩, zs, p, h1, h2, h3, h4⟩ := hs
  have hz : 0 < zs.length := List.length_pos_iff.mpr h4
  have hz' : (zs.length : Int) ≠ 0 := by omega
  have j0 : 0 ≤ p.fmod zs.length := Int.fmod_nonneg_of_pos _ (by omega)
  have j1 : p.fmod zs.length < zs.length := Int.fmod_lt_of_pos _ (by omega)
  obtain ⟨k, hk⟩ := Int.eq_ofNat_of_zero_le j0
  have hk2 : k < zs.length := by omega
  have g1 : getIx P.kon S (.loc s) (.int 0) = some (.loc b) := getIx_nat (k := 0) h1 rfl
  have g2 : getIx P.kon S (.loc s) (.int 1) = some (.loc c) := getIx_nat (k := 1) h1 rfl
  have g3 : getIx P.kon S (.loc c) (.int 0) = some (.int p) := getIx_nat (k := 0) h3 rfl
  have g4 : getIx P.kon S (.loc b) (.int (p.fmod zs.length)) = some (.int zs[k]) := by rw [hk]; exact getIx_nat h2 (by simp [hk2])
  have g5 : setIxD P.kon (.loc c) (.int 0) (.int (p + 1)) S = some (S.set c (.lst [.int (p + 1)])) := setIx_nat (k := 0) h3 (by simp)
  have lc := (List.getElem?_eq_some_iff.mp h3).1
  refine ⟨(zs[k]).fmod m, p + 1, ?_, Int.fmod_nonneg_of_pos _ hm, Int.fmod_lt_of_pos _ hm, ⟨k1, k2⟩, zs, p + 1, ?_, ?_, ?_, h4⟩
  · rw [callF_succ, h]
    have hm' : m ≠ 0 := by omega
    have e1 := bin_mod S (i := p) hz'
    have e2 := bin_mod S (i := zs[k]) hm'
    simp [fNext, g1, g2, g3, bLen, len_lst h2, e1, e2, g4, g5]
  · rw [List.getElem?_set_ne (Ne.symm k1)]; exact h1
  · rw [List.getElem?_set_ne (Ne.symm k2)]; exact h2
  · rw [List.getElem?_set_self lc]
theorem ext_new {S g : Store} {xs ys : List D} (hl : xs.length + ys.length ≤ line) : bmtD .extend (.loc S.length) [.loc (S ++ O.lst xs :: g).length] (S ++ O.lst xs :: g ++ [O.lst ys]) = .ok .non (S ++ O.lst (xs ++ ys) :: (g ++ [O.lst ys])) := by
  rw [ext_of (xs := xs) (ys := ys) (by rw [List.append_assoc]; exact get_new) (by rw [List.getElem?_append_right (Nat.le_refl _), Nat.sub_self]; rfl) hl]
  rw [List.append_assoc, List.cons_append, set_new]
theorem s_stream {ic id : Nat} (h : P.fn i = some (fStream ic id)) (hc : P.fn ic = some fCell) (hd : P.fn id = some fDraws) (n : Nat) {ns : List Int} {a : Nat} {S : Store} (ha : S[a]? = some (.fro (ns.map .int))) (first count : Nat) (h1 : 0 < count) (h2 : count ≤ 60) :
    ∃ S' s b c, callF P (n + 2) i [.loc a, .int (first : Int), .int (count : Int)] S = .ok (.loc s) S' ∧ StrAt s b c S' ∧ Frm S'.length S S' ∧ S.length ≤ s ∧ S.length ≤ b ∧ S.length ≤ c := by
  have hb : bound62 (count : Int) = true := by unfold bound62; simp; omega
  generalize hr : callF P (n + 2) i [.loc a, .int (first : Int), .int (count : Int)] S = res
  rw [callF_succ, h] at hr
  simp [fStream, hb] at hr
  generalize hL : loopF _ _ _ _ _ _ = r at hr
  obtain ⟨en', S', rfl, zs, g, r4, rfl, rfl, hz⟩ := loopN hL (rngL 0 count) (by simp) (fun k en S' => ∃ (zs : List Int) (g : Store) (r4 : Option D), en = [some (.loc a), some (.int first), some (.int count), some (.loc S.length), r4] ∧ S' = S ++ O.lst (zs.map D.int) :: g ∧ zs.length = 12 * k)
    (fun _ _ _ _ => rfl) ⟨[], [], none, rfl, rfl, rfl⟩ (by
      rintro k d en S1 Q hd' ⟨zs, g, r4, rfl, rfl, hz⟩ hQ
      obtain ⟨rfl, hk⟩ := rngL_at hd'
      rw [Int.zero_add]
      obtain ⟨v, e1⟩ := s_cell (P := P) hc n (ns := ns) (a := a) (k := first + k) (S := S ++ O.lst (zs.map D.int) :: g) (get_app ha)
      obtain ⟨ys, e2, hy⟩ := s_draws (P := P) hd n v 12 (by omega) (S ++ O.lst (zs.map D.int) :: g)
      have e3 := ext_new (S := S) (g := g) (xs := zs.map D.int) (ys := ys.map D.int) (by rw [List.length_map, List.length_map]; show _ ≤ 16777216; omega)
      rw [← List.map_append] at e3
      have e1' : callF P (n + 1) ic [.loc a, .int ((first : Int) + (k : Int))] (S ++ O.lst (zs.map D.int) :: g) = .ok (.int v) (S ++ O.lst (zs.map D.int) :: g) := by rw [← e1]; rfl
      have e2' : callF P (n + 1) id [.int v, .int 12] (S ++ O.lst (zs.map D.int) :: g) = _ := e2
      have i1 : isLst (S ++ O.lst (zs.map D.int) :: g) (.loc S.length) = true := isLst_of get_new
      have ef : forB (gamOf P (n + 1)) (.nm 4) (.cons (.ex (.bmt .extend (.var 3) (.cons (.call id (.cons (.call ic (.cons (.var 0) (.cons (.bin .add (.var 1) (.var 4)) .nil))) (.cons (.cst (.int 12)) .nil))) .nil))) .nil) (.int k) [some (.loc a), some (.int first), some (.int count), some (.loc S.length), r4] (S ++ O.lst (zs.map D.int) :: g) = .nx [some (.loc a), some (.int first), some (.int count), some (.loc S.length), some (.int k)] (S ++ O.lst ((zs ++ ys).map D.int) :: (g ++ [O.lst (ys.map D.int)])) := by
        unfold forB
        simp only [asg_nm, List.set_cons_succ, List.set_cons_zero, exs_cons, exr_ex, evr_bmt, evr_var, List.getElem?_cons_succ, List.getElem?_cons_zero, bind_ok, i1, if_true, evs_cons, evr_call, evs_nil, evr_bin, bin_add, evr_cst, gam_call, e1', e2', e3, thn_ok, exs_nil]
      rw [ef]
      exact hQ _ _ ⟨_, _, _, rfl, rfl, by rw [List.length_append, hz, hy]; omega⟩)
  simp [line] at hr
  refine ⟨_, _, S.length, S.length + (g.length + 1), hr.symm, ⟨⟨by omega, by omega⟩, zs, 0, ?_, ?_, ?_, ?_⟩, ?_, by omega, by omega, by omega⟩
  · rw [List.getElem?_append_right (by omega)]
    have e : S.length + (g.length + 1 + 1) - S.length = g.length + 1 + 1 := by omega
    rw [e]
    simp
  · exact get_new
  · rw [List.getElem?_append_right (by omega)]
    have e : S.length + (g.length + 1) - S.length = g.length + 1 := by omega
    rw [e]
    simp
  · intro z; subst z; simp at hz; omega
  · exact Frm.app _ _ _

theorem s_expr {inx : Nat} (h : P.fn i = some (fExpr inx)) (hn : P.fn inx = some fNext) (n : Nat) {s b c : Nat} {S : Store} (hs : StrAt s b c S) (count : Nat) (spread const : Int) (h1 : count ≤ 100000) (h2 : 0 ≤ spread) (h3 : spread < 2 ^ 60) (h4 : 0 ≤ const) (h5 : const < 2 ^ 60) :
    ∃ (xs : List Int) (v : Int) (S' : Store), callF P (n + 2) i [.loc s, .int (count : Int), .int spread, .int const] S = .ok (.tup ((xs ++ [v]).map .int)) S' ∧ xs.length = count ∧ (∀ x ∈ xs, -spread ≤ x ∧ x ≤ spread) ∧ StrAt s b c S' ∧ Frm c S S' ∧ -const ≤ v ∧ v ≤ const := by
  have hb : bound62 (count : Int) = true := by unfold bound62; simp; omega
  have m1 : mulOk 2 spread = true := mulOk_l (by omega) (by omega)
  have m2 : mulOk 2 const = true := mulOk_l (by omega) (by omega)
  have lts := hs.lt
  generalize hr : callF P (n + 2) i [.loc s, .int (count : Int), .int spread, .int const] S = res
  rw [callF_succ, h] at hr
  simp [fExpr, hb] at hr
  generalize hL : loopC _ _ _ _ _ _ = r at hr
  obtain ⟨acc, S1, rfl, xs, rfl, hx, hx2, hs1, hf1, hl1⟩ := compI hL (rngL 0 count) (by simp) (by simp [line]; omega)
    (fun k acc S' => ∃ xs : List Int, acc = xs.map .int ∧ xs.length = k ∧ (∀ x ∈ xs, -spread ≤ x ∧ x ≤ spread) ∧ StrAt s b c S' ∧ Frm c S S' ∧ S'[S.length]? = some (.lst acc))
    (fun k acc S' ⟨xs, e, hx, _⟩ => by rw [e, List.length_map, hx]; exact Nat.le_refl _) (fun _ _ _ _ => rfl)
    ⟨[], rfl, rfl, (fun _ h => nomatch h), hs.app _, Frm.app _ _ _, get_new⟩ (by
      rintro k d acc S1 Q hd ⟨xs, rfl, hx, hx2, hs1, hf1, hl1⟩ - hQ
      obtain ⟨rfl, hk⟩ := rngL_at hd
      obtain ⟨v, p, e, v0, v1, hs2⟩ := s_next (P := P) hn n hs1 (2 * spread + 1) (by omega)
      have hl2 : (S1.set c (.lst [.int p]))[S.length]? = some (.lst (xs.map .int)) := by rw [List.getElem?_set_ne (by omega)]; exact hl1
      simp [cmpB, bin_mul, m1, e]
      refine hQ _ _ hl2 ⟨xs ++ [v - spread], by simp, by simp [hx], fun x m => ?_, hs2.set _ (by omega) (by omega) (by omega), (hf1.trans (Frm.setc c _ _)).setn (Nat.le_refl _) _, ?_⟩
      · rcases List.mem_append.mp m with m | m
        · exact hx2 x m
        · rw [List.mem_singleton] at m
          subst m
          constructor <;> omega
      · rw [List.getElem?_set_self (List.getElem?_eq_some_iff.mp hl2).1])
  obtain ⟨v, p, e, v0, v1, hs2⟩ := s_next (P := P) hn n hs1 (2 * const + 1) (by omega)
  have hl2 : (S1.set c (.lst [.int p]))[S.length]? = some (.lst (xs.map .int)) := by rw [List.getElem?_set_ne (by omega)]; exact hl1
  have i1 : isLst S1 (.loc S.length) = true := isLst_of hl1
  have e2 := app_of (d := .int (v - const)) hl2 (by rw [List.length_map]; show _ < 16777216; omega)
  have sq : seqOf ((S1.set c (.lst [.int p])).set S.length (.lst (xs.map .int ++ [.int (v - const)]))) (.loc S.length) = some (xs.map .int ++ [.int (v - const)]) := by
    exact seqL_of (List.getElem?_set_self (List.getElem?_eq_some_iff.mp hl2).1)
  simp [i1, bin_mul, m2, e, e2, bTuple, sq] at hr
  refine ⟨xs, v - const, (S1.set c (.lst [.int p])).set S.length (.lst (xs.map .int ++ [.int (v - const)])), by rw [← hr]; simp, hx, hx2, hs2.set _ (by omega) (by omega) (by omega), (hf1.trans (Frm.setc c _ _)).setn (Nat.le_refl _) _, by omega, by omega⟩
end
end Lw
end
section
set_option Elab.async false
set_option linter.all false
set_option autoImplicit false
set_option maxRecDepth 10000
namespace Lw
def fIsInt : Fn := ⟨1, 1, (.cons (.ret (.and (.isi (.var 0) .tint) (.not (.isi (.var 0) .tbool)))) .nil)⟩
def bSame (is_ : Nat) : Sms := 
    (.cons (.ife (.not (.call is_ (.cons (.ix (.var 0) (.var 2)) (.cons (.ix (.var 1) (.var 2)) .nil)))) 
      (.cons (.ret (.cst (.bl false))) .nil) .nil) .nil)
def fSame (ii is_ : Nat) : Fn := ⟨2, 3,
  (.cons (.ife (.cmp .isN (.var 1) (.cst .non)) 
    (.cons (.ret (.cmp .isN (.var 0) (.cst .non))) .nil) .nil)
  (.cons (.ife (.isi (.var 1) .tbool) 
    (.cons (.ret (.and (.isi (.var 0) .tbool) (.cmp .eq (.var 0) (.var 1)))) .nil) .nil)
  (.cons (.ife (.isi (.var 1) .tint) 
    (.cons (.ret (.and (.call ii (.cons (.var 0) .nil)) (.cmp .eq (.var 0) (.var 1)))) .nil) .nil)
  (.cons (.ife (.isi (.var 1) .tstr) 
    (.cons (.ret (.and (.isi (.var 0) .tstr) (.cmp .eq (.var 0) (.var 1)))) .nil) .nil)
  (.cons (.ife (.and (.isi (.var 1) .ttup) (.not (.isi (.var 0) .ttup))) 
    (.cons (.ret (.cst (.bl false))) .nil) .nil)
  (.cons (.ife (.and (.isi (.var 1) .tlst) (.not (.isi (.var 0) .tlst))) 
    (.cons (.ret (.cst (.bl false))) .nil) .nil)
  (.cons (.ife (.cmp .ne (.bif .len (.cons (.var 0) .nil)) (.bif .len (.cons (.var 1) .nil))) 
    (.cons (.ret (.cst (.bl false))) .nil) .nil)
  (.cons (.forr (.nm 2) (.rng1 (.bif .len (.cons (.var 1) .nil)))
    (bSame is_))
  (.cons (.ret (.cst (.bl true))) .nil)))))))))⟩
mutual
/-- no line too long -/
def tOk : T → Bool
  | .tup ts => decide (ts.length ≤ line) && tsOk ts
  | .lst ts => decide (ts.length ≤ line) && tsOk ts
  | _ => true
def tsOk : List T → Bool
  | [] => true
  | t :: ts => tOk t && tsOk ts
end
theorem tsOk_get : ∀ {ts : List T} {k : Nat} {t : T}, tsOk ts = true → ts[k]? = some t → tOk t = true
  | [], _, _, _, h => by cases h
  | t :: ts, 0, _, h, h2 => by
    cases h2
    unfold tsOk at h
    exact (Bool.and_eq_true_iff.mp h).1
  | t :: ts, k + 1, _, h, h2 => by
    unfold tsOk at h
    exact tsOk_get (Bool.and_eq_true_iff.mp h).2 h2
theorem mapO_get {α β : Type} {f : α → Option β} : ∀ {xs : List α} {ys : List β}, mapO f xs = some ys → xs.length = ys.length ∧ ∀ (k : Nat) (x : α), xs[k]? = some x → ∃ y, ys[k]? = some y ∧ f x = some y
  | [], ys, h => by
    cases h
    exact ⟨rfl, fun k x h => by cases h⟩
  | x :: xs, ys, h => by
    unfold mapO at h
    split at h
    · cases h
    · rename_i y hy
      split at h
      · cases h
      · rename_i zs hz
        cases h
        obtain ⟨h1, h2⟩ := mapO_get hz
        refine ⟨by rw [List.length_cons, List.length_cons, h1], fun k z hk => ?_⟩
        cases k with
        | zero => cases hk; exact ⟨y, rfl, hy⟩
        | succ k => exact h2 k z hk
@[simp] theorem isi_non (S : Store) (t : Ty) : isiD S t .non = some false := Eq.trans rfl rfl
@[simp] theorem isi_bl (S : Store) (t : Ty) (b : Bool) : isiD S t (.bl b) = some (decide (t = .tbool ∨ t = .tint)) := Eq.trans rfl rfl
@[simp] theorem isi_int (S : Store) (t : Ty) (i : Int) : isiD S t (.int i) = some (decide (t = .tint)) := Eq.trans rfl rfl
@[simp] theorem isi_str (S : Store) (t : Ty) (x : Tx) : isiD S t (.str x) = some (decide (t = .tstr)) := Eq.trans rfl rfl
@[simp] theorem isi_tup (S : Store) (t : Ty) (x : List D) : isiD S t (.tup x) = some (decide (t = .ttup)) := Eq.trans rfl rfl
@[simp] theorem deq_str (S : Store) (x y : Tx) : deq S (.str x) (.str y) = some (decide (x = y)) := Eq.trans rfl rfl
@[simp] theorem deq_bl (S : Store) (x y : Bool) : deq S (.bl x) (.bl y) = some (decide (x = y)) := Eq.trans rfl rfl
/-- a sequence: a tuple, a list -/
def SeqAt (S : Store) (a : D) (ds : List D) (tup : Bool) : Prop := match tup with
  | true => a = .tup ds
  | false => ∃ n, a = .loc n ∧ (S[n]? = some (.lst ds) ∨ S[n]? = some (.fro ds))
section
variable {S : Store} {a : D} {ds : List D} {t : Bool}
theorem SeqAt.len (h : SeqAt S a ds t) : lenD S a = some ds.length := by
  cases t with
  | true => cases h; rfl
  | false =>
    obtain ⟨n, rfl, h | h⟩ := h
    · exact len_lst h
    · exact len_fro h
theorem SeqAt.get (h : SeqAt S a ds t) (kon : D → Bool) {k : Nat} {d : D} (hd : ds[k]? = some d) : getIx kon S a (.int (k : Int)) = some d := by
  cases t with
  | true =>
    cases h
    show (pix ds.length (k : Int)).bind (ds[·]?) = _
    rw [pix_nat (List.getElem?_eq_some_iff.mp hd).1]
    exact hd
  | false =>
    obtain ⟨n, rfl, h | h⟩ := h
    · exact getIx_nat h hd
    · exact getIx_nat' h hd
theorem SeqAt.isi (h : SeqAt S a ds t) (ty : Ty) : isiD S ty a = some (decide (ty = if t then .ttup else .tlst)) := by
  cases t with
  | true => cases h; rfl
  | false =>
    obtain ⟨n, rfl, h | h⟩ := h
    · show (match S[n]? with
        | some (.lst _) => some (decide (ty = Ty.tlst))
        | some (.fro _) => some (decide (ty = Ty.tlst))
        | _ => none) = _
      rw [h]; rfl
    · show (match S[n]? with
        | some (.lst _) => some (decide (ty = Ty.tlst))
        | some (.fro _) => some (decide (ty = Ty.tlst))
        | _ => none) = _
      rw [h]; rfl
theorem SeqAt.non (h : SeqAt S a ds t) : a ≠ .non := by
  cases t with
  | true => cases h; exact fun e => nomatch e
  | false =>
    obtain ⟨n, rfl, _⟩ := h
    exact fun e => nomatch e
end
section
variable {P : Prog} {i : Nat}
theorem s_isint (h : P.fn i = some fIsInt) (n : Nat) (z : Int) (S : Store) : callF P (n + 1) i [.int z] S = .ok (.bl true) S := by
  rw [callF_succ, h]
  simp [fIsInt]
theorem bl62 {n : Nat} (h : n ≤ line) : bound62 (n : Int) = true := by
  have h' : n ≤ 16777216 := h
  unfold bound62
  simp
  omega
/-- on sequences -/
theorem same_seq {ii : Nat} (h : P.fn i = some (fSame ii i)) {n : Nat} {S : Store} {a b : D} {xs ys : List D} {t : Bool} (ha : SeqAt S a xs t) (hb : SeqAt S b ys t) (hl : xs.length = ys.length) (hl2 : ys.length ≤ line)
    (hk : ∀ (k : Nat) (x y : D), xs[k]? = some x → ys[k]? = some y → callF P n i [x, y] S = .ok (.bl true) S) : callF P (n + 1) i [a, b] S = .ok (.bl true) S := by
  generalize hr : callF P (n + 1) i [a, b] S = res
  rw [callF_succ, h] at hr
  have la : bLen a S = .ok (.int ys.length) S := by unfold bLen; rw [ha.len]; simp [hl]
  have lb : bLen b S = .ok (.int ys.length) S := by unfold bLen; rw [hb.len]
  have b6 := bl62 hl2
  have na : (a = D.non) = False := eq_false ha.non
  have nb : (b = D.non) = False := eq_false hb.non
  have loop : ∀ en, en = [some a, some b, none] → ∃ en', loopF (fun _ => some (rngL 0 ys.length)) (forB (gamOf P n) (.nm 2) (bSame i)) ys.length ys.length en S = .nx en' S := by
    rintro _ rfl
    generalize hL : loopF _ _ _ _ _ _ = r
    obtain ⟨en', S', rfl, rfl, r3, rfl⟩ := loopN hL (rngL 0 ys.length) (by simp) (fun k en S' => S' = S ∧ ∃ r3, en = [some a, some b, r3]) (fun _ _ _ _ => rfl) ⟨rfl, none, rfl⟩ (by
      rintro k d en S1 Q hd ⟨rfl, r3, rfl⟩ hQ
      obtain ⟨rfl, hk'⟩ := rngL_at hd
      have hx : k < xs.length := by omega
      have e := hk k _ _ (List.getElem?_eq_getElem hx) (List.getElem?_eq_getElem hk')
      have g1 := ha.get P.kon (List.getElem?_eq_getElem hx)
      have g2 := hb.get P.kon (List.getElem?_eq_getElem hk')
      simp [forB, bSame, g1, g2, e]
      exact hQ _ _ ⟨rfl, _, rfl⟩)
    exact ⟨_, rfl⟩
  obtain ⟨en', hloop⟩ := loop _ rfl
  cases t with
  | true =>
    simp [fSame, ha.isi, hb.isi, na, nb, la, lb, b6, hloop] at hr
    exact hr.symm
  | false =>
    simp [fSame, ha.isi, hb.isi, na, nb, la, lb, b6, hloop] at hr
    exact hr.symm
theorem s_same {ii : Nat} (h : P.fn i = some (fSame ii i)) (hi : P.fn ii = some fIsInt) (S : Store) (n : Nat) : ∀ (k : Nat) (a b : D) (t : T), deep S k a = some t → deep S k b = some t → tOk t = true → callF P (n + k + 1) i [a, b] S = .ok (.bl true) S := by
  intro k
  induction k with
  | zero => intro a b t h1; cases h1
  | succ k ih =>
    intro a b t h1 h2 ht
    have seqs : ∀ (c : Bool) (xs ys : List D) (ts : List T), SeqAt S a xs c → SeqAt S b ys c → mapO (deep S k) xs = some ts → mapO (deep S k) ys = some ts → ts.length ≤ line → tsOk ts = true → callF P (n + (k + 1) + 1) i [a, b] S = .ok (.bl true) S := by
      intro c xs ys ts ha hb m1 m2 hl ho
      obtain ⟨l1, g1⟩ := mapO_get m1
      obtain ⟨l2, g2⟩ := mapO_get m2
      refine same_seq h ha hb (by omega) (by omega) fun j x y hx hy => ?_
      obtain ⟨t1, e1, d1⟩ := g1 j x hx
      obtain ⟨t2, e2, d2⟩ := g2 j y hy
      rw [e1] at e2
      cases e2
      exact ih x y t1 d1 d2 (tsOk_get ho e1)
    have sa : ∀ (a : D) (ts : List T), deep S (k + 1) a = some (.tup ts) → ∃ xs, SeqAt S a xs true ∧ mapO (deep S k) xs = some ts := by
      intro a ts h
      unfold deep at h
      split at h <;> first | (cases h; done) | skip
      · split at h <;> cases h
      · obtain ⟨us, e1, e2⟩ := Option.map_eq_some_iff.mp h
        cases e2
        exact ⟨_, rfl, e1⟩
      · split at h
        · obtain ⟨us, e1, e2⟩ := Option.map_eq_some_iff.mp h
          cases e2
        · obtain ⟨us, e1, e2⟩ := Option.map_eq_some_iff.mp h
          cases e2
        · cases h
    have sl : ∀ (a : D) (ts : List T), deep S (k + 1) a = some (.lst ts) → ∃ xs, SeqAt S a xs false ∧ mapO (deep S k) xs = some ts := by
      intro a ts h
      unfold deep at h
      split at h <;> first | (cases h; done) | skip
      · split at h <;> cases h
      · obtain ⟨us, e1, e2⟩ := Option.map_eq_some_iff.mp h
        cases e2
      · split at h
        · rename_i e
          obtain ⟨us, e1, e2⟩ := Option.map_eq_some_iff.mp h
          cases e2
          exact ⟨_, ⟨_, rfl, .inl e⟩, e1⟩
        · rename_i e
          obtain ⟨us, e1, e2⟩ := Option.map_eq_some_iff.mp h
          cases e2
          exact ⟨_, ⟨_, rfl, .inr e⟩, e1⟩
        · cases h
    have flat : ∀ (a : D) (t : T), deep S (k + 1) a = some t → (t = .non → a = .non) ∧ (∀ b, t = .bl b → a = .bl b) ∧ (∀ z, t = .int z → a = .int z) ∧ ∀ x, t = .str x → a = .str x := by
      intro a t h
      unfold deep at h
      split at h
      · cases h; exact ⟨fun _ => rfl, fun _ e => (by cases e), fun _ e => (by cases e), fun _ e => by cases e⟩
      · cases h; exact ⟨fun e => (by cases e), fun _ e => (by cases e; rfl), fun _ e => (by cases e), fun _ e => by cases e⟩
      · cases h; exact ⟨fun e => (by cases e), fun _ e => (by cases e), fun _ e => (by cases e; rfl), fun _ e => by cases e⟩
      · split at h
        · cases h; exact ⟨fun e => (by cases e), fun _ e => (by cases e), fun _ e => (by cases e), fun _ e => by cases e; rfl⟩
        · cases h
      · obtain ⟨us, e1, e2⟩ := Option.map_eq_some_iff.mp h
        cases e2
        exact ⟨fun e => (by cases e), fun _ e => (by cases e), fun _ e => (by cases e), fun _ e => by cases e⟩
      · split at h
        · obtain ⟨us, e1, e2⟩ := Option.map_eq_some_iff.mp h
          cases e2
          exact ⟨fun e => (by cases e), fun _ e => (by cases e), fun _ e => (by cases e), fun _ e => by cases e⟩
        · obtain ⟨us, e1, e2⟩ := Option.map_eq_some_iff.mp h
          cases e2
          exact ⟨fun e => (by cases e), fun _ e => (by cases e), fun _ e => (by cases e), fun _ e => by cases e⟩
        · cases h
    cases t with
    | non =>
      obtain rfl := (flat a _ h1).1 rfl
      obtain rfl := (flat b _ h2).1 rfl
      rw [callF_succ, h]
      simp [fSame]
    | bl z =>
      obtain rfl := (flat a _ h1).2.1 _ rfl
      obtain rfl := (flat b _ h2).2.1 _ rfl
      rw [callF_succ, h]
      simp [fSame]
    | int z =>
      obtain rfl := (flat a _ h1).2.2.1 _ rfl
      obtain rfl := (flat b _ h2).2.2.1 _ rfl
      have e : callF P (n + (k + 1)) ii [.int z] S = .ok (.bl true) S := s_isint hi (n + k) z S
      rw [callF_succ, h]
      simp [fSame, e]
    | str z =>
      obtain rfl := (flat a _ h1).2.2.2 _ rfl
      obtain rfl := (flat b _ h2).2.2.2 _ rfl
      rw [callF_succ, h]
      simp [fSame]
    | tup ts =>
      obtain ⟨xs, ha, m1⟩ := sa a ts h1
      obtain ⟨ys, hb, m2⟩ := sa b ts h2
      unfold tOk at ht
      have h3 := Bool.and_eq_true_iff.mp ht
      exact seqs true xs ys ts ha hb m1 m2 (of_decide_eq_true h3.1) h3.2
    | lst ts =>
      obtain ⟨xs, ha, m1⟩ := sl a ts h1
      obtain ⟨ys, hb, m2⟩ := sl b ts h2
      unfold tOk at ht
      have h3 := Bool.and_eq_true_iff.mp ht
      exact seqs false xs ys ts ha hb m1 m2 (of_decide_eq_true h3.1) h3.2
end
end Lw
end
section
set_option Elab.async false
set_option linter.all false
set_option autoImplicit false
set_option maxRecDepth 10000
namespace Lw.Cn
def fCf : Fn := ⟨1, 3,
  (.cons (.set (.nm 1) (.cst (.int 0)))
  (.cons (.forr (.nm 2) (.seq (.sl (.var 0) (.cst .non) (.neg (.cst (.int 1)))))
    (.cons (.set (.nm 1) (.bif .gcd (.cons (.var 1) (.cons (.var 2) .nil)))) .nil))
  (.cons (.ret (.var 1)) .nil)))⟩
def fRed (icf : Nat) : Fn := ⟨1, 3,
  (.cons (.set (.nm 1) (.call icf (.cons (.var 0) .nil)))
  (.cons (.ife (.cmp .le (.var 1) (.cst (.int 1))) 
    (.cons (.ret (.var 0)) .nil) .nil)
  (.cons (.ret (.bif .tuple (.cons (.comp (.bin .fdiv (.var 2) (.var 1)) (.nm 2) [2] (.seq (.var 0)) (.cst (.bl true))) .nil))) .nil)))⟩
def fAlw : Fn := ⟨1, 2,
  (.cons (.ret (.and (.cmp .ge (.ix (.var 0) (.neg (.cst (.int 1)))) (.cst (.int 0))) (.bif .all (.cons (.comp (.cmp .eq (.var 1) (.cst (.int 0))) (.nm 1) [1] (.seq (.sl (.var 0) (.cst .non) (.neg (.cst (.int 1))))) (.cst (.bl true))) .nil)))) .nil)⟩
def fLeast (ire ial : Nat) : Fn := ⟨1, 5,
  (.cons (.set (.nm 1) (.dnew true))
  (.cons (.set (.nm 2) (.lst .nil))
  (.cons (.forr (.nm 3) (.seq (.var 0))
    (.cons (.set (.nm 4) (.call ire (.cons (.var 3) .nil)))
    (.cons (.ife (.cmp .nin (.sl (.var 4) (.cst .non) (.neg (.cst (.int 1)))) (.var 1)) 
      (.cons (.setIx (.var 1) (.sl (.var 4) (.cst .non) (.neg (.cst (.int 1)))) (.bif .len (.cons (.var 2) .nil)))
      (.cons (.ex (.bmt .append (.var 2) (.cons (.var 4) .nil))) .nil))
      (.cons (.ife (.cmp .lt (.ix (.var 4) (.neg (.cst (.int 1)))) (.ix (.ix (.var 2) (.ix (.var 1) (.sl (.var 4) (.cst .non) (.neg (.cst (.int 1)))))) (.neg (.cst (.int 1))))) 
        (.cons (.setIx (.var 2) (.ix (.var 1) (.sl (.var 4) (.cst .non) (.neg (.cst (.int 1))))) (.var 4)) .nil) .nil) .nil)) .nil)))
  (.cons (.ret (.comp (.var 3) (.nm 3) [3] (.seq (.var 2)) (.not (.call ial (.cons (.var 3) .nil))))) .nil))))⟩
def fLgcd : Fn := ⟨1, 5,
  (.cons (.set (.nm 1) (.cst (.int 0)))
  (.cons (.forr (.nm 2) (.seq (.var 0))
    (.cons (.set (.nm 3) (.bif .abs (.cons (.var 2) .nil)))
    (.cons (.forr (.nm 4) (.rng1 (.cst (.int 400)))
      (.cons (.ife (.cmp .gt (.var 3) (.cst (.int 0))) 
        (.cons (.set (.tp (.cons (.nm 1) (.cons (.nm 3) .nil))) (.tup (.cons (.var 3) (.cons (.bin .mod (.bif .int (.cons (.var 1) .nil)) (.var 3)) .nil)))) .nil) .nil) .nil)) .nil)))
  (.cons (.ret (.var 1)) .nil)))⟩
def fLred (ilg : Nat) : Fn := ⟨1, 3,
  (.cons (.set (.nm 1) (.call ilg (.cons (.sl (.var 0) (.cst .non) (.neg (.cst (.int 1)))) .nil)))
  (.cons (.ife (.cmp .le (.var 1) (.cst (.int 1))) 
    (.cons (.ret (.bif .tuple (.cons (.var 0) .nil))) .nil) .nil)
  (.cons (.ret (.bif .tuple (.cons (.comp (.bin .fdiv (.var 2) (.var 1)) (.nm 2) [2] (.seq (.var 0)) (.cst (.bl true))) .nil))) .nil)))⟩
def fLleast (ilr : Nat) : Fn := ⟨1, 7,
  (.cons (.set (.nm 1) (.lst .nil))
  (.cons (.forr (.nm 2) (.seq (.var 0))
    (.cons (.set (.nm 3) (.call ilr (.cons (.var 2) .nil)))
    (.cons (.set (.nm 4) (.comp (.var 5) (.nm 5) [5] (.rng1 (.bif .len (.cons (.var 1) .nil))) (.cmp .eq (.sl (.ix (.var 1) (.var 5)) (.cst .non) (.neg (.cst (.int 1)))) (.sl (.var 3) (.cst .non) (.neg (.cst (.int 1)))))))
    (.cons (.ife (.not (.var 4)) 
      (.cons (.ex (.bmt .append (.var 1) (.cons (.var 3) .nil))) .nil)
      (.cons (.ife (.cmp .lt (.ix (.var 3) (.neg (.cst (.int 1)))) (.ix (.ix (.var 1) (.ix (.var 4) (.cst (.int 0)))) (.neg (.cst (.int 1))))) 
        (.cons (.setIx (.var 1) (.ix (.var 4) (.cst (.int 0))) (.var 3)) .nil) .nil) .nil)) .nil))))
  (.cons (.ret (.comp (.var 3) (.nm 3) [3] (.seq (.var 1)) (.or (.cmp .lt (.ix (.var 3) (.neg (.cst (.int 1)))) (.cst (.int 0))) (.cmp .gt (.bif .len (.cons (.comp (.var 6) (.nm 6) [6] (.seq (.sl (.var 3) (.cst .non) (.neg (.cst (.int 1))))) (.cmp .ne (.var 6) (.cst (.int 0)))) .nil)) (.cst (.int 0)))))) .nil)))⟩
/-- where a program's defs on conditions stand -/
structure CondFns (P : Prog) (icf ire ial ilf ilg ilr ill : Nat) : Prop where
  kon : P.kon = fun _ => false
  cf : P.fn icf = some fCf
  red : P.fn ire = some (fRed icf)
  alw : P.fn ial = some fAlw
  lf : P.fn ilf = some (fLeast ire ial)
  lg : P.fn ilg = some fLgcd
  lr : P.fn ilr = some (fLred ilg)
  ll : P.fn ill = some (fLleast ilr)
variable {P : Prog} {icf ire ial ilf ilg ilr ill : Nat}
/-- a tuple of ints -/
def tz (xs : List Int) : D := .tup (xs.map .int)
/-- a condition: its coefficients, its constant -/
abbrev CP := List Int × Int
def cd (p : CP) : D := tz (p.1 ++ [p.2])
def cf (v : List Int) : Nat := v.foldl (fun f n => Nat.gcd f n.natAbs) 0
theorem cut_tz (v : List Int) (c : Int) : cut ((v ++ [c]).map D.int) none (some (-1)) = v.map .int := by
  rw [cut_init, ← List.map_dropLast, List.dropLast_concat]
theorem last_tz {kon : D → Bool} {S : Store} (v : List Int) (c : Int) : getIx kon S (.tup ((v ++ [c]).map D.int)) (.int (-1)) = some (.int c) := by
  show (pix ((v ++ [c]).map D.int).length (-1)).bind (((v ++ [c]).map D.int)[·]?) = _
  rw [pix_last (by simp)]
  simp
theorem s_cf (C : CondFns P icf ire ial ilf ilg ilr ill) (n : Nat) (v : List Int) (c : Int) (S : Store) : callF P (n + 1) icf [.tup ((v ++ [c]).map .int)] S = .ok (.int (cf v)) S := by
  generalize hr : callF P (n + 1) icf [.tup ((v ++ [c]).map .int)] S = res
  generalize ht : (v ++ [c]).map D.int = t at hr
  have hc : cut t none (some (-1)) = v.map .int := by rw [← ht]; exact cut_tz v c
  rw [callF_succ, C.cf] at hr
  simp [C.kon, fCf, hc] at hr
  generalize hL : loopF _ _ _ _ _ _ = r at hr
  obtain ⟨en', S', rfl, rfl, r, rfl⟩ := loopN hL (v.map D.int) (by simp) (fun k en S' => S' = S ∧ ∃ r, en = [some (.tup t), some (D.int (cf (v.take k))), r]) (fun _ _ _ _ => rfl) ⟨rfl, none, by simp [C.kon, cf]⟩ (by
      rintro k d en S1 Q hd ⟨rfl, r, rfl⟩ hQ
      rw [List.getElem?_map] at hd
      obtain ⟨x, hx, rfl⟩ := Option.map_eq_some_iff.mp hd
      simp [C.kon, forB]
      exact hQ _ _ ⟨rfl, _, by simp [C.kon, take_snoc hx, cf]; rfl⟩)
  simp at hr
  exact hr.symm
def redP (p : CP) : CP := if cf p.1 ≤ 1 then p else (p.1.map fun x => x.fdiv (cf p.1), p.2.fdiv (cf p.1))
theorem filterMap_int (f : Int → D) (xs : List Int) : (xs.map D.int).filterMap (fun d => match d with | .int x => some (f x) | _ => none) = xs.map f := by
  induction xs with
  | nil => rfl
  | cons x xs ih =>
    rw [List.map_cons, List.filterMap_cons]
    simp only
    rw [ih, List.map_cons]
theorem s_red (C : CondFns P icf ire ial ilf ilg ilr ill) (n : Nat) (p : CP) (S : Store) (h : cf p.1 < 1073741824) (hl : p.1.length < 1000) : ∃ g, callF P (n + 2) ire [cd p] S = .ok (cd (redP p)) (S ++ g) := by
  obtain ⟨v, c⟩ := p
  dsimp only at h hl
  generalize hr : callF P (n + 2) ire [cd (v, c)] S = res
  have e := s_cf C n v c S
  have ed : cd (v, c) = .tup ((v ++ [c]).map .int) := rfl
  rw [ed] at hr
  generalize ht : (v ++ [c]).map D.int = t at hr e
  rw [callF_succ, C.red] at hr
  simp [C.kon, fRed, e] at hr
  by_cases hc : cf v ≤ 1
  · have hc' : (cf v : Int) ≤ 1 := by omega
    simp [C.kon, hc'] at hr
    exact ⟨[], by rw [← hr, ← ht]; simp [C.kon, redP, hc, cd, tz]⟩
  · have hc' : ¬ (cf v : Int) ≤ 1 := by omega
    simp [C.kon, hc'] at hr
    generalize hL : loopC _ _ _ _ _ _ = r at hr
    have lt : t.length < 1001 := by rw [← ht]; simp; omega
    obtain ⟨g', rfl⟩ := compN hL t (fun d => match d with | .int x => some (D.int (x.fdiv (cf v))) | _ => none) (by simp) rfl (by show _ ≤ 16777216; omega) (fun _ => rfl) (by
      intro d hd acc g
      rw [← ht] at hd
      obtain ⟨x, hx, rfl⟩ := List.mem_map.mp hd
      refine ⟨[], ?_⟩
      simp [C.kon, cmpB, bin_fdiv (S ++ O.lst acc :: g) (i := x) (j := cf v) (by omega) (by omega)])
    rw [← ht, filterMap_int (fun x => .int (x.fdiv (cf v)))] at hr
    simp [C.kon, bTuple, seqL_of get_new] at hr
    exact ⟨_, by rw [← hr]; simp [C.kon, redP, hc, cd, tz]; rfl⟩
def alw (p : CP) : Bool := decide (0 ≤ p.2) && p.1.all (fun x => decide (x = 0))
theorem s_alw (C : CondFns P icf ire ial ilf ilg ilr ill) (n : Nat) (p : CP) (S : Store) (hl : p.1.length < 1000) : ∃ g, callF P (n + 1) ial [cd p] S = .ok (.bl (alw p)) (S ++ g) := by
  obtain ⟨v, c⟩ := p
  dsimp only at hl
  generalize hr : callF P (n + 1) ial [cd (v, c)] S = res
  generalize ht : (v ++ [c]).map D.int = t at hr
  have hc : cut t none (some (-1)) = v.map .int := by rw [← ht]; exact cut_tz v c
  have hx : getIx (fun _ => false) S (.tup t) (.int (-1)) = some (.int c) := by rw [← ht]; exact last_tz v c
  have e : cd (v, c) = .tup t := by rw [← ht]; rfl
  rw [callF_succ, C.alw, e] at hr
  simp [C.kon, fAlw, hc, hx] at hr
  by_cases h0 : 0 ≤ c
  · simp [C.kon, h0] at hr
    generalize hL : loopC _ _ _ _ _ _ = r at hr
    obtain ⟨g', rfl⟩ := compN hL (v.map D.int) (fun d => match d with | .int x => some (.bl (decide (x = 0))) | _ => none) (by simp) rfl (by simp [C.kon, line]; omega) (fun _ => rfl) (by
      intro d hd acc g
      obtain ⟨x, hx, rfl⟩ := List.mem_map.mp hd
      refine ⟨[], ?_⟩
      simp [C.kon, cmpB])
    rw [filterMap_int (fun x => .bl (decide (x = 0)))] at hr
    have e2 : ∀ v : List Int, mapO boolOf (v.map fun x => D.bl (decide (x = 0))) = some (v.map fun x => decide (x = 0)) := by
      intro v
      induction v with
      | nil => rfl
      | cons x v ih => unfold mapO; simp only [List.map_cons, boolOf, ih]
    simp [C.kon, bAll, boolsOf, seqL_of get_new, e2] at hr
    exact ⟨_, by rw [← hr]; simp [C.kon, alw, h0]; rfl⟩
  · simp [C.kon, h0] at hr
    exact ⟨[], by rw [← hr]; simp [C.kon, alw, h0]⟩

/-! ### the law's own greatest divisor -/
def eIt : Nat → Nat → Nat → Nat × Nat
  | 0, d, r => (d, r)
  | n + 1, d, r => if 0 < (eIt n d r).2 then ((eIt n d r).2, (eIt n d r).1 % (eIt n d r).2) else eIt n d r
theorem eIt_pos {n d r : Nat} (h : 0 < (eIt n d r).2) : eIt (n + 1) d r = ((eIt n d r).2, (eIt n d r).1 % (eIt n d r).2) := if_pos h
theorem eIt_neg {n d r : Nat} (h : ¬ 0 < (eIt n d r).2) : eIt (n + 1) d r = eIt n d r := if_neg h
theorem eIt_gcd (d r : Nat) : ∀ n, Nat.gcd (eIt n d r).1 (eIt n d r).2 = Nat.gcd d r
  | 0 => rfl
  | n + 1 => by
    by_cases h : 0 < (eIt n d r).2
    · rw [eIt_pos h, ← eIt_gcd d r n, Nat.gcd_comm (eIt n d r).2, ← Nat.gcd_rec, Nat.gcd_comm]
    · rw [eIt_neg h]
      exact eIt_gcd d r n
theorem two_mod {a b : Nat} (h2 : 0 < a % b) (h : 0 < b) : b % (a % b) ≤ b / 2 := by
  have h3 : a % b < b := Nat.mod_lt _ h
  have h4 : b % (a % b) < a % b := Nat.mod_lt _ h2
  by_cases h5 : a % b ≤ b / 2
  · omega
  · have h6 : b % (a % b) = b - a % b := by
      rw [Nat.mod_eq_sub_mod (by omega), Nat.mod_eq_of_lt (by omega)]
    omega
theorem eIt_half (d r n : Nat) : (eIt (n + 2) d r).2 ≤ (eIt n d r).2 / 2 := by
  by_cases h : 0 < (eIt n d r).2
  · have e := eIt_pos h
    by_cases h2 : 0 < (eIt (n + 1) d r).2
    · rw [eIt_pos h2, e]
      rw [e] at h2
      exact two_mod h2 h
    · rw [eIt_neg h2]
      omega
  · have e := eIt_neg h
    rw [eIt_neg (by rw [e]; exact h), e]
    omega
theorem eIt_small (d r : Nat) : ∀ k, (eIt (2 * k) d r).2 * 2 ^ k ≤ r
  | 0 => by simp [eIt]
  | k + 1 => by
    have h1 := eIt_half d r (2 * k)
    have h2 := eIt_small d r k
    have e : 2 * (k + 1) = 2 * k + 2 := by omega
    rw [e, Nat.pow_succ]
    have h3 : (eIt (2 * k + 2) d r).2 * 2 ≤ (eIt (2 * k) d r).2 := by omega
    calc (eIt (2 * k + 2) d r).2 * (2 ^ k * 2) = (eIt (2 * k + 2) d r).2 * 2 * 2 ^ k := by rw [Nat.mul_comm (2 ^ k), Nat.mul_assoc]
      _ ≤ (eIt (2 * k) d r).2 * 2 ^ k := Nat.mul_le_mul_right _ h3
      _ ≤ r := h2
theorem eIt_end {d r : Nat} (h : r < 2 ^ 200) : (eIt 400 d r).1 = Nat.gcd d r := by
  have h1 := eIt_small d r 200
  have h2 : (eIt 400 d r).2 = 0 := by
    rcases Nat.eq_zero_or_pos (eIt 400 d r).2 with h2 | h2
    · exact h2
    · have h3 : 1 * 2 ^ 200 ≤ (eIt 400 d r).2 * 2 ^ 200 := Nat.mul_le_mul_right _ h2
      have h4 : (eIt 400 d r).2 * 2 ^ 200 ≤ r := h1
      omega
  have h3 := eIt_gcd d r 400
  rw [h2, Nat.gcd_zero_right] at h3
  exact h3
theorem b400 : bound62 400 = true := by decide +kernel
theorem bmod_nat (S : Store) (a b : Nat) (h : 0 < b) : binD .mod (.int (a : Int)) (.int (b : Int)) S = .ok (.int ((a % b : Nat) : Int)) S := by
  rw [bin_mod S (by omega), ← Int.ofNat_fmod]
theorem s_lgcd (C : CondFns P icf ire ial ilf ilg ilr ill) (n : Nat) (v : List Int) (S : Store) (hv : ∀ x ∈ v, x.natAbs < 2 ^ 60) : callF P (n + 1) ilg [tz v] S = .ok (.int (cf v)) S := by
  generalize hr : callF P (n + 1) ilg [tz v] S = res
  rw [callF_succ, C.lg] at hr
  simp [C.kon, fLgcd, tz] at hr
  generalize hL : loopF _ _ _ _ _ _ = r at hr
  obtain ⟨en', S', rfl, rfl, r2, r3, r4, rfl⟩ := loopN hL (v.map D.int) (by simp) (fun k en S' => S' = S ∧ ∃ r2 r3 r4, en = [some (.tup (v.map .int)), some (D.int (cf (v.take k))), r2, r3, r4]) (fun _ _ _ _ => rfl) ⟨rfl, none, none, none, by simp [C.kon, cf]⟩ (by
      rintro k d en S1 Q hd ⟨rfl, r2, r3, r4, rfl⟩ hQ
      rw [List.getElem?_map] at hd
      obtain ⟨x, hx, rfl⟩ := Option.map_eq_some_iff.mp hd
      have hab : (if x < 0 then -x else x) = (x.natAbs : Int) := by split <;> omega
      simp [C.kon, forB, b400, hab]
      generalize hL2 : loopF _ _ _ _ _ _ = q
      obtain ⟨en2, S2, rfl, rfl, r4', rfl⟩ := loopN hL2 (rngL 0 400) (by simp) (fun j en S' => S' = S1 ∧ ∃ r4, en = [some (.tup (v.map .int)), some (D.int ((eIt j (cf (v.take k)) x.natAbs).1 : Nat)), some (.int x), some (.int ((eIt j (cf (v.take k)) x.natAbs).2 : Nat)), r4]) (fun _ _ _ _ => rfl) ⟨rfl, r4, rfl⟩ (by
        rintro j d en S2 Q hd ⟨rfl, r4, rfl⟩ hQ
        obtain ⟨rfl, hj⟩ := rngL_at hd
        by_cases hp : 0 < (eIt j (cf (v.take k)) x.natAbs).2
        · simp [C.kon, forB, hp, bmod_nat, line]
          exact hQ _ _ ⟨rfl, _, by rw [eIt_pos hp]; rfl⟩
        · simp [C.kon, forB, hp]
          exact hQ _ _ ⟨rfl, _, by rw [eIt_neg hp]⟩)
      have hg : (eIt 400 (cf (v.take k)) x.natAbs).1 = cf (v.take (k + 1)) := by
        rw [eIt_end (Nat.lt_trans (hv x (List.mem_of_getElem? hx)) (by decide +kernel)), take_snoc hx]
        simp [C.kon, cf]
      simp only
      exact hQ _ _ ⟨rfl, _, _, _, by rw [hg]⟩)
  simp at hr
  exact hr.symm
theorem cut_cd (p : CP) : cut ((p.1 ++ [p.2]).map D.int) none (some (-1)) = p.1.map .int := cut_tz p.1 p.2
theorem s_lred (C : CondFns P icf ire ial ilf ilg ilr ill) (n : Nat) (p : CP) (S : Store) (h : cf p.1 < 1073741824) (hv : ∀ x ∈ p.1, x.natAbs < 2 ^ 60) (hl : p.1.length < 1000) : ∃ g, callF P (n + 2) ilr [cd p] S = .ok (cd (redP p)) (S ++ g) := by
  obtain ⟨v, c⟩ := p
  dsimp only at h hl hv
  generalize hr : callF P (n + 2) ilr [cd (v, c)] S = res
  have e := s_lgcd C n v S hv
  unfold tz at e
  have ed : cd (v, c) = .tup ((v ++ [c]).map .int) := rfl
  have hcut := cut_tz v c
  rw [ed] at hr
  generalize ht : (v ++ [c]).map D.int = t at hr hcut
  rw [callF_succ, C.lr] at hr
  simp [C.kon, fLred, hcut, e, bTuple] at hr
  by_cases hc : cf v ≤ 1
  · have hc' : (cf v : Int) ≤ 1 := by omega
    simp [C.kon, hc'] at hr
    exact ⟨[], by rw [← hr, ← ht]; simp [C.kon, redP, hc, cd, tz]⟩
  · have hc' : ¬ (cf v : Int) ≤ 1 := by omega
    simp [C.kon, hc'] at hr
    generalize hL : loopC _ _ _ _ _ _ = r at hr
    have lt : t.length < 1001 := by rw [← ht]; simp; omega
    obtain ⟨g', rfl⟩ := compN hL t (fun d => match d with | .int x => some (D.int (x.fdiv (cf v))) | _ => none) (by simp) rfl (by show _ ≤ 16777216; omega) (fun _ => rfl) (by
      intro d hd acc g
      rw [← ht] at hd
      obtain ⟨x, hx, rfl⟩ := List.mem_map.mp hd
      refine ⟨[], ?_⟩
      simp [C.kon, cmpB, bin_fdiv (S ++ O.lst acc :: g) (i := x) (j := cf v) (by omega) (by omega)])
    rw [← ht, filterMap_int (fun x => .int (x.fdiv (cf v)))] at hr
    simp [C.kon, bTuple, seqL_of get_new] at hr
    exact ⟨_, by rw [← hr]; simp [C.kon, redP, hc, cd, tz]; rfl⟩

/-! ### least_form -/
def ixOf (ks : List (List Int)) (v : List Int) : Option Nat := ks.findIdx? fun k => decide (k = v)
def keysOf (fl : List CP) : List (List Int) := fl.map (·.1)
def lfStep (fl : List CP) (p : CP) : List CP := match ixOf (keysOf fl) (redP p).1 with
  | none => fl ++ [redP p]
  | some i => match fl[i]? with
    | some r => if (redP p).2 < r.2 then fl.set i (redP p) else fl
    | none => fl
def lf (ps : List CP) : List CP := ps.foldl lfStep []
def kvF (n : Nat) (ks : List (List Int)) : List (D × D) := (ks.zipIdx n).map fun q => (D.tup (q.1.map .int), D.int (q.2 : Int))
theorem tup_inj {v w : List Int} : D.tup (v.map .int) = D.tup (w.map .int) ↔ v = w := by
  constructor
  · intro h
    have h1 : v.map D.int = w.map D.int := by injection h
    have : ∀ v w : List Int, v.map D.int = w.map D.int → v = w := by
      intro v
      induction v with
      | nil => intro w h; cases w with
        | nil => rfl
        | cons _ _ => cases h
      | cons x v ih => intro w h; cases w with
        | nil => cases h
        | cons y w =>
          simp only [List.map_cons, List.cons.injEq, D.int.injEq] at h
          rw [h.1, ih w h.2]
    exact this v w h1
  · intro h; rw [h]
theorem dfind_kv (v : List Int) : ∀ (ks : List (List Int)) (n : Nat), dfind (kvF n ks) (.tup (v.map .int)) = (ixOf ks v).map fun i => D.int ((i + n : Nat) : Int)
  | [], n => rfl
  | k :: ks, n => by
    have ih := dfind_kv v ks (n + 1)
    unfold dfind kvF at ih ⊢
    unfold ixOf at ih ⊢
    rw [List.zipIdx_cons, List.map_cons, List.find?_cons, List.findIdx?_cons]
    by_cases h : k = v
    · simp [h]
    · have h2 : (D.tup (k.map .int) = D.tup (v.map .int)) = False := eq_false fun e => h (tup_inj.mp e)
      simp only [h2, decide_false, h, Bool.false_eq_true, if_false]
      rw [ih]
      cases List.findIdx? (fun k => decide (k = v)) ks with
      | none => rfl
      | some i =>
        simp
        omega
theorem any_kv {kvs : List (D × D)} {k : D} (h : dfind kvs k = none) : (kvs.any fun kv => decide (kv.1 = k)) = false := by
  unfold dfind at h
  rw [Option.map_eq_none_iff, List.find?_eq_none] at h
  rw [List.any_eq_false]
  exact h
theorem kvF_app (ks : List (List Int)) (v : List Int) : kvF 0 (ks ++ [v]) = kvF 0 ks ++ [(D.tup (v.map .int), D.int (ks.length : Int))] := by
  unfold kvF
  rw [List.zipIdx_append, List.map_append]
  simp
theorem dput_kv {ks : List (List Int)} {v : List Int} (h : ixOf ks v = none) : dput (kvF 0 ks) (.tup (v.map .int)) (.int (ks.length : Int)) = kvF 0 (ks ++ [v]) := by
  unfold dput
  rw [any_kv (by rw [dfind_kv, h]; rfl), kvF_app]
  simp
theorem isKey_tz (v : List Int) : isKey (fun _ => false) true (.tup (v.map .int)) = true := by
  show (true && (v.map D.int).all isKey1 && !false) = true
  simp [isKey1]
theorem nin_dct {S : Store} {P : Nat} {kvs : List (D × D)} (h : S[P]? = some (.dct true kvs)) (v : List Int) : isin (fun _ => false) S true (.tup (v.map .int)) (.loc P) = some (!(dfind kvs (.tup (v.map .int))).isSome) := by
  show (match S[P]? with
    | some (.dct t kvs) => if isKey (fun _ => false) t (.tup (v.map .int)) then some (if true then !(dfind kvs (.tup (v.map .int))).isSome else (dfind kvs (.tup (v.map .int))).isSome) else none
    | some (.lst ds) => memD true (.tup (v.map .int)) ds
    | some (.fro ds) => memD true (.tup (v.map .int)) ds
    | _ => none) = _
  rw [h]
  simp only [isKey_tz, if_true]
theorem getIx_dct {S : Store} {P : Nat} {kvs : List (D × D)} (h : S[P]? = some (.dct true kvs)) (v : List Int) : getIx (fun _ => false) S (.loc P) (.tup (v.map .int)) = dfind kvs (.tup (v.map .int)) := by
  show (match S[P]? with
    | some (.lst ds) => none
    | some (.fro ds) => none
    | some (.dct t kvs) => if isKey (fun _ => false) t (.tup (v.map .int)) then dfind kvs (.tup (v.map .int)) else none
    | _ => none) = _
  rw [h]
  simp only [isKey_tz, if_true]
theorem setIx_dct {S : Store} {P : Nat} {kvs : List (D × D)} {d : D} (h : S[P]? = some (.dct true kvs)) (hl : kvs.length < line) (v : List Int) : setIxD (fun _ => false) (.loc P) (.tup (v.map .int)) d S = some (S.set P (.dct true (dput kvs (.tup (v.map .int)) d))) := by
  show (match S[P]? with
    | some (.lst ds) => none
    | some (.dct t kvs) => if isKey (fun _ => false) t (.tup (v.map .int)) && decide (kvs.length < line) then some (S.set P (.dct t (dput kvs (.tup (v.map .int)) d))) else none
    | _ => none) = _
  rw [h]
  simp only [isKey_tz, hl, decide_true, Bool.and_self, if_true]
theorem get_new1 {S g : Store} {a b : O} : (S ++ a :: b :: g)[S.length + 1]? = some b := by
  rw [List.getElem?_append_right (by omega), Nat.add_sub_cancel_left]; rfl
theorem set_new1 {S g : Store} {a b o : O} : (S ++ a :: b :: g).set (S.length + 1) o = S ++ a :: o :: g := by
  rw [List.set_append_right _ _ (by omega), Nat.add_sub_cancel_left]; rfl
theorem lf_len (ps : List CP) : (lf ps).length ≤ ps.length := by
  have : ∀ (ps fl : List CP), (ps.foldl lfStep fl).length ≤ fl.length + ps.length := by
    intro ps
    induction ps with
    | nil => intro fl; simp
    | cons p ps ih =>
      intro fl
      rw [List.foldl_cons]
      refine Nat.le_trans (ih _) ?_
      have : (lfStep fl p).length ≤ fl.length + 1 := by
        unfold lfStep
        split
        · simp
        · split
          · split
            · simp
            · omega
          · omega
      simp only [List.length_cons]
      omega
  have h := this ps []
  rw [List.length_nil, Nat.zero_add] at h
  exact h
theorem ix_lt {ks : List (List Int)} {v : List Int} {i : Nat} (h : ixOf ks v = some i) : i < ks.length ∧ ks[i]? = some v := by
  unfold ixOf at h
  rw [List.findIdx?_eq_some_iff_getElem] at h
  obtain ⟨h1, h2, _⟩ := h
  refine ⟨h1, ?_⟩
  rw [List.getElem?_eq_getElem h1]
  exact congrArg some (of_decide_eq_true h2)
theorem keys_set {fl : List CP} {i : Nat} {q : CP} (h : (keysOf fl)[i]? = some q.1) : keysOf (fl.set i q) = keysOf fl := by
  unfold keysOf at h ⊢
  rw [List.map_set]
  obtain ⟨h1, h2⟩ := List.getElem?_eq_some_iff.mp h
  rw [← h2, List.set_getElem_self]
theorem lfStep_none {fl : List CP} {p : CP} (h : ixOf (keysOf fl) (redP p).1 = none) : lfStep fl p = fl ++ [redP p] := by
  unfold lfStep; rw [h]
theorem lfStep_some {fl : List CP} {p r : CP} {i : Nat} (h : ixOf (keysOf fl) (redP p).1 = some i) (h2 : fl[i]? = some r) : lfStep fl p = if (redP p).2 < r.2 then fl.set i (redP p) else fl := by
  unfold lfStep; rw [h]; simp only; rw [h2]
/-- the bounds of a condition -/
def Okp (p : CP) : Prop := cf p.1 < 1073741824 ∧ (∀ x ∈ p.1, x.natAbs < 2 ^ 60) ∧ p.1.length < 900
theorem fm_alw (xs : List CP) : xs.filterMap (fun p => if alw p then none else some (cd p)) = (xs.filter fun p => !alw p).map cd := by
  induction xs with
  | nil => rfl
  | cons x xs ih =>
    rw [List.filterMap_cons, List.filter_cons, ih]
    cases alw x <;> simp
theorem red_len (p : CP) : (redP p).1.length = p.1.length := by
  unfold redP
  split <;> simp
theorem lf_mem {ps : List CP} : ∀ q ∈ lf ps, ∃ p ∈ ps, q = redP p := by
  have : ∀ (ps fl : List CP) (A : CP → Prop), (∀ q ∈ fl, A q) → (∀ p ∈ ps, A (redP p)) → ∀ q ∈ ps.foldl lfStep fl, A q := by
    intro ps
    induction ps with
    | nil => intro fl A h1 _ q hq; exact h1 q hq
    | cons p ps ih =>
      intro fl A h1 h2
      rw [List.foldl_cons]
      refine ih _ A (fun q hq => ?_) fun p hp => h2 p (List.mem_cons_of_mem _ hp)
      unfold lfStep at hq
      split at hq
      · rcases List.mem_append.mp hq with m | m
        · exact h1 q m
        · rw [List.mem_singleton] at m
          rw [m]
          exact h2 p List.mem_cons_self
      · split at hq
        · split at hq
          · rcases List.mem_or_eq_of_mem_set hq with m | m
            · exact h1 q m
            · rw [m]; exact h2 p List.mem_cons_self
          · exact h1 q hq
        · exact h1 q hq
  exact this ps [] (fun q => ∃ p ∈ ps, q = redP p) (fun _ h => nomatch h) fun p hp => ⟨p, hp, rfl⟩
theorem s_least (C : CondFns P icf ire ial ilf ilg ilr ill) (n : Nat) (l : Nat) (ps : List CP) (S : Store) (hs : S[l]? = some (.lst (ps.map cd))) (hp : ∀ p ∈ ps, Okp p) (hl : ps.length < 1000) :
    ∃ m g, callF P (n + 3) ilf [.loc l] S = .ok (.loc m) (S ++ g) ∧ (S ++ g)[m]? = some (.lst (((lf ps).filter fun p => !alw p).map cd)) := by
  have hq : ∀ p ∈ lf ps, p.1.length < 1000 := fun q hq => by
    obtain ⟨p, hp', rfl⟩ := lf_mem q hq
    have := (hp p hp').2.2
    rw [red_len]
    omega
  generalize hr : callF P (n + 3) ilf [.loc l] S = res
  rw [callF_succ, C.lf] at hr
  have ll := (List.getElem?_eq_some_iff.mp hs).1
  have hw : ∀ g, walkOf (S ++ g) (.loc l) = some (ps.map cd) := fun g => walk_lst (get_app hs)
  simp [C.kon, fLeast, line, hw] at hr
  generalize hL : loopF _ _ _ _ _ _ = r at hr
  obtain ⟨en', S', rfl, g, r3, r4, rfl, rfl⟩ := loopN hL (ps.map cd) (by simp) (fun k en S' => ∃ g r3 r4, en = [some (.loc l), some (.loc S.length), some (.loc (S.length + 1)), r3, r4] ∧ S' = S ++ O.dct true (kvF 0 (keysOf (lf (ps.take k)))) :: O.lst ((lf (ps.take k)).map cd) :: g)
    (fun k en S' ⟨g, _, _, _, e⟩ => by rw [e]; exact hw _) ⟨[], none, none, rfl, by simp [C.kon, lf, keysOf, kvF]⟩ (by
      rintro k d en S1 Q hd ⟨g, r3, r4, rfl, rfl⟩ hQ
      rw [List.getElem?_map] at hd
      obtain ⟨p, hx, rfl⟩ := Option.map_eq_some_iff.mp hd
      have hpm := List.mem_of_getElem? hx
      obtain ⟨o1, o2, o3⟩ := hp p hpm
      have hlf : lf (ps.take (k + 1)) = lfStep (lf (ps.take k)) p := by
        rw [take_snoc hx]; unfold lf; rw [List.foldl_append]; rfl
      have hfl : (lf (ps.take k)).length < 1000 := Nat.lt_of_le_of_lt (lf_len _) (by rw [List.length_take]; omega)
      rw [hlf] at hQ
      generalize lf (ps.take k) = fl at *
      obtain ⟨g1, e1⟩ := s_red C n p (S ++ O.dct true (kvF 0 (keysOf fl)) :: O.lst (fl.map cd) :: g) o1 (by omega)
      have hcut := cut_cd (redP p)
      have hlast : ∀ S, getIx (fun _ => false) S (.tup (((redP p).1 ++ [(redP p).2]).map D.int)) (.int (-1)) = some (.int (redP p).2) := fun S => last_tz _ _
      have ed : cd (redP p) = .tup (((redP p).1 ++ [(redP p).2]).map .int) := rfl
      rw [ed] at e1
      have hN : ixOf (keysOf fl) (redP p).1 = none → lfStep fl p = fl ++ [redP p] := lfStep_none
      have hS : ∀ i r, ixOf (keysOf fl) (redP p).1 = some i → fl[i]? = some r → lfStep fl p = if (redP p).2 < r.2 then fl.set i (redP p) else fl := fun _ _ => lfStep_some
      generalize lfStep fl p = fl' at *
      generalize redP p = q at *
      generalize ht : (q.1 ++ [q.2]).map D.int = t at *
      rw [List.append_assoc, List.cons_append, List.cons_append] at e1
      generalize g ++ g1 = g2 at e1
      have eP : (S ++ O.dct true (kvF 0 (keysOf fl)) :: O.lst (fl.map cd) :: g2)[S.length]? = some (.dct true (kvF 0 (keysOf fl))) := get_new
      have eF : (S ++ O.dct true (kvF 0 (keysOf fl)) :: O.lst (fl.map cd) :: g2)[S.length + 1]? = some (.lst (fl.map cd)) := get_new1
      have e2 := nin_dct eP q.1
      have e3 := dfind_kv q.1 (keysOf fl) 0
      cases hix : ixOf (keysOf fl) q.1 with
      | none =>
        rw [hix] at e3
        obtain rfl := hN hix
        have e4 := setIx_dct (d := .int (keysOf fl).length) eP (by unfold kvF; simp [C.kon, keysOf, line]; omega) q.1
        rw [dput_kv hix, set_new] at e4
        have kl : (keysOf fl).length = fl.length := by unfold keysOf; simp
        rw [kl] at e4
        have eF2 : (S ++ O.dct true (kvF 0 (keysOf fl ++ [q.1])) :: O.lst (fl.map cd) :: g2)[S.length + 1]? = some (.lst (fl.map cd)) := get_new1
        have e5 := app_of (d := .tup t) eF2 (by simp [C.kon, line]; omega)
        rw [set_new1] at e5
        have e6 : isLst (S ++ O.dct true (kvF 0 (keysOf fl ++ [q.1])) :: O.lst (fl.map cd) :: g2) (.loc (S.length + 1)) = true := isLst_of eF2
        have e7 : bLen (.loc (S.length + 1)) (S ++ O.dct true (kvF 0 (keysOf fl)) :: O.lst (fl.map cd) :: g2) = .ok (.int fl.length) (S ++ O.dct true (kvF 0 (keysOf fl)) :: O.lst (fl.map cd) :: g2) := by
          unfold bLen; rw [len_lst eF]; simp
        simp [C.kon, forB, e1, hcut, e2, e3, e4, e5, e6, e7]
        exact hQ _ _ ⟨_, _, _, rfl, by simp [C.kon, keysOf, ← ht, cd, tz]; rfl⟩
      | some i =>
        rw [hix] at e3
        obtain ⟨i1, i2⟩ := ix_lt hix
        have i3 : i < fl.length := by unfold keysOf at i1; simpa using i1
        have e4 := getIx_dct eP q.1
        rw [e3] at e4
        have e5 : getIx (fun _ => false) (S ++ O.dct true (kvF 0 (keysOf fl)) :: O.lst (fl.map cd) :: g2) (.loc (S.length + 1)) (.int (i : Int)) = some (cd fl[i]) := getIx_nat eF (by simp [C.kon, i3])
        have e6 : getIx (fun _ => false) (S ++ O.dct true (kvF 0 (keysOf fl)) :: O.lst (fl.map cd) :: g2) (cd fl[i]) (.int (-1)) = some (.int fl[i].2) := last_tz _ _
        obtain rfl := hS i _ hix (List.getElem?_eq_getElem i3)
        by_cases hlt : q.2 < fl[i].2
        · have e7 : setIxD (fun _ => false) (.loc (S.length + 1)) (.int (i : Int)) (.tup t) (S ++ O.dct true (kvF 0 (keysOf fl)) :: O.lst (fl.map cd) :: g2) = some _ := setIx_nat eF (by simp [C.kon, i3])
          rw [set_new1] at e7
          simp only [hlt, if_true] at hQ
          simp [C.kon, forB, e1, hcut, e2, e3, e4, e5, e6, hlast, hlt, e7]
          refine hQ _ _ ⟨g2, _, _, rfl, ?_⟩
          rw [keys_set i2, List.map_set, ← ht]
          rfl
        · simp only [hlt, if_false] at hQ
          simp [C.kon, forB, e1, hcut, e2, e3, e4, e5, e6, hlast, hlt]
          exact hQ _ _ ⟨_, _, _, rfl, rfl⟩)
  rw [List.take_of_length_le (Nat.le_refl _)] at hr
  have eF : ∀ g', walkOf (S ++ O.dct true (kvF 0 (keysOf (lf ps))) :: O.lst ((lf ps).map cd) :: g ++ g') (.loc (S.length + 1)) = some ((lf ps).map cd) := fun g' => walk_lst (get_app get_new1)
  have eF0 := eF []
  rw [List.append_nil] at eF0
  simp only [List.getElem?_cons_succ, List.getElem?_cons_zero, bind_ok, exs_cons, exr_ret, evr_comp, evI_seq, evr_var, srcOf, eF0, List.length_map] at hr
  generalize hL : loopC _ _ _ _ _ _ = r at hr
  have hfl : (lf ps).length < 1000 := Nat.lt_of_le_of_lt (lf_len _) hl
  obtain ⟨g', rfl⟩ := compX hL (lf ps) cd (fun p => if alw p then none else some (cd p)) rfl rfl (by show _ ≤ 16777216; omega) eF (by
    intro p hp acc g2
    obtain ⟨g3, e⟩ := s_alw C (n + 1) p (S ++ O.dct true (kvF 0 (keysOf (lf ps))) :: O.lst ((lf ps).map cd) :: g ++ O.lst acc :: g2) (hq p hp)
    refine ⟨g3, ?_⟩
    simp [C.kon, cmpB] at e ⊢
    simp [C.kon, e]
    cases alw p <;> simp)
  simp at hr
  refine ⟨_, _, hr.symm, ?_⟩
  rw [fm_alw, List.getElem?_append_right (by omega), Nat.add_sub_cancel_left]
  simp

/-! ### the law's own least form -/
theorem mapO_int (S : Store) (k : Nat) : ∀ v : List Int, mapO (deep S (k + 1)) (v.map .int) = some (v.map T.int)
  | [] => rfl
  | x :: v => by
    unfold mapO
    simp only [List.map_cons]
    rw [mapO_int S k v]
    rfl
theorem deep_tz (S : Store) (k : Nat) (v : List Int) : deep S (k + 2) (.tup (v.map .int)) = some (.tup (v.map T.int)) := by
  show (mapO (deep S (k + 1)) (v.map .int)).map T.tup = _
  rw [mapO_int]
  rfl
theorem teqs_int : ∀ v w : List Int, teqs (v.map T.int) (w.map T.int) = decide (v = w)
  | [], [] => rfl
  | [], _ :: _ => rfl
  | _ :: _, [] => rfl
  | x :: v, y :: w => by
    show (teq (.int x) (.int y) && teqs (v.map T.int) (w.map T.int)) = _
    rw [teqs_int v w]
    show ((x == y) && decide (v = w)) = _
    by_cases h : x = y <;> by_cases h2 : v = w <;> simp [h, h2]
theorem deq_tz (S : Store) (v w : List Int) : deq S (.tup (v.map .int)) (.tup (w.map .int)) = some (decide (v = w)) := by
  show (match deep S 60 (.tup (v.map .int)), deep S 60 (.tup (w.map .int)) with
    | some x, some y => some (teq x y)
    | _, _ => none) = _
  rw [deep_tz S 58, deep_tz S 58]
  show some (teqs (v.map T.int) (w.map T.int)) = _
  rw [teqs_int]
/-- the places of the law -/
def plc (full : List (List Int)) (v : List Int) (i : Nat) : Option D := if full[i]? = some v then some (D.int ((i : Nat) : Int)) else none
theorem plc_head (full : List (List Int)) (v : List Int) : ∀ (ks : List (List Int)) (s : Nat), full.drop s = ks → ((List.range' s ks.length).filterMap (plc full v)).head? = (ixOf ks v).map fun i => D.int ((i + s : Nat) : Int)
  | [], s, h => rfl
  | k :: ks, s, h => by
    have h1 : full[s]? = some k := by
      have e : (full.drop s)[0]? = some k := by rw [h]; rfl
      rw [List.getElem?_drop] at e
      exact e
    have h2 : full.drop (s + 1) = ks := by
      rw [← List.drop_drop, h]; rfl
    have ih := plc_head full v ks (s + 1) h2
    unfold ixOf at ih ⊢
    rw [List.length_cons, List.range'_succ, List.filterMap_cons, List.findIdx?_cons]
    by_cases hk : k = v
    · subst hk
      simp [plc, h1]
    · have e : plc full v s = none := by unfold plc; rw [h1]; simp [hk]
      rw [e]
      simp only [hk, decide_false, Bool.false_eq_true, if_false]
      rw [ih]
      cases List.findIdx? (fun k => decide (k = v)) ks with
      | none => rfl
      | some i =>
        simp
        omega
theorem plc_all (full : List (List Int)) (v : List Int) : ((List.range full.length).filterMap (plc full v)).head? = (ixOf full v).map fun i : Nat => D.int ((i : Nat) : Int) := by
  rw [List.range_eq_range']
  exact plc_head full v full 0 rfl
theorem truth_lst {S : Store} {a : Nat} {ds : List D} (h : S[a]? = some (.lst ds)) : truth S (.loc a) = some (!ds.isEmpty) := by
  show (match S[a]? with
    | some (.lst ds) => some (!ds.isEmpty)
    | some (.fro ds) => some (!ds.isEmpty)
    | _ => none) = _
  rw [h]
theorem s_lleast (C : CondFns P icf ire ial ilf ilg ilr ill) (n : Nat) (l : Nat) (ps : List CP) (S : Store) (hs : S[l]? = some (.lst (ps.map cd))) (hp : ∀ p ∈ ps, Okp p) (hl : ps.length < 1000) :
    ∃ m g, callF P (n + 3) ill [.loc l] S = .ok (.loc m) (S ++ g) ∧ (S ++ g)[m]? = some (.lst (((lf ps).filter fun p => !alw p).map cd)) := by
  have hq : ∀ p ∈ lf ps, p.1.length < 1000 := fun q hq => by
    obtain ⟨p, hp', rfl⟩ := lf_mem q hq
    have := (hp p hp').2.2
    rw [red_len]
    omega
  generalize hr : callF P (n + 3) ill [.loc l] S = res
  rw [callF_succ, C.ll] at hr
  have ll := (List.getElem?_eq_some_iff.mp hs).1
  have hw : ∀ g, walkOf (S ++ g) (.loc l) = some (ps.map cd) := fun g => walk_lst (get_app hs)
  simp [C.kon, fLleast, line, hw] at hr
  generalize hL : loopF _ _ _ _ _ _ = r at hr
  obtain ⟨en', S', rfl, g, r2, r3, r4, rfl, rfl⟩ := loopN hL (ps.map cd) (by simp) (fun k en S' => ∃ g r2 r3 r4, en = [some (.loc l), some (.loc S.length), r2, r3, r4, none, none] ∧ S' = S ++ O.lst ((lf (ps.take k)).map cd) :: g)
    (fun k en S' ⟨g, _, _, _, _, e⟩ => by rw [e]; exact hw _) ⟨[], none, none, none, rfl, by simp [C.kon, lf]⟩ (by
      rintro k d en S1 Q hd ⟨g, r2, r3, r4, rfl, rfl⟩ hQ
      rw [List.getElem?_map] at hd
      obtain ⟨p, hx, rfl⟩ := Option.map_eq_some_iff.mp hd
      have hpm := List.mem_of_getElem? hx
      obtain ⟨o1, o2, o3⟩ := hp p hpm
      have hlf : lf (ps.take (k + 1)) = lfStep (lf (ps.take k)) p := by
        rw [take_snoc hx]; unfold lf; rw [List.foldl_append]; rfl
      have hfl : (lf (ps.take k)).length < 1000 := Nat.lt_of_le_of_lt (lf_len _) (by rw [List.length_take]; omega)
      rw [hlf] at hQ
      generalize lf (ps.take k) = fl at *
      obtain ⟨g1, e1⟩ := s_lred C n p (S ++ O.lst (fl.map cd) :: g) o1 o2 (by omega)
      have hcut := cut_cd (redP p)
      have hlast : ∀ S, getIx (fun _ => false) S (.tup (((redP p).1 ++ [(redP p).2]).map D.int)) (.int (-1)) = some (.int (redP p).2) := fun S => last_tz _ _
      have ed : cd (redP p) = .tup (((redP p).1 ++ [(redP p).2]).map .int) := rfl
      rw [ed] at e1
      have hN : ixOf (keysOf fl) (redP p).1 = none → lfStep fl p = fl ++ [redP p] := lfStep_none
      have hS : ∀ i r, ixOf (keysOf fl) (redP p).1 = some i → fl[i]? = some r → lfStep fl p = if (redP p).2 < r.2 then fl.set i (redP p) else fl := fun _ _ => lfStep_some
      generalize lfStep fl p = fl' at *
      generalize redP p = q at *
      generalize ht : (q.1 ++ [q.2]).map D.int = t at *
      rw [List.append_assoc, List.cons_append] at e1
      generalize g ++ g1 = g2 at e1
      have eF : ∀ g', (S ++ O.lst (fl.map cd) :: g2 ++ g')[S.length]? = some (.lst (fl.map cd)) := fun g' => get_app get_new
      have eF0 := eF []
      rw [List.append_nil] at eF0
      have kl : (keysOf fl).length = fl.length := by unfold keysOf; simp
      have e7 : bLen (.loc S.length) (S ++ O.lst (fl.map cd) :: g2) = .ok (.int fl.length) (S ++ O.lst (fl.map cd) :: g2) := by
        unfold bLen; rw [len_lst eF0]; simp
      have b6 : bound62 (fl.length : Int) = true := bl62 (by show _ ≤ 16777216; omega)
      unfold forB
      simp only [asg_nm, List.set_cons_succ, List.set_cons_zero, exs_cons, exr_set, evr_call, evs_cons, evs_nil, evr_var, List.getElem?_cons_succ, List.getElem?_cons_zero, bind_ok, gam_call, e1, thn_ok, evr_comp, evI_rng1, evr_bif, bif_len, e7, b6, if_true, Int.toNat_natCast]
      generalize hL2 : loopC _ _ _ _ _ _ = rc
      obtain ⟨g', rfl⟩ := compX hL2 (List.range fl.length) (fun i => D.int ((0 : Int) + (i : Int))) (plc (keysOf fl) q.1) (by simp) rfl (by simp [C.kon, line]; omega) (fun _ => rfl) (by
        intro i hi acc g'
        have hi' := List.mem_range.mp hi
        have e8 : getIx (fun _ => false) (S ++ O.lst (fl.map cd) :: g2 ++ O.lst acc :: g') (.loc S.length) (.int (i : Int)) = some (.tup ((fl[i].1 ++ [fl[i].2]).map D.int)) := getIx_nat (eF _) (by simp [C.kon, hi', cd, tz])
        have e9 := cut_tz fl[i].1 fl[i].2
        generalize (fl[i].1 ++ [fl[i].2]).map D.int = t2 at e8 e9
        have e10 := deq_tz (S ++ O.lst (fl.map cd) :: g2 ++ O.lst acc :: g') fl[i].1 q.1
        have e11 : (keysOf fl)[i]? = some fl[i].1 := by unfold keysOf; simp [C.kon, hi']
        refine ⟨[], ?_⟩
        simp [C.kon, cmpB] at e8 e10 ⊢
        simp [C.kon, e8, e9, hcut, e10, plc, e11]
        by_cases hv : fl[i].1 = q.1 <;> simp [C.kon, hv])
      have e12 := plc_all (keysOf fl) q.1
      rw [kl] at e12
      generalize (List.range fl.length).filterMap (plc (keysOf fl) q.1) = pl at e12
      have e13 : truth (S ++ O.lst (fl.map cd) :: g2 ++ O.lst pl :: g') (.loc (S ++ O.lst (fl.map cd) :: g2).length) = some (!pl.isEmpty) := truth_lst get_new
      have eF2 := eF (O.lst pl :: g')
      have e15 : ∀ d, pl.head? = some d → getIx (fun _ => false) (S ++ O.lst (fl.map cd) :: g2 ++ O.lst pl :: g') (.loc (S ++ O.lst (fl.map cd) :: g2).length) (.int 0) = some d := fun d hd => getIx_nat (k := 0) get_new (by rw [← List.head?_eq_getElem?]; exact hd)
      rw [List.append_assoc, List.cons_append] at e13 eF2
      simp only [List.append_assoc, List.cons_append] at e15
      cases hix : ixOf (keysOf fl) q.1 with
      | none =>
        rw [hix] at e12
        obtain rfl := hN hix
        have pe : pl = [] := List.head?_eq_none_iff.mp e12
        rw [pe] at e13 eF2
        have e5 := app_of (d := .tup t) eF2 (by simp [C.kon, line]; omega)
        rw [set_new] at e5
        have e6 := isLst_of eF2
        simp [C.kon, pe] at e13 e5 e6 ⊢
        simp [C.kon, e13, e5, e6]
        exact hQ _ _ ⟨_, _, _, _, rfl, by simp [C.kon, ← ht, cd, tz]; rfl⟩
      | some i =>
        rw [hix] at e12
        obtain ⟨i1, i2⟩ := ix_lt hix
        have i3 : i < fl.length := by rw [← kl]; exact i1
        have pe : pl.isEmpty = false := by
          cases pl with
          | nil => cases e12
          | cons _ _ => rfl
        rw [pe] at e13
        have e16 := e15 _ e12
        have e17 : getIx (fun _ => false) (S ++ O.lst (fl.map cd) :: (g2 ++ O.lst pl :: g')) (.loc S.length) (.int (i : Int)) = some (cd fl[i]) := getIx_nat eF2 (by simp [C.kon, i3])
        have e6 : ∀ S, getIx (fun _ => false) S (cd fl[i]) (.int (-1)) = some (.int fl[i].2) := fun S => last_tz _ _
        obtain rfl := hS i _ hix (List.getElem?_eq_getElem i3)
        have e7 : setIxD (fun _ => false) (.loc S.length) (.int (i : Int)) (.tup t) (S ++ O.lst (fl.map cd) :: (g2 ++ O.lst pl :: g')) = some _ := setIx_nat eF2 (by simp [C.kon, i3])
        rw [set_new] at e7
        by_cases hlt : q.2 < fl[i].2
        · simp only [hlt, if_true] at hQ
          simp at e13 e16 ⊢
          simp [C.kon, e13, e16, hlast, e17, e6, hlt, e7]
          refine hQ _ _ ⟨g2 ++ O.lst pl :: g', _, _, _, rfl, ?_⟩
          rw [List.map_set, ← ht]
          rfl
        · simp only [hlt, if_false] at hQ
          simp at e13 e16 ⊢
          simp [C.kon, e13, e16, hlast, e17, e6, hlt]
          exact hQ _ _ ⟨_, _, _, _, rfl, rfl⟩)
  rw [List.take_of_length_le (Nat.le_refl _)] at hr
  have eF : ∀ g', walkOf (S ++ O.lst ((lf ps).map cd) :: g ++ g') (.loc S.length) = some ((lf ps).map cd) := fun g' => walk_lst (get_app get_new)
  have eF0 := eF []
  rw [List.append_nil] at eF0
  simp only [List.getElem?_cons_succ, List.getElem?_cons_zero, bind_ok, exs_cons, exr_ret, evr_comp, evI_seq, evr_var, srcOf, eF0, List.length_map] at hr
  generalize hL : loopC _ _ _ _ _ _ = r at hr
  have hfl : (lf ps).length < 1000 := Nat.lt_of_le_of_lt (lf_len _) hl
  obtain ⟨g', rfl⟩ := compX hL (lf ps) cd (fun p => if alw p then none else some (cd p)) rfl rfl (by show _ ≤ 16777216; omega) eF (by
    intro p hp acc g2
    have hpl := hq p hp
    have hcut := cut_cd p
    have hlast : ∀ S, getIx (fun _ => false) S (.tup ((p.1 ++ [p.2]).map D.int)) (.int (-1)) = some (.int p.2) := fun S => last_tz _ _
    have ed : cd p = .tup ((p.1 ++ [p.2]).map .int) := rfl
    rw [ed]
    generalize (p.1 ++ [p.2]).map D.int = t at *
    by_cases h0 : p.2 < 0
    · refine ⟨[], ?_⟩
      simp [C.kon, cmpB, hlast, h0]
      have : alw p = false := by unfold alw; simp; omega
      simp [C.kon, this]
    · simp only [cmpB, asg_nm, wipe_cons, wipe_nil, List.set_cons_succ, List.set_cons_zero, evr_or, evr_cmp, evr_ix, evr_var, List.getElem?_cons_succ, List.getElem?_cons_zero, bind_ok, evr_neg, evr_cst, Int.reduceNeg, gam_kon, C.kon, hlast, dR_some, cmp_lt, h0, decide_false, boolR_some, truth_bl, evr_bif, evs_cons, evr_comp, evI_seq, evr_sl, isNon_cst, part_ok_non, isNon_neg, part_ok_int, slice_tup, part_non, part_int, hcut, srcOf, walk_tup, List.length_map]
      generalize hL2 : loopC _ _ _ _ _ _ = rc
      obtain ⟨g3, rfl⟩ := compX hL2 p.1 D.int (fun x => if x = 0 then none else some (D.int x)) rfl rfl (by show _ ≤ 16777216; omega) (fun _ => rfl) (by
        intro x hx acc g'
        refine ⟨[], ?_⟩
        by_cases hx0 : x = 0 <;> simp [C.kon, cmpB, hx0])
      refine ⟨O.lst (p.1.filterMap fun x => if x = 0 then none else some (D.int x)) :: g3, ?_⟩
      have e8 : bLen (.loc (S ++ O.lst ((lf ps).map cd) :: g ++ O.lst acc :: g2).length) (S ++ O.lst ((lf ps).map cd) :: g ++ O.lst acc :: g2 ++ O.lst (p.1.filterMap fun x => if x = 0 then none else some (D.int x)) :: g3) = .ok (.int (p.1.filterMap fun x => if x = 0 then none else some (D.int x)).length) (S ++ O.lst ((lf ps).map cd) :: g ++ O.lst acc :: g2 ++ O.lst (p.1.filterMap fun x => if x = 0 then none else some (D.int x)) :: g3) := by
        unfold bLen; rw [len_lst get_new]
      have e9 : (p.1.filterMap fun x => if x = 0 then none else some (D.int x)).length = 0 ↔ p.1.all (fun x => decide (x = 0)) = true := by
        rw [List.length_eq_zero_iff, List.filterMap_eq_nil_iff, List.all_eq_true]
        constructor
        · intro h x hx
          have := h x hx
          by_cases hx0 : x = 0
          · simp [C.kon, hx0]
          · simp [C.kon, hx0] at this
        · intro h x hx
          simp [C.kon, of_decide_eq_true (h x hx)]
      have e10 : alw p = p.1.all (fun x => decide (x = 0)) := by unfold alw; simp [C.kon, Int.not_lt.mp h0]
      rw [e10]
      generalize p.1.filterMap (fun x => if x = 0 then none else some (D.int x)) = fm at *
      generalize p.1.all (fun x => decide (x = 0)) = bz at *
      simp at e8 ⊢
      simp [C.kon, e8]
      cases bz with
      | true =>
        have h2 := e9.mpr rfl
        simp [C.kon, List.length_eq_zero_iff.mp h2]
      | false =>
        have h2 : ¬ fm.length = 0 := fun h => by cases e9.mp h
        have h3 : 0 < fm.length := by omega
        have h4 : fm ≠ [] := List.length_pos_iff.mp h3
        simp [C.kon, h3, h4])
  simp at hr
  refine ⟨_, _, hr.symm, ?_⟩
  rw [fm_alw, List.getElem?_append_right (by omega), Nat.add_sub_cancel_left]
  simp
theorem cf_lt {B : Nat} : ∀ (v : List Int) (f : Nat), f < B → (∀ x ∈ v, x.natAbs < B) → v.foldl (fun f n => Nat.gcd f n.natAbs) f < B
  | [], f, h, _ => h
  | x :: v, f, h, hv => by
    rw [List.foldl_cons]
    refine cf_lt v _ ?_ fun y hy => hv y (List.mem_cons_of_mem _ hy)
    have hx := hv x List.mem_cons_self
    rcases Nat.eq_zero_or_pos f with h0 | h0
    · rw [h0, Nat.gcd_zero_left]; exact hx
    · exact Nat.lt_of_le_of_lt (Nat.gcd_le_left _ h0) h
theorem cut_lastz (v : List Int) (c : Int) : cut ((v ++ [c]).map D.int) (some (-1)) none = [D.int c] := by
  rw [cut_last]
  simp
theorem add_tup {S : Store} {x y : List D} (h : x.length + y.length ≤ line) : binD .add (.tup x) (.tup y) S = .ok (.tup (x ++ y)) S := by
  show (if x.length + y.length ≤ line then _ else _) = _
  rw [if_pos h]
mutual
theorem teq_refl : ∀ t : T, teq t t = true
  | .non => rfl
  | .bl a => by simp [teq]
  | .int a => by simp [teq]
  | .str a => by simp [teq]
  | .tup ts => by unfold teq; exact teqs_refl ts
  | .lst ts => by unfold teq; exact teqs_refl ts
theorem teqs_refl : ∀ ts : List T, teqs ts ts = true
  | [] => rfl
  | t :: ts => by unfold teqs; rw [teq_refl t, teqs_refl ts]; rfl
end
theorem tsOk_int : ∀ v : List Int, tsOk (v.map T.int) = true
  | [] => rfl
  | x :: v => by
    show (tOk (.int x) && tsOk (v.map T.int)) = true
    rw [tsOk_int v]; rfl
def tcd (p : CP) : T := .tup ((p.1 ++ [p.2]).map T.int)
theorem deep_cd (S : Store) (k : Nat) (p : CP) : deep S (k + 2) (cd p) = some (tcd p) := deep_tz S k _
theorem mapO_cd (S : Store) (k : Nat) : ∀ ps : List CP, mapO (deep S (k + 2)) (ps.map cd) = some (ps.map tcd)
  | [] => rfl
  | p :: ps => by
    unfold mapO
    simp only [List.map_cons]
    rw [mapO_cd S k ps, deep_cd]
theorem deep_cds {S : Store} {m : Nat} {ps : List CP} (k : Nat) (h : S[m]? = some (.lst (ps.map cd))) : deep S (k + 3) (.loc m) = some (.lst (ps.map tcd)) := by
  show (match S[m]? with
    | some (.lst ds) => (mapO (deep S (k + 2)) ds).map T.lst
    | some (.fro ds) => (mapO (deep S (k + 2)) ds).map T.lst
    | _ => none) = _
  rw [h]
  simp only
  rw [mapO_cd]
  rfl
theorem tOk_cd {p : CP} (h : p.1.length < 1000) : tOk (tcd p) = true := by
  unfold tcd tOk
  rw [tsOk_int]
  simp [line]
  omega
theorem tsOk_cd : ∀ ps : List CP, (∀ p ∈ ps, p.1.length < 1000) → tsOk (ps.map tcd) = true
  | [], _ => rfl
  | p :: ps, h => by
    show (tOk (tcd p) && tsOk (ps.map tcd)) = true
    rw [tOk_cd (h p List.mem_cons_self), tsOk_cd ps fun q hq => h q (List.mem_cons_of_mem _ hq)]
    rfl
theorem deq_cds {S : Store} {m j : Nat} {ps : List CP} (h : S[m]? = some (.lst (ps.map cd))) (h2 : S[j]? = some (.lst (ps.map cd))) : deq S (.loc m) (.loc j) = some true := by
  show (match deep S 60 (.loc m), deep S 60 (.loc j) with
    | some x, some y => some (teq x y)
    | _, _ => none) = _
  rw [deep_cds 57 h, deep_cds 57 h2]
  show some (teq _ _) = _
  rw [teq_refl]
end Lw.Cn
end
section
set_option Elab.async false
set_option linter.all false
set_option maxRecDepth 100000
set_option maxHeartbeats 0
namespace Lk81
open Lw
/-- 0 one, 1 other, 2 a, 3 b -/
def b_add : Sms :=
  (.cons (.ret (.bif .tuple (.cons (.comp (.bin .add (.var 2) (.var 3)) (.tp (.cons (.nm 2) (.cons (.nm 3) .nil))) [2, 3] (.zip (.var 0) (.var 1)) (.cst (.bl true))) .nil))) .nil)
def ir_add : Fn := ⟨2, 4, b_add⟩
/-- 0 factor, 1 expression, 2 number -/
def b_multiply : Sms :=
  (.cons (.ret (.bif .tuple (.cons (.comp (.bin .mul (.var 0) (.var 2)) (.nm 2) [2] (.seq (.var 1)) (.cst (.bl true))) .nil))) .nil)
def ir_multiply : Fn := ⟨2, 3, b_multiply⟩
/-- 0 expression, 1 factor, 2 number -/
def b_common_factor : Sms :=
  (.cons (.set (.nm 1) (.cst (.int 0)))
  (.cons (.forr (.nm 2) (.seq (.sl (.var 0) (.cst .non) (.neg (.cst (.int 1)))))
    (.cons (.set (.nm 1) (.bif .gcd (.cons (.var 1) (.cons (.var 2) .nil)))) .nil))
  (.cons (.ret (.var 1)) .nil)))
def ir_common_factor : Fn := ⟨1, 3, b_common_factor⟩
/-- 0 condition, 1 factor, 2 number -/
def b_reduced : Sms :=
  (.cons (.set (.nm 1) (.call 2 (.cons (.var 0) .nil)))
  (.cons (.ife (.cmp .le (.var 1) (.cst (.int 1))) 
    (.cons (.ret (.var 0)) .nil) .nil)
  (.cons (.ret (.bif .tuple (.cons (.comp (.bin .fdiv (.var 2) (.var 1)) (.nm 2) [2] (.seq (.var 0)) (.cst (.bl true))) .nil))) .nil)))
def ir_reduced : Fn := ⟨1, 3, b_reduced⟩
/-- 0 condition, 1 number -/
def b_is_always : Sms :=
  (.cons (.ret (.and (.cmp .ge (.ix (.var 0) (.neg (.cst (.int 1)))) (.cst (.int 0))) (.bif .all (.cons (.comp (.cmp .eq (.var 1) (.cst (.int 0))) (.nm 1) [1] (.seq (.sl (.var 0) (.cst .non) (.neg (.cst (.int 1))))) (.cst (.bl true))) .nil)))) .nil)
def ir_is_always : Fn := ⟨1, 2, b_is_always⟩
/-- 0 conditions, 1 places, 2 found, 3 condition, 4 small -/
def b_least_form : Sms :=
  (.cons (.set (.nm 1) (.dnew true))
  (.cons (.set (.nm 2) (.lst .nil))
  (.cons (.forr (.nm 3) (.seq (.var 0))
    (.cons (.set (.nm 4) (.call 3 (.cons (.var 3) .nil)))
    (.cons (.ife (.cmp .nin (.sl (.var 4) (.cst .non) (.neg (.cst (.int 1)))) (.var 1)) 
      (.cons (.setIx (.var 1) (.sl (.var 4) (.cst .non) (.neg (.cst (.int 1)))) (.bif .len (.cons (.var 2) .nil)))
      (.cons (.ex (.bmt .append (.var 2) (.cons (.var 4) .nil))) .nil))
      (.cons (.ife (.cmp .lt (.ix (.var 4) (.neg (.cst (.int 1)))) (.ix (.ix (.var 2) (.ix (.var 1) (.sl (.var 4) (.cst .non) (.neg (.cst (.int 1)))))) (.neg (.cst (.int 1))))) 
        (.cons (.setIx (.var 2) (.ix (.var 1) (.sl (.var 4) (.cst .non) (.neg (.cst (.int 1))))) (.var 4)) .nil) .nil) .nil)) .nil)))
  (.cons (.ret (.comp (.var 3) (.nm 3) [3] (.seq (.var 2)) (.not (.call 4 (.cons (.var 3) .nil))))) .nil))))
def ir_least_form : Fn := ⟨1, 5, b_least_form⟩
/-- 0 conditions, 1 index, 2 without, 3 condition, 4 lowers, 5 uppers, 6 lower, 7 upper -/
def b_eliminate : Sms :=
  (.cons (.set (.nm 2) (.comp (.var 3) (.nm 3) [3] (.seq (.var 0)) (.cmp .eq (.ix (.var 3) (.var 1)) (.cst (.int 0)))))
  (.cons (.set (.nm 4) (.comp (.var 3) (.nm 3) [3] (.seq (.var 0)) (.cmp .gt (.ix (.var 3) (.var 1)) (.cst (.int 0)))))
  (.cons (.set (.nm 5) (.comp (.var 3) (.nm 3) [3] (.seq (.var 0)) (.cmp .lt (.ix (.var 3) (.var 1)) (.cst (.int 0)))))
  (.cons (.ife (.cmp .gt (.bin .add (.bif .len (.cons (.var 2) .nil)) (.bin .mul (.bif .len (.cons (.var 4) .nil)) (.bif .len (.cons (.var 5) .nil)))) (.cst (.int 64))) 
    (.cons (.ret (.call 5 (.cons (.var 2) .nil))) .nil) .nil)
  (.cons (.forr (.nm 6) (.seq (.var 4))
    (.cons (.forr (.nm 7) (.seq (.var 5))
      (.cons (.ex (.bmt .append (.var 2) (.cons (.call 0 (.cons (.call 1 (.cons (.neg (.ix (.var 7) (.var 1))) (.cons (.var 6) .nil))) (.cons (.call 1 (.cons (.ix (.var 6) (.var 1)) (.cons (.var 7) .nil))) .nil))) .nil))) .nil)) .nil))
  (.cons (.ret (.call 5 (.cons (.var 2) .nil))) .nil))))))
def ir_eliminate : Fn := ⟨2, 8, b_eliminate⟩
/-- 0 _law_script, 1 _law_k -/
def b_law_cell : Sms :=
  (.cons (.ife (.cmp .lt (.var 1) (.bif .len (.cons (.var 0) .nil))) 
    (.cons (.ret (.bif .int (.cons (.ix (.var 0) (.var 1)) .nil))) .nil) .nil)
  (.cons (.ret (.cst (.int 0))) .nil))
def ir_law_cell : Fn := ⟨2, 2, b_law_cell⟩
/-- 0 _law_cell_here, 1 _law_count, 2 _law_number, 3 _law_great, 4 _law_found, 5 _law_k, 6 _law_mixed -/
def b_law_draws : Sms :=
  (.cons (.set (.nm 2) (.bif .abs (.cons (.bif .int (.cons (.var 0) .nil)) .nil)))
  (.cons (.set (.nm 3) (.cmp .ge (.var 2) (.bin .pow (.cst (.int 10)) (.cst (.int 18)))))
  (.cons (.set (.nm 4) (.lst .nil))
  (.cons (.forr (.nm 5) (.rng1 (.cst (.int 60)))
    (.cons (.ife (.and (.cmp .lt (.var 5) (.var 1)) (.var 3)) 
      (.cons (.ex (.bmt .append (.var 4) (.cons (.bin .mod (.var 2) (.cst (.int 60))) .nil)))
      (.cons (.set (.nm 2) (.bin .fdiv (.var 2) (.cst (.int 60)))) .nil))
      (.cons (.ife (.cmp .lt (.var 5) (.var 1)) 
        (.cons (.set (.nm 6) (.bin .mod (.bin .add (.bin .add (.bin .mul (.bif .int (.cons (.var 2) .nil)) (.cst (.int 48271))) (.bin .mul (.var 5) (.cst (.int 69621)))) (.cst (.int 11))) (.cst (.int 2147483647))))
        (.cons (.set (.nm 6) (.bin .mod (.bin .add (.bin .add (.bin .mul (.bif .int (.cons (.var 6) .nil)) (.bif .int (.cons (.var 6) .nil))) (.bin .mul (.var 5) (.cst (.int 7919)))) (.cst (.int 5))) (.cst (.int 998244353))))
        (.cons (.ex (.bmt .append (.var 4) (.cons (.bin .mod (.bif .int (.cons (.var 6) .nil)) (.cst (.int 60))) .nil))) .nil))) .nil) .nil)) .nil))
  (.cons (.ret (.var 4)) .nil)))))
def ir_law_draws : Fn := ⟨2, 7, b_law_draws⟩
/-- 0 _law_script, 1 _law_first, 2 _law_count, 3 _law_found, 4 _law_k -/
def b_law_stream : Sms :=
  (.cons (.set (.nm 3) (.lst .nil))
  (.cons (.forr (.nm 4) (.rng1 (.var 2))
    (.cons (.ex (.bmt .extend (.var 3) (.cons (.call 8 (.cons (.call 7 (.cons (.var 0) (.cons (.bin .add (.var 1) (.var 4)) .nil))) (.cons (.cst (.int 12)) .nil))) .nil))) .nil))
  (.cons (.ret (.lst (.cons (.var 3) (.cons (.lst (.cons (.cst (.int 0)) .nil)) .nil)))) .nil)))
def ir_law_stream : Fn := ⟨3, 5, b_law_stream⟩
/-- 0 _law_stream_here, 1 _law_many, 2 _law_digits, 3 _law_place, 4 _law_value_here -/
def b_law_next : Sms :=
  (.cons (.set (.nm 2) (.ix (.var 0) (.cst (.int 0))))
  (.cons (.set (.nm 3) (.ix (.var 0) (.cst (.int 1))))
  (.cons (.set (.nm 4) (.bin .mod (.bif .int (.cons (.ix (.var 2) (.bin .mod (.bif .int (.cons (.ix (.var 3) (.cst (.int 0))) .nil)) (.bif .len (.cons (.var 2) .nil)))) .nil)) (.var 1)))
  (.cons (.setIx (.var 3) (.cst (.int 0)) (.bin .add (.ix (.var 3) (.cst (.int 0))) (.cst (.int 1))))
  (.cons (.ret (.var 4)) .nil)))))
def ir_law_next : Fn := ⟨2, 5, b_law_next⟩
/-- 0 _law_stream_here, 1 _law_count, 2 _law_spread, 3 _law_constant, 4 _law_numbers, 5 _law_k -/
def b_law_expression : Sms :=
  (.cons (.set (.nm 4) (.comp (.bin .sub (.call 10 (.cons (.var 0) (.cons (.bin .add (.bin .mul (.cst (.int 2)) (.var 2)) (.cst (.int 1))) .nil))) (.var 2)) (.nm 5) [5] (.rng1 (.var 1)) (.cst (.bl true))))
  (.cons (.ex (.bmt .append (.var 4) (.cons (.bin .sub (.call 10 (.cons (.var 0) (.cons (.bin .add (.bin .mul (.cst (.int 2)) (.var 3)) (.cst (.int 1))) .nil))) (.var 3)) .nil)))
  (.cons (.ret (.bif .tuple (.cons (.var 4) .nil))) .nil)))
def ir_law_expression : Fn := ⟨4, 6, b_law_expression⟩
/-- 0 _law_expression_here, 1 _law_point, 2 _law_total, 3 _law_k -/
def b_law_value : Sms :=
  (.cons (.set (.nm 2) (.ix (.var 0) (.neg (.cst (.int 1)))))
  (.cons (.forr (.nm 3) (.rng1 (.bif .len (.cons (.var 1) .nil)))
    (.cons (.set (.nm 2) (.bin .add (.var 2) (.bin .mul (.ix (.var 0) (.var 3)) (.ix (.var 1) (.var 3))))) .nil))
  (.cons (.ret (.var 2)) .nil)))
def ir_law_value : Fn := ⟨2, 4, b_law_value⟩
/-- 0 _law_actual -/
def b_law_is_integer : Sms :=
  (.cons (.ret (.and (.isi (.var 0) .tint) (.not (.isi (.var 0) .tbool)))) .nil)
def ir_law_is_integer : Fn := ⟨1, 1, b_law_is_integer⟩
/-- 0 _law_actual, 1 _law_expected, 2 _law_k -/
def b_law_same : Sms :=
  (.cons (.ife (.cmp .isN (.var 1) (.cst .non)) 
    (.cons (.ret (.cmp .isN (.var 0) (.cst .non))) .nil) .nil)
  (.cons (.ife (.isi (.var 1) .tbool) 
    (.cons (.ret (.and (.isi (.var 0) .tbool) (.cmp .eq (.var 0) (.var 1)))) .nil) .nil)
  (.cons (.ife (.isi (.var 1) .tint) 
    (.cons (.ret (.and (.call 13 (.cons (.var 0) .nil)) (.cmp .eq (.var 0) (.var 1)))) .nil) .nil)
  (.cons (.ife (.isi (.var 1) .tstr) 
    (.cons (.ret (.and (.isi (.var 0) .tstr) (.cmp .eq (.var 0) (.var 1)))) .nil) .nil)
  (.cons (.ife (.and (.isi (.var 1) .ttup) (.not (.isi (.var 0) .ttup))) 
    (.cons (.ret (.cst (.bl false))) .nil) .nil)
  (.cons (.ife (.and (.isi (.var 1) .tlst) (.not (.isi (.var 0) .tlst))) 
    (.cons (.ret (.cst (.bl false))) .nil) .nil)
  (.cons (.ife (.cmp .ne (.bif .len (.cons (.var 0) .nil)) (.bif .len (.cons (.var 1) .nil))) 
    (.cons (.ret (.cst (.bl false))) .nil) .nil)
  (.cons (.forr (.nm 2) (.rng1 (.bif .len (.cons (.var 1) .nil)))
    (.cons (.ife (.not (.call 14 (.cons (.ix (.var 0) (.var 2)) (.cons (.ix (.var 1) (.var 2)) .nil)))) 
      (.cons (.ret (.cst (.bl false))) .nil) .nil) .nil))
  (.cons (.ret (.cst (.bl true))) .nil)))))))))
def ir_law_same : Fn := ⟨2, 3, b_law_same⟩
/-- 0 _law_numbers, 1 _law_divisor, 2 _law_number, 3 _law_rest, 4 _law_k -/
def b_law_gcd : Sms :=
  (.cons (.set (.nm 1) (.cst (.int 0)))
  (.cons (.forr (.nm 2) (.seq (.var 0))
    (.cons (.set (.nm 3) (.bif .abs (.cons (.var 2) .nil)))
    (.cons (.forr (.nm 4) (.rng1 (.cst (.int 400)))
      (.cons (.ife (.cmp .gt (.var 3) (.cst (.int 0))) 
        (.cons (.set (.tp (.cons (.nm 1) (.cons (.nm 3) .nil))) (.tup (.cons (.var 3) (.cons (.bin .mod (.bif .int (.cons (.var 1) .nil)) (.var 3)) .nil)))) .nil) .nil) .nil)) .nil)))
  (.cons (.ret (.var 1)) .nil)))
def ir_law_gcd : Fn := ⟨1, 5, b_law_gcd⟩
/-- 0 _law_condition, 1 _law_divisor, 2 _law_number -/
def b_law_reduced : Sms :=
  (.cons (.set (.nm 1) (.call 15 (.cons (.sl (.var 0) (.cst .non) (.neg (.cst (.int 1)))) .nil)))
  (.cons (.ife (.cmp .le (.var 1) (.cst (.int 1))) 
    (.cons (.ret (.bif .tuple (.cons (.var 0) .nil))) .nil) .nil)
  (.cons (.ret (.bif .tuple (.cons (.comp (.bin .fdiv (.var 2) (.var 1)) (.nm 2) [2] (.seq (.var 0)) (.cst (.bl true))) .nil))) .nil)))
def ir_law_reduced : Fn := ⟨1, 3, b_law_reduced⟩
/-- 0 _law_conditions, 1 _law_found, 2 _law_condition, 3 _law_small, 4 _law_places, 5 _law_k, 6 _law_x -/
def b_law_least : Sms :=
  (.cons (.set (.nm 1) (.lst .nil))
  (.cons (.forr (.nm 2) (.seq (.var 0))
    (.cons (.set (.nm 3) (.call 16 (.cons (.var 2) .nil)))
    (.cons (.set (.nm 4) (.comp (.var 5) (.nm 5) [5] (.rng1 (.bif .len (.cons (.var 1) .nil))) (.cmp .eq (.sl (.ix (.var 1) (.var 5)) (.cst .non) (.neg (.cst (.int 1)))) (.sl (.var 3) (.cst .non) (.neg (.cst (.int 1)))))))
    (.cons (.ife (.not (.var 4)) 
      (.cons (.ex (.bmt .append (.var 1) (.cons (.var 3) .nil))) .nil)
      (.cons (.ife (.cmp .lt (.ix (.var 3) (.neg (.cst (.int 1)))) (.ix (.ix (.var 1) (.ix (.var 4) (.cst (.int 0)))) (.neg (.cst (.int 1))))) 
        (.cons (.setIx (.var 1) (.ix (.var 4) (.cst (.int 0))) (.var 3)) .nil) .nil) .nil)) .nil))))
  (.cons (.ret (.comp (.var 3) (.nm 3) [3] (.seq (.var 1)) (.or (.cmp .lt (.ix (.var 3) (.neg (.cst (.int 1)))) (.cst (.int 0))) (.cmp .gt (.bif .len (.cons (.comp (.var 6) (.nm 6) [6] (.seq (.sl (.var 3) (.cst .non) (.neg (.cst (.int 1))))) (.cmp .ne (.var 6) (.cst (.int 0)))) .nil)) (.cst (.int 0)))))) .nil)))
def ir_law_least : Fn := ⟨1, 7, b_law_least⟩
/-- 0 _law_lower, 1 _law_upper, 2 _law_index, 3 _law_k -/
def b_law_combined : Sms :=
  (.cons (.ret (.bif .tuple (.cons (.comp (.bin .sub (.bin .mul (.ix (.var 0) (.var 2)) (.ix (.var 1) (.var 3))) (.bin .mul (.ix (.var 1) (.var 2)) (.ix (.var 0) (.var 3)))) (.nm 3) [3] (.rng1 (.bif .len (.cons (.var 0) .nil))) (.cst (.bl true))) .nil))) .nil)
def ir_law_combined : Fn := ⟨3, 4, b_law_combined⟩
/-- 0 _law_script, 1 _law_stream_here, 2 _law_count, 3 _law_index, 4 _law_many, 5 _law_listed, 6 _law_k, 7 _law_without, 8 _law_condition, 9 _law_lowers, 10 _law_uppers, 11 _law_expected, 12 _law_lower, 13 _law_upper, 14 _law_passed, 15 _law_actual, 16 _law_point, 17 _law_j, 18 _law_inside -/
def b_law : Sms :=
  (.cons (.set (.nm 1) (.call 9 (.cons (.var 0) (.cons (.cst (.int 0)) (.cons (.cst (.int 24)) .nil)))))
  (.cons (.set (.nm 2) (.bin .add (.cst (.int 1)) (.call 10 (.cons (.var 1) (.cons (.cst (.int 4)) .nil)))))
  (.cons (.set (.nm 3) (.call 10 (.cons (.var 1) (.cons (.var 2) .nil))))
  (.cons (.set (.nm 4) (.call 10 (.cons (.var 1) (.cons (.cst (.int 15)) .nil))))
  (.cons (.ife (.cmp .eq (.call 10 (.cons (.var 1) (.cons (.cst (.int 6)) .nil))) (.cst (.int 0))) 
    (.cons (.set (.nm 4) (.cst (.int 24))) .nil) .nil)
  (.cons (.set (.nm 5) (.comp (.call 11 (.cons (.var 1) (.cons (.var 2) (.cons (.cst (.int 3)) (.cons (.cst (.int 20)) .nil))))) (.nm 6) [6] (.rng1 (.var 4)) (.cst (.bl true))))
  (.cons (.set (.nm 7) (.comp (.var 8) (.nm 8) [8] (.seq (.var 5)) (.cmp .eq (.ix (.var 8) (.var 3)) (.cst (.int 0)))))
  (.cons (.set (.nm 9) (.comp (.var 8) (.nm 8) [8] (.seq (.var 5)) (.cmp .gt (.ix (.var 8) (.var 3)) (.cst (.int 0)))))
  (.cons (.set (.nm 10) (.comp (.var 8) (.nm 8) [8] (.seq (.var 5)) (.cmp .lt (.ix (.var 8) (.var 3)) (.cst (.int 0)))))
  (.cons (.set (.nm 11) (.bif .list (.cons (.var 7) .nil)))
  (.cons (.ife (.cmp .le (.bin .add (.bif .len (.cons (.var 7) .nil)) (.bin .mul (.bif .len (.cons (.var 9) .nil)) (.bif .len (.cons (.var 10) .nil)))) (.cst (.int 64))) 
    (.cons (.forr (.nm 12) (.seq (.var 9))
      (.cons (.ex (.bmt .extend (.var 11) (.cons (.comp (.call 18 (.cons (.var 12) (.cons (.var 13) (.cons (.var 3) .nil)))) (.nm 13) [13] (.seq (.var 10)) (.cst (.bl true))) .nil))) .nil)) .nil) .nil)
  (.cons (.set (.nm 14) (.bif .list (.cons (.var 5) .nil)))
  (.cons (.set (.nm 15) (.call 6 (.cons (.var 14) (.cons (.var 3) .nil))))
  (.cons (.ife (.or (.cmp .ne (.var 14) (.var 5)) (.not (.call 14 (.cons (.var 15) (.cons (.call 17 (.cons (.var 11) .nil)) .nil))))) 
    (.cons (.ret (.cst (.bl false))) .nil) .nil)
  (.cons (.forr (.nm 8) (.seq (.var 15))
    (.cons (.ife (.cmp .ne (.ix (.var 8) (.var 3)) (.cst (.int 0))) 
      (.cons (.ret (.cst (.bl false))) .nil) .nil) .nil))
  (.cons (.forr (.nm 6) (.rng1 (.cst (.int 12)))
    (.cons (.set (.nm 16) (.comp (.bin .sub (.call 10 (.cons (.var 1) (.cons (.cst (.int 19)) .nil))) (.cst (.int 9))) (.nm 17) [17] (.rng1 (.var 2)) (.cst (.bl true))))
    (.cons (.set (.nm 18) (.cmp .ge (.bif .min (.cons (.bin .add (.lst (.cons (.cst (.int 0)) .nil)) (.comp (.call 12 (.cons (.var 8) (.cons (.var 16) .nil))) (.nm 8) [8] (.seq (.var 5)) (.cst (.bl true)))) .nil)) (.cst (.int 0))))
    (.cons (.ife (.and (.var 18) (.cmp .lt (.bif .min (.cons (.bin .add (.lst (.cons (.cst (.int 0)) .nil)) (.comp (.call 12 (.cons (.var 8) (.cons (.var 16) .nil))) (.nm 8) [8] (.seq (.var 15)) (.cst (.bl true)))) .nil)) (.cst (.int 0)))) 
      (.cons (.ret (.cst (.bl false))) .nil) .nil) .nil))))
  (.cons (.ret (.cst (.bl true))) .nil)))))))))))))))))
def ir_law : Fn := ⟨1, 19, b_law⟩
def fns : List Fn := [ir_add, ir_multiply, ir_common_factor, ir_reduced, ir_is_always, ir_least_form, ir_eliminate, ir_law_cell, ir_law_draws, ir_law_stream, ir_law_next, ir_law_expression, ir_law_value, ir_law_is_integer, ir_law_same, ir_law_gcd, ir_law_reduced, ir_law_least, ir_law_combined, ir_law]
def pg : Prog := ⟨fun i => fns[i]?, fun _ _ => none, 1000000, fun _ => false, fun _ _ => false⟩
end Lk81
end
section
set_option Elab.async false
set_option linter.all false
set_option autoImplicit false
set_option maxRecDepth 10000
namespace Lk81
open Lw Lw.Cn
theorem kon0 : pg.kon = fun _ => false := rfl
@[simp] theorem pg_kon : pg.kon = fun _ => false := Eq.trans rfl rfl
theorem fn0 : pg.fn 0 = some ir_add := rfl
theorem fn1 : pg.fn 1 = some ir_multiply := rfl
theorem fn6 : pg.fn 6 = some ir_eliminate := rfl
theorem fn7 : pg.fn 7 = some fCell := rfl
theorem fn8 : pg.fn 8 = some fDraws := rfl
theorem fn9 : pg.fn 9 = some (fStream 7 8) := rfl
theorem fn10 : pg.fn 10 = some fNext := rfl
theorem fn11 : pg.fn 11 = some (fExpr 10) := rfl
theorem fn12 : pg.fn 12 = some ir_law_value := rfl
theorem fn13 : pg.fn 13 = some fIsInt := rfl
theorem fn14 : pg.fn 14 = some (fSame 13 14) := rfl
theorem fn18 : pg.fn 18 = some ir_law_combined := rfl
theorem fn19 : pg.fn 19 = some ir_law := rfl
theorem CF : CondFns pg 2 3 4 5 15 16 17 := ⟨rfl, rfl, rfl, rfl, rfl, rfl, rfl, rfl⟩
theorem filterMap_some {X : Type} (f : X → D) (xs : List X) : xs.filterMap (fun x => some (f x)) = xs.map f := by
  rw [List.filterMap_eq_map']
/-- sums, multiples of rows -/
def addz (xs ys : List Int) : List Int := (xs.zip ys).map fun p => p.1 + p.2
theorem zipped_int (xs ys : List Int) : zipped (xs.map D.int) (ys.map D.int) = (xs.zip ys).map fun p => D.tup [.int p.1, .int p.2] := by
  unfold zipped
  rw [List.zip_map, List.map_map]
  rfl
theorem s_add (n : Nat) (xs ys : List Int) (S : Store) (hl : xs.length < 1000) : ∃ g, callF pg (n + 1) 0 [tz xs, tz ys] S = .ok (tz (addz xs ys)) (S ++ g) := by
  generalize hr : callF pg (n + 1) 0 [tz xs, tz ys] S = res
  rw [callF_succ, fn0] at hr
  unfold tz at hr
  have ez : ∀ g, zipD g (.tup (xs.map D.int)) (.tup (ys.map D.int)) = some ((xs.zip ys).map fun p => D.tup [.int p.1, .int p.2]) := fun g => by
    show some (zipped _ _) = _
    rw [zipped_int]
  have ez' : zipD S (.tup (xs.map D.int)) (.tup (ys.map D.int)) = some ((xs.zip ys).map fun p => D.tup [.int p.1, .int p.2]) := ez S
  simp only [ir_add, b_add, List.length_cons, List.length_nil, Nat.reduceAdd, if_true, exs_cons, exr_ret, evr_bif, evs_cons, evs_nil, evr_comp, evI_zip, evr_var, List.map_cons, List.map_nil, List.cons_append, List.nil_append, List.getElem?_cons_succ, List.getElem?_cons_zero, bind_ok, srcOf, ez', List.length_map] at hr
  generalize hL : loopC _ _ _ _ _ _ = r at hr
  obtain ⟨g', rfl⟩ := compX hL (xs.zip ys) (fun p => D.tup [.int p.1, .int p.2]) (fun p => some (D.int (p.1 + p.2))) rfl rfl (by rw [List.length_zip]; show _ ≤ 16777216; omega) (fun g => ez _) (by
    rintro ⟨x, y⟩ hx acc g'
    refine ⟨[], ?_⟩
    simp [cmpB])
  rw [filterMap_some] at hr
  simp [bTuple, seqL_of get_new] at hr
  exact ⟨_, by rw [← hr]; simp [tz, addz]; rfl⟩
theorem s_mul (n : Nat) (f : Int) (xs : List Int) (S : Store) (hl : xs.length < 1000) (hf : -(2 ^ 64) < f) (hf2 : f < 2 ^ 64) : ∃ g, callF pg (n + 1) 1 [.int f, tz xs] S = .ok (tz (xs.map fun x => f * x)) (S ++ g) := by
  generalize hr : callF pg (n + 1) 1 [.int f, tz xs] S = res
  rw [callF_succ, fn1] at hr
  unfold tz at hr
  simp [ir_multiply, b_multiply] at hr
  generalize hL : loopC _ _ _ _ _ _ = r at hr
  obtain ⟨g', rfl⟩ := compX hL xs D.int (fun x => some (D.int (f * x))) rfl rfl (by show _ ≤ 16777216; omega) (fun g => rfl) (by
    intro x hx acc g'
    refine ⟨[], ?_⟩
    simp [cmpB, bin_mul, mulOk_l hf hf2])
  rw [filterMap_some] at hr
  simp [bTuple, seqL_of get_new] at hr
  exact ⟨_, by rw [← hr]; simp [tz]; rfl⟩
/-- the coefficient at i -/
def co (i : Nat) (p : CP) : Int := p.1[i]?.getD 0
theorem ix_cd {kon : D → Bool} {S : Store} {p : CP} {i : Nat} (h : i < p.1.length) : getIx kon S (cd p) (.int (i : Int)) = some (.int (co i p)) := by
  show (pix ((p.1 ++ [p.2]).map D.int).length (i : Int)).bind (((p.1 ++ [p.2]).map D.int)[·]?) = _
  rw [pix_nat (by simp; omega)]
  simp [co, h, List.getElem?_append_left]
def comb (i : Nat) (l u : CP) : CP := ((l.1.zip u.1).map fun p => -(co i u) * p.1 + co i l * p.2, -(co i u) * l.2 + co i l * u.2)
theorem comb_row (i : Nat) (l u : CP) (h : l.1.length = u.1.length) : addz ((l.1 ++ [l.2]).map fun x => -(co i u) * x) ((u.1 ++ [u.2]).map fun x => co i l * x) = (comb i l u).1 ++ [(comb i l u).2] := by
  unfold addz comb
  rw [List.map_append, List.map_append, List.zip_append (by simp [h]), List.map_append, List.zip_map, List.map_map]
  rfl

theorem ix_row {kon : D → Bool} {S : Store} {p : CP} {k : Nat} (h : k < p.1.length + 1) : getIx kon S (cd p) (.int (k : Int)) = some (.int ((p.1 ++ [p.2])[k]?.getD 0)) := by
  show (pix ((p.1 ++ [p.2]).map D.int).length (k : Int)).bind (((p.1 ++ [p.2]).map D.int)[·]?) = _
  have h2 : k < (p.1 ++ [p.2]).length := by simp; omega
  rw [pix_nat (by simpa using h2)]
  show ((p.1 ++ [p.2]).map D.int)[k]? = _
  rw [List.getElem?_map, List.getElem?_eq_getElem h2]
  rfl
def Sm64 (x : Int) : Prop := -(2 ^ 64) < x ∧ x < 2 ^ 64
theorem s_comb (n : Nat) (i : Nat) (l u : CP) (S : Store) (hlu : l.1.length = u.1.length) (hi : i < l.1.length) (hl : l.1.length < 900) (b1 : Sm64 (co i l)) (b2 : Sm64 (co i u)) : ∃ g, callF pg (n + 1) 18 [cd l, cd u, .int (i : Int)] S = .ok (cd (comb i l u)) (S ++ g) := by
  generalize hr : callF pg (n + 1) 18 [cd l, cd u, .int (i : Int)] S = res
  rw [callF_succ, fn18] at hr
  have ln : bLen (cd l) S = .ok (.int ((l.1.length + 1 : Nat) : Int)) S := by
    unfold bLen cd tz
    simp
  have bd : bound62 ((l.1.length + 1 : Nat) : Int) = true := bl62 (by show _ ≤ 16777216; omega)
  simp only [ir_law_combined, b_law_combined, List.length_cons, List.length_nil, Nat.reduceAdd, Nat.reduceSub, List.replicate_succ, List.replicate_zero, if_true, exs_cons, exr_ret, evr_bif, evs_cons, evs_nil, evr_comp, evI_rng1, evr_var, List.map_cons, List.map_nil, List.cons_append, List.nil_append, List.getElem?_cons_succ, List.getElem?_cons_zero, bind_ok, bif_len, ln, bd, Int.toNat_natCast] at hr
  generalize hL : loopC _ _ _ _ _ _ = r at hr
  obtain ⟨g', rfl⟩ := compX hL (List.range (l.1.length + 1)) (fun k => D.int ((0 : Int) + (k : Int))) (fun k => some (D.int (co i l * (u.1 ++ [u.2])[k]?.getD 0 - co i u * (l.1 ++ [l.2])[k]?.getD 0))) (by simp) rfl (by simp [line]; omega) (fun g => rfl) (by
    intro k hk acc g'
    have hk' := List.mem_range.mp hk
    refine ⟨[], ?_⟩
    have e1 := fun S => ix_cd (kon := fun _ => false) (S := S) (p := l) (i := i) hi
    have e2 := fun S => ix_cd (kon := fun _ => false) (S := S) (p := u) (i := i) (by omega)
    have e3 := fun S => ix_row (kon := fun _ => false) (S := S) (p := l) (k := k) hk'
    have e4 := fun S => ix_row (kon := fun _ => false) (S := S) (p := u) (k := k) (by omega)
    have m1 := fun S => bin_mul S (mulOk_l (i := co i l) (j := (u.1 ++ [u.2])[k]?.getD 0) b1.1 b1.2)
    have m2 := fun S => bin_mul S (mulOk_l (i := co i u) (j := (l.1 ++ [l.2])[k]?.getD 0) b2.1 b2.2)
    simp only [cmpB, asg_nm, wipe_cons, wipe_nil, List.set_cons_succ, List.set_cons_zero, evr_cst, testR_ok, truth_bl, bind_ok, if_true, evr_bin, evr_ix, evr_var, List.getElem?_cons_succ, List.getElem?_cons_zero, Int.zero_add, gam_kon, pg_kon, e1, e2, e3, e4, dR_some, m1, m2, bin_sub, List.append_nil])
  rw [filterMap_some] at hr
  have er : (List.range (l.1.length + 1)).map (fun k => D.int (co i l * (u.1 ++ [u.2])[k]?.getD 0 - co i u * (l.1 ++ [l.2])[k]?.getD 0)) = ((comb i l u).1 ++ [(comb i l u).2]).map D.int := by
    rw [← comb_row i l u hlu]
    apply List.ext_getElem
    · simp [addz, hlu]
    · intro k h1 h2
      have hk : k < l.1.length + 1 := by simpa using h1
      have hk2 : k < u.1.length + 1 := by omega
      have q1 : (u.1 ++ [u.2])[k]? = some ((u.1 ++ [u.2])[k]'(by simp; omega)) := List.getElem?_eq_getElem _
      have q2 : (l.1 ++ [l.2])[k]? = some ((l.1 ++ [l.2])[k]'(by simp; omega)) := List.getElem?_eq_getElem _
      have q3 : ((u.1 ++ [u.2])[k]?).getD 0 = (u.1 ++ [u.2])[k]'(by simp; omega) := by rw [q1]; rfl
      have q4 : ((l.1 ++ [l.2])[k]?).getD 0 = (l.1 ++ [l.2])[k]'(by simp; omega) := by rw [q2]; rfl
      rw [List.getElem_map, List.getElem_range, List.getElem_map, q3, q4]
      unfold addz
      rw [List.getElem_map, List.getElem_zip, List.getElem_map, List.getElem_map, Int.neg_mul, Int.sub_eq_add_neg, Int.add_comm]
  rw [er] at hr
  simp [bTuple, seqL_of get_new] at hr
  exact ⟨_, by rw [← hr]; simp [cd, tz]; rfl⟩
/-- the value at a point -/
def dot (v pt : List Int) : Int := ((v.zip pt).map fun p => p.1 * p.2).sum
def val (p : CP) (pt : List Int) : Int := p.2 + dot p.1 pt
theorem s_val (n : Nat) (p : CP) (pt : List Int) (m : Nat) (S : Store) (hm : S[m]? = some (.lst (pt.map .int))) (hl : p.1.length = pt.length) (hl2 : pt.length < 900) (hs : ∀ x ∈ pt, Sm64 x) : callF pg (n + 1) 12 [cd p, .loc m] S = .ok (.int (val p pt)) S := by
  generalize hr : callF pg (n + 1) 12 [cd p, .loc m] S = res
  rw [callF_succ, fn12] at hr
  have e0 : getIx (fun _ => false) S (cd p) (.int (-1)) = some (.int p.2) := last_tz _ _
  have ln : bLen (.loc m) S = .ok (.int (pt.length : Int)) S := by unfold bLen; rw [len_lst hm]; simp
  have bd : bound62 (pt.length : Int) = true := bl62 (by show _ ≤ 16777216; omega)
  simp [ir_law_value, b_law_value, e0, ln, bd] at hr
  generalize hL : loopF _ _ _ _ _ _ = r at hr
  obtain ⟨en', S', rfl, rfl, r3, rfl⟩ := loopN hL (rngL 0 pt.length) (by simp) (fun k en S' => S' = S ∧ ∃ r3, en = [some (cd p), some (.loc m), some (.int (p.2 + dot (p.1.take k) (pt.take k))), r3]) (fun _ _ _ _ => rfl) ⟨rfl, none, by simp [dot]⟩ (by
    rintro k d en S1 Q hd ⟨rfl, r3, rfl⟩ hQ
    obtain ⟨rfl, hk⟩ := rngL_at hd
    have hk2 : k < p.1.length := by omega
    have e1 := ix_cd (kon := fun _ => false) (S := S1) (p := p) (i := k) hk2
    have e2 : getIx (fun _ => false) S1 (.loc m) (.int (k : Int)) = some (.int pt[k]) := getIx_nat hm (by simp [hk])
    have hp := hs pt[k] (List.getElem_mem hk)
    have m1 := bin_mul S1 (mulOk_r (i := co k p) (j := pt[k]) hp.1 hp.2)
    simp [forB, e1, e2, m1]
    refine hQ _ _ ⟨rfl, some (.int (k : Int)), ?_⟩
    have t1 : p.1.take (k + 1) = p.1.take k ++ [co k p] := take_snoc (by simp [co, hk2])
    have t2 : pt.take (k + 1) = pt.take k ++ [pt[k]] := take_snoc (by simp [hk])
    have : dot (p.1.take (k + 1)) (pt.take (k + 1)) = dot (p.1.take k) (pt.take k) + co k p * pt[k] := by
      rw [t1, t2]
      unfold dot
      rw [List.zip_append (by simp; omega), List.map_append, List.sum_append]
      simp
    rw [this, ← Int.add_assoc])
  rw [List.take_of_length_le (by omega), List.take_of_length_le (Nat.le_refl _)] at hr
  simp at hr
  exact hr.symm
end Lk81
end
section
set_option Elab.async false
set_option linter.all false
set_option autoImplicit false
set_option maxRecDepth 10000
namespace Lk81
open Lw Lw.Cn
def wo (i : Nat) (ps : List CP) : List CP := ps.filter fun p => decide (co i p = 0)
def lo (i : Nat) (ps : List CP) : List CP := ps.filter fun p => decide (0 < co i p)
def up (i : Nat) (ps : List CP) : List CP := ps.filter fun p => decide (co i p < 0)
def prods (i : Nat) (ls us : List CP) : List CP := ls.flatMap fun a => us.map (comb i a)
def expd (i : Nat) (ps : List CP) : List CP := if 64 < (wo i ps).length + (lo i ps).length * (up i ps).length then wo i ps else wo i ps ++ prods i (lo i ps) (up i ps)
theorem fm_filter (q : CP → Bool) (ps : List CP) : ps.filterMap (fun p => if q p then some (cd p) else none) = (ps.filter q).map cd := by
  induction ps with
  | nil => rfl
  | cons p ps ih =>
    rw [List.filterMap_cons, List.filter_cons, ih]
    cases q p <;> simp
/-- the conditions of a sign -/
theorem sel {Γ : Gam} {o : Cop} {en : Env} {n l s : Nat} {i k jv : Nat} {ps : List CP} {S : Store} {q : CP → Bool} {r : R D} (hk : Γ.kon = fun _ => false) (h3 : ∀ x, (en.set k none).set k x = en.set k x) (hg : ∀ x, (en.set k (some x))[k]? = some (some x)) (hg1 : ∀ x, (en.set k (some x))[jv]? = some (some (.int (i : Int))))
    (hs : S[s]? = some (.lst (ps.map cd))) (hp : ∀ p ∈ ps, i < p.1.length) (hl : ps.length < 1000) (hq : ∀ S p, cmpD (fun _ => false) o S (.int (co i p)) (.int 0) = some (q p))
    (hL : loopC (fun S => walkOf S (.loc s)) (cmpB Γ (.var k) (.nm k) [k] (.cmp o (.ix (.var k) (.var jv)) (.cst (.int 0))) en) n l n (S ++ [.lst []]) = r) (hn : n = ps.length) (hl0 : l = S.length) : ∃ g, r = .ok (.loc l) (S ++ .lst ((ps.filter q).map cd) :: g) := by
  rw [← fm_filter]
  refine compX hL ps cd _ hn hl0 (by show _ ≤ 16777216; omega) (fun g => walk_lst (get_app hs)) fun p hp' acc g => ⟨[], ?_⟩
  have e1 := fun S => ix_cd (kon := fun _ => false) (S := S) (p := p) (i := i) (hp p hp')
  simp only [cmpB, asg_nm, wipe_cons, wipe_nil, h3, evr_cmp, evr_ix, evr_var, hg, hg1, bind_ok, hk, e1, dR_some, evr_cst, hq, boolR_some, testR_ok, truth_bl, List.append_nil]
  cases q p <;> simp
theorem s_elim (n : Nat) (i : Nat) (l : Nat) (ps : List CP) (w : Nat) (S : Store) (hs : S[l]? = some (.lst (ps.map cd))) (hw : ∀ p ∈ ps, p.1.length = w) (hi : i < w) (hw2 : w < 900) (hl : ps.length < 900) (hb : ∀ p ∈ ps, Sm64 (co i p) ∧ Sm64 (-(co i p))) (ho : ∀ p ∈ expd i ps, Okp p) :
    ∃ m S', callF pg (n + 4) 6 [.loc l, .int (i : Int)] S = .ok (.loc m) S' ∧ Frm S.length S S' ∧ S'[m]? = some (.lst (((lf (expd i ps)).filter fun p => !alw p).map cd)) := by
  generalize hr : callF pg (n + 4) 6 [.loc l, .int (i : Int)] S = res
  rw [callF_succ, fn6] at hr
  have hpi : ∀ p ∈ ps, i < p.1.length := fun p hp => by rw [hw p hp]; exact hi
  have w1 := walk_lst hs
  simp [ir_eliminate, b_eliminate, w1] at hr
  generalize hL : loopC _ _ _ _ _ _ = r at hr
  obtain ⟨g1, rfl⟩ := sel (q := fun p => decide (co i p = 0)) rfl (fun _ => rfl) (fun _ => rfl) (fun _ => rfl) hs hpi (by omega) (fun _ _ => rfl) hL rfl rfl
  clear hL
  have hs1 : (S ++ O.lst ((wo i ps).map cd) :: g1)[l]? = some (.lst (ps.map cd)) := get_app hs
  have hW1 : (S ++ O.lst ((wo i ps).map cd) :: g1)[S.length]? = some (.lst ((wo i ps).map cd)) := get_new
  have F1 : Frm S.length S (S ++ O.lst ((wo i ps).map cd) :: g1) := Frm.app _ _ _
  rw [show (ps.filter fun p => decide (co i p = 0)) = wo i ps from rfl] at hr
  generalize S ++ O.lst ((wo i ps).map cd) :: g1 = S1 at *
  have w2 := walk_lst hs1
  simp [w2] at hr
  generalize hL : loopC _ _ _ _ _ _ = r at hr
  obtain ⟨g2, rfl⟩ := sel (q := fun p => decide (0 < co i p)) rfl (fun _ => rfl) (fun _ => rfl) (fun _ => rfl) hs1 hpi (by omega) (fun _ _ => rfl) hL rfl rfl
  clear hL
  have hs2 : (S1 ++ O.lst ((lo i ps).map cd) :: g2)[l]? = some (.lst (ps.map cd)) := get_app hs1
  have hW2 : (S1 ++ O.lst ((lo i ps).map cd) :: g2)[S.length]? = some (.lst ((wo i ps).map cd)) := get_app hW1
  have hO2 : (S1 ++ O.lst ((lo i ps).map cd) :: g2)[S1.length]? = some (.lst ((lo i ps).map cd)) := get_new
  have F2 : Frm S.length S (S1 ++ O.lst ((lo i ps).map cd) :: g2) := F1.trans (Frm.app _ _ _)
  have l1 : S.length < S1.length := (List.getElem?_eq_some_iff.mp hW1).1
  rw [show (ps.filter fun p => decide (0 < co i p)) = lo i ps from rfl] at hr
  generalize hS2 : S1 ++ O.lst ((lo i ps).map cd) :: g2 = S2 at *
  have l2 : S1.length < S2.length := (List.getElem?_eq_some_iff.mp hO2).1
  have w3 := walk_lst hs2
  simp [w3] at hr
  generalize hL : loopC _ _ _ _ _ _ = r at hr
  obtain ⟨g3, rfl⟩ := sel (q := fun p => decide (co i p < 0)) rfl (fun _ => rfl) (fun _ => rfl) (fun _ => rfl) hs2 hpi (by omega) (fun _ _ => rfl) hL rfl rfl
  clear hL
  have hW3 : (S2 ++ O.lst ((up i ps).map cd) :: g3)[S.length]? = some (.lst ((wo i ps).map cd)) := get_app hW2
  have hO3 : (S2 ++ O.lst ((up i ps).map cd) :: g3)[S1.length]? = some (.lst ((lo i ps).map cd)) := get_app hO2
  have hU3 : (S2 ++ O.lst ((up i ps).map cd) :: g3)[S2.length]? = some (.lst ((up i ps).map cd)) := get_new
  have F3 : Frm S.length S (S2 ++ O.lst ((up i ps).map cd) :: g3) := F2.trans (Frm.app _ _ _)
  rw [show (ps.filter fun p => decide (co i p < 0)) = up i ps from rfl] at hr
  generalize S2 ++ O.lst ((up i ps).map cd) :: g3 = S3 at *
  clear hS2 w1 w2 w3
  have fl : ∀ q : CP → Bool, (ps.filter q).length ≤ ps.length := fun q => List.length_filter_le q ps
  have lw : (wo i ps).length ≤ ps.length := fl _
  have ll : (lo i ps).length ≤ ps.length := fl _
  have lu : (up i ps).length ≤ ps.length := fl _
  have b1 : bLen (.loc S.length) S3 = .ok (.int ((wo i ps).length : Int)) S3 := by unfold bLen; rw [len_lst hW3]; simp
  have b2 : bLen (.loc S1.length) S3 = .ok (.int ((lo i ps).length : Int)) S3 := by unfold bLen; rw [len_lst hO3]; simp
  have b3 : bLen (.loc S2.length) S3 = .ok (.int ((up i ps).length : Int)) S3 := by unfold bLen; rw [len_lst hU3]; simp
  have m1 : mulOk ((lo i ps).length : Int) ((up i ps).length : Int) = true := mulOk_l (by omega) (by omega)
  simp [b1, b2, b3, bin_mul, m1] at hr
  by_cases hbig : 64 < (wo i ps).length + (lo i ps).length * (up i ps).length
  · have hbig' : (64 : Int) < ((wo i ps).length : Int) + ((lo i ps).length : Int) * ((up i ps).length : Int) := by exact_mod_cast hbig
    simp [hbig'] at hr
    have ee : expd i ps = wo i ps := by unfold expd; rw [if_pos hbig]
    rw [ee] at ho ⊢
    obtain ⟨m, g, e, q⟩ := s_least CF n S.length (wo i ps) S3 hW3 ho (by omega)
    rw [e] at hr
    simp at hr
    exact ⟨m, _, hr.symm, F3.trans (Frm.app _ _ _), q⟩
  · have hbig' : ¬ (64 : Int) < ((wo i ps).length : Int) + ((lo i ps).length : Int) * ((up i ps).length : Int) := by exact_mod_cast hbig
    simp [hbig'] at hr
    have ee : expd i ps = wo i ps ++ prods i (lo i ps) (up i ps) := by unfold expd; rw [if_neg hbig]
    rw [ee] at ho ⊢
    simp [walk_lst hO3] at hr
    generalize hL : loopF _ _ _ _ _ _ = r at hr
    have hlo : ∀ p ∈ lo i ps, p ∈ ps := fun p hp => (List.mem_filter.mp hp).1
    have hup : ∀ p ∈ up i ps, p ∈ ps := fun p hp => (List.mem_filter.mp hp).1
    generalize lo i ps = L at *
    generalize up i ps = U at *
    have hmul : L.length * U.length ≤ 64 := by omega
    obtain ⟨en', S', rfl, r6, r7, rfl, T1, T2, T3, F4⟩ := loopN hL (L.map cd) (by simp) (fun k en T => ∃ r6 r7, en = [some (.loc l), some (.int (i : Int)), some (.loc S.length), none, some (.loc S1.length), some (.loc S2.length), r6, r7] ∧ T[S.length]? = some (.lst ((wo i ps ++ prods i (L.take k) U).map cd)) ∧ T[S1.length]? = some (.lst (L.map cd)) ∧ T[S2.length]? = some (.lst (U.map cd)) ∧ Frm S.length S T)
      (fun _ _ _ ⟨_, _, _, _, h, _⟩ => walk_lst h) ⟨none, none, rfl, by simpa [prods] using hW3, hO3, hU3, F3⟩ (by
      rintro k d en T Q hd ⟨r6, r7, rfl, T1, T2, T3, F4⟩ hQ
      rw [List.getElem?_map] at hd
      obtain ⟨a, hx, rfl⟩ := Option.map_eq_some_iff.mp hd
      have ha := hlo a (List.mem_of_getElem? hx)
      have hkL : k < L.length := (List.getElem?_eq_some_iff.mp hx).1
      simp only [forB, asg_nm, List.set_cons_succ, List.set_cons_zero, exs_cons, exr_forr, evI_seq, evr_var, List.getElem?_cons_succ, List.getElem?_cons_zero, bind_ok, srcOf, walk_lst T3, thn_ok, List.length_map]
      generalize hL2 : loopF _ _ _ _ _ _ = r2
      obtain ⟨en2, T', rfl, r7, rfl, V1, V2, V3, F5⟩ := loopN hL2 (U.map cd) (by simp) (fun j en T => ∃ r7, en = [some (.loc l), some (.int (i : Int)), some (.loc S.length), none, some (.loc S1.length), some (.loc S2.length), some (cd a), r7] ∧ T[S.length]? = some (.lst ((wo i ps ++ prods i (L.take k) U ++ (U.take j).map (comb i a)).map cd)) ∧ T[S1.length]? = some (.lst (L.map cd)) ∧ T[S2.length]? = some (.lst (U.map cd)) ∧ Frm S.length S T)
        (fun _ _ _ ⟨_, _, _, _, h, _⟩ => walk_lst h) ⟨r7, rfl, by simpa using T1, T2, T3, F4⟩ (by
        rintro j d en T Q hd ⟨r7, rfl, V1, V2, V3, F5⟩ hQ
        rw [List.getElem?_map] at hd
        obtain ⟨u, hy, rfl⟩ := Option.map_eq_some_iff.mp hd
        have hu := hup u (List.mem_of_getElem? hy)
        have wa := hw a ha
        have wu := hw u hu
        have e1 := fun S => ix_cd (kon := fun _ => false) (S := S) (p := u) (i := i) (by omega)
        have e2 := fun S => ix_cd (kon := fun _ => false) (S := S) (p := a) (i := i) (by omega)
        obtain ⟨g1, c1⟩ := s_mul (n + 2) (-(co i u)) (a.1 ++ [a.2]) T (by simp; omega) (hb u hu).2.1 (hb u hu).2.2
        obtain ⟨g2, c2⟩ := s_mul (n + 2) (co i a) (u.1 ++ [u.2]) (T ++ g1) (by simp; omega) (hb a ha).1.1 (hb a ha).1.2
        obtain ⟨g3, c3⟩ := s_add (n + 2) ((a.1 ++ [a.2]).map fun x => -(co i u) * x) ((u.1 ++ [u.2]).map fun x => co i a * x) (T ++ g1 ++ g2) (by simp; omega)
        rw [comb_row i a u (by omega)] at c3
        have c1' : callF pg (n + 3) 1 [.int (-(co i u)), cd a] T = .ok (tz ((a.1 ++ [a.2]).map fun x => -(co i u) * x)) (T ++ g1) := c1
        have c2' : callF pg (n + 3) 1 [.int (co i a), cd u] (T ++ g1) = .ok (tz ((u.1 ++ [u.2]).map fun x => co i a * x)) (T ++ g1 ++ g2) := c2
        have c3' : callF pg (n + 3) 0 [tz ((a.1 ++ [a.2]).map fun x => -(co i u) * x), tz ((u.1 ++ [u.2]).map fun x => co i a * x)] (T ++ g1 ++ g2) = .ok (cd (comb i a u)) (T ++ g1 ++ g2 ++ g3) := c3
        have V1' : (T ++ g1 ++ g2 ++ g3)[S.length]? = some (.lst ((wo i ps ++ prods i (L.take k) U ++ (U.take j).map (comb i a)).map cd)) := get_app (get_app (get_app V1))
        have len1 : ((wo i ps ++ prods i (L.take k) U ++ (U.take j).map (comb i a)).map cd).length < line := by
          have p1 : ∀ xs : List CP, (prods i xs U).length = xs.length * U.length := by
            intro xs
            induction xs with
            | nil => simp [prods]
            | cons x xs ih =>
              have e : prods i (x :: xs) U = U.map (comb i x) ++ prods i xs U := by simp [prods]
              rw [e, List.length_append, ih, List.length_map, List.length_cons, Nat.succ_mul]
              omega
          have p2 : (L.take k).length * U.length ≤ 64 := Nat.le_trans (Nat.mul_le_mul_right _ (by rw [List.length_take]; omega)) hmul
          have p3 : U.length ≤ 64 := Nat.le_trans (Nat.le_mul_of_pos_left _ (by omega)) hmul
          rw [List.length_map, List.length_append, List.length_append, List.length_map, p1, List.length_take (i := j)]
          show _ < 16777216
          omega
        have ap := app_of (d := cd (comb i a u)) V1' len1
        have il : isLst T (.loc S.length) = true := isLst_of V1
        simp only [forB, asg_nm, List.set_cons_succ, List.set_cons_zero, exs_cons, exr_ex, evr_bmt, evr_var, List.getElem?_cons_succ, List.getElem?_cons_zero, bind_ok, il, if_true, evs_cons, evs_nil, evr_call, gam_call, evr_neg, evr_ix, gam_kon, pg_kon, e1, e2, dR_some, c1', c2', c3', ap, thn_ok, exs_nil]
        refine hQ _ _ ⟨_, rfl, ?_, ?_, ?_, ?_⟩
        · rw [List.getElem?_set_self (List.getElem?_eq_some_iff.mp V1').1, take_snoc hy]
          simp
        · rw [List.getElem?_set_ne (by omega)]; exact get_app (get_app (get_app V2))
        · rw [List.getElem?_set_ne (by omega)]; exact get_app (get_app (get_app V3))
        · exact (((F5.trans (Frm.app _ _ _)).trans (Frm.app _ _ _)).trans (Frm.app _ _ _)).setn (Nat.le_refl _) _)
      simp only [exs_nil]
      rw [List.take_of_length_le (Nat.le_refl _)] at V1
      refine hQ _ _ ⟨_, _, rfl, ?_, V2, V3, F5⟩
      rw [V1, take_snoc hx]
      simp [prods])
    rw [List.take_of_length_le (Nat.le_refl _)] at T1
    simp at hr
    have hlen : (wo i ps ++ prods i L U).length < 1000 := by
      have p1 : ∀ xs : List CP, (prods i xs U).length = xs.length * U.length := by
        intro xs
        induction xs with
        | nil => simp [prods]
        | cons x xs ih =>
          have e : prods i (x :: xs) U = U.map (comb i x) ++ prods i xs U := by simp [prods]
          rw [e, List.length_append, ih, List.length_map, List.length_cons, Nat.succ_mul]
          omega
      rw [List.length_append, p1]
      omega
    obtain ⟨m, g, e, q⟩ := s_least CF n S.length (wo i ps ++ prods i L U) S' T1 ho hlen
    rw [e] at hr
    simp at hr
    exact ⟨m, _, hr.symm, F4.trans (Frm.app _ _ _), q⟩
end Lk81
end
section
set_option Elab.async false
set_option linter.all false
set_option autoImplicit false
set_option maxRecDepth 10000
namespace Lk81
open Lw Lw.Cn
/-! ### the plain law -/
theorem cf_dvd_go : ∀ (v : List Int) (f : Nat), v.foldl (fun f n => Nat.gcd f n.natAbs) f ∣ f ∧ ∀ x ∈ v, v.foldl (fun f n => Nat.gcd f n.natAbs) f ∣ x.natAbs
  | [], f => ⟨Nat.dvd_refl _, fun _ h => nomatch h⟩
  | x :: v, f => by
    obtain ⟨h1, h2⟩ := cf_dvd_go v (Nat.gcd f x.natAbs)
    rw [List.foldl_cons]
    refine ⟨Nat.dvd_trans h1 (Nat.gcd_dvd_left _ _), fun y hy => ?_⟩
    rcases List.mem_cons.mp hy with rfl | hy
    · exact Nat.dvd_trans h1 (Nat.gcd_dvd_right _ _)
    · exact h2 y hy
theorem cf_dvd {v : List Int} {x : Int} (h : x ∈ v) : (cf v : Int) ∣ x := Int.natAbs_dvd_natAbs.mp (by rw [Int.natAbs_natCast]; exact (cf_dvd_go v 0).2 x h)
theorem co_red {i : Nat} {p : CP} (h : co i p = 0) : co i (redP p) = 0 := by
  unfold redP
  split
  · exact h
  · unfold co at h ⊢
    dsimp only
    rw [List.getElem?_map]
    cases q : p.1[i]? with
    | none => rfl
    | some x =>
      rw [q] at h
      have e : x = 0 := h
      subst e
      show (0 : Int).fdiv (cf p.1 : Int) = 0
      exact Int.zero_fdiv (cf p.1 : Int)
theorem co_comb {i : Nat} {l u : CP} (h : l.1.length = u.1.length) (hi : i < l.1.length) : co i (comb i l u) = 0 := by
  have hu : i < u.1.length := by omega
  have e1 : co i l = l.1[i] := by unfold co; rw [List.getElem?_eq_getElem hi]; rfl
  have e2 : co i u = u.1[i] := by unfold co; rw [List.getElem?_eq_getElem hu]; rfl
  show ((comb i l u).1[i]?).getD 0 = 0
  unfold comb
  dsimp only
  have ez : (l.1.zip u.1)[i]? = some (l.1[i], u.1[i]) := List.getElem?_zip_eq_some.mpr ⟨List.getElem?_eq_getElem hi, List.getElem?_eq_getElem hu⟩
  rw [List.getElem?_map, ez]
  show -(co i u) * l.1[i] + co i l * u.1[i] = 0
  rw [← e1, ← e2, Int.neg_mul, Int.mul_comm]
  omega
theorem dot_quot {f : Int} (hf : f ≠ 0) : ∀ (v pt : List Int), (∀ x ∈ v, f ∣ x) → f * dot (v.map fun x => x.fdiv f) pt = dot v pt
  | [], _, _ => by simp [dot]
  | x :: v, [], _ => by simp [dot]
  | x :: v, y :: pt, h => by
    have ih := dot_quot hf v pt fun z hz => h z (List.mem_cons_of_mem _ hz)
    have e : f * x.fdiv f = x := Int.mul_fdiv_cancel' (h x List.mem_cons_self)
    have e1 : dot ((x :: v).map fun x => x.fdiv f) (y :: pt) = x.fdiv f * y + dot (v.map fun x => x.fdiv f) pt := rfl
    have e2 : dot (x :: v) (y :: pt) = x * y + dot v pt := rfl
    rw [e1, e2, Int.mul_add, ih, ← Int.mul_assoc, e]
theorem val_red {p : CP} {pt : List Int} (h : 0 ≤ val p pt) : 0 ≤ val (redP p) pt := by
  unfold redP
  split
  · exact h
  · rename_i hc
    unfold val at h ⊢
    dsimp only
    have hf : (0 : Int) < (cf p.1 : Int) := by omega
    have e := dot_quot (f := (cf p.1 : Int)) (by omega) p.1 pt fun x hx => cf_dvd hx
    rw [← e] at h
    generalize dot (p.1.map fun x => x.fdiv (cf p.1)) pt = E at *
    rw [Int.fdiv_eq_ediv_of_nonneg _ (by omega)]
    have h2 : -E ≤ p.2 / (cf p.1 : Int) := by
      rw [Int.le_ediv_iff_mul_le hf, Int.neg_mul, Int.mul_comm]
      omega
    omega
theorem dot_comb (a b : Int) : ∀ (v w pt : List Int), v.length = w.length → dot ((v.zip w).map fun p => a * p.1 + b * p.2) pt = a * dot v pt + b * dot w pt
  | [], [], pt, _ => by simp [dot]
  | [], _ :: _, _, h => by cases h
  | _ :: _, [], _, h => by cases h
  | x :: v, y :: w, [], _ => by simp [dot]
  | x :: v, y :: w, z :: pt, h => by
    have ih := dot_comb a b v w pt (by simpa using h)
    have e1 : dot (((x :: v).zip (y :: w)).map fun p => a * p.1 + b * p.2) (z :: pt) = (a * x + b * y) * z + dot ((v.zip w).map fun p => a * p.1 + b * p.2) pt := rfl
    have e2 : dot (x :: v) (z :: pt) = x * z + dot v pt := rfl
    have e3 : dot (y :: w) (z :: pt) = y * z + dot w pt := rfl
    rw [e1, e2, e3, ih, Int.add_mul, Int.mul_add, Int.mul_add, Int.mul_assoc, Int.mul_assoc]
    omega
theorem val_comb {i : Nat} {l u : CP} {pt : List Int} (h : l.1.length = u.1.length) (hl : 0 < co i l) (hu : co i u < 0) (v1 : 0 ≤ val l pt) (v2 : 0 ≤ val u pt) : 0 ≤ val (comb i l u) pt := by
  unfold val comb at *
  dsimp only
  rw [dot_comb _ _ _ _ _ h]
  have h1 : 0 ≤ -(co i u) * (l.2 + dot l.1 pt) := Int.mul_nonneg (by omega) v1
  have h2 : 0 ≤ co i l * (u.2 + dot u.1 pt) := Int.mul_nonneg (by omega) v2
  rw [Int.mul_add] at h1 h2
  omega
/-- what holds of the conditions, of the products, holds of all -/
theorem expd_all {i : Nat} {ps : List CP} (A : CP → Prop) (h1 : ∀ p ∈ ps, co i p = 0 → A p) (h2 : ∀ a ∈ ps, ∀ b ∈ ps, 0 < co i a → co i b < 0 → A (comb i a b)) : ∀ p ∈ expd i ps, A p := by
  have hw : ∀ p ∈ wo i ps, A p := fun p hp => by
    obtain ⟨m, e⟩ := List.mem_filter.mp hp
    exact h1 p m (of_decide_eq_true e)
  intro p hp
  unfold expd at hp
  split at hp
  · exact hw p hp
  · rcases List.mem_append.mp hp with hp | hp
    · exact hw p hp
    · unfold prods at hp
      obtain ⟨a, ha, hp⟩ := List.mem_flatMap.mp hp
      obtain ⟨b, hb, rfl⟩ := List.mem_map.mp hp
      obtain ⟨m1, e1⟩ := List.mem_filter.mp ha
      obtain ⟨m2, e2⟩ := List.mem_filter.mp hb
      exact h2 a m1 b m2 (of_decide_eq_true e1) (of_decide_eq_true e2)
theorem res_zero {i w : Nat} {ps : List CP} (hw : ∀ p ∈ ps, p.1.length = w) (hi : i < w) : ∀ q ∈ lf (expd i ps), co i q = 0 := fun q hq => by
  obtain ⟨p, hp, rfl⟩ := lf_mem q hq
  exact co_red (expd_all (fun p => co i p = 0) (fun _ _ h => h) (fun a ha b hb _ _ => co_comb (by rw [hw a ha, hw b hb]) (by rw [hw a ha]; exact hi)) p hp)
theorem res_val {i w : Nat} {ps : List CP} {pt : List Int} (hw : ∀ p ∈ ps, p.1.length = w) (hv : ∀ p ∈ ps, 0 ≤ val p pt) : ∀ q ∈ lf (expd i ps), 0 ≤ val q pt := fun q hq => by
  obtain ⟨p, hp, rfl⟩ := lf_mem q hq
  exact val_red (expd_all (fun p => 0 ≤ val p pt) (fun p hp _ => hv p hp) (fun a ha b hb h1 h2 => val_comb (by rw [hw a ha, hw b hb]) h1 h2 (hv a ha) (hv b hb)) p hp)
end Lk81
end
section
set_option Elab.async false
set_option linter.all false
set_option autoImplicit false
set_option maxRecDepth 10000
namespace Lk81
open Lw Lw.Cn
/-- a drawn condition -/
def Dr (w : Nat) (p : CP) : Prop := p.1.length = w ∧ ∀ x ∈ p.1, -3 ≤ x ∧ x ≤ 3
theorem Dr.co {w i : Nat} {p : CP} (h : Dr w p) : -3 ≤ co i p ∧ co i p ≤ 3 := by
  unfold Lk81.co
  cases q : p.1[i]? with
  | none => exact ⟨by decide, by decide⟩
  | some x => exact h.2 x (List.mem_of_getElem? q)
theorem Dr.ok {w : Nat} {p : CP} (h : Dr w p) (hw : w < 10) : Okp p := by
  refine ⟨?_, fun x hx => ?_, by rw [h.1]; omega⟩
  · refine cf_lt p.1 0 (by omega) fun x hx => ?_
    have := h.2 x hx
    omega
  · have := h.2 x hx
    omega
theorem mul_abs {a b : Int} {m n : Nat} (h1 : a.natAbs ≤ m) (h2 : b.natAbs ≤ n) : (a * b).natAbs ≤ m * n := by
  rw [Int.natAbs_mul]; exact Nat.mul_le_mul h1 h2
theorem comb_ok {w i : Nat} {a b : CP} (ha : Dr w a) (hb : Dr w b) (hw : w < 10) : Okp (comb i a b) := by
  have h : ∀ x ∈ (comb i a b).1, x.natAbs ≤ 18 := fun x hx => by
    obtain ⟨⟨y, z⟩, hm, rfl⟩ := List.mem_map.mp hx
    have hy := ha.2 y (List.of_mem_zip hm).1
    have hz := hb.2 z (List.of_mem_zip hm).2
    have c1 := ha.co (i := i)
    have c2 := hb.co (i := i)
    have e1 := mul_abs (a := -(co i b)) (b := y) (m := 3) (n := 3) (by omega) (by omega)
    have e2 := mul_abs (a := co i a) (b := z) (m := 3) (n := 3) (by omega) (by omega)
    show (-(co i b) * y + co i a * z).natAbs ≤ 18
    omega
  refine ⟨cf_lt _ 0 (by omega) fun x hx => by have := h x hx; omega, fun x hx => by have := h x hx; omega, ?_⟩
  unfold comb
  rw [List.length_map, List.length_zip, ha.1, hb.1]
  omega
theorem expd_ok {w i : Nat} {ps : List CP} (h : ∀ p ∈ ps, Dr w p) (hw : w < 10) : ∀ p ∈ expd i ps, Okp p :=
  expd_all Okp (fun p hp _ => (h p hp).ok hw) fun a ha b hb _ _ => comb_ok (h a ha) (h b hb) hw
def bE : Sms :=
    (.cons (.set (.nm 16) (.comp (.bin .sub (.call 10 (.cons (.var 1) (.cons (.cst (.int 19)) .nil))) (.cst (.int 9))) (.nm 17) [17] (.rng1 (.var 2)) (.cst (.bl true))))
    (.cons (.set (.nm 18) (.cmp .ge (.bif .min (.cons (.bin .add (.lst (.cons (.cst (.int 0)) .nil)) (.comp (.call 12 (.cons (.var 8) (.cons (.var 16) .nil))) (.nm 8) [8] (.seq (.var 5)) (.cst (.bl true)))) .nil)) (.cst (.int 0))))
    (.cons (.ife (.and (.var 18) (.cmp .lt (.bif .min (.cons (.bin .add (.lst (.cons (.cst (.int 0)) .nil)) (.comp (.call 12 (.cons (.var 8) (.cons (.var 16) .nil))) (.nm 8) [8] (.seq (.var 15)) (.cst (.bl true)))) .nil)) (.cst (.int 0)))) 
      (.cons (.ret (.cst (.bl false))) .nil) .nil) .nil)))
def restF : Sms := .cons (.ret (.cst (.bl true))) .nil
theorem restF_ok (Γ : Gam) (en : Env) (S : Store) : exs Γ restF en S = .rt (.bl true) S := by simp [restF]
def restE : Sms := .cons (.forr (.nm 6) (.rng1 (.cst (.int 12))) bE) restF
def restD : Sms :=
  (.cons (.forr (.nm 8) (.seq (.var 15))
    (.cons (.ife (.cmp .ne (.ix (.var 8) (.var 3)) (.cst (.int 0))) 
      (.cons (.ret (.cst (.bl false))) .nil) .nil) .nil))
  restE)
def restC : Sms :=
  (.cons (.set (.nm 14) (.bif .list (.cons (.var 5) .nil)))
  (.cons (.set (.nm 15) (.call 6 (.cons (.var 14) (.cons (.var 3) .nil))))
  (.cons (.ife (.or (.cmp .ne (.var 14) (.var 5)) (.not (.call 14 (.cons (.var 15) (.cons (.call 17 (.cons (.var 11) .nil)) .nil))))) 
    (.cons (.ret (.cst (.bl false))) .nil) .nil)
  restD)))
def restB : Sms :=
  (.cons (.set (.nm 11) (.bif .list (.cons (.var 7) .nil)))
  (.cons (.ife (.cmp .le (.bin .add (.bif .len (.cons (.var 7) .nil)) (.bin .mul (.bif .len (.cons (.var 9) .nil)) (.bif .len (.cons (.var 10) .nil)))) (.cst (.int 64))) 
    (.cons (.forr (.nm 12) (.seq (.var 9))
      (.cons (.ex (.bmt .extend (.var 11) (.cons (.comp (.call 18 (.cons (.var 12) (.cons (.var 13) (.cons (.var 3) .nil)))) (.nm 13) [13] (.seq (.var 10)) (.cst (.bl true))) .nil))) .nil)) .nil) .nil)
  restC))
def restA : Sms :=
  (.cons (.set (.nm 5) (.comp (.call 11 (.cons (.var 1) (.cons (.var 2) (.cons (.cst (.int 3)) (.cons (.cst (.int 20)) .nil))))) (.nm 6) [6] (.rng1 (.var 4)) (.cst (.bl true))))
  (.cons (.set (.nm 7) (.comp (.var 8) (.nm 8) [8] (.seq (.var 5)) (.cmp .eq (.ix (.var 8) (.var 3)) (.cst (.int 0)))))
  (.cons (.set (.nm 9) (.comp (.var 8) (.nm 8) [8] (.seq (.var 5)) (.cmp .gt (.ix (.var 8) (.var 3)) (.cst (.int 0)))))
  (.cons (.set (.nm 10) (.comp (.var 8) (.nm 8) [8] (.seq (.var 5)) (.cmp .lt (.ix (.var 8) (.var 3)) (.cst (.int 0)))))
  restB))))
theorem law_split : b_law =
  (.cons (.set (.nm 1) (.call 9 (.cons (.var 0) (.cons (.cst (.int 0)) (.cons (.cst (.int 24)) .nil)))))
  (.cons (.set (.nm 2) (.bin .add (.cst (.int 1)) (.call 10 (.cons (.var 1) (.cons (.cst (.int 4)) .nil)))))
  (.cons (.set (.nm 3) (.call 10 (.cons (.var 1) (.cons (.var 2) .nil))))
  (.cons (.set (.nm 4) (.call 10 (.cons (.var 1) (.cons (.cst (.int 15)) .nil))))
  (.cons (.ife (.cmp .eq (.call 10 (.cons (.var 1) (.cons (.cst (.int 6)) .nil))) (.cst (.int 0))) 
    (.cons (.set (.nm 4) (.cst (.int 24))) .nil) .nil)
  restA))))) := rfl
theorem StrAt.frm {s b c : Nat} {S S' : Store} (h : StrAt s b c S) (f : Frm S.length S S') : StrAt s b c S' := by
  have l := h.lt
  obtain ⟨h0, zs, p, e1, e2, e3, h4⟩ := h
  exact ⟨h0, zs, p, f.get e1 (by omega), f.get e2 (by omega), f.get e3 (by omega), h4⟩
theorem prods_len (i : Nat) (U : List CP) : ∀ xs : List CP, (prods i xs U).length = xs.length * U.length
  | [] => by simp [prods]
  | x :: xs => by
    have e : prods i (x :: xs) U = U.map (comb i x) ++ prods i xs U := by simp [prods]
    rw [e, List.length_append, prods_len i U xs, List.length_map, List.length_cons, Nat.succ_mul]
    omega
theorem minI_le : ∀ (ns : List Int) (m : Int), minI m ns ≤ m ∧ ∀ y ∈ ns, minI m ns ≤ y
  | [], m => ⟨Int.le_refl _, fun _ h => nomatch h⟩
  | n :: ns, m => by
    obtain ⟨h1, h2⟩ := minI_le ns (if n < m then n else m)
    unfold minI
    refine ⟨Int.le_trans h1 (by split <;> omega), fun y hy => ?_⟩
    rcases List.mem_cons.mp hy with rfl | hy
    · exact Int.le_trans h1 (by split <;> omega)
    · exact h2 y hy
theorem minI_pos : ∀ (ns : List Int) (m : Int), 0 ≤ m → (∀ y ∈ ns, 0 ≤ y) → 0 ≤ minI m ns
  | [], m, h, _ => h
  | n :: ns, m, h, hn => by
    unfold minI
    refine minI_pos ns _ ?_ fun y hy => hn y (List.mem_cons_of_mem _ hy)
    have := hn n List.mem_cons_self
    split <;> omega
theorem expd_w {i w : Nat} {ps : List CP} (h : ∀ p ∈ ps, p.1.length = w) : ∀ p ∈ expd i ps, p.1.length = w :=
  expd_all (fun p => p.1.length = w) (fun p hp _ => h p hp) fun a ha b hb _ _ => by
    unfold comb
    rw [List.length_map, List.length_zip, h a ha, h b hb, Nat.min_self]
theorem expd_len {i : Nat} {ps : List CP} (h : ps.length ≤ 24) : (expd i ps).length < 1000 := by
  have fl : ∀ q : CP → Bool, (ps.filter q).length ≤ ps.length := fun q => List.length_filter_le q ps
  have lw : (wo i ps).length ≤ ps.length := fl _
  unfold expd
  split
  · omega
  · rw [List.length_append, prods_len]
    omega
theorem add_lst {S : Store} {l k : Nat} {x y : List D} (h1 : S[l]? = some (.lst x)) (h2 : S[k]? = some (.lst y)) (h : x.length + y.length ≤ line) : binD .add (.loc l) (.loc k) S = .ok (.loc S.length) (S ++ [.lst (x ++ y)]) := by
  show (match S[l]?, S[k]? with
      | some (.lst x), some (.lst y) => if x.length + y.length ≤ line then R.ok (D.loc S.length) (S ++ [O.lst (x ++ y)]) else .bad
      | _, _ => .bad) = _
  rw [h1, h2]
  simp only
  rw [if_pos h]
theorem mapO_intOf : ∀ xs : List Int, mapO intOf (xs.map .int) = some xs
  | [] => rfl
  | x :: xs => by
    unfold mapO
    simp only [List.map_cons, intOf, mapO_intOf xs]
theorem bMin_at {S : Store} {m : Nat} {x : Int} {xs : List Int} (h : S[m]? = some (.lst ((x :: xs).map .int))) : bMin (.loc m) S = .ok (.int (minI x xs)) S := by
  have e : intsOf S (.loc m) = some (x :: xs) := by
    show (match seqOf S (.loc m) with
      | some xs => mapO intOf xs
      | none => none) = _
    rw [seqL_of h]
    exact mapO_intOf (x :: xs)
  unfold bMin
  rw [e]
/-- the least value at a point, or 0 -/
theorem minv (n : Nat) {a0 a1 a2 a3 a4 a5 a6 a7 a8 a9 a10 a11 a12 a13 a14 a15 a17 a18 : Option D} {v A Pt : Nat} {qs : List CP} {pt : List Int} {T : Store} (hv : [a0, a1, a2, a3, a4, a5, a6, a7, a8, a9, a10, a11, a12, a13, a14, a15, some (.loc Pt), a17, a18][v]? = some (some (.loc A))) (hA : T[A]? = some (.lst (qs.map cd))) (hP : T[Pt]? = some (.lst (pt.map .int)))
    (hq : ∀ q ∈ qs, q.1.length = pt.length) (hp : pt.length < 900) (hb : ∀ x ∈ pt, Sm64 x) (hl : qs.length < 1000) : ∃ g, ev (gamOf pg (n + 1)) (.bif .min (.cons (.bin .add (.lst (.cons (.cst (.int 0)) .nil)) (.comp (.call 12 (.cons (.var 8) (.cons (.var 16) .nil))) (.nm 8) [8] (.seq (.var v)) (.cst (.bl true)))) .nil))
      [a0, a1, a2, a3, a4, a5, a6, a7, a8, a9, a10, a11, a12, a13, a14, a15, some (.loc Pt), a17, a18] T = .ok (.int (minI 0 (qs.map fun q => val q pt))) (T ++ g) := by
  generalize hr : ev _ _ _ T = res
  have hA1 : ∀ g, (T ++ [.lst [.int 0]] ++ g)[A]? = some (.lst (qs.map cd)) := fun g => get_app (get_app hA)
  have hA0 := hA1 []
  rw [List.append_nil] at hA0
  have ln1 : [D.int 0].length ≤ line := by show 1 ≤ 16777216; omega
  simp only [evr_bif, evs_cons, evs_nil, evr_bin, evr_lst, evr_cst, bind_ok, ln1, if_true, evr_comp, evI_seq, evr_var, hv, srcOf, walk_lst hA0, List.length_map] at hr
  generalize hL : loopC _ _ _ _ _ _ = r at hr
  obtain ⟨g, rfl⟩ := compX hL qs cd (fun q => some (D.int (val q pt))) rfl rfl (by show _ ≤ 16777216; omega) (fun g => walk_lst (hA1 g)) (by
    intro q hq' acc g'
    have e := s_val n q pt Pt (T ++ [.lst [.int 0]] ++ O.lst acc :: g') (get_app (get_app hP)) (hq q hq') hp hb
    refine ⟨[], ?_⟩
    simp only [cmpB, asg_nm, wipe_cons, wipe_nil, List.set_cons_succ, List.set_cons_zero, evr_cst, testR_ok, truth_bl, bind_ok, if_true, evr_call, evs_cons, evs_nil, evr_var, List.getElem?_cons_succ, List.getElem?_cons_zero, gam_call, e, List.append_nil])
  rw [filterMap_some] at hr
  have h1 : (T ++ [.lst [.int 0]] ++ O.lst (qs.map fun q => D.int (val q pt)) :: g)[T.length]? = some (.lst [.int 0]) := get_app get_new
  have ad := add_lst h1 (k := (T ++ [O.lst [.int 0]]).length) (y := qs.map fun q => D.int (val q pt)) get_new (by rw [List.length_map]; show _ ≤ 16777216; simp; omega)
  have e0 : [D.int 0] ++ qs.map (fun q => D.int (val q pt)) = ((0 : Int) :: qs.map fun q => val q pt).map .int := by
    rw [List.map_cons, List.map_map]; rfl
  rw [e0] at ad
  have mn := bMin_at (S := T ++ [O.lst [D.int 0]] ++ O.lst (qs.map fun q => D.int (val q pt)) :: g ++ [O.lst (((0 : Int) :: qs.map fun q => val q pt).map .int)]) (m := (T ++ [O.lst [D.int 0]] ++ O.lst (qs.map fun q => D.int (val q pt)) :: g).length) (x := 0) (xs := qs.map fun q => val q pt) get_new
  have bm : ∀ d S, bifD .min [d] S = bMin d S := fun _ _ => rfl
  simp only [bind_ok, ad, bm, mn] at hr
  exact ⟨[O.lst [D.int 0]] ++ O.lst (qs.map fun q => D.int (val q pt)) :: g ++ [O.lst (((0 : Int) :: qs.map fun q => val q pt).map .int)], by rw [← hr]; simp⟩
theorem exs_nx {Γ : Gam} {st : Sm} {ss : Sms} {en en' : Env} {S S' : Store} (h : ex Γ st en S = .nx en' S') : exs Γ (.cons st ss) en S = exs Γ ss en' S' := by
  rw [exs_cons, h]
theorem restE_ok (n : Nat) {s b c cn i mn Ls A : Nat} {r7 r8 r9 r10 r11 r12 r14 : Option D} {ps qs : List CP} {T : Store} (st : StrAt s b c T) (w4 : cn ≤ 4) (hps : ∀ p ∈ ps, Dr cn p) (hl : ps.length ≤ 24) (hL : T[Ls]? = some (.lst (ps.map cd))) (hA : T[A]? = some (.lst (qs.map cd)))
    (hqw : ∀ q ∈ qs, q.1.length = cn) (hqv : ∀ pt, (∀ p ∈ ps, 0 ≤ val p pt) → ∀ q ∈ qs, 0 ≤ val q pt) (hql : qs.length < 1000) (hd : Ls ≠ s ∧ Ls ≠ b ∧ Ls ≠ c) (hd2 : A ≠ s ∧ A ≠ b ∧ A ≠ c) :
    ∃ S, R.fin (exs (gamOf pg (n + 1)) restE [some (.loc 0), some (.loc s), some (.int (cn : Int)), some (.int (i : Int)), some (.int (mn : Int)), some (.loc Ls), none, r7, r8, r9, r10, r11, r12, none, r14, some (.loc A), none, none, none] T) = .ok (.bl true) S := by
  have b12 : bound62 12 = true := by decide +kernel
  have bc : bound62 (cn : Int) = true := bl62 (by show _ ≤ 16777216; omega)
  have hex : ∃ en' S', ex (gamOf pg (n + 1)) (.forr (.nm 6) (.rng1 (.cst (.int 12))) bE) [some (.loc 0), some (.loc s), some (.int (cn : Int)), some (.int (i : Int)), some (.int (mn : Int)), some (.loc Ls), none, r7, r8, r9, r10, r11, r12, none, r14, some (.loc A), none, none, none] T = .nx en' S' := by
    generalize hL2 : ex _ _ _ T = r
    simp only [exr_forr, evI_rng1, evr_cst, bind_ok, b12, if_true, thn_ok] at hL2
    generalize h12 : (12 : Int).toNat = n12 at hL2
    obtain ⟨en', S', er, -⟩ := loopN hL2 (rngL 0 n12) (by simp) (fun k en T' => (∃ r6 r16 r18, en = [some (.loc 0), some (.loc s), some (.int (cn : Int)), some (.int (i : Int)), some (.int (mn : Int)), some (.loc Ls), r6, r7, r8, r9, r10, r11, r12, none, r14, some (.loc A), r16, none, r18]) ∧ StrAt s b c T' ∧ T'[Ls]? = some (.lst (ps.map cd)) ∧ T'[A]? = some (.lst (qs.map cd)))
      (fun _ _ _ _ => rfl) ⟨⟨none, none, none, rfl⟩, st, hL, hA⟩ (by
      rintro k d en T' Q hd' ⟨⟨r6, r16, r18, rfl⟩, st', hL', hA'⟩ hQ
      have lt := st'.lt
      have oL := (List.getElem?_eq_some_iff.mp hL').1
      have oA := (List.getElem?_eq_some_iff.mp hA').1
      simp only [forB, bE, asg_nm, List.set_cons_succ, List.set_cons_zero, exs_cons, exr_set, evr_comp, evI_rng1, evr_var, List.getElem?_cons_succ, List.getElem?_cons_zero, bind_ok, bc, if_true, Int.toNat_natCast]
      generalize hL3 : loopC _ _ _ _ _ _ = rc
      obtain ⟨acc, T1, rfl, pt, rfl, hpl, hpb, st1, hL1, hA1, hP1⟩ := compI hL3 (rngL 0 cn) (by simp) (by simp [line]; omega) (fun k acc T2 => ∃ pt : List Int, acc = pt.map .int ∧ pt.length = k ∧ (∀ x ∈ pt, Sm64 x) ∧ StrAt s b c T2 ∧ T2[Ls]? = some (.lst (ps.map cd)) ∧ T2[A]? = some (.lst (qs.map cd)) ∧ T2[T'.length]? = some (.lst acc))
        (fun k acc S' ⟨ps, e, hx, _⟩ => by rw [e, List.length_map, hx]; exact Nat.le_refl _) (fun _ _ _ _ => rfl) ⟨[], rfl, rfl, (fun _ h => nomatch h), st'.app _, get_app hL', get_app hA', get_new⟩ (by
          rintro j d acc T2 Q hd' ⟨pt, rfl, hx, hb, st2, hL2, hA2, hP2⟩ - hQ
          obtain ⟨v, p, e, v0, v1, st3⟩ := s_next (P := pg) fn10 n st2 19 (by omega)
          have e' : callF pg (n + 1) 10 [.loc s, .int 19] T2 = .ok (.int v) (T2.set c (.lst [.int p])) := e
          have hP3 : (T2.set c (.lst [.int p]))[T'.length]? = some (.lst (pt.map .int)) := by rw [List.getElem?_set_ne (by omega)]; exact hP2
          have hL3 : (T2.set c (.lst [.int p]))[Ls]? = some (.lst (ps.map cd)) := by rw [List.getElem?_set_ne (by omega)]; exact hL2
          have hA3 : (T2.set c (.lst [.int p]))[A]? = some (.lst (qs.map cd)) := by rw [List.getElem?_set_ne (by omega)]; exact hA2
          simp [cmpB, e']
          refine hQ _ _ hP3 ⟨pt ++ [v - 9], by simp, by simp [hx], fun x hx => ?_, st3.set _ (by omega) (by omega) (by omega), ?_, ?_, ?_⟩
          · rcases List.mem_append.mp hx with m | m
            · exact hb x m
            · rw [List.mem_singleton] at m
              subst m
              constructor <;> omega
          · rw [List.getElem?_set_ne (by omega)]; exact hL3
          · rw [List.getElem?_set_ne (by omega)]; exact hA3
          · rw [List.getElem?_set_self (List.getElem?_eq_some_iff.mp hP3).1])
      simp only [thn_ok, List.set_cons_succ, List.set_cons_zero, evr_cmp]
      obtain ⟨g1, m1⟩   := minv n (v := 5) (A := Ls) (Pt := T'.length) (qs := ps) (pt := pt) (T := T1) (a0 := some (.loc 0)) (a1 := some (.loc s)) (a2 := some (.int (cn : Int))) (a3 := some (.int (i : Int))) (a4 := some (.int (mn : Int))) (a5 := some (.loc Ls)) (a6 := some d) (a7 := r7) (a8 := r8) (a9 := r9) (a10 := r10) (a11 := r11) (a12 := r12) (a13 := none) (a14 := r14) (a15 := some (.loc A)) (a17 := none) (a18 := r18) rfl hL1 hP1 (fun p hp => by rw [(hps p hp).1, hpl]) (by omega) hpb (by omega)
      have i1 := minI_le (ps.map fun q => val q pt) 0
      simp only [m1, bind_ok, evr_cst, cmp_ge, boolR_some, thn_ok, List.set_cons_succ, List.set_cons_zero, exr_ife, evr_and, evr_var, List.getElem?_cons_succ, List.getElem?_cons_zero, truth_bl]
      by_cases hin : 0 ≤ minI 0 (ps.map fun q => val q pt)
      · have hv := hqv pt fun p hp => Int.le_trans hin (i1.2 _ (List.mem_map.mpr ⟨p, hp, rfl⟩))
        have hm2 : 0 ≤ minI 0 (qs.map fun q => val q pt) := minI_pos _ 0 (by omega) fun y hy => by
          obtain ⟨q, hq, rfl⟩ := List.mem_map.mp hy
          exact hv q hq
        obtain ⟨g2, m2⟩   := minv n (v := 15) (A := A) (Pt := T'.length) (qs := qs) (pt := pt) (T := T1 ++ g1) (a0 := some (.loc 0)) (a1 := some (.loc s)) (a2 := some (.int (cn : Int))) (a3 := some (.int (i : Int))) (a4 := some (.int (mn : Int))) (a5 := some (.loc Ls)) (a6 := some d) (a7 := r7) (a8 := r8) (a9 := r9) (a10 := r10) (a11 := r11) (a12 := r12) (a13 := none) (a14 := r14) (a15 := some (.loc A)) (a17 := none) (a18 := some (.bl true)) rfl (get_app hA1) (get_app hP1) (fun p hp => by rw [hqw p hp, hpl]) (by omega) hpb hql
        have n2 : ¬ minI 0 (qs.map fun q => val q pt) < 0 := by omega
        simp only [hin, decide_true, m2, evr_cmp, bind_ok, evr_cst, cmp_lt, n2, decide_false, boolR_some, testR_ok, truth_bl, thn_ok, Bool.false_eq_true, if_false, exs_nil]
        exact hQ _ _ ⟨⟨_, _, _, rfl⟩, (st1.app g1).app g2, get_app (get_app hL1), get_app (get_app hA1)⟩
      · simp only [hin, decide_false, testR_ok, truth_bl, thn_ok, Bool.false_eq_true, if_false, exs_nil]
        exact hQ _ _ ⟨⟨_, _, _, rfl⟩, st1.app g1, get_app hL1, get_app hA1⟩)
    exact ⟨en', S', er⟩
  obtain ⟨en', S', e⟩ := hex
  exact ⟨S', by unfold restE; rw [exs_nx e, restF_ok, fin_rt]⟩
theorem restD_ok {s b c cn i mn Ls A : Nat} {r7 r9 r10 r11 r12 r14 : Option D} {ps qs : List CP} {T : Store} (st : StrAt s b c T) (hi : i < cn) (w4 : cn ≤ 4) (hps : ∀ p ∈ ps, Dr cn p) (hl : ps.length ≤ 24) (hL : T[Ls]? = some (.lst (ps.map cd))) (hA : T[A]? = some (.lst (qs.map cd)))
    (hqw : ∀ q ∈ qs, q.1.length = cn) (hq0 : ∀ q ∈ qs, co i q = 0) (hqv : ∀ pt, (∀ p ∈ ps, 0 ≤ val p pt) → ∀ q ∈ qs, 0 ≤ val q pt) (hql : qs.length < 1000) (hd : Ls ≠ s ∧ Ls ≠ b ∧ Ls ≠ c) (hd2 : A ≠ s ∧ A ≠ b ∧ A ≠ c) :
    ∃ S, R.fin (exs (gamOf pg 19) restD [some (.loc 0), some (.loc s), some (.int (cn : Int)), some (.int (i : Int)), some (.int (mn : Int)), some (.loc Ls), none, r7, none, r9, r10, r11, r12, none, r14, some (.loc A), none, none, none] T) = .ok (.bl true) S := by
  generalize hr : R.fin _ = res
  simp [restD, walk_lst hA] at hr
  generalize hL2 : loopF _ _ _ _ _ _ = r at hr
  obtain ⟨en', S', rfl, r8, rfl, rfl⟩ := loopN hL2 (qs.map cd) (by simp) (fun k en T' => ∃ r8, en = [some (.loc 0), some (.loc s), some (.int (cn : Int)), some (.int (i : Int)), some (.int (mn : Int)), some (.loc Ls), none, r7, r8, r9, r10, r11, r12, none, r14, some (.loc A), none, none, none] ∧ T' = T)
    (fun _ _ T' ⟨_, _, e⟩ => by rw [e]; exact walk_lst hA) ⟨none, rfl, rfl⟩ (by
    rintro k d en T' Q hd' ⟨r8, rfl, rfl⟩ hQ
    rw [List.getElem?_map] at hd'
    obtain ⟨q, hx, rfl⟩ := Option.map_eq_some_iff.mp hd'
    have hq := List.mem_of_getElem? hx
    have e := ix_cd (kon := fun _ => false) (S := T') (p := q) (i := i) (by rw [hqw q hq]; exact hi)
    rw [hq0 q hq] at e
    simp [forB, e]
    exact hQ _ _ ⟨_, rfl, rfl⟩)
  simp only at hr
  obtain ⟨S, e⟩ := restE_ok 18 (i := i) (mn := mn) (r7 := r7) (r8 := r8) (r9 := r9) (r10 := r10) (r11 := r11) (r12 := r12) (r14 := r14) st w4 hps hl hL hA hqw hqv hql hd hd2
  exact ⟨S, by rw [← hr, ← e]⟩
theorem restC_ok {s b c cn i mn Ls X : Nat} {r7 r9 r10 r12 : Option D} {ps : List CP} {T : Store} (st : StrAt s b c T) (hi : i < cn) (w4 : cn ≤ 4) (hps : ∀ p ∈ ps, Dr cn p) (hl : ps.length ≤ 24) (hL : T[Ls]? = some (.lst (ps.map cd))) (hX : T[X]? = some (.lst ((expd i ps).map cd)))
    (hd : Ls ≠ s ∧ Ls ≠ b ∧ Ls ≠ c) : ∃ S, R.fin (exs (gamOf pg 19) restC [some (.loc 0), some (.loc s), some (.int (cn : Int)), some (.int (i : Int)), some (.int (mn : Int)), some (.loc Ls), none, r7, none, r9, r10, some (.loc X), r12, none, none, none, none, none, none] T) = .ok (.bl true) S := by
  generalize hr : R.fin _ = res
  have oL : Ls < T.length := (List.getElem?_eq_some_iff.mp hL).1
  have oX : X < T.length := (List.getElem?_eq_some_iff.mp hX).1
  have lt := st.lt
  have bl : bList (.loc Ls) T = .ok (.loc T.length) (T ++ [.lst (ps.map cd)]) := by unfold bList; rw [seqL_of hL]
  have F1 : Frm T.length T (T ++ [.lst (ps.map cd)]) := Frm.app _ _ _
  have hP1 : (T ++ [.lst (ps.map cd)])[T.length]? = some (.lst (ps.map cd)) := get_new
  generalize T ++ [.lst (ps.map cd)] = T1 at *
  have oP : T.length < T1.length := (List.getElem?_eq_some_iff.mp hP1).1
  have hexp := expd_ok (i := i) hps (by omega)
  obtain ⟨m, T2, e1, F2, q1⟩ := s_elim 15 i T.length ps cn T1 hP1 (fun p hp => (hps p hp).1) hi (by omega) (by omega) (fun p hp => by
    have := (hps p hp).co (i := i)
    exact ⟨⟨by omega, by omega⟩, by omega, by omega⟩) hexp
  have e1' : callF pg 19 6 [.loc T.length, .int (i : Int)] T1 = .ok (.loc m) T2 := e1
  have hL1 := F1.get hL (by omega)
  have hX1 := F1.get hX (by omega)
  have hL2 := F2.get hL1 (by omega)
  have hX2 := F2.get hX1 (by omega)
  have hP2 := F2.get hP1 (by omega)
  have st1 := StrAt.frm st F1
  have st2 := StrAt.frm st1 F2
  have dq := deq_cds hP2 hL2
  obtain ⟨m2, g, e2, q2⟩ := s_lleast CF 16 X (expd i ps) T2 hX2 hexp (expd_len hl)
  have q1' := get_app (g := g) q1
  have hwq : ∀ p ∈ (lf (expd i ps)).filter (fun p => !alw p), p.1.length = cn := fun q hq => by
    obtain ⟨p, hp', rfl⟩ := lf_mem q (List.mem_filter.mp hq).1
    rw [red_len]
    exact expd_w (fun p hp => (hps p hp).1) p hp'
  have hlq : ((lf (expd i ps)).filter fun p => !alw p).length < 1000 := by
    have h1 := lf_len (expd i ps)
    have h2 := List.length_filter_le (fun p => !alw p) (lf (expd i ps))
    have h3 := expd_len (i := i) hl
    omega
  have e3 := s_same (P := pg) fn14 fn13 (T2 ++ g) 15 3 _ _ _ (deep_cds 0 q1') (deep_cds 0 q2) (by
    show (decide (_ ≤ line) && tsOk _) = true
    rw [tsOk_cd _ (fun p hp => by rw [hwq p hp]; omega), Bool.and_true]
    have h3 : ((List.filter (fun p => !alw p) (lf (expd i ps))).map tcd).length ≤ line := by
      rw [List.length_map]; show _ ≤ 16777216; omega
    exact decide_eq_true h3)
  have e2' : callF pg 19 17 [.loc X] T2 = .ok (.loc m2) (T2 ++ g) := e2
  have e3' : callF pg 19 14 [.loc m, .loc m2] (T2 ++ g) = .ok (.bl true) (T2 ++ g) := e3
  have hd2 : m ≠ s ∧ m ≠ b ∧ m ≠ c := by
    obtain ⟨_, zs, p, z1, z2, z3, z4⟩ := st2
    refine ⟨fun e => ?_, fun e => ?_, fun e => ?_⟩
    · rw [e, z1] at q1
      injection q1 with q1
      injection q1 with q1
      cases hq : (lf (expd i ps)).filter (fun p => !alw p) with
      | nil => rw [hq] at q1; cases q1
      | cons x xs => rw [hq] at q1; cases q1
    · rw [e, z2] at q1
      injection q1 with q1
      injection q1 with q1
      cases zs with
      | nil => exact z4 rfl
      | cons z zs =>
        cases hq : (lf (expd i ps)).filter (fun p => !alw p) with
        | nil => rw [hq] at q1; cases q1
        | cons x xs => rw [hq] at q1; cases q1
    · rw [e, z3] at q1
      injection q1 with q1
      injection q1 with q1
      cases hq : (lf (expd i ps)).filter (fun p => !alw p) with
      | nil => rw [hq] at q1; cases q1
      | cons x xs => rw [hq] at q1; cases q1
  simp [restC, bl, e1', dq, e2', e3'] at hr
  obtain ⟨S, e⟩ := restD_ok (mn := mn) (r7 := r7) (r9 := r9) (r10 := r10) (r11 := some (.loc X)) (r12 := r12) (r14 := some (.loc T.length)) (st2.app g) hi w4 hps hl (get_app hL2) q1' hwq (fun q hq => res_zero (fun p hp => (hps p hp).1) hi q (List.mem_filter.mp hq).1) (fun pt hv q hq => res_val (fun p hp => (hps p hp).1) hv q (List.mem_filter.mp hq).1) hlq hd hd2
  exact ⟨S, by rw [← hr, ← e]⟩
theorem restB_ok {s b c cn i mn Ls W O' U : Nat} {ps : List CP} {T : Store} (st : StrAt s b c T) (hi : i < cn) (w4 : cn ≤ 4) (hps : ∀ p ∈ ps, Dr cn p) (hl : ps.length ≤ 24) (hL : T[Ls]? = some (.lst (ps.map cd))) (hW : T[W]? = some (.lst ((wo i ps).map cd))) (hO : T[O']? = some (.lst ((lo i ps).map cd))) (hU : T[U]? = some (.lst ((up i ps).map cd)))
    (hd : Ls ≠ s ∧ Ls ≠ b ∧ Ls ≠ c) : ∃ S, R.fin (exs (gamOf pg 19) restB [some (.loc 0), some (.loc s), some (.int (cn : Int)), some (.int (i : Int)), some (.int (mn : Int)), some (.loc Ls), none, some (.loc W), none, some (.loc O'), some (.loc U), none, none, none, none, none, none, none, none] T) = .ok (.bl true) S := by
  generalize hr : R.fin _ = res
  have fl : ∀ q : CP → Bool, (ps.filter q).length ≤ ps.length := fun q => List.length_filter_le q ps
  have lw : (wo i ps).length ≤ ps.length := fl _
  have ll : (lo i ps).length ≤ ps.length := fl _
  have lu : (up i ps).length ≤ ps.length := fl _
  have bl : bList (.loc W) T = .ok (.loc T.length) (T ++ [.lst ((wo i ps).map cd)]) := by unfold bList; rw [seqL_of hW]
  have st1 := st.app [.lst ((wo i ps).map cd)]
  have hL1 : (T ++ [.lst ((wo i ps).map cd)])[Ls]? = some (.lst (ps.map cd)) := get_app hL
  have hW1 : (T ++ [.lst ((wo i ps).map cd)])[W]? = some (.lst ((wo i ps).map cd)) := get_app hW
  have hO1 : (T ++ [.lst ((wo i ps).map cd)])[O']? = some (.lst ((lo i ps).map cd)) := get_app hO
  have hU1 : (T ++ [.lst ((wo i ps).map cd)])[U]? = some (.lst ((up i ps).map cd)) := get_app hU
  have hX1 : (T ++ [.lst ((wo i ps).map cd)])[T.length]? = some (.lst ((wo i ps).map cd)) := get_new
  have F1 : Frm T.length T (T ++ [.lst ((wo i ps).map cd)]) := Frm.app _ _ _
  have oO : O' < T.length := (List.getElem?_eq_some_iff.mp hO).1
  have oU : U < T.length := (List.getElem?_eq_some_iff.mp hU).1
  have oL : Ls < T.length := (List.getElem?_eq_some_iff.mp hL).1
  generalize T ++ [.lst ((wo i ps).map cd)] = T1 at *
  have b1 : bLen (.loc W) T1 = .ok (.int ((wo i ps).length : Int)) T1 := by unfold bLen; rw [len_lst hW1]; simp
  have b2 : bLen (.loc O') T1 = .ok (.int ((lo i ps).length : Int)) T1 := by unfold bLen; rw [len_lst hO1]; simp
  have b3 : bLen (.loc U) T1 = .ok (.int ((up i ps).length : Int)) T1 := by unfold bLen; rw [len_lst hU1]; simp
  have m1 : mulOk ((lo i ps).length : Int) ((up i ps).length : Int) = true := mulOk_l (by omega) (by omega)
  simp [restB, bl, b1, b2, b3, bin_mul, m1] at hr
  by_cases hbig : 64 < (wo i ps).length + (lo i ps).length * (up i ps).length
  · have hbig' : ¬ ((wo i ps).length : Int) + ((lo i ps).length : Int) * ((up i ps).length : Int) ≤ (64 : Int) := by
      have : (64 : Int) < ((wo i ps).length : Int) + ((lo i ps).length : Int) * ((up i ps).length : Int) := by exact_mod_cast hbig
      omega
    simp [hbig'] at hr
    have ee : expd i ps = wo i ps := by unfold expd; rw [if_pos hbig]
    obtain ⟨S, e⟩ := restC_ok (mn := mn) (r7 := some (.loc W)) (r9 := some (.loc O')) (r10 := some (.loc U)) (r12 := none) st1 hi w4 hps hl hL1 (by rw [ee]; exact hX1) hd
    exact ⟨S, by rw [← hr, ← e]⟩
  · have hbig' : ((wo i ps).length : Int) + ((lo i ps).length : Int) * ((up i ps).length : Int) ≤ (64 : Int) := by
      have : ¬ (64 : Int) < ((wo i ps).length : Int) + ((lo i ps).length : Int) * ((up i ps).length : Int) := by exact_mod_cast hbig
      omega
    simp [hbig', walk_lst hO1] at hr
    have ee : expd i ps = wo i ps ++ prods i (lo i ps) (up i ps) := by unfold expd; rw [if_neg hbig]
    generalize hL2 : loopF _ _ _ _ _ _ = r at hr
    have hlo : ∀ p ∈ lo i ps, p ∈ ps := fun p hp => (List.mem_filter.mp hp).1
    have hup : ∀ p ∈ up i ps, p ∈ ps := fun p hp => (List.mem_filter.mp hp).1
    generalize lo i ps = L at *
    generalize up i ps = V at *
    have hmul : L.length * V.length ≤ 64 := by omega
    obtain ⟨en', S', rfl, r12, rfl, X2, F2⟩ := loopN hL2 (L.map cd) (by simp) (fun k en T' => ∃ r12, en = [some (.loc 0), some (.loc s), some (.int (cn : Int)), some (.int (i : Int)), some (.int (mn : Int)), some (.loc Ls), none, some (.loc W), none, some (.loc O'), some (.loc U), some (.loc T.length), r12, none, none, none, none, none, none] ∧ T'[T.length]? = some (.lst ((wo i ps ++ prods i (L.take k) V).map cd)) ∧ Frm T.length T T')
      (fun _ _ T' ⟨_, _, _, f⟩ => walk_lst (f.get hO (by omega))) ⟨none, rfl, by simpa [prods] using hX1, F1⟩ (by
      rintro k d en T' Q hd' ⟨r12, rfl, X2, F2⟩ hQ
      rw [List.getElem?_map] at hd'
      obtain ⟨a, hx, rfl⟩ := Option.map_eq_some_iff.mp hd'
      have ha := hps a (hlo a (List.mem_of_getElem? hx))
      have hkL : k < L.length := (List.getElem?_eq_some_iff.mp hx).1
      have hU2 := F2.get hU (by omega)
      have i1 := isLst_of X2
      have p3 : V.length ≤ 64 := Nat.le_trans (Nat.le_mul_of_pos_left _ (by omega)) hmul
      simp only [forB, asg_nm, List.set_cons_succ, List.set_cons_zero, exs_cons, exr_ex, evr_bmt, evr_var, List.getElem?_cons_succ, List.getElem?_cons_zero, bind_ok, i1, if_true, evs_cons, evs_nil, evr_comp, evI_seq, srcOf, walk_lst hU2, List.length_map]
      generalize hL3 : loopC _ _ _ _ _ _ = rc
      obtain ⟨g, rfl⟩ := compX hL3 V cd (fun u => some (cd (comb i a u))) rfl rfl (by show _ ≤ 16777216; omega) (fun g => walk_lst (get_app hU2)) (by
        intro u hu acc g'
        have hu' := hps u (hup u hu)
        have ca := ha.co (i := i)
        have cu := hu'.co (i := i)
        obtain ⟨g2, e⟩ := s_comb 18 i a u (T' ++ O.lst acc :: g') (by rw [ha.1, hu'.1]) (by rw [ha.1]; exact hi) (by rw [ha.1]; omega) ⟨by omega, by omega⟩ ⟨by omega, by omega⟩
        refine ⟨g2, ?_⟩
        rw [List.append_assoc, List.cons_append] at e
        simp only [cmpB, asg_nm, wipe_cons, wipe_nil, List.set_cons_succ, List.set_cons_zero, evr_cst, testR_ok, truth_bl, bind_ok, if_true, evr_call, evs_cons, evs_nil, evr_var, List.getElem?_cons_succ, List.getElem?_cons_zero, gam_call, e])
      rw [filterMap_some]
      have X3 : (T' ++ O.lst (V.map fun u => cd (comb i a u)) :: g)[T.length]? = some (.lst ((wo i ps ++ prods i (L.take k) V).map cd)) := get_app X2
      have p2 : (L.take k).length * V.length ≤ 64 := Nat.le_trans (Nat.mul_le_mul_right _ (by rw [List.length_take]; omega)) hmul
      have ex := ext_of X3 (b := T'.length) (ys := V.map fun u => cd (comb i a u)) get_new (by
        rw [List.length_map, List.length_append, prods_len, List.length_map]
        show _ ≤ 16777216
        omega)
      simp only [bind_ok, ex, thn_ok, exs_nil]
      refine hQ _ _ ⟨_, rfl, ?_, (F2.trans (Frm.app _ _ _)).setn (Nat.le_refl _) _⟩
      rw [List.getElem?_set_self (List.getElem?_eq_some_iff.mp X3).1, take_snoc hx]
      simp [prods])
    rw [List.take_of_length_le (Nat.le_refl _)] at X2
    simp only at hr
    obtain ⟨S, e⟩ := restC_ok (mn := mn) (r7 := some (.loc W)) (r9 := some (.loc O')) (r10 := some (.loc U)) (r12 := r12) (StrAt.frm st F2) hi w4 hps hl (F2.get hL (by omega)) (by rw [ee]; exact X2) hd
    exact ⟨S, by rw [← hr, ← e]⟩
theorem rest_ok {s b c cn i mn : Nat} {T : Store} (st : StrAt s b c T) (hi : i < cn) (w4 : cn ≤ 4) (hmn : mn ≤ 24) : ∃ S, R.fin (exs (gamOf pg 19) restA [some (.loc 0), some (.loc s), some (.int (cn : Int)), some (.int (i : Int)), some (.int (mn : Int)), none, none, none, none, none, none, none, none, none, none, none, none, none, none] T) = .ok (.bl true) S := by
  generalize hr : R.fin (exs (gamOf pg 19) restA [some (.loc 0), some (.loc s), some (.int (cn : Int)), some (.int (i : Int)), some (.int (mn : Int)), none, none, none, none, none, none, none, none, none, none, none, none, none, none] T) = res
  have bm : bound62 (mn : Int) = true := bl62 (by show _ ≤ 16777216; omega)
  have lt := st.lt
  simp [restA, bm] at hr
  generalize hL : loopC _ _ _ _ _ _ = r at hr
  obtain ⟨acc, T1, rfl, ps, rfl, hlen, hdr, st1, hL1⟩ := compI hL (rngL 0 mn) (by simp) (by simp [line]; omega) (fun k acc T' => ∃ ps : List CP, acc = ps.map cd ∧ ps.length = k ∧ (∀ p ∈ ps, Dr cn p) ∧ StrAt s b c T' ∧ T'[T.length]? = some (.lst acc))
    (fun k acc S' ⟨ps, e, hx, _⟩ => by rw [e, List.length_map, hx]; exact Nat.le_refl _) (fun _ _ _ _ => rfl) ⟨[], rfl, rfl, (fun _ h => nomatch h), st.app _, get_new⟩ (by
      rintro k d acc T' Q hd ⟨ps, rfl, hx, hdr, st', hl'⟩ - hQ
      obtain ⟨xs, v, T2, e, x1, x2, st2, f2, -, -⟩ := s_expr (P := pg) fn11 fn10 17 st' cn 3 20 (by omega) (by omega) (by omega) (by omega) (by omega)
      have e' : callF pg 19 11 [.loc s, .int (cn : Int), .int 3, .int 20] T' = .ok (cd (xs, v)) T2 := e
      have hl2 := f2.get hl' (by omega)
      simp [cmpB, e']
      refine hQ _ _ hl2 ⟨ps ++ [(xs, v)], by simp, by simp [hx], fun p hp => ?_, st2.set _ (by omega) (by omega) (by omega), ?_⟩
      · rcases List.mem_append.mp hp with m | m
        · exact hdr p m
        · rw [List.mem_singleton] at m
          subst m
          exact ⟨x1, x2⟩
      · rw [List.getElem?_set_self (List.getElem?_eq_some_iff.mp hl2).1])
  clear hL
  have hpi : ∀ p ∈ ps, i < p.1.length := fun p hp => by rw [(hdr p hp).1]; exact hi
  have w1 := walk_lst hL1
  have lT : T.length < T1.length := (List.getElem?_eq_some_iff.mp hL1).1
  simp [w1] at hr
  generalize hL : loopC _ _ _ _ _ _ = r at hr
  obtain ⟨g1, rfl⟩ := sel (q := fun p => decide (co i p = 0)) rfl (fun _ => rfl) (fun _ => rfl) (fun _ => rfl) hL1 hpi (by omega) (fun _ _ => rfl) hL rfl rfl
  clear hL
  have hL2 : (T1 ++ O.lst ((wo i ps).map cd) :: g1)[T.length]? = some (.lst (ps.map cd)) := get_app hL1
  have hW2 : (T1 ++ O.lst ((wo i ps).map cd) :: g1)[T1.length]? = some (.lst ((wo i ps).map cd)) := get_new
  have st2 := st1.app (O.lst ((wo i ps).map cd) :: g1)
  rw [show (ps.filter fun p => decide (co i p = 0)) = wo i ps from rfl] at hr
  generalize T1 ++ O.lst ((wo i ps).map cd) :: g1 = T2 at *
  have w2 := walk_lst hL2
  simp [w2] at hr
  generalize hL : loopC _ _ _ _ _ _ = r at hr
  obtain ⟨g2, rfl⟩ := sel (q := fun p => decide (0 < co i p)) rfl (fun _ => rfl) (fun _ => rfl) (fun _ => rfl) hL2 hpi (by omega) (fun _ _ => rfl) hL rfl rfl
  clear hL
  have hL3 : (T2 ++ O.lst ((lo i ps).map cd) :: g2)[T.length]? = some (.lst (ps.map cd)) := get_app hL2
  have hW3 : (T2 ++ O.lst ((lo i ps).map cd) :: g2)[T1.length]? = some (.lst ((wo i ps).map cd)) := get_app hW2
  have hO3 : (T2 ++ O.lst ((lo i ps).map cd) :: g2)[T2.length]? = some (.lst ((lo i ps).map cd)) := get_new
  have st3 := st2.app (O.lst ((lo i ps).map cd) :: g2)
  rw [show (ps.filter fun p => decide (0 < co i p)) = lo i ps from rfl] at hr
  generalize T2 ++ O.lst ((lo i ps).map cd) :: g2 = T3 at *
  have w3 := walk_lst hL3
  simp [w3] at hr
  generalize hL : loopC _ _ _ _ _ _ = r at hr
  obtain ⟨g3, rfl⟩ := sel (q := fun p => decide (co i p < 0)) rfl (fun _ => rfl) (fun _ => rfl) (fun _ => rfl) hL3 hpi (by omega) (fun _ _ => rfl) hL rfl rfl
  clear hL
  rw [show (ps.filter fun p => decide (co i p < 0)) = up i ps from rfl] at hr
  simp at hr
  obtain ⟨S, e⟩ := restB_ok (mn := mn) (st3.app (O.lst ((up i ps).map cd) :: g3)) hi w4 hdr (by omega) (get_app hL3) (get_app hW3) (get_app hO3) get_new ⟨by omega, by omega, by omega⟩
  exact ⟨S, by rw [← hr, ← e]⟩
theorem plain (ns : List Int) (h : ns.length ≤ 63) : ∃ S, callF pg 20 19 [.loc 0] [.fro (ns.map .int)] = .ok (.bl true) S := by
  generalize hr : callF pg 20 19 [.loc 0] [.fro (ns.map .int)] = res
  rw [callF_succ, fn19] at hr
  obtain ⟨S1, s, b, c, e1, st1, -, -, -, -⟩ := s_stream (P := pg) fn9 fn7 fn8 17 (ns := ns) (a := 0) (S := [.fro (ns.map .int)]) rfl 0 24 (by omega) (by omega)
  have e1' : callF pg 19 9 [.loc 0, .int 0, .int 24] [.fro (ns.map .int)] = .ok (.loc s) S1 := e1
  obtain ⟨c0, p0, e2, c00, c01, st2⟩ := s_next (P := pg) fn10 18 st1 4 (by omega)
  have e2' : callF pg 19 10 [.loc s, .int 4] S1 = .ok (.int c0) (S1.set c (.lst [.int p0])) := e2
  generalize S1.set c (.lst [.int p0]) = S2 at *
  obtain ⟨cm, rfl⟩ := Int.eq_ofNat_of_zero_le c00
  obtain ⟨cn, hcn⟩ : ∃ cn, cm + 1 = cn := ⟨_, rfl⟩
  have hcn' : (1 : Int) + (cm : Int) = (cn : Int) := by omega
  have w4 : cn ≤ 4 := by omega
  have w0 : 0 < cn := by omega
  obtain ⟨i0, p1, e3, i00, i01, st3⟩ := s_next (P := pg) fn10 18 st2 (cn : Int) (by omega)
  have e3' : callF pg 19 10 [.loc s, .int (cn : Int)] S2 = .ok (.int i0) (S2.set c (.lst [.int p1])) := e3
  generalize S2.set c (.lst [.int p1]) = S3 at *
  obtain ⟨i, rfl⟩ := Int.eq_ofNat_of_zero_le i00
  have hi : i < cn := by omega
  obtain ⟨m0, p2, e4, m00, m01, st4⟩ := s_next (P := pg) fn10 18 st3 15 (by omega)
  have e4' : callF pg 19 10 [.loc s, .int 15] S3 = .ok (.int m0) (S3.set c (.lst [.int p2])) := e4
  generalize S3.set c (.lst [.int p2]) = S4 at *
  obtain ⟨v5, p3, e5, -, -, st5⟩ := s_next (P := pg) fn10 18 st4 6 (by omega)
  have e5' : callF pg 19 10 [.loc s, .int 6] S4 = .ok (.int v5) (S4.set c (.lst [.int p3])) := e5
  generalize S4.set c (.lst [.int p3]) = S5 at *
  have fin : ∀ mn : Nat, mn ≤ 24 → ∃ S, R.fin (exs (gamOf pg 19) restA [some (.loc 0), some (.loc s), some (.int (cn : Int)), some (.int (i : Int)), some (.int (mn : Int)), none, none, none, none, none, none, none, none, none, none, none, none, none, none] S5) = .ok (.bl true) S := fun mn hmn => rest_ok st5 hi w4 hmn
  simp [ir_law, law_split, e1', e2', e3', e4', e5', hcn'] at hr
  obtain ⟨mn, rfl⟩ := Int.eq_ofNat_of_zero_le m00
  by_cases h5 : v5 = 0
  · simp [h5] at hr
    obtain ⟨S, e⟩ := fin 24 (by omega)
    exact ⟨S, by rw [← hr, ← e]; rfl⟩
  · simp [h5] at hr
    obtain ⟨S, e⟩ := fin mn (by omega)
    exact ⟨S, by rw [← hr, ← e]⟩
end Lk81
end
section
set_option Elab.async false
set_option linter.all false
set_option maxRecDepth 100000
set_option maxHeartbeats 0
namespace Lk81
open Lw PySem PySem.Spec PyProof.Rows L2
def top (i : Nat) : Stmt := PySem.Challenge.pw_loopworks_k81_elimination_of_conditions.main.body.getD i (.Pass ⟨0, 0, 0, 0⟩)
def d_add : DefL := ⟨⟨("add", none), "add", "add", defArgs (top 2), defBody (top 2), defScope (top 2), [], []⟩, ["one", "other", "a", "b"], ["one", "other"], ir_add, false⟩
def d_multiply : DefL := ⟨⟨("multiply", none), "multiply", "multiply", defArgs (top 3), defBody (top 3), defScope (top 3), [], []⟩, ["factor", "expression", "number"], ["factor", "expression"], ir_multiply, false⟩
def d_common_factor : DefL := ⟨⟨("common_factor", none), "common_factor", "common_factor", defArgs (top 6), defBody (top 6), defScope (top 6), [], []⟩, ["expression", "factor", "number"], ["expression"], ir_common_factor, false⟩
def d_reduced : DefL := ⟨⟨("reduced", none), "reduced", "reduced", defArgs (top 7), defBody (top 7), defScope (top 7), [], []⟩, ["condition", "factor", "number"], ["condition"], ir_reduced, false⟩
def d_is_always : DefL := ⟨⟨("is_always", none), "is_always", "is_always", defArgs (top 8), defBody (top 8), defScope (top 8), [], []⟩, ["condition", "number"], ["condition"], ir_is_always, false⟩
def d_least_form : DefL := ⟨⟨("least_form", none), "least_form", "least_form", defArgs (top 9), defBody (top 9), defScope (top 9), [], []⟩, ["conditions", "places", "found", "condition", "small"], ["conditions"], ir_least_form, true⟩
def d_eliminate : DefL := ⟨⟨("eliminate", none), "eliminate", "eliminate", defArgs (top 10), defBody (top 10), defScope (top 10), [], []⟩, ["conditions", "index", "without", "condition", "lowers", "uppers", "lower", "upper"], ["conditions", "index"], ir_eliminate, false⟩
def d_law_cell : DefL := ⟨⟨("_law_cell", none), "_law_cell", "_law_cell", defArgs (top 12), defBody (top 12), defScope (top 12), [], []⟩, ["_law_script", "_law_k"], ["_law_script", "_law_k"], ir_law_cell, false⟩
def d_law_draws : DefL := ⟨⟨("_law_draws", none), "_law_draws", "_law_draws", defArgs (top 13), defBody (top 13), defScope (top 13), [], []⟩, ["_law_cell_here", "_law_count", "_law_number", "_law_great", "_law_found", "_law_k", "_law_mixed"], ["_law_cell_here", "_law_count"], ir_law_draws, false⟩
def d_law_stream : DefL := ⟨⟨("_law_stream", none), "_law_stream", "_law_stream", defArgs (top 14), defBody (top 14), defScope (top 14), [], []⟩, ["_law_script", "_law_first", "_law_count", "_law_found", "_law_k"], ["_law_script", "_law_first", "_law_count"], ir_law_stream, false⟩
def d_law_next : DefL := ⟨⟨("_law_next", none), "_law_next", "_law_next", defArgs (top 15), defBody (top 15), defScope (top 15), [], []⟩, ["_law_stream_here", "_law_many", "_law_digits", "_law_place", "_law_value_here"], ["_law_stream_here", "_law_many"], ir_law_next, false⟩
def d_law_expression : DefL := ⟨⟨("_law_expression", none), "_law_expression", "_law_expression", defArgs (top 16), defBody (top 16), defScope (top 16), [], []⟩, ["_law_stream_here", "_law_count", "_law_spread", "_law_constant", "_law_numbers", "_law_k"], ["_law_stream_here", "_law_count", "_law_spread", "_law_constant"], ir_law_expression, false⟩
def d_law_value : DefL := ⟨⟨("_law_value", none), "_law_value", "_law_value", defArgs (top 17), defBody (top 17), defScope (top 17), [], []⟩, ["_law_expression_here", "_law_point", "_law_total", "_law_k"], ["_law_expression_here", "_law_point"], ir_law_value, false⟩
def d_law_is_integer : DefL := ⟨⟨("_law_is_integer", none), "_law_is_integer", "_law_is_integer", defArgs (top 18), defBody (top 18), defScope (top 18), [], []⟩, ["_law_actual"], ["_law_actual"], ir_law_is_integer, false⟩
def d_law_same : DefL := ⟨⟨("_law_same", none), "_law_same", "_law_same", defArgs (top 19), defBody (top 19), defScope (top 19), [], []⟩, ["_law_actual", "_law_expected", "_law_k"], ["_law_actual", "_law_expected"], ir_law_same, false⟩
def d_law_gcd : DefL := ⟨⟨("_law_gcd", none), "_law_gcd", "_law_gcd", defArgs (top 20), defBody (top 20), defScope (top 20), [], []⟩, ["_law_numbers", "_law_divisor", "_law_number", "_law_rest", "_law_k"], ["_law_numbers"], ir_law_gcd, false⟩
def d_law_reduced : DefL := ⟨⟨("_law_reduced", none), "_law_reduced", "_law_reduced", defArgs (top 21), defBody (top 21), defScope (top 21), [], []⟩, ["_law_condition", "_law_divisor", "_law_number"], ["_law_condition"], ir_law_reduced, false⟩
def d_law_least : DefL := ⟨⟨("_law_least", none), "_law_least", "_law_least", defArgs (top 22), defBody (top 22), defScope (top 22), [], []⟩, ["_law_conditions", "_law_found", "_law_condition", "_law_small", "_law_places", "_law_k", "_law_x"], ["_law_conditions"], ir_law_least, false⟩
def d_law_combined : DefL := ⟨⟨("_law_combined", none), "_law_combined", "_law_combined", defArgs (top 23), defBody (top 23), defScope (top 23), [], []⟩, ["_law_lower", "_law_upper", "_law_index", "_law_k"], ["_law_lower", "_law_upper", "_law_index"], ir_law_combined, false⟩
def d_law : DefL := ⟨⟨("law", none), "law", "law", defArgs (top 24), defBody (top 24), defScope (top 24), [], []⟩, ["_law_script", "_law_stream_here", "_law_count", "_law_index", "_law_many", "_law_listed", "_law_k", "_law_without", "_law_condition", "_law_lowers", "_law_uppers", "_law_expected", "_law_lower", "_law_upper", "_law_passed", "_law_actual", "_law_point", "_law_j", "_law_inside"], ["_law_script"], ir_law, false⟩
def dls : List DefL := [d_add, d_multiply, d_common_factor, d_reduced, d_is_always, d_least_form, d_eliminate, d_law_cell, d_law_draws, d_law_stream, d_law_next, d_law_expression, d_law_value, d_law_is_integer, d_law_same, d_law_gcd, d_law_reduced, d_law_least, d_law_combined, d_law]
def bml : List (Str × Bif) := [("gcd", .gcd)]
def csl : List (Str × D) := [("MOST_CONDITIONS", .int 64)]
def gt : Str → Option GK := gtOf dls bml csl
def fid : Str → Option Nat := fun _ => none
def fb : List Fb := [.blt "gcd" "math.gcd", .int "MOST_CONDITIONS" 64] ++ blts.map Fb.fr
def fn : List He.DefD := dls.map (·.d)
abbrev R : PySem.W.OpenRow := PySem.W.OpenLaw.row PySem.Challenge.rw_loopworks_k81_elimination_of_conditions
abbrev hk : PySem.W.Hook := hookL fb fn
def ob (s : PySem.W.SharedT) : AlL := obsL fb fn (HandSHeadRun.getT s)
theorem ob_eq (s : PySem.W.SharedT) : ob s = hk.obs s.abs := obsL_eq (HandSHeadRun.getT_eq s)
def ns0 : List Str := ["add", "multiply", "MOST_CONDITIONS", "common_factor", "reduced", "is_always", "least_form", "eliminate", "_law_cell", "_law_draws", "_law_stream", "_law_next", "_law_expression", "_law_value", "_law_is_integer", "_law_same", "_law_gcd", "_law_reduced", "_law_least", "_law_combined"]
def names : List Str := ns0
theorem run (w : World) : HandSHeadRun.RunEqI R (PySem.W.view R.prog [0, 24]) hk ob 6000 names w := by
  unfold HandSHeadRun.RunEqI
  kernel_rfl
theorem ok_d_add : DefOk gt fid 1000 d_add where
  sc := ⟨rfl, rfl, rfl, by decide +kernel, rfl, by decide +kernel, by decide +kernel⟩
  comp := by kernel_rfl
  ar := rfl
  sl := rfl
  bind := fun _ _ _ _ _ _ us hl => match us, hl with | [_, _], _ => rfl
  dfl := rfl
  kwd := rfl
  at_ := rfl
theorem ok_d_multiply : DefOk gt fid 1000 d_multiply where
  sc := ⟨rfl, rfl, rfl, by decide +kernel, rfl, by decide +kernel, by decide +kernel⟩
  comp := by kernel_rfl
  ar := rfl
  sl := rfl
  bind := fun _ _ _ _ _ _ us hl => match us, hl with | [_, _], _ => rfl
  dfl := rfl
  kwd := rfl
  at_ := rfl
theorem ok_d_common_factor : DefOk gt fid 1000 d_common_factor where
  sc := ⟨rfl, rfl, rfl, by decide +kernel, rfl, by decide +kernel, by decide +kernel⟩
  comp := by kernel_rfl
  ar := rfl
  sl := rfl
  bind := fun _ _ _ _ _ _ us hl => match us, hl with | [_], _ => rfl
  dfl := rfl
  kwd := rfl
  at_ := rfl
theorem ok_d_reduced : DefOk gt fid 1000 d_reduced where
  sc := ⟨rfl, rfl, rfl, by decide +kernel, rfl, by decide +kernel, by decide +kernel⟩
  comp := by kernel_rfl
  ar := rfl
  sl := rfl
  bind := fun _ _ _ _ _ _ us hl => match us, hl with | [_], _ => rfl
  dfl := rfl
  kwd := rfl
  at_ := rfl
theorem ok_d_is_always : DefOk gt fid 1000 d_is_always where
  sc := ⟨rfl, rfl, rfl, by decide +kernel, rfl, by decide +kernel, by decide +kernel⟩
  comp := by kernel_rfl
  ar := rfl
  sl := rfl
  bind := fun _ _ _ _ _ _ us hl => match us, hl with | [_], _ => rfl
  dfl := rfl
  kwd := rfl
  at_ := rfl
theorem ok_d_least_form : DefOk gt fid 1000 d_least_form where
  sc := ⟨rfl, rfl, rfl, by decide +kernel, rfl, by decide +kernel, by decide +kernel⟩
  comp := by kernel_rfl
  ar := rfl
  sl := rfl
  bind := fun _ _ _ _ _ _ us hl => match us, hl with | [_], _ => rfl
  dfl := rfl
  kwd := rfl
  at_ := rfl
theorem ok_d_eliminate : DefOk gt fid 1000 d_eliminate where
  sc := ⟨rfl, rfl, rfl, by decide +kernel, rfl, by decide +kernel, by decide +kernel⟩
  comp := by kernel_rfl
  ar := rfl
  sl := rfl
  bind := fun _ _ _ _ _ _ us hl => match us, hl with | [_, _], _ => rfl
  dfl := rfl
  kwd := rfl
  at_ := rfl
theorem ok_d_law_cell : DefOk gt fid 1000 d_law_cell where
  sc := ⟨rfl, rfl, rfl, by decide +kernel, rfl, by decide +kernel, by decide +kernel⟩
  comp := by kernel_rfl
  ar := rfl
  sl := rfl
  bind := fun _ _ _ _ _ _ us hl => match us, hl with | [_, _], _ => rfl
  dfl := rfl
  kwd := rfl
  at_ := rfl
theorem ok_d_law_draws : DefOk gt fid 1000 d_law_draws where
  sc := ⟨rfl, rfl, rfl, by decide +kernel, rfl, by decide +kernel, by decide +kernel⟩
  comp := by kernel_rfl
  ar := rfl
  sl := rfl
  bind := fun _ _ _ _ _ _ us hl => match us, hl with | [_, _], _ => rfl
  dfl := rfl
  kwd := rfl
  at_ := rfl
theorem ok_d_law_stream : DefOk gt fid 1000 d_law_stream where
  sc := ⟨rfl, rfl, rfl, by decide +kernel, rfl, by decide +kernel, by decide +kernel⟩
  comp := by kernel_rfl
  ar := rfl
  sl := rfl
  bind := fun _ _ _ _ _ _ us hl => match us, hl with | [_, _, _], _ => rfl
  dfl := rfl
  kwd := rfl
  at_ := rfl
theorem ok_d_law_next : DefOk gt fid 1000 d_law_next where
  sc := ⟨rfl, rfl, rfl, by decide +kernel, rfl, by decide +kernel, by decide +kernel⟩
  comp := by kernel_rfl
  ar := rfl
  sl := rfl
  bind := fun _ _ _ _ _ _ us hl => match us, hl with | [_, _], _ => rfl
  dfl := rfl
  kwd := rfl
  at_ := rfl
theorem ok_d_law_expression : DefOk gt fid 1000 d_law_expression where
  sc := ⟨rfl, rfl, rfl, by decide +kernel, rfl, by decide +kernel, by decide +kernel⟩
  comp := by kernel_rfl
  ar := rfl
  sl := rfl
  bind := fun _ _ _ _ _ _ us hl => match us, hl with | [_, _, _, _], _ => rfl
  dfl := rfl
  kwd := rfl
  at_ := rfl
theorem ok_d_law_value : DefOk gt fid 1000 d_law_value where
  sc := ⟨rfl, rfl, rfl, by decide +kernel, rfl, by decide +kernel, by decide +kernel⟩
  comp := by kernel_rfl
  ar := rfl
  sl := rfl
  bind := fun _ _ _ _ _ _ us hl => match us, hl with | [_, _], _ => rfl
  dfl := rfl
  kwd := rfl
  at_ := rfl
theorem ok_d_law_is_integer : DefOk gt fid 1000 d_law_is_integer where
  sc := ⟨rfl, rfl, rfl, by decide +kernel, rfl, by decide +kernel, by decide +kernel⟩
  comp := by kernel_rfl
  ar := rfl
  sl := rfl
  bind := fun _ _ _ _ _ _ us hl => match us, hl with | [_], _ => rfl
  dfl := rfl
  kwd := rfl
  at_ := rfl
theorem ok_d_law_same : DefOk gt fid 1000 d_law_same where
  sc := ⟨rfl, rfl, rfl, by decide +kernel, rfl, by decide +kernel, by decide +kernel⟩
  comp := by kernel_rfl
  ar := rfl
  sl := rfl
  bind := fun _ _ _ _ _ _ us hl => match us, hl with | [_, _], _ => rfl
  dfl := rfl
  kwd := rfl
  at_ := rfl
theorem ok_d_law_gcd : DefOk gt fid 1000 d_law_gcd where
  sc := ⟨rfl, rfl, rfl, by decide +kernel, rfl, by decide +kernel, by decide +kernel⟩
  comp := by kernel_rfl
  ar := rfl
  sl := rfl
  bind := fun _ _ _ _ _ _ us hl => match us, hl with | [_], _ => rfl
  dfl := rfl
  kwd := rfl
  at_ := rfl
theorem ok_d_law_reduced : DefOk gt fid 1000 d_law_reduced where
  sc := ⟨rfl, rfl, rfl, by decide +kernel, rfl, by decide +kernel, by decide +kernel⟩
  comp := by kernel_rfl
  ar := rfl
  sl := rfl
  bind := fun _ _ _ _ _ _ us hl => match us, hl with | [_], _ => rfl
  dfl := rfl
  kwd := rfl
  at_ := rfl
theorem ok_d_law_least : DefOk gt fid 1000 d_law_least where
  sc := ⟨rfl, rfl, rfl, by decide +kernel, rfl, by decide +kernel, by decide +kernel⟩
  comp := by kernel_rfl
  ar := rfl
  sl := rfl
  bind := fun _ _ _ _ _ _ us hl => match us, hl with | [_], _ => rfl
  dfl := rfl
  kwd := rfl
  at_ := rfl
theorem ok_d_law_combined : DefOk gt fid 1000 d_law_combined where
  sc := ⟨rfl, rfl, rfl, by decide +kernel, rfl, by decide +kernel, by decide +kernel⟩
  comp := by kernel_rfl
  ar := rfl
  sl := rfl
  bind := fun _ _ _ _ _ _ us hl => match us, hl with | [_, _, _], _ => rfl
  dfl := rfl
  kwd := rfl
  at_ := rfl
theorem ok_d_law : DefOk gt fid 1000 d_law where
  sc := ⟨rfl, rfl, rfl, by decide +kernel, rfl, by decide +kernel, by decide +kernel⟩
  comp := by kernel_rfl
  ar := rfl
  sl := rfl
  bind := fun _ _ _ _ _ _ us hl => match us, hl with | [_], _ => rfl
  dfl := rfl
  kwd := rfl
  at_ := rfl
theorem ok_all : ∀ L ∈ dls, DefOk gt fid 1000 L := by
  intro L m
  simp only [dls, List.mem_cons, List.not_mem_nil, or_false] at m
  rcases m with rfl | rfl | rfl | rfl | rfl | rfl | rfl | rfl | rfl | rfl | rfl | rfl | rfl | rfl | rfl | rfl | rfl | rfl | rfl | rfl
  · exact ok_d_add
  · exact ok_d_multiply
  · exact ok_d_common_factor
  · exact ok_d_reduced
  · exact ok_d_is_always
  · exact ok_d_least_form
  · exact ok_d_eliminate
  · exact ok_d_law_cell
  · exact ok_d_law_draws
  · exact ok_d_law_stream
  · exact ok_d_law_next
  · exact ok_d_law_expression
  · exact ok_d_law_value
  · exact ok_d_law_is_integer
  · exact ok_d_law_same
  · exact ok_d_law_gcd
  · exact ok_d_law_reduced
  · exact ok_d_law_least
  · exact ok_d_law_combined
  · exact ok_d_law
end Lk81
end
section
set_option Elab.async false
set_option linter.all false
set_option maxRecDepth 100000
set_option maxHeartbeats 0
namespace Lk81
open Lw PySem PySem.Spec PyProof.Rows L2
theorem pg_eq : progOf dls 1000000 (fun _ => false) (fun _ _ => none) (fun _ _ => false) = pg := by
  unfold progOf pg
  congr 1
  funext i
  rw [show fns = dls.map (·.fn) from rfl, List.getElem?_map]
theorem bml_ok : ∀ p ∈ bml, ∃ id, bmId p.2 = some id ∧ Fb.blt p.1 id ∈ fb := by
  intro p m
  unfold bml at m
  simp only [List.mem_cons, List.not_mem_nil, or_false] at m
  rcases m with rfl
  · exact ⟨"math.gcd", rfl, List.mem_append_left _ (List.mem_of_getElem? (i := 0) rfl)⟩
theorem cs_ok : ∀ p ∈ csl, (∃ i, p.2 = .int i ∧ Fb.int p.1 i ∈ fb) ∨ ∃ z, p.2 = .str z ∧ Fb.str p.1 (toS z) ∈ fb := by
  intro p m
  unfold csl at m
  simp only [List.mem_cons, List.not_mem_nil, or_false] at m
  rcases m with rfl
  · exact .inl ⟨_, rfl, List.mem_append_left _ (List.mem_of_getElem? (i := 1) rfl)⟩
theorem fr_ok : ∀ x ∈ blts, gt x = none → Fb.fr x ∈ fb := fun x m _ => List.mem_append_right _ (List.mem_map.mpr ⟨x, m, rfl⟩)
end Lk81
open PySem PySem.W PySem.Calls PyProof.Rows
theorem PySem.Challenge.cw_loopworks_k81_elimination_of_conditions_holds : PySem.Challenge.rw_loopworks_k81_elimination_of_conditions.Holds := by
  w_on; o_law
  refine HandSHeadRun.head_imp (r := OpenLaw.row PySem.Challenge.rw_loopworks_k81_elimination_of_conditions) (q := view (OpenLaw.row PySem.Challenge.rw_loopworks_k81_elimination_of_conditions).prog [0, 24]) (H := Lk81.hk) (ob := Lk81.ob) (M := 6000) (loose := Lk81.names) (d := HandSHeadRun.topDef (OpenLaw.row PySem.Challenge.rw_loopworks_k81_elimination_of_conditions).prog 24) (kwd := []) Lk81.ob_eq
    Lk81.run (by kernel_rfl) (by kernel_rfl) (by kernel_rfl) (by rfl) (by first | assumption | decide +kernel) (by decide +kernel) ⟨rfl, rfl, rfl, rfl, rfl, by decide +kernel⟩ ?hw ?hc
  case hw => w_witness2
  case hc =>
    refine Lw.walkL (l := PySem.Challenge.rw_loopworks_k81_elimination_of_conditions) (n := 63) (k := 20) (x := "_law_script") rfl (by decide) (by kernel_rfl) ⟨rfl, by decide, by decide⟩ ?F
    case F =>
      intro w mg fa h Y G hmg0
      obtain ⟨g, hg, c⟩ := Y
      have hmg : mg ("law" : PySem.Str) = some (.ref fa) := by
        have e : (HandSHeadRun.topDef (OpenLaw.row PySem.Challenge.rw_loopworks_k81_elimination_of_conditions).prog 24).name = ("law" : PySem.Str) := by kernel_rfl
        rw [← e]
        exact hmg0
      obtain ⟨fd, hb, hF⟩ := Lw.law_end0 (P := PySem.Challenge.rw_loopworks_k81_elimination_of_conditions.prog) (w := w) (Ls := Lk81.dls) (bs := Lk81.bml) (cs := Lk81.csl) (fb := Lk81.fb) (lv := 20) (wf := 1000000) (i := 19) (L := Lk81.d_law) (x := "_law_script") hg G c Lk81.ok_all Lk81.bml_ok Lk81.fr_ok Lk81.cs_ok rfl rfl hmg (by kernel_rfl)
      refine ⟨Lw.allOf g h, fd, _, Lw.all_in hg, hb, fun H a ns hl _ hO hS => Lw.law_sp hO hS ?_, hF⟩
      rw [Lk81.pg_eq]
      exact Lk81.plain ns hl
end
