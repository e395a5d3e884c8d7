import PyProof.Rows.All
import Wide.All
import OpenK.AllK
import Wide.FinOn
import KE.KStateDown
import HandS.ForMost
import HandS.More
import HandS.Words
import HandS.WordsExc
import HandS.HeadHook2
import HandS.HeadEnd
import HandS.Head2
import HandS.TupAny
import HandS.Flow
import HandS.Style
import HandS.ListEq
import HandS.IsInst
import HandS.RaiseMore
import HandS.Walk
import HandS.Iter
import HandS.Small
import PyProof.DictUpdate
import HandS.DictComp
import PySem.Challenge.RW_fuelshare_k03_canonical_sources
set_option Elab.async false
set_option linter.all false
set_option linter.all false
set_option maxRecDepth 100000
namespace PF
/-! values: D never changes; V may name a mutable object; X may be fresh; SV may own -/
inductive D where
  | non | bl (b : Bool) | int (i : Int) | str (s : List Nat)
  | tup (xs : List D) | lst (xs : List D) | dic (ks vs : List D) | ins (c : Nat) (vs : List D)
  deriving Inhabited
inductive V where
  | d (x : D) | ref (a : Nat) | scr (ns : List Int)
inductive X where
  | v (x : V) | fl (xs : List D) | fd (ks vs : List D)
inductive SV where
  | v (x : V) | ol (xs : List D) | od (ks vs : List D)
inductive O where
  | lst (xs : List V) | dic (ks : List D) (vs : List V) | ins (c : Nat) (vs : List V)
abbrev Hp := List O
abbrev St := List (Option SV)
inductive R (α : Type) where
  | ok (a : α) (h : Hp) | exc (x : D) (h : Hp) | err
def R.bind {α β : Type} (r : R α) (f : α → Hp → R β) : R β := match r with
  | .ok a h => f a h
  | .exc x h => .exc x h
  | .err => .err
def X.toV : X → V
  | .v x => x
  | .fl xs => .d (.lst xs)
  | .fd ks vs => .d (.dic ks vs)
def X.sv : X → SV
  | .v x => .v x
  | .fl xs => .ol xs
  | .fd ks vs => .od ks vs
def V.toD : V → Option D
  | .d x => some x
  | _ => none
def dat (x : D) : X := .v (.d x)
def allD : List V → Option (List D)
  | [] => some []
  | .d x :: r => (allD r).map (x :: ·)
  | _ :: _ => none

/-! the language -/
inductive Op where | add | sub | mul | div | mod | pow
inductive Cp where | eq | ne | lt | le | gt | ge
inductive Bi where | len | abs | int | str | lst | tup | sum | all | any | max
inductive Bm where | join | split | index
inductive Ty where | int | bool | str | tup | lst
inductive Tg where | n (i : Nat) | t (is : List Nat)
mutual
inductive E where
  | v (i : Nat) | k (x : D) | g (j : Nat)
  | op (o : Op) (a b : E) | neg (a : E)
  | cp (o : Cp) (a b : E) | ch (o p : Cp) (a b c : E) | ch3 (o p q : Cp) (a b c d : E)
  | isn (n : Bool) (a : E) | inn (n : Bool) (a b : E)
  | an (es : Es) | orr (es : Es) | nt (a : E) | ife (c a b : E)
  | cl (f : Nat) (as : Es) | pcl (f : Nat) (as : Es) | pcb (f : Nat) (as : Es) | bw (x : Nat) | rc (c : Nat) (as : Es) | mk (c : Nat) (as : Es) | me (m : Nat) (o : E) (as : Es)
  | bi (b : Bi) (a : Es) | bm (b : Bm) (o a : E) | isi (a : E) (t : Ty)
  | fd (o : E) (f : Nat) | ix (o i : E) | sl (o lo hi : E) | no
  | lst (es : Es) | tup (es : Es) | dct
  | lc (own : List Nat) (e : E) (t : Tg) (it : It) (c : Es)
  | dc (own : List Nat) (e f : E) (t : Tg) (it : It) (c : Es)
  | pop (o : E) | popI (o i : E)
  | ixO (x : Nat) (i : E) | lenO (x : Nat) | innO (n : Bool) (a : E) (x : Nat) | nilO (n : Bool) (x : Nat)
inductive Es where
  | nil | cons (e : E) (es : Es)
inductive It where
  | e (x : E) | rng (a b : E) | enu (x : E)
end
mutual
inductive S where
  | set (i : Nat) (e : E) | own (i : Nat) (e : E) | setP (i : Nat) (e : E) | setT (t : List Nat) (e : E) | par (t : List (Nat × Bool)) (es : Es)
  | setF (p : Bool) (o : E) (f : Nat) (e : E) | setI (o i e : E) | setO (x : Nat) (i e : E)
  | aug (i : Nat) (o : Op) (e : E) | augF (o : E) (f : Nat) (p : Op) (e : E) | augI (o i : E) (p : Op) (e : E)
  | app (x : Nat) (e : E) | appH (o e : E) | ext (x : Nat) (e : E) | upd (o e : E)
  | ifs (c : E) (a b : Ss) | whl (c : E) (b : Ss) | fr (t : Tg) (it : It) (b : Ss)
  | ret (e : E) | retO (x : Nat) | retN | ex (e : E) | pass | brk | cnt | frz (x : Nat)
  | rais (c : Nat) (as : Es)
inductive Ss where
  | nil | cons (s : S) (ss : Ss)
end
structure Fn where
  np : Nat
  ns : Nat
  body : Ss
structure Cl where
  flds : List Nat
  init : Nat
  meths : List (Nat × Nat)
structure Tab where
  fns : Nat → Option Fn
  cls : Nat → Option Cl
  gls : Nat → Option D
  W : Nat

/-! plain functions on data -/
def LIM : Nat := 16777216
def ixN (n : Nat) (i : Int) : Option Nat := if 0 ≤ i then (if i < n then some i.toNat else none) else if -(n : Int) ≤ i then some (i + n).toNat else none
def sIx (n d : Nat) : Option Int → Nat
  | none => d
  | some v => if v < 0 then (v + n).toNat else min v.toNat n
def cut {α : Type} (xs : List α) (lo hi : Option Int) : List α := (xs.drop (sIx xs.length 0 lo)).take (sIx xs.length xs.length hi - sIx xs.length 0 lo)
def find (p : Nat) : List Nat → Option Nat
  | [] => none
  | x :: r => if x = p then some 0 else (find p r).map (· + 1)
mutual
def plain : D → Bool
  | .tup xs => plains xs
  | .lst xs => plains xs
  | .dic _ _ => false
  | .ins _ _ => false
  | .str s => s.all fun c => decide (c < 1114112)
  | _ => true
def plains : List D → Bool
  | [] => true
  | x :: r => plain x && plains r
end
mutual
def deep : D → Nat
  | .tup xs => deeps xs + 1
  | .lst xs => deeps xs + 1
  | _ => 0
def deeps : List D → Nat
  | [] => 0
  | x :: r => max (deep x) (deeps r)
end
mutual
def eqb : D → D → Bool
  | .non, .non => true
  | .bl a, .bl b => a == b
  | .bl a, .int b => (if a then 1 else 0) == b
  | .int a, .bl b => a == (if b then 1 else 0)
  | .int a, .int b => a == b
  | .str a, .str b => a == b
  | .tup xs, .tup ys => eqbs xs ys
  | .lst xs, .lst ys => eqbs xs ys
  | _, _ => false
def eqbs : List D → List D → Bool
  | [], [] => true
  | x :: xs, y :: ys => eqb x y && eqbs xs ys
  | _, _ => false
end
def flat : D → Bool
  | .non => true
  | .bl _ => true
  | .int _ => true
  | .str _ => true
  | _ => false
/-- == of data: two lists of different lengths differ whatever they hold -/
def eqD (a b : D) : Option Bool :=
  match a, b with
  | .lst xs, .lst [] => some xs.isEmpty
  | .str s, .str t => some (s == t)
  | _, _ => if plain a && plain b && decide (deep a ≤ 60) && decide (deep b ≤ 60) then some (eqb a b) else none
def dicGet (k : D) : List D → List D → Option D
  | x :: ks, v :: vs => if eqb x k then some v else dicGet k ks vs
  | _, _ => none
def dicGetV (k : D) : List D → List V → Option V
  | x :: ks, v :: vs => if eqb x k then some v else dicGetV k ks vs
  | _, _ => none
def dicRep {α : Type} (k : D) (v : α) : List D → List α → List α
  | x :: ks, w :: vs => (if eqb x k then v else w) :: dicRep k v ks vs
  | _, _ => []
def dicPutA {α : Type} (k : D) (v : α) (ks : List D) (vs : List α) : List D × List α := if ks.any fun y => eqb y k then (ks, dicRep k v ks vs) else (ks ++ [k], vs ++ [v])
def dicPut (k v : D) (ks vs : List D) : List D × List D := dicPutA k v ks vs
def dicPutV (k : D) (v : V) (ks : List D) (vs : List V) : List D × List V := dicPutA k v ks vs
def dicPuts : List D → List D → List D → List V → List D × List V
  | k :: ls, w :: ws, ks, vs => dicPuts ls ws (dicPutV k (.d w) ks vs).1 (dicPutV k (.d w) ks vs).2
  | _, _, ks, vs => (ks, vs)
def isKey : D → Bool
  | .int _ => true
  | .str _ => true
  | _ => false
def natDigs (n : Nat) : List Nat := (Nat.toDigits 10 n).map Char.toNat
def isDig (c : Nat) : Bool := decide (48 ≤ c) && decide (c ≤ 57)
def digVal (s : List Nat) : Nat := s.foldl (fun n c => n * 10 + (c - 48)) 0
def joinS (sep : List Nat) : List (List Nat) → List Nat
  | [] => []
  | [x] => x
  | x :: y :: r => x ++ sep ++ joinS sep (y :: r)
def splitC (c : Nat) : List Nat → List (List Nat)
  | [] => [[]]
  | x :: r => if x = c then [] :: splitC c r else match splitC c r with
    | y :: ys => (x :: y) :: ys
    | [] => [[x]]
def strsOf : List D → Option (List (List Nat))
  | [] => some []
  | .str s :: r => (strsOf r).map (s :: ·)
  | _ :: _ => none
def intsOf : List D → Option (List Int)
  | [] => some []
  | .int s :: r => (intsOf r).map (s :: ·)
  | _ :: _ => none
def blsOf : List D → Option (List Bool)
  | [] => some []
  | .bl s :: r => (blsOf r).map (s :: ·)
  | _ :: _ => none
def indexOf (k : D) : List D → Option Nat
  | [] => none
  | x :: r => if eqb x k then some 0 else (indexOf k r).map (· + 1)
def enumF (n : Nat) : List D → List D
  | [] => []
  | x :: r => .tup [.int n, x] :: enumF (n + 1) r
def small64 (i : Int) : Bool := decide (i.natAbs < 18446744073709551616)
def B62 : Int := 4611686018427387904
/-- an operator on data; fresh lists are told by fl -/
def opD (o : Op) (x y : D) : Option X := match o, x, y with
  | .add, .int i, .int j => some (dat (.int (i + j)))
  | .sub, .int i, .int j => some (dat (.int (i - j)))
  | .mul, .int i, .int j => if small64 i || small64 j then some (dat (.int (i * j))) else none
  | .div, .int i, .int j => if decide (0 < j) && decide (j < 1073741824) then some (dat (.int (i / j))) else none
  | .mod, .int i, .int j => if decide (0 < j) then some (dat (.int (i % j))) else none
  | .pow, .int i, .int j => if decide (0 ≤ j) && decide (j ≤ 1000) && small64 i then some (dat (.int (i ^ j.toNat))) else none
  | .add, .str s, .str t => if decide (s.length + t.length ≤ LIM) then some (dat (.str (s ++ t))) else none
  | .add, .lst xs, .lst ys => if decide (xs.length + ys.length ≤ LIM) then some (.fl (xs ++ ys)) else none
  | .add, .tup xs, .tup ys => if decide (xs.length + ys.length ≤ LIM) then some (dat (.tup (xs ++ ys))) else none
  | .mul, .lst xs, .int k => if decide (-B62 ≤ k) && decide (k < B62) && decide (xs.length * k.toNat ≤ LIM) then some (.fl (List.replicate k.toNat xs).flatten) else none
  | _, _, _ => none
def cpD (o : Cp) (x y : D) : Option Bool := match o with
  | .eq => eqD x y
  | .ne => (eqD x y).map (!·)
  | .lt => match x, y with | .int i, .int j => some (decide (i < j)) | _, _ => none
  | .le => match x, y with | .int i, .int j => some (decide (i ≤ j)) | _, _ => none
  | .gt => match x, y with | .int i, .int j => some (decide (j < i)) | _, _ => none
  | .ge => match x, y with | .int i, .int j => some (decide (j ≤ i)) | _, _ => none
def inD (x y : D) : Option Bool := match x, y with
  | .str [c], .str s => if decide (s.length ≤ LIM) then some (s.any (· == c)) else none
  | x, .tup ys => if flat x && ys.all flat then some (ys.any fun y => eqb y x) else none
  | x, .lst ys => if flat x && ys.all flat then some (ys.any fun y => eqb y x) else none
  | x, .dic ks _ => if isKey x then some (ks.any fun y => eqb y x) else none
  | _, _ => none
def ixD (x y : D) : Option D := match x, y with
  | .lst xs, .int i => (ixN xs.length i).bind fun j => xs[j]?
  | .tup xs, .int i => (ixN xs.length i).bind fun j => xs[j]?
  | .str s, .int i => if decide (s.length ≤ LIM) then (ixN s.length i).bind fun j => (s[j]?).map fun c => .str [c] else none
  | .dic ks vs, k => if isKey k then dicGet k ks vs else none
  | _, _ => none
def optI : D → Option (Option Int)
  | .non => some none
  | .int i => some (some i)
  | _ => none
def slD (x : D) (lo hi : Option Int) : Option X := match x with
  | .lst xs => some (.fl (cut xs lo hi))
  | .tup xs => some (dat (.tup (cut xs lo hi)))
  | .str s => if decide (s.length ≤ LIM) then some (dat (.str (cut s lo hi))) else none
  | _ => none
def biD (b : Bi) (xs : List D) : Option X := match b, xs with
  | .len, [.lst xs] => some (dat (.int xs.length))
  | .len, [.tup xs] => some (dat (.int xs.length))
  | .len, [.str s] => if decide (s.length ≤ LIM) then some (dat (.int s.length)) else none
  | .len, [.dic ks _] => some (dat (.int ks.length))
  | .abs, [.int i] => some (dat (.int (if i < 0 then -i else i)))
  | .int, [.int i] => some (dat (.int i))
  | .int, [.bl b] => some (dat (.int (if b then 1 else 0)))
  | .int, [.str s] => if s.all isDig && !s.isEmpty && decide (s.length ≤ 600) then some (dat (.int (digVal s))) else none
  | .str, [.int i] => if decide (0 ≤ i) && decide (i < 18446744073709551616) then some (dat (.str (natDigs i.toNat))) else none
  | .str, [.str s] => some (dat (.str s))
  | .lst, [.lst xs] => some (.fl xs)
  | .lst, [.tup xs] => some (.fl xs)
  | .tup, [.lst xs] => some (dat (.tup xs))
  | .tup, [.tup xs] => some (dat (.tup xs))
  | .sum, [.lst xs] => (intsOf xs).map fun ns => dat (.int ns.sum)
  | .all, [.lst xs] => (blsOf xs).map fun bs => dat (.bl (bs.all id))
  | .any, [.lst xs] => (blsOf xs).map fun bs => dat (.bl (bs.any id))
  | .max, [.int i, .int j] => some (dat (.int (if j > i then j else i)))
  | _, _ => none
def bmD (b : Bm) (x y : D) : Option X := match b, x, y with
  | .join, .str sep, .lst xs => (strsOf xs).bind fun ss => if decide ((ss.map List.length).sum + ss.length * sep.length ≤ LIM) then some (dat (.str (joinS sep ss))) else none
  | .split, .str s, .str [c] => if decide (s.length + 2 ≤ LIM) && decide (c < 256) then some (.fl ((splitC c s).map .str)) else none
  | .index, .tup xs, k => if flat k && xs.all flat then (indexOf k xs).map fun (n : Nat) => dat (.int (n : Int)) else none
  | .index, .lst xs, k => if flat k && xs.all flat then (indexOf k xs).map fun (n : Nat) => dat (.int (n : Int)) else none
  | .index, .str s, .str [c] => if decide (s.length ≤ LIM) then (indexOf (.int c) (s.map fun x => .int (x : Nat))).map fun (n : Nat) => dat (.int (n : Int)) else none
  | _, _, _ => none
def isT : D → Ty → Option Bool
  | .non, _ => some false
  | .bl _, .bool => some true
  | .bl _, .int => some true
  | .bl _, _ => some false
  | .int _, .int => some true
  | .int _, _ => some false
  | .str _, .str => some true
  | .str _, _ => some false
  | .tup _, .tup => some true
  | .tup _, _ => some false
  | .lst _, .lst => some true
  | .lst _, _ => some false
  | _, _ => none

/-! the evaluator -/
def get (σ : St) (i : Nat) : Option SV := (σ[i]?).bind id
def setN (σ : St) (i : Nat) (x : SV) : St := σ.set i (some x)
def setAll (σ : St) : List Nat → List V → Option St
  | [], [] => some σ
  | i :: is, x :: xs => setAll (setN σ i (.v x)) is xs
  | _, _ => none
def setPar (σ : St) : List (Nat × Bool) → List X → Option St
  | [], [] => some σ
  | (i, false) :: is, x :: xs => setPar (setN σ i (.v x.toV)) is xs
  | (i, true) :: is, x :: xs => match x with
    | .v _ => none
    | x => setPar (setN σ i x.sv) is xs
  | _, _ => none
def bindT (t : Tg) (x : V) (σ : St) : Option St := match t with
  | .n i => some (setN σ i (.v x))
  | .t is => match x with
    | .d (.tup xs) => setAll σ is (xs.map .d)
    | _ => none
def wipe (σ : St) : List Nat → St
  | [] => σ
  | v :: vs => (wipe σ vs).set v none
/-- what a for walks: its items -/
def walkV (x : V) : Option (List V) := match x with
  | .d (.lst xs) => some (xs.map .d)
  | .d (.tup xs) => some (xs.map .d)
  | .d (.str s) => some (s.map fun c => .d (.str [c]))
  | .scr ns => some (ns.map fun n => .d (.int n))
  | _ => none
def lift {α : Type} (o : Option α) (h : Hp) : R α := match o with
  | some a => .ok a h
  | none => .err
/-- a comprehension's turns -/
def lcGo (cond : St → Hp → R Bool) (elt : St → Hp → R D) (t : Tg) (σ : St) : List V → List D → Hp → R (List D)
  | [], acc, h => .ok acc h
  | x :: r, acc, h => match bindT t x σ with
    | none => .err
    | some σ1 => (cond σ1 h).bind fun b h1 => if b then (elt σ1 h1).bind fun y h2 => if decide (acc.length < LIM) then lcGo cond elt t σ r (acc ++ [y]) h2 else .err
      else lcGo cond elt t σ r acc h1
def dcGo (cond : St → Hp → R Bool) (key : St → Hp → R D) (elt : St → Hp → R D) (t : Tg) (σ : St) : List V → List D → List D → Hp → R (List D × List D)
  | [], ks, vs, h => .ok (ks, vs) h
  | x :: r, ks, vs, h => match bindT t x σ with
    | none => .err
    | some σ1 => (cond σ1 h).bind fun b h1 => if b then (key σ1 h1).bind fun k h2 => (elt σ1 h2).bind fun y h3 => if isKey k && decide (ks.length < LIM) then dcGo cond key elt t σ r (dicPut k y ks vs).1 (dicPut k y ks vs).2 h3 else .err
      else dcGo cond key elt t σ r ks vs h1
def rangeL (a b : Int) : List V := (List.range (b - a).toNat).map fun (k : Nat) => .d (.int (a + (k : Int)))
def inR (i : Int) : Bool := decide (-B62 ≤ i) && decide (i < B62)
def xD (x : X) (h : Hp) : R D := lift x.toV.toD h
def xB (x : X) (h : Hp) : R Bool := match x with
  | .v (.d (.bl b)) => .ok b h
  | _ => .err
def fldOf (T : Tab) (x : V) (f : Nat) (h : Hp) : Option V := match x with
  | .d (.ins c vs) => (T.cls c).bind fun C => (find f C.flds).bind fun p => (vs[p]?).map .d
  | .ref a => match h[a]? with
    | some (.ins c vs) => (T.cls c).bind fun C => (find f C.flds).bind fun p => vs[p]?
    | _ => none
  | _ => none
def clsOf (x : V) (h : Hp) : Option Nat := match x with
  | .ref a => match h[a]? with
    | some (.ins c _) => some c
    | _ => none
  | _ => none
def putFld (T : Tab) (a f : Nat) (x : V) (h : Hp) : Option Hp := match h[a]? with
  | some (.ins c vs) => (T.cls c).bind fun C => (find f C.flds).bind fun p =>
    if decide (p < vs.length) then some (h.set a (.ins c (vs.set p x))) else if decide (p = vs.length) then some (h.set a (.ins c (vs ++ [x]))) else none
  | _ => none
/-- two values compared -/
def cpV (o : Cp) (x y : V) (h : Hp) : Option Bool := match x, y with
  | .d a, .d b => cpD o a b
  | .ref a, .d (.lst []) => match h[a]?, o with
    | some (.lst xs), .eq => some xs.isEmpty
    | some (.lst xs), .ne => some (!xs.isEmpty)
    | _, _ => none
  | _, _ => none
def ixV (x y : V) (h : Hp) : Option V := match x, y with
  | .d a, .d b => (ixD a b).map .d
  | .ref a, .d k => match h[a]? with
    | some (.lst xs) => match k with
      | .int i => (ixN xs.length i).bind fun j => xs[j]?
      | _ => none
    | some (.dic ks vs) => if isKey k then dicGetV k ks vs else none
    | _ => none
  | _, _ => none
def inV (x y : V) (h : Hp) : Option Bool := match x, y with
  | .d a, .d b => inD a b
  | .d a, .ref p => match h[p]? with
    | some (.dic ks _) => if isKey a then some (ks.any fun y => eqb y a) else none
    | _ => none
  | _, _ => none
def biV (b : Bi) (xs : List V) (h : Hp) : Option X := match b, xs with
  | .len, [.ref a] => match h[a]? with
    | some (.lst xs) => some (dat (.int xs.length))
    | _ => none
  | b, xs => (allD xs).bind (biD b)
def slV (x : V) (lo hi : D) (h : Hp) : Option X := (optI lo).bind fun l => (optI hi).bind fun u => match x with
  | .d a => slD a l u
  | _ => none
set_option maxHeartbeats 1000000
def partOk : E → D → Bool
  | .no, _ => true
  | _, .int _ => true
  | _, _ => false
section
variable (T : Tab) (cf : Nat → List V → Hp → R X)
mutual
def ev : E → St → Hp → R X
  | .v i, σ, h => match get σ i with
    | some (.v x) => .ok (.v x) h
    | _ => .err
  | .k x, σ, h => .ok (dat x) h
  | .g j, σ, h => match T.gls j with
    | some x => .ok (dat x) h
    | none => .err
  | .op o a b, σ, h => (ev a σ h).bind fun x h1 => (ev b σ h1).bind fun y h2 => (xD x h2).bind fun x _ => (xD y h2).bind fun y _ => lift (opD o x y) h2
  | .neg a, σ, h => (ev a σ h).bind fun x h1 => match x with
    | .v (.d (.int i)) => .ok (dat (.int (-i))) h1
    | _ => .err
  | .cp o a b, σ, h => (ev a σ h).bind fun x h1 => (ev b σ h1).bind fun y h2 => (lift (cpV o x.toV y.toV h2) h2).bind fun r h2 => .ok (dat (.bl r)) h2
  | .ch o p a b c, σ, h => (ev a σ h).bind fun x h1 => (ev b σ h1).bind fun y h2 => (lift (cpV o x.toV y.toV h2) h2).bind fun r h2 =>
    if r then (ev c σ h2).bind fun z h3 => (lift (cpV p y.toV z.toV h3) h3).bind fun r h3 => .ok (dat (.bl r)) h3 else .ok (dat (.bl false)) h2
  | .ch3 o p q a b c d, σ, h => (ev a σ h).bind fun x h1 => (ev b σ h1).bind fun y h2 => (lift (cpV o x.toV y.toV h2) h2).bind fun r h2 =>
    if r then (ev c σ h2).bind fun z h3 => (lift (cpV p y.toV z.toV h3) h3).bind fun r h3 =>
      if r then (ev d σ h3).bind fun u h4 => (lift (cpV q z.toV u.toV h4) h4).bind fun r h4 => .ok (dat (.bl r)) h4 else .ok (dat (.bl false)) h3 else .ok (dat (.bl false)) h2
  | .isn n a, σ, h => (ev a σ h).bind fun x h1 => match x with
    | .v (.d .non) => .ok (dat (.bl (!n))) h1
    | _ => .ok (dat (.bl n)) h1
  | .inn n a b, σ, h => (ev a σ h).bind fun x h1 => (ev b σ h1).bind fun y h2 => (lift (inV x.toV y.toV h2) h2).bind fun r h2 => .ok (dat (.bl (if n then !r else r))) h2
  | .an es, σ, h => (evAn es σ h).bind fun b h1 => .ok (dat (.bl b)) h1
  | .orr es, σ, h => (evOr es σ h).bind fun b h1 => .ok (dat (.bl b)) h1
  | .nt a, σ, h => (ev a σ h).bind fun x h1 => (xB x h1).bind fun b h1 => .ok (dat (.bl (!b))) h1
  | .ife c a b, σ, h => (ev c σ h).bind fun x h1 => (xB x h1).bind fun r h1 => if r then ev a σ h1 else ev b σ h1
  | .cl f as, σ, h => (evs as σ h).bind fun xs h1 => cf f xs h1
  | .pcl f as, σ, h => (evs as σ h).bind fun xs h1 => match allD xs with
    | some _ => (cf f xs []).bind fun x _ => match x with
      | .v (.d y) => .ok (dat y) h1
      | .fl ys => .ok (.fl ys) h1
      | .fd ks vs => .ok (.fd ks vs) h1
      | _ => .err
    | none => .err
  | .pcb f as, σ, h => (evB as σ h).bind fun xs h1 => match allD xs with
    | some _ => (cf f xs []).bind fun x _ => match x with
      | .v (.d y) => if flat y then .ok (dat y) h1 else .err
      | _ => .err
    | none => .err
  | .bw _, _, _ => .err
  | .rc c as, σ, h => (evs as σ h).bind fun xs h1 => match T.cls c, allD xs with
    | some C, some _ => (cf C.init (.ref 0 :: xs) [.ins c []]).bind fun r h2 => match r, h2 with
      | .v (.d .non), [.ins c' vs] => match allD vs with
        | some ds => if c' = c then .ok (dat (.ins c ds)) h1 else .err
        | none => .err
      | _, _ => .err
    | _, _ => .err
  | .mk c as, σ, h => (evs as σ h).bind fun xs h1 => match T.cls c with
    | some C => (cf C.init (.ref h1.length :: xs) (h1 ++ [.ins c []])).bind fun r h2 => match r with
      | .v (.d .non) => .ok (.v (.ref h1.length)) h2
      | _ => .err
    | none => .err
  | .me m o as, σ, h => (ev o σ h).bind fun x h1 => match clsOf x.toV h1 with
    | some c => (evs as σ h1).bind fun xs h2 => match (T.cls c).bind fun C => C.meths.lookup m with
      | some f => cf f (x.toV :: xs) h2
      | none => .err
    | none => .err
  | .bi b as, σ, h => (evs as σ h).bind fun xs h1 => lift (biV b xs h1) h1
  | .bm b o a, σ, h => (ev o σ h).bind fun x h1 => (ev a σ h1).bind fun y h2 => (xD x h2).bind fun x _ => (xD y h2).bind fun y _ => lift (bmD b x y) h2
  | .isi a t, σ, h => (ev a σ h).bind fun x h1 => (xD x h1).bind fun x _ => (lift (isT x t) h1).bind fun b h1 => .ok (dat (.bl b)) h1
  | .fd o f, σ, h => (ev o σ h).bind fun x h1 => (lift (fldOf T x.toV f h1) h1).bind fun y h1 => .ok (.v y) h1
  | .ix o i, σ, h => (ev o σ h).bind fun x h1 => (ev i σ h1).bind fun y h2 => (lift (ixV x.toV y.toV h2) h2).bind fun r h2 => .ok (.v r) h2
  | .sl o lo hi, σ, h => (ev o σ h).bind fun x h1 => (ev lo σ h1).bind fun y h2 => (ev hi σ h2).bind fun z h3 => (xD y h3).bind fun y _ => (xD z h3).bind fun z _ => if partOk lo y && partOk hi z then lift (slV x.toV y z h3) h3 else .err
  | .no, σ, h => .ok (dat .non) h
  | .lst es, σ, h => (evs es σ h).bind fun xs h1 => match allD xs with
    | some ds => if decide (ds.length ≤ LIM) then .ok (.fl ds) h1 else .err
    | none => .err
  | .tup es, σ, h => (evs es σ h).bind fun xs h1 => match allD xs with
    | some ds => if decide (ds.length ≤ LIM) then .ok (dat (.tup ds)) h1 else .err
    | none => .err
  | .dct, σ, h => .ok (.fd [] []) h
  | .lc own e t it c, σ, h => (evIt it σ h).bind fun xs h1 =>
    (lcGo (fun σ h => evAn c σ h) (fun σ h => (ev e σ h).bind xD) t (wipe σ own) xs [] h1).bind fun ys h2 => .ok (.fl ys) h2
  | .dc own e f t it c, σ, h => (evIt it σ h).bind fun xs h1 =>
    (dcGo (fun σ h => evAn c σ h) (fun σ h => (ev e σ h).bind xD) (fun σ h => (ev f σ h).bind xD) t (wipe σ own) xs [] [] h1).bind fun ys h2 => .ok (.fd ys.1 ys.2) h2
  | .pop o, σ, h => (ev o σ h).bind fun x h1 => match x with
    | .v (.ref a) => match h1[a]? with
      | some (.lst xs) => match xs[xs.length - 1]? with
        | some y => .ok (.v y) (h1.set a (.lst xs.dropLast))
        | none => .err
      | _ => .err
    | _ => .err
  | .popI o i, σ, h => (ev o σ h).bind fun x h1 => match x with
    | .v (.ref a) => match h1[a]? with
      | some (.lst _) => (ev i σ h1).bind fun y h2 => match y, h2[a]? with
        | .v (.d (.int i)), some (.lst xs) => if inR i then match ixN xs.length i with
            | some j => match xs[j]? with
              | some y => .ok (.v y) (h2.set a (.lst (xs.eraseIdx j)))
              | none => .err
            | none => .err
          else .err
        | _, _ => .err
      | _ => .err
    | _ => .err
  | .ixO x i, σ, h => (ev i σ h).bind fun y h1 => match get σ x, y with
    | some (.ol xs), .v (.d k) => (lift (ixD (.lst xs) k) h1).bind fun r h1 => .ok (dat r) h1
    | some (.od ks vs), .v (.d k) => (lift (ixD (.dic ks vs) k) h1).bind fun r h1 => .ok (dat r) h1
    | _, _ => .err
  | .lenO x, σ, h => match get σ x with
    | some (.ol xs) => .ok (dat (.int xs.length)) h
    | _ => .err
  | .innO n a x, σ, h => (ev a σ h).bind fun y h1 => match get σ x, y with
    | some (.ol xs), .v (.d k) => (lift (inD k (.lst xs)) h1).bind fun r h1 => .ok (dat (.bl (if n then !r else r))) h1
    | some (.od ks vs), .v (.d k) => (lift (inD k (.dic ks vs)) h1).bind fun r h1 => .ok (dat (.bl (if n then !r else r))) h1
    | _, _ => .err
  | .nilO n x, σ, h => match get σ x with
    | some (.ol xs) => .ok (dat (.bl (if n then !xs.isEmpty else xs.isEmpty))) h
    | _ => .err
def evs : Es → St → Hp → R (List V)
  | .nil, σ, h => .ok [] h
  | .cons e es, σ, h => (ev e σ h).bind fun x h1 => (evs es σ h1).bind fun xs h2 => .ok (x.toV :: xs) h2
def evx : Es → St → Hp → R (List X)
  | .nil, σ, h => .ok [] h
  | .cons e es, σ, h => (ev e σ h).bind fun x h1 => (evx es σ h1).bind fun xs h2 => .ok (x :: xs) h2
def evB : Es → St → Hp → R (List V)
  | .nil, σ, h => .ok [] h
  | .cons (.bw i) es, σ, h => match get σ i with
    | some (.ol xs) => (evB es σ h).bind fun ys h2 => .ok (.d (.lst xs) :: ys) h2
    | _ => .err
  | .cons e es, σ, h => (ev e σ h).bind fun x h1 => (evB es σ h1).bind fun xs h2 => .ok (x.toV :: xs) h2
def evAn : Es → St → Hp → R Bool
  | .nil, σ, h => .ok true h
  | .cons e es, σ, h => (ev e σ h).bind fun x h1 => (xB x h1).bind fun b h1 => if b then evAn es σ h1 else .ok false h1
def evOr : Es → St → Hp → R Bool
  | .nil, σ, h => .ok false h
  | .cons e es, σ, h => (ev e σ h).bind fun x h1 => (xB x h1).bind fun b h1 => if b then .ok true h1 else evOr es σ h1
def evIt : It → St → Hp → R (List V)
  | .rng a b, σ, h => (ev a σ h).bind fun x h1 => (ev b σ h1).bind fun y h2 => match x, y with
    | .v (.d (.int i)), .v (.d (.int j)) => if inR i && inR j then .ok (rangeL i j) h2 else .err
    | _, _ => .err
  | .enu e, σ, h => (ev e σ h).bind fun x h1 => match x.toV with
    | .d (.lst xs) => .ok ((enumF 0 xs).map .d) h1
    | _ => .err
  | .e e, σ, h => (ev e σ h).bind fun x h1 => lift (walkV x.toV) h1
end
end
/-! statements -/
inductive Fl where
  | nx | rt (x : X) | bk | ct
abbrev RS := R (St × Fl)
def whileN (c : St → Hp → R Bool) (b : St → Hp → RS) : Nat → St → Hp → RS
  | 0, _, _ => .err
  | n + 1, σ, h => (c σ h).bind fun t h1 => if t then (b σ h1).bind fun r h2 => match r.2 with
      | .nx => whileN c b n r.1 h2
      | .ct => whileN c b n r.1 h2
      | .bk => .ok (r.1, .nx) h2
      | .rt x => .ok (r.1, .rt x) h2
    else .ok (σ, .nx) h1
def forGo (b : St → Hp → RS) (t : Tg) : List V → St → Hp → RS
  | [], σ, h => .ok (σ, .nx) h
  | x :: r, σ, h => match bindT t x σ with
    | none => .err
    | some σ1 => (b σ1 h).bind fun q h1 => match q.2 with
      | .nx => forGo b t r q.1 h1
      | .ct => forGo b t r q.1 h1
      | .bk => .ok (q.1, .nx) h1
      | .rt x => .ok (q.1, .rt x) h1
/-- a fresh list or dict laid onto the heap -/
def promote (x : X) (h : Hp) : V × Hp := match x with
  | .v x => (x, h)
  | .fl xs => (.ref h.length, h ++ [.lst (xs.map .d)])
  | .fd ks vs => (.ref h.length, h ++ [.dic ks (vs.map .d)])
def setIV (x : V) (k : V) (y : V) (h : Hp) : Option Hp := match x, k with
  | .ref a, .d k => match h[a]? with
    | some (.lst xs) => match k with
      | .int i => (ixN xs.length i).map fun j => h.set a (.lst (xs.set j y))
      | _ => none
    | some (.dic ks vs) => if isKey k && decide (ks.length < LIM) then some (h.set a (.dic (dicPutV k y ks vs).1 (dicPutV k y ks vs).2)) else none
    | _ => none
  | _, _ => none
def opV (o : Op) (x y : V) : Option V := match o, x, y with
  | .add, .d (.int i), .d (.int j) => some (.d (.int (i + j)))
  | .sub, .d (.int i), .d (.int j) => some (.d (.int (i - j)))
  | _, _, _ => none
section
variable (T : Tab) (cf : Nat → List V → Hp → R X)
mutual
def exec : S → St → Hp → RS
  | .set i e, σ, h => (ev T cf e σ h).bind fun x h1 => .ok (setN σ i (.v x.toV), .nx) h1
  | .own i e, σ, h => (ev T cf e σ h).bind fun x h1 => match x with
    | .v _ => .err
    | x => .ok (setN σ i x.sv, .nx) h1
  | .setP i e, σ, h => (ev T cf e σ h).bind fun x h1 => .ok (setN σ i (.v (promote x h1).1), .nx) (promote x h1).2
  | .setT t e, σ, h => (ev T cf e σ h).bind fun x h1 => match bindT (.t t) x.toV σ with
    | some σ1 => .ok (σ1, .nx) h1
    | none => .err
  | .par t es, σ, h => (evx T cf es σ h).bind fun xs h1 => match setPar σ t xs with
    | some σ1 => .ok (σ1, .nx) h1
    | none => .err
  | .setF p o f e, σ, h => (ev T cf e σ h).bind fun y h1 => (ev T cf o σ h1).bind fun x h2 => match x with
    | .v (.ref a) => if p then (lift (putFld T a f (promote y h2).1 (promote y h2).2) h2).bind fun h3 _ => .ok (σ, .nx) h3
      else (lift (putFld T a f y.toV h2) h2).bind fun h3 _ => .ok (σ, .nx) h3
    | _ => .err
  | .setI o i e, σ, h => (ev T cf e σ h).bind fun y h1 => (ev T cf o σ h1).bind fun x h2 => (ev T cf i σ h2).bind fun k h3 => (lift (setIV x.toV k.toV y.toV h3) h3).bind fun h4 _ => .ok (σ, .nx) h4
  | .setO x i e, σ, h => (ev T cf e σ h).bind fun y h1 => (ev T cf i σ h1).bind fun k h2 => match get σ x, k, y.toV with
    | some (.ol xs), .v (.d (.int i)), .d y => match ixN xs.length i with
      | some j => .ok (setN σ x (.ol (xs.set j y)), .nx) h2
      | none => .err
    | some (.od ks vs), .v (.d k), .d y => if isKey k && decide (ks.length < LIM) then .ok (setN σ x (.od (dicPut k y ks vs).1 (dicPut k y ks vs).2), .nx) h2 else .err
    | _, _, _ => .err
  | .aug i o e, σ, h => match get σ i with
    | some (.v x) => (ev T cf e σ h).bind fun y h1 => (lift (opV o x y.toV) h1).bind fun z h1 => .ok (setN σ i (.v z), .nx) h1
    | _ => .err
  | .augF o f p e, σ, h => (ev T cf o σ h).bind fun x h1 => match x with
    | .v (.ref a) => (lift (fldOf T (.ref a) f h1) h1).bind fun u h1 => (ev T cf e σ h1).bind fun y h2 => if clsOf (.ref a) h1 = clsOf (.ref a) h2 then (lift (opV p u y.toV) h2).bind fun z h2 => (lift (putFld T a f z h2) h2).bind fun h3 _ => .ok (σ, .nx) h3 else .err
    | _ => .err
  | .augI o i p e, σ, h => (ev T cf o σ h).bind fun x h1 => (ev T cf i σ h1).bind fun k h2 => (lift (ixV x.toV k.toV h2) h2).bind fun u h2 => (ev T cf e σ h2).bind fun y h3 =>
      (lift (opV p u y.toV) h3).bind fun z h3 => (lift (setIV x.toV k.toV z h3) h3).bind fun h4 _ => .ok (σ, .nx) h4
  | .app x e, σ, h => (ev T cf e σ h).bind fun y h1 => match get σ x, y.toV with
    | some (.ol xs), .d y => if decide (xs.length < LIM) then .ok (setN σ x (.ol (xs ++ [y])), .nx) h1 else .err
    | _, _ => .err
  | .appH o e, σ, h => (ev T cf o σ h).bind fun x h1 => match x with
    | .v (.ref a) => match h1[a]? with
      | some (.lst _) => (ev T cf e σ h1).bind fun y h2 => match h2[a]? with
        | some (.lst xs) => if decide (xs.length < LIM) then .ok (σ, .nx) (h2.set a (.lst (xs ++ [y.toV]))) else .err
        | _ => .err
      | _ => .err
    | _ => .err
  | .ext x e, σ, h => (ev T cf e σ h).bind fun y h1 => match get σ x, y.toV with
    | some (.ol xs), .d (.lst ys) => if decide (xs.length + ys.length ≤ LIM) then .ok (setN σ x (.ol (xs ++ ys)), .nx) h1 else .err
    | _, _ => .err
  | .upd o e, σ, h => (ev T cf o σ h).bind fun x h1 => match x with
    | .v (.ref a) => match h1[a]? with
      | some (.dic _ _) => (ev T cf e σ h1).bind fun y h2 => match h2[a]?, y.toV with
        | some (.dic ks vs), .d (.dic ls ws) => if decide (ks.length + ls.length ≤ LIM) then .ok (σ, .nx) (h2.set a (.dic (dicPuts ls ws ks vs).1 (dicPuts ls ws ks vs).2)) else .err
        | _, _ => .err
      | _ => .err
    | _ => .err
  | .ifs c a b, σ, h => (ev T cf c σ h).bind fun x h1 => (xB x h1).bind fun t h1 => if t then execs a σ h1 else execs b σ h1
  | .whl c b, σ, h => whileN (fun σ h => (ev T cf c σ h).bind xB) (fun σ h => execs b σ h) T.W σ h
  | .fr t it b, σ, h => (evIt T cf it σ h).bind fun xs h1 => forGo (fun σ h => execs b σ h) t xs σ h1
  | .ret e, σ, h => (ev T cf e σ h).bind fun x h1 => .ok (σ, .rt x) h1
  | .retO x, σ, h => match get σ x with
    | some (.ol xs) => .ok (σ, .rt (.fl xs)) h
    | some (.od ks vs) => .ok (σ, .rt (.fd ks vs)) h
    | _ => .err
  | .retN, σ, h => .ok (σ, .rt (dat .non)) h
  | .ex e, σ, h => (ev T cf e σ h).bind fun _ h1 => .ok (σ, .nx) h1
  | .pass, σ, h => .ok (σ, .nx) h
  | .brk, σ, h => .ok (σ, .bk) h
  | .cnt, σ, h => .ok (σ, .ct) h
  | .frz x, σ, h => match get σ x with
    | some (.ol xs) => .ok (setN σ x (.v (.d (.lst xs))), .nx) h
    | some (.od ks vs) => .ok (setN σ x (.v (.d (.dic ks vs))), .nx) h
    | _ => .err
  | .rais c as, σ, h => (evs T cf as σ h).bind fun xs h1 => match allD xs with
    | some ds => .exc (.ins c ds) h1
    | none => .err
def execs : Ss → St → Hp → RS
  | .nil, σ, h => .ok (σ, .nx) h
  | .cons s ss, σ, h => (exec s σ h).bind fun r h1 => match r.2 with
    | .nx => execs ss r.1 h1
    | f => .ok (r.1, f) h1
end
end
/-- a call -/
def runF (T : Tab) (cf : Nat → List V → Hp → R X) (fn : Fn) (args : List V) (h : Hp) : R X :=
  if args.length = fn.np then
    (execs T cf fn.body (args.map (fun v => some (.v v)) ++ List.replicate (fn.ns - fn.np) none) h).bind fun r h1 => match r.2 with
      | .nx => .ok (dat .non) h1
      | .rt x => .ok x h1
      | _ => .err
  else .err
def callF (T : Tab) : Nat → Nat → List V → Hp → R X
  | 0, _, _, _ => .err
  | d + 1, f, args, h => match T.fns f with
    | some fn => runF T (callF T d) fn args h
    | none => .err
end PF
namespace PF
def Tab.ofL (fs : List (Nat × Fn)) (cs : List (Nat × Cl)) (gs : List (Nat × D)) (W : Nat) : Tab := { fns := fun f => fs.lookup f, cls := fun c => cs.lookup c, gls := fun j => gs.lookup j, W := W }
end PF
set_option linter.all false
set_option maxRecDepth 100000
namespace PF
/-! ### what a run must show -/
def Sat {α : Type} (r : R α) (Q : α → Hp → Prop) : Prop := match r with
  | .ok a h => Q a h
  | _ => False
theorem sat_bind {α β : Type} {r : R α} {f : α → Hp → R β} {Q : β → Hp → Prop} (s : Sat r (fun a h => Sat (f a h) Q)) : Sat (r.bind f) Q := by
  cases r <;> exact s
theorem Sat.mono {α : Type} {r : R α} {Q Q' : α → Hp → Prop} (s : Sat r Q) (m : ∀ a h, Q a h → Q' a h) : Sat r Q' := by
  cases r <;> first | exact m _ _ s | exact s
theorem Sat.ex {α : Type} {r : R α} {Q : α → Hp → Prop} (s : Sat r Q) : ∃ a h, r = .ok a h ∧ Q a h := by
  cases r <;> first | exact ⟨_, _, rfl, s⟩ | exact s.elim
def wL {α : Type} (o : Option α) (K : α → Prop) : Prop := match o with
  | some a => K a
  | none => False
theorem wL_sat {α : Type} {o : Option α} {h : Hp} {Q : α → Hp → Prop} (s : wL o fun a => Q a h) : Sat (lift o h) Q := by
  cases o <;> exact s
theorem wL_of {α : Type} {o : Option α} {K : α → Prop} {a : α} (e : o = some a) (k : K a) : wL o K := by rw [e]; exact k
theorem wL_ex {α : Type} {o : Option α} {K : α → Prop} (s : wL o K) : ∃ a, o = some a ∧ K a := by
  cases o with
  | none => exact s.elim
  | some a => exact ⟨a, rfl, s⟩
theorem wL_bind {α β : Type} {o : Option α} {f : α → Hp → R β} {h : Hp} {Q : β → Hp → Prop} (s : wL o fun a => Sat (f a h) Q) : Sat ((lift o h).bind f) Q := sat_bind (wL_sat s)
def wI (b : Bool) (A B : Prop) : Prop := match b with
  | true => A
  | false => B
theorem wI_in {b : Bool} {A B : Prop} (x : b = true → A) (y : b = false → B) : wI b A B := by
  cases b
  · exact y rfl
  · exact x rfl
theorem wI_t {b : Bool} {A B : Prop} (e : b = true) (x : A) : wI b A B := by rw [e]; exact x
theorem wI_f {b : Bool} {A B : Prop} (e : b = false) (x : B) : wI b A B := by rw [e]; exact x
theorem wI_if {α : Type} {b : Bool} {x y : R α} {Q : α → Hp → Prop} (s : wI b (Sat x Q) (Sat y Q)) : Sat (if b then x else y) Q := by
  cases b <;> exact s
structure Call (cf : Nat → List V → Hp → R X) (f : Nat) (xs : List V) (h : Hp) (Q : X → Hp → Prop) : Prop where
  s : Sat (cf f xs h) Q
def getV (σ : St) (i : Nat) : Option V := match σ[i]? with
  | some (some (.v x)) => some x
  | _ => none
def opX (o : Op) (x y : X) : Option X := match x.toV, y.toV with
  | .d x, .d y => opD o x y
  | _, _ => none
def negX (x : X) : Option Int := match x with
  | .v (.d (.int i)) => some i
  | _ => none
def wB (x : X) (K : Bool → Prop) : Prop := match x with
  | .v (.d (.bl b)) => K b
  | _ => False
theorem wB_sat {x : X} {h : Hp} {Q : Bool → Hp → Prop} (s : wB x fun b => Q b h) : Sat (xB x h) Q := by
  unfold wB at s
  split at s
  · exact s
  · exact s.elim
def isNon : X → Bool
  | .v (.d .non) => true
  | _ => false
def wPure (x : X) (h : Hp) (Q : X → Hp → Prop) : Prop := match x with
  | .v (.d y) => Q (dat y) h
  | .fl ys => Q (.fl ys) h
  | .fd ks vs => Q (.fd ks vs) h
  | _ => False
def recOf (c : Nat) (r : X) (h2 : Hp) : Option (List D) := match r, h2 with
  | .v (.d .non), [.ins c' vs] => match allD vs with
    | some ds => if c' = c then some ds else none
    | none => none
  | _, _ => none
def popL (x : X) (h1 : Hp) : Option (V × Hp) := match x with
  | .v (.ref a) => match h1[a]? with
    | some (.lst xs) => match xs[xs.length - 1]? with
      | some y => some (y, h1.set a (.lst xs.dropLast))
      | none => none
    | _ => none
  | _ => none
def lstAt (x : X) (h1 : Hp) : Option Nat := match x with
  | .v (.ref a) => match h1[a]? with
    | some (.lst _) => some a
    | _ => none
  | _ => none
def popAt (a : Nat) (y : X) (h2 : Hp) : Option (V × Hp) := match y, h2[a]? with
  | .v (.d (.int i)), some (.lst xs) => if inR i then match ixN xs.length i with
      | some j => match xs[j]? with
        | some y => some (y, h2.set a (.lst (xs.eraseIdx j)))
        | none => none
      | none => none
    else none
  | _, _ => none
def ixOwn (s : Option SV) (y : X) : Option D := match s, y with
  | some (.ol xs), .v (.d k) => ixD (.lst xs) k
  | some (.od ks vs), .v (.d k) => ixD (.dic ks vs) k
  | _, _ => none
def inOwn (s : Option SV) (y : X) : Option Bool := match s, y with
  | some (.ol xs), .v (.d k) => inD k (.lst xs)
  | some (.od ks vs), .v (.d k) => inD k (.dic ks vs)
  | _, _ => none
def lenOwn (s : Option SV) : Option Int := match s with
  | some (.ol xs) => some xs.length
  | _ => none
def nilOwn (s : Option SV) : Option Bool := match s with
  | some (.ol xs) => some xs.isEmpty
  | _ => none
def olOwn (s : Option SV) : Option (List D) := match s with
  | some (.ol xs) => some xs
  | _ => none
@[irreducible] def rngX (x y : X) : Option (List V) := match x, y with
  | .v (.d (.int i)), .v (.d (.int j)) => if inR i && inR j then some (rangeL i j) else none
  | _, _ => none
def enuX (x : X) : Option (List V) := match x.toV with
  | .d (.lst xs) => some ((enumF 0 xs).map .d)
  | _ => none
def limL (ds : List D) : Bool := decide (ds.length ≤ LIM)
structure LLc (cond : St → Hp → R Bool) (elt : St → Hp → R D) (t : Tg) (σ : St) (xs : List V) (acc : List D) (h : Hp) (Q : List D → Hp → Prop) : Prop where
  s : Sat (lcGo cond elt t σ xs acc h) Q
structure LDc (cond : St → Hp → R Bool) (key elt : St → Hp → R D) (t : Tg) (σ : St) (xs : List V) (ks vs : List D) (h : Hp) (Q : List D × List D → Hp → Prop) : Prop where
  s : Sat (dcGo cond key elt t σ xs ks vs h) Q
section
variable (T : Tab) (cf : Nat → List V → Hp → R X)
mutual
def wE : E → St → Hp → (X → Hp → Prop) → Prop
  | .v i, σ, h, Q => wL (getV σ i) fun x => Q (.v x) h
  | .k x, σ, h, Q => Q (dat x) h
  | .g j, σ, h, Q => wL (T.gls j) fun x => Q (dat x) h
  | .op o a b, σ, h, Q => wE a σ h fun x h1 => wE b σ h1 fun y h2 => wL (opX o x y) fun r => Q r h2
  | .neg a, σ, h, Q => wE a σ h fun x h1 => wL (negX x) fun i => Q (dat (.int (-i))) h1
  | .cp o a b, σ, h, Q => wE a σ h fun x h1 => wE b σ h1 fun y h2 => wL (cpV o x.toV y.toV h2) fun r => Q (dat (.bl r)) h2
  | .ch o p a b c, σ, h, Q => wE a σ h fun x h1 => wE b σ h1 fun y h2 => wL (cpV o x.toV y.toV h2) fun r =>
      wI r (wE c σ h2 fun z h3 => wL (cpV p y.toV z.toV h3) fun r => Q (dat (.bl r)) h3) (Q (dat (.bl false)) h2)
  | .ch3 o p q a b c d, σ, h, Q => wE a σ h fun x h1 => wE b σ h1 fun y h2 => wL (cpV o x.toV y.toV h2) fun r =>
      wI r (wE c σ h2 fun z h3 => wL (cpV p y.toV z.toV h3) fun r => wI r (wE d σ h3 fun u h4 => wL (cpV q z.toV u.toV h4) fun r => Q (dat (.bl r)) h4) (Q (dat (.bl false)) h3)) (Q (dat (.bl false)) h2)
  | .isn n a, σ, h, Q => wE a σ h fun x h1 => Q (dat (.bl (if isNon x then !n else n))) h1
  | .inn n a b, σ, h, Q => wE a σ h fun x h1 => wE b σ h1 fun y h2 => wL (inV x.toV y.toV h2) fun r => Q (dat (.bl (if n then !r else r))) h2
  | .an es, σ, h, Q => wAn es σ h fun b h1 => Q (dat (.bl b)) h1
  | .orr es, σ, h, Q => wOr es σ h fun b h1 => Q (dat (.bl b)) h1
  | .nt a, σ, h, Q => wE a σ h fun x h1 => wB x fun b => Q (dat (.bl (!b))) h1
  | .ife c a b, σ, h, Q => wE c σ h fun x h1 => wB x fun r => wI r (wE a σ h1 Q) (wE b σ h1 Q)
  | .cl f as, σ, h, Q => wEs as σ h fun xs h1 => Call cf f xs h1 Q
  | .pcl f as, σ, h, Q => wEs as σ h fun xs h1 => wL (allD xs) fun _ => Call cf f xs [] fun x _ => wPure x h1 Q
  | .pcb f as, σ, h, Q => wEB as σ h fun xs h1 => wL (allD xs) fun _ => Call cf f xs [] fun x _ => wL x.toV.toD fun y => wI (match x with | .v _ => flat y | _ => false) (Q (dat y) h1) False
  | .bw _, _, _, _ => False
  | .rc c as, σ, h, Q => wEs as σ h fun xs h1 => wL (T.cls c) fun C => wL (allD xs) fun _ => Call cf C.init (.ref 0 :: xs) [.ins c []] fun r h2 => wL (recOf c r h2) fun ds => Q (dat (.ins c ds)) h1
  | .mk c as, σ, h, Q => wEs as σ h fun xs h1 => wL (T.cls c) fun C => Call cf C.init (.ref h1.length :: xs) (h1 ++ [.ins c []]) fun r h2 => wI (isNon r) (Q (.v (.ref h1.length)) h2) False
  | .me m o as, σ, h, Q => wE o σ h fun x h1 => wL (clsOf x.toV h1) fun c => wEs as σ h1 fun xs h2 => wL ((T.cls c).bind fun C => C.meths.lookup m) fun f => Call cf f (x.toV :: xs) h2 Q
  | .bi b as, σ, h, Q => wEs as σ h fun xs h1 => wL (biV b xs h1) fun r => Q r h1
  | .bm b o a, σ, h, Q => wE o σ h fun x h1 => wE a σ h1 fun y h2 => wL x.toV.toD fun x => wL y.toV.toD fun y => wL (bmD b x y) fun r => Q r h2
  | .isi a t, σ, h, Q => wE a σ h fun x h1 => wL x.toV.toD fun x => wL (isT x t) fun b => Q (dat (.bl b)) h1
  | .fd o f, σ, h, Q => wE o σ h fun x h1 => wL (fldOf T x.toV f h1) fun y => Q (.v y) h1
  | .ix o i, σ, h, Q => wE o σ h fun x h1 => wE i σ h1 fun y h2 => wL (ixV x.toV y.toV h2) fun r => Q (.v r) h2
  | .sl o lo hi, σ, h, Q => wE o σ h fun x h1 => wE lo σ h1 fun y h2 => wE hi σ h2 fun z h3 => wL y.toV.toD fun y => wL z.toV.toD fun z => wI (partOk lo y && partOk hi z) (wL (slV x.toV y z h3) fun r => Q r h3) False
  | .no, σ, h, Q => Q (dat .non) h
  | .lst es, σ, h, Q => wEs es σ h fun xs h1 => wL (allD xs) fun ds => wI (limL ds) (Q (.fl ds) h1) False
  | .tup es, σ, h, Q => wEs es σ h fun xs h1 => wL (allD xs) fun ds => wI (limL ds) (Q (dat (.tup ds)) h1) False
  | .dct, σ, h, Q => Q (.fd [] []) h
  | .lc own e t it c, σ, h, Q => wIt it σ h fun xs h1 => LLc (fun σ h => evAn T cf c σ h) (fun σ h => (ev T cf e σ h).bind xD) t (wipe σ own) xs [] h1 fun ys h2 => Q (.fl ys) h2
  | .dc own e f t it c, σ, h, Q => wIt it σ h fun xs h1 => LDc (fun σ h => evAn T cf c σ h) (fun σ h => (ev T cf e σ h).bind xD) (fun σ h => (ev T cf f σ h).bind xD) t (wipe σ own) xs [] [] h1 fun ys h2 => Q (.fd ys.1 ys.2) h2
  | .pop o, σ, h, Q => wE o σ h fun x h1 => wL (popL x h1) fun r => Q (.v r.1) r.2
  | .popI o i, σ, h, Q => wE o σ h fun x h1 => wL (lstAt x h1) fun a => wE i σ h1 fun y h2 => wL (popAt a y h2) fun r => Q (.v r.1) r.2
  | .ixO x i, σ, h, Q => wE i σ h fun y h1 => wL (ixOwn (get σ x) y) fun r => Q (dat r) h1
  | .lenO x, σ, h, Q => wL (lenOwn (get σ x)) fun n => Q (dat (.int n)) h
  | .innO n a x, σ, h, Q => wE a σ h fun y h1 => wL (inOwn (get σ x) y) fun r => Q (dat (.bl (if n then !r else r))) h1
  | .nilO n x, σ, h, Q => wL (nilOwn (get σ x)) fun r => Q (dat (.bl (if n then !r else r))) h
def wEs : Es → St → Hp → (List V → Hp → Prop) → Prop
  | .nil, σ, h, Q => Q [] h
  | .cons e es, σ, h, Q => wE e σ h fun x h1 => wEs es σ h1 fun xs h2 => Q (x.toV :: xs) h2
def wEx : Es → St → Hp → (List X → Hp → Prop) → Prop
  | .nil, σ, h, Q => Q [] h
  | .cons e es, σ, h, Q => wE e σ h fun x h1 => wEx es σ h1 fun xs h2 => Q (x :: xs) h2
def wEB : Es → St → Hp → (List V → Hp → Prop) → Prop
  | .nil, σ, h, Q => Q [] h
  | .cons (.bw i) es, σ, h, Q => wL (olOwn (get σ i)) fun xs => wEB es σ h fun ys h2 => Q (.d (.lst xs) :: ys) h2
  | .cons e es, σ, h, Q => wE e σ h fun x h1 => wEB es σ h1 fun xs h2 => Q (x.toV :: xs) h2
def wAn : Es → St → Hp → (Bool → Hp → Prop) → Prop
  | .nil, σ, h, Q => Q true h
  | .cons e es, σ, h, Q => wE e σ h fun x h1 => wB x fun b => wI b (wAn es σ h1 Q) (Q false h1)
def wOr : Es → St → Hp → (Bool → Hp → Prop) → Prop
  | .nil, σ, h, Q => Q false h
  | .cons e es, σ, h, Q => wE e σ h fun x h1 => wB x fun b => wI b (Q true h1) (wOr es σ h1 Q)
def wIt : It → St → Hp → (List V → Hp → Prop) → Prop
  | .rng a b, σ, h, Q => wE a σ h fun x h1 => wE b σ h1 fun y h2 => wL (rngX x y) fun xs => Q xs h2
  | .enu e, σ, h, Q => wE e σ h fun x h1 => wL (enuX x) fun xs => Q xs h1
  | .e e, σ, h, Q => wE e σ h fun x h1 => wL (walkV x.toV) fun xs => Q xs h1
end
end
end PF
set_option linter.all false
set_option maxRecDepth 100000
set_option maxHeartbeats 1000000
namespace PF
variable {T : Tab} {cf : Nat → List V → Hp → R X}
theorem get_getV {σ : St} {i : Nat} {x : V} (e : getV σ i = some x) : get σ i = some (.v x) := by
  unfold getV at e
  unfold get
  split at e
  · rename_i y q
    cases e
    (try rw [q]); rfl
  · cases e
theorem xD_sat {x : X} {h : Hp} {Q : D → Hp → Prop} (s : wL x.toV.toD fun y => Q y h) : Sat (xD x h) Q := wL_sat s
theorem opX_sat {o : Op} {x y : X} {h h' : Hp} {Q : X → Hp → Prop} (s : wL (opX o x y) fun r => Q r h) : Sat ((xD x h).bind fun x _ => (xD y h).bind fun y _ => lift (opD o x y) h) Q := by
  obtain ⟨r, e, s⟩ := wL_ex s
  unfold opX at e
  split at e
  · rename_i a b q1 q2
    refine sat_bind (xD_sat (wL_of (a := a) (by (try rw [q1]); rfl) (sat_bind (xD_sat (wL_of (a := b) (by (try rw [q2]); rfl) (wL_sat (wL_of e s)))))))
  · cases e
mutual
theorem sE : ∀ (e : E) {σ : St} {h : Hp} {Q : X → Hp → Prop}, wE T cf e σ h Q → Sat (ev T cf e σ h) Q
  | .v i, σ, h, Q, s => by
    unfold wE at s
    obtain ⟨x, e, s⟩ := wL_ex s
    unfold ev
    rw [get_getV e]
    exact s
  | .k x, σ, h, Q, s => by unfold wE at s; unfold ev; exact s
  | .g j, σ, h, Q, s => by
    unfold wE at s
    obtain ⟨x, e, s⟩ := wL_ex s
    unfold ev
    rw [e]
    exact s
  | .op o a b, σ, h, Q, s => by
    unfold wE at s; unfold ev
    exact sat_bind ((sE a s).mono fun x h1 s => sat_bind ((sE b s).mono fun y h2 s => opX_sat (h' := h) s))
  | .neg a, σ, h, Q, s => by
    unfold wE at s; unfold ev
    refine sat_bind ((sE a s).mono fun x h1 s => ?_)
    obtain ⟨i, e, s⟩ := wL_ex s
    unfold negX at e
    split at e
    · cases e; exact s
    · cases e
  | .cp o a b, σ, h, Q, s => by
    unfold wE at s; unfold ev
    exact sat_bind ((sE a s).mono fun x h1 s => sat_bind ((sE b s).mono fun y h2 s => wL_bind s))
  | .ch o p a b c, σ, h, Q, s => by
    unfold wE at s; unfold ev
    refine sat_bind ((sE a s).mono fun x h1 s => sat_bind ((sE b s).mono fun y h2 s => wL_bind ?_))
    obtain ⟨r, e, s⟩ := wL_ex s
    refine wL_of e ?_
    cases r
    · exact s
    · exact sat_bind ((sE c s).mono fun z h3 s => wL_bind s)
  | .ch3 o p q a b c d, σ, h, Q, s => by
    unfold wE at s; unfold ev
    refine sat_bind ((sE a s).mono fun x h1 s => sat_bind ((sE b s).mono fun y h2 s => wL_bind ?_))
    obtain ⟨r, e, s⟩ := wL_ex s
    refine wL_of e ?_
    cases r
    · exact s
    · refine sat_bind ((sE c s).mono fun z h3 s => wL_bind ?_)
      obtain ⟨r, e, s⟩ := wL_ex s
      refine wL_of e ?_
      cases r
      · exact s
      · exact sat_bind ((sE d s).mono fun u h4 s => wL_bind s)
  | .isn n a, σ, h, Q, s => by
    unfold wE at s; unfold ev
    refine sat_bind ((sE a s).mono fun x h1 s => ?_)
    cases x with
    | v x =>
      cases x with
      | d y => cases y <;> exact s
      | ref a => exact s
      | scr n => exact s
    | fl xs => exact s
    | fd ks vs => exact s
  | .inn n a b, σ, h, Q, s => by
    unfold wE at s; unfold ev
    exact sat_bind ((sE a s).mono fun x h1 s => sat_bind ((sE b s).mono fun y h2 s => wL_bind s))
  | .an es, σ, h, Q, s => by
    unfold wE at s; unfold ev
    exact sat_bind ((sAn es s).mono fun b h1 s => s)
  | .orr es, σ, h, Q, s => by
    unfold wE at s; unfold ev
    exact sat_bind ((sOr es s).mono fun b h1 s => s)
  | .nt a, σ, h, Q, s => by
    unfold wE at s; unfold ev
    exact sat_bind ((sE a s).mono fun x h1 s => sat_bind (wB_sat s))
  | .ife c a b, σ, h, Q, s => by
    unfold wE at s; unfold ev
    refine sat_bind ((sE c s).mono fun x h1 s => sat_bind (wB_sat ?_))
    unfold wB at s ⊢
    split at s
    · rename_i r
      cases r
      · exact sE b s
      · exact sE a s
    · exact s.elim
  | .cl f as, σ, h, Q, s => by
    unfold wE at s; unfold ev
    exact sat_bind ((sEs as s).mono fun xs h1 s => s.s)
  | .pcl f as, σ, h, Q, s => by
    unfold wE at s; unfold ev
    refine sat_bind ((sEs as s).mono fun xs h1 s => ?_)
    obtain ⟨ds, e, s⟩ := wL_ex s
    try dsimp only
    rw [e]
    refine sat_bind (s.s.mono fun x _ s => ?_)
    unfold wPure at s
    split at s
    · exact s
    · exact s
    · exact s
    · exact s.elim
  | .pcb f as, σ, h, Q, s => by
    unfold wE at s; unfold ev
    refine sat_bind ((sEB as s).mono fun xs h1 s => ?_)
    obtain ⟨ds, e, s⟩ := wL_ex s
    try dsimp only
    rw [e]
    refine sat_bind (s.s.mono fun x _ s => ?_)
    obtain ⟨y, e, s⟩ := wL_ex s
    cases x with
    | v x =>
      cases x with
      | d z => cases e; exact wI_if s
      | ref a => cases e
      | scr n => cases e
    | fl xs => exact s.elim
    | fd ks vs => exact s.elim
  | .bw _, _, _, _, s => by unfold wE at s; exact s.elim
  | .rc c as, σ, h, Q, s => by
    unfold wE at s; unfold ev
    refine sat_bind ((sEs as s).mono fun xs h1 s => ?_)
    obtain ⟨C, e, s⟩ := wL_ex s
    obtain ⟨ds, e2, s⟩ := wL_ex s
    try dsimp only
    rw [e, e2]
    refine sat_bind (s.s.mono fun r h2 s => ?_)
    obtain ⟨ds, e3, k⟩ := wL_ex s
    clear s
    unfold recOf at e3
    split at e3
    · split at e3
      · split at e3
        · rename_i q1 q2
          cases e3
          try dsimp only
          (try rw [q1])
          try dsimp only
          (try rw [if_pos q2])
          exact k
        · cases e3
      · cases e3
    · cases e3
  | .mk c as, σ, h, Q, s => by
    unfold wE at s; unfold ev
    refine sat_bind ((sEs as s).mono fun xs h1 s => ?_)
    obtain ⟨C, e, s⟩ := wL_ex s
    try dsimp only
    rw [e]
    refine sat_bind (s.s.mono fun r h2 s => ?_)
    unfold isNon at s
    split at s
    · exact s
    · exact s.elim
  | .me m o as, σ, h, Q, s => by
    unfold wE at s; unfold ev
    refine sat_bind ((sE o s).mono fun x h1 s => ?_)
    obtain ⟨c, e, s⟩ := wL_ex s
    try dsimp only
    rw [e]
    refine sat_bind ((sEs as s).mono fun xs h2 s => ?_)
    obtain ⟨f, e, s⟩ := wL_ex s
    try dsimp only
    rw [e]
    exact s.s
  | .bi b as, σ, h, Q, s => by
    unfold wE at s; unfold ev
    exact sat_bind ((sEs as s).mono fun xs h1 s => wL_sat s)
  | .bm b o a, σ, h, Q, s => by
    unfold wE at s; unfold ev
    refine sat_bind ((sE o s).mono fun x h1 s => sat_bind ((sE a s).mono fun y h2 s => ?_))
    obtain ⟨x', e, s⟩ := wL_ex s
    obtain ⟨y', e2, s⟩ := wL_ex s
    exact sat_bind (xD_sat (wL_of e (sat_bind (xD_sat (wL_of e2 (wL_sat s))))))
  | .isi a t, σ, h, Q, s => by
    unfold wE at s; unfold ev
    refine sat_bind ((sE a s).mono fun x h1 s => ?_)
    obtain ⟨x', e, s⟩ := wL_ex s
    exact sat_bind (xD_sat (wL_of e (wL_bind s)))
  | .fd o f, σ, h, Q, s => by
    unfold wE at s; unfold ev
    exact sat_bind ((sE o s).mono fun x h1 s => wL_bind s)
  | .ix o i, σ, h, Q, s => by
    unfold wE at s; unfold ev
    exact sat_bind ((sE o s).mono fun x h1 s => sat_bind ((sE i s).mono fun y h2 s => wL_bind s))
  | .sl o lo hi, σ, h, Q, s => by
    unfold wE at s; unfold ev
    refine sat_bind ((sE o s).mono fun x h1 s => sat_bind ((sE lo s).mono fun y h2 s => sat_bind ((sE hi s).mono fun z h3 s => ?_)))
    obtain ⟨x', e, s⟩ := wL_ex s
    obtain ⟨y', e2, s⟩ := wL_ex s
    refine sat_bind (xD_sat (wL_of e (sat_bind (xD_sat (wL_of e2 (wI_if ?_))))))
    revert s
    cases (partOk lo x' && partOk hi y')
    · exact fun s => s.elim
    · exact fun s => wL_sat s
  | .no, σ, h, Q, s => by unfold wE at s; unfold ev; exact s
  | .lst es, σ, h, Q, s => by
    unfold wE at s; unfold ev
    refine sat_bind ((sEs es s).mono fun xs h1 s => ?_)
    obtain ⟨ds, e, s⟩ := wL_ex s
    try dsimp only
    rw [e]
    exact wI_if s
  | .tup es, σ, h, Q, s => by
    unfold wE at s; unfold ev
    refine sat_bind ((sEs es s).mono fun xs h1 s => ?_)
    obtain ⟨ds, e, s⟩ := wL_ex s
    try dsimp only
    rw [e]
    exact wI_if s
  | .dct, σ, h, Q, s => by unfold wE at s; unfold ev; exact s
  | .lc own e t it c, σ, h, Q, s => by
    unfold wE at s; unfold ev
    exact sat_bind ((sIt it s).mono fun xs h1 s => sat_bind s.s)
  | .dc own e f t it c, σ, h, Q, s => by
    unfold wE at s; unfold ev
    exact sat_bind ((sIt it s).mono fun xs h1 s => sat_bind s.s)
  | .pop o, σ, h, Q, s => by
    unfold wE at s; unfold ev
    refine sat_bind ((sE o s).mono fun x h1 s => ?_)
    obtain ⟨r, e, s⟩ := wL_ex s
    unfold popL at e
    split at e
    · split at e
      · split at e
        · rename_i q1 _ _ q2
          cases e
          try dsimp only
          (try rw [q1])
          try dsimp only
          (try rw [q2])
          exact s
        · cases e
      · cases e
    · cases e
  | .popI o i, σ, h, Q, s => by
    unfold wE at s; unfold ev
    refine sat_bind ((sE o s).mono fun x h1 s => ?_)
    obtain ⟨a, e, k⟩ := wL_ex s
    clear s
    unfold lstAt at e
    split at e
    · split at e
      · rename_i q1
        cases e
        try dsimp only
        (try rw [q1])
        try dsimp only
        refine sat_bind ((sE i k).mono fun y h2 s => ?_)
        obtain ⟨r, e, k⟩ := wL_ex s
        clear s
        unfold popAt at e
        split at e
        · split at e
          · split at e
            · split at e
              · rename_i q1 q2 _ _ q3 _ _ q4
                cases e
                try dsimp only
                (try rw [q1])
                try dsimp only
                (try rw [if_pos q2]); (try rw [q3])
                try dsimp only
                (try rw [q4])
                exact k
              · cases e
            · cases e
          · cases e
        · cases e
      · cases e
    · cases e
  | .ixO x i, σ, h, Q, s => by
    unfold wE at s; unfold ev
    refine sat_bind ((sE i s).mono fun y h1 s => ?_)
    obtain ⟨r, e, k⟩ := wL_ex s
    clear s
    unfold ixOwn at e
    split at e
    · rename_i q; (try dsimp only); (try rw [q]); exact wL_bind (wL_of e k)
    · rename_i q; (try dsimp only); (try rw [q]); exact wL_bind (wL_of e k)
    · cases e
  | .lenO x, σ, h, Q, s => by
    unfold wE at s; unfold ev
    obtain ⟨r, e, s⟩ := wL_ex s
    unfold lenOwn at e
    split at e
    · rename_i q; cases e; (try rw [q]); exact s
    · cases e
  | .innO n a x, σ, h, Q, s => by
    unfold wE at s; unfold ev
    refine sat_bind ((sE a s).mono fun y h1 s => ?_)
    obtain ⟨r, e, k⟩ := wL_ex s
    clear s
    unfold inOwn at e
    split at e
    · rename_i q; (try dsimp only); (try rw [q]); exact wL_bind (wL_of e k)
    · rename_i q; (try dsimp only); (try rw [q]); exact wL_bind (wL_of e k)
    · cases e
  | .nilO n x, σ, h, Q, s => by
    unfold wE at s; unfold ev
    obtain ⟨r, e, s⟩ := wL_ex s
    unfold nilOwn at e
    split at e
    · rename_i q; cases e; (try rw [q]); exact s
    · cases e
theorem sEs : ∀ (es : Es) {σ : St} {h : Hp} {Q : List V → Hp → Prop}, wEs T cf es σ h Q → Sat (evs T cf es σ h) Q
  | .nil, σ, h, Q, s => by unfold wEs at s; unfold evs; exact s
  | .cons e es, σ, h, Q, s => by
    unfold wEs at s; unfold evs
    exact sat_bind ((sE e s).mono fun x h1 s => sat_bind ((sEs es s).mono fun xs h2 s => s))
theorem sEx : ∀ (es : Es) {σ : St} {h : Hp} {Q : List X → Hp → Prop}, wEx T cf es σ h Q → Sat (evx T cf es σ h) Q
  | .nil, σ, h, Q, s => by unfold wEx at s; unfold evx; exact s
  | .cons e es, σ, h, Q, s => by
    unfold wEx at s; unfold evx
    exact sat_bind ((sE e s).mono fun x h1 s => sat_bind ((sEx es s).mono fun xs h2 s => s))
theorem sEB : ∀ (es : Es) {σ : St} {h : Hp} {Q : List V → Hp → Prop}, wEB T cf es σ h Q → Sat (evB T cf es σ h) Q
  | .nil, σ, h, Q, s => by unfold wEB at s; unfold evB; exact s
  | .cons e es, σ, h, Q, s => by
    by_cases hb : ∃ i, e = .bw i
    · obtain ⟨i, rfl⟩ := hb
      unfold wEB at s; unfold evB
      obtain ⟨r, e, s⟩ := wL_ex s
      unfold olOwn at e
      split at e
      · rename_i q; cases e; (try rw [q]); exact sat_bind ((sEB es s).mono fun xs h2 s => s)
      · cases e
    · rw [wEB.eq_3 _ _ _ _ _ _ _ (fun i q => hb ⟨i, q⟩)] at s
      rw [evB.eq_3 _ _ _ _ _ _ (fun i q => hb ⟨i, q⟩)]
      exact sat_bind ((sE e s).mono fun x h1 s => sat_bind ((sEB es s).mono fun xs h2 s => s))
theorem sAn : ∀ (es : Es) {σ : St} {h : Hp} {Q : Bool → Hp → Prop}, wAn T cf es σ h Q → Sat (evAn T cf es σ h) Q
  | .nil, σ, h, Q, s => by unfold wAn at s; unfold evAn; exact s
  | .cons e es, σ, h, Q, s => by
    unfold wAn at s; unfold evAn
    refine sat_bind ((sE e s).mono fun x h1 s => sat_bind (wB_sat ?_))
    unfold wB at s ⊢
    split at s
    · rename_i r
      cases r
      · exact s
      · exact sAn es s
    · exact s.elim
theorem sOr : ∀ (es : Es) {σ : St} {h : Hp} {Q : Bool → Hp → Prop}, wOr T cf es σ h Q → Sat (evOr T cf es σ h) Q
  | .nil, σ, h, Q, s => by unfold wOr at s; unfold evOr; exact s
  | .cons e es, σ, h, Q, s => by
    unfold wOr at s; unfold evOr
    refine sat_bind ((sE e s).mono fun x h1 s => sat_bind (wB_sat ?_))
    unfold wB at s ⊢
    split at s
    · rename_i r
      cases r
      · exact sOr es s
      · exact s
    · exact s.elim
theorem sIt : ∀ (it : It) {σ : St} {h : Hp} {Q : List V → Hp → Prop}, wIt T cf it σ h Q → Sat (evIt T cf it σ h) Q
  | .rng a b, σ, h, Q, s => by
    unfold wIt at s; unfold evIt
    refine sat_bind ((sE a s).mono fun x h1 s => sat_bind ((sE b s).mono fun y h2 s => ?_))
    obtain ⟨r, e, s⟩ := wL_ex s
    unfold rngX at e
    split at e
    · split at e
      · rename_i q; cases e; (try dsimp only); (try rw [if_pos q]); exact s
      · cases e
    · cases e
  | .enu e, σ, h, Q, s => by
    unfold wIt at s; unfold evIt
    refine sat_bind ((sE e s).mono fun x h1 s => ?_)
    obtain ⟨r, e, s⟩ := wL_ex s
    unfold enuX at e
    split at e
    · rename_i q; cases e; (try dsimp only); (try rw [q]); exact s
    · cases e
  | .e e, σ, h, Q, s => by
    unfold wIt at s; unfold evIt
    exact sat_bind ((sE e s).mono fun x h1 s => wL_sat s)
end
end PF
set_option linter.all false
set_option maxRecDepth 100000
set_option maxHeartbeats 1000000
namespace PF
def wNF (x : X) (K : X → Prop) : Prop := match x with
  | .v _ => False
  | .fl xs => K (.fl xs)
  | .fd ks vs => K (.fd ks vs)
def refX (x : X) : Option Nat := match x with
  | .v (.ref a) => some a
  | _ => none
def putOwn (s : Option SV) (k : X) (y : V) : Option SV := match s, k, y with
  | some (.ol xs), .v (.d (.int i)), .d y => match ixN xs.length i with
    | some j => some (.ol (xs.set j y))
    | none => none
  | some (.od ks vs), .v (.d k), .d y => if isKey k && decide (ks.length < LIM) then some (.od (dicPut k y ks vs).1 (dicPut k y ks vs).2) else none
  | _, _, _ => none
def appOwn (s : Option SV) (y : V) : Option SV := match s, y with
  | some (.ol xs), .d y => if decide (xs.length < LIM) then some (.ol (xs ++ [y])) else none
  | _, _ => none
def extOwn (s : Option SV) (y : V) : Option SV := match s, y with
  | some (.ol xs), .d (.lst ys) => if decide (xs.length + ys.length ≤ LIM) then some (.ol (xs ++ ys)) else none
  | _, _ => none
def appAt (a : Nat) (y : V) (h2 : Hp) : Option Hp := match h2[a]? with
  | some (.lst xs) => if decide (xs.length < LIM) then some (h2.set a (.lst (xs ++ [y]))) else none
  | _ => none
def dicAt (x : X) (h1 : Hp) : Option Nat := match x with
  | .v (.ref a) => match h1[a]? with
    | some (.dic _ _) => some a
    | _ => none
  | _ => none
def updAt (a : Nat) (y : V) (h2 : Hp) : Option Hp := match h2[a]?, y with
  | some (.dic ks vs), .d (.dic ls ws) => if decide (ks.length + ls.length ≤ LIM) then some (h2.set a (.dic (dicPuts ls ws ks vs).1 (dicPuts ls ws ks vs).2)) else none
  | _, _ => none
def retOwn (s : Option SV) : Option X := match s with
  | some (.ol xs) => some (.fl xs)
  | some (.od ks vs) => some (.fd ks vs)
  | _ => none
def frzOwn (s : Option SV) : Option SV := match s with
  | some (.ol xs) => some (.v (.d (.lst xs)))
  | some (.od ks vs) => some (.v (.d (.dic ks vs)))
  | _ => none
abbrev QS := St → Fl → Hp → Prop
/-- a list's spine, brought forth -/
def norm {α : Type} : List α → (List α → Prop) → Prop
  | [], k => k []
  | x :: xs, k => norm xs fun ys => k (x :: ys)
theorem norm_eq {α : Type} : ∀ {xs : List α} {k : List α → Prop}, norm xs k ↔ k xs
  | [], k => Iff.rfl
  | x :: xs, k => by unfold norm; exact norm_eq
def nX (x : X) (k : V → Prop) : Prop := match x with
  | .v v => k v
  | .fl xs => k (.d (.lst xs))
  | .fd ks vs => k (.d (.dic ks vs))
theorem nX_eq {x : X} {k : V → Prop} : nX x k = k x.toV := by cases x <;> rfl
structure LFor (T : Tab) (cf : Nat → List V → Hp → R X) (b : Ss) (t : Tg) (xs : List V) (σ : St) (h : Hp) (Q : QS) : Prop where
  s : Sat (forGo (fun σ h => execs T cf b σ h) t xs σ h) fun r h1 => Q r.1 r.2 h1
structure LWhl (T : Tab) (cf : Nat → List V → Hp → R X) (c : E) (b : Ss) (n : Nat) (σ : St) (h : Hp) (Q : QS) : Prop where
  s : Sat (whileN (fun σ h => (ev T cf c σ h).bind xB) (fun σ h => execs T cf b σ h) n σ h) fun r h1 => Q r.1 r.2 h1
section
variable (T : Tab) (cf : Nat → List V → Hp → R X)
mutual
def wS : S → St → Hp → QS → Prop
  | .set i e, σ, h, Q => wE T cf e σ h fun x h1 => nX x fun v => Q (setN σ i (.v v)) .nx h1
  | .own i e, σ, h, Q => wE T cf e σ h fun x h1 => wNF x fun x => Q (setN σ i x.sv) .nx h1
  | .setP i e, σ, h, Q => wE T cf e σ h fun x h1 => Q (setN σ i (.v (promote x h1).1)) .nx (promote x h1).2
  | .setT t e, σ, h, Q => wE T cf e σ h fun x h1 => wL (bindT (.t t) x.toV σ) fun σ1 => Q σ1 .nx h1
  | .par t es, σ, h, Q => wEx T cf es σ h fun xs h1 => wL (setPar σ t xs) fun σ1 => Q σ1 .nx h1
  | .setF p o f e, σ, h, Q => wE T cf e σ h fun y h1 => wE T cf o σ h1 fun x h2 => wL (refX x) fun a => wI p (wL (putFld T a f (promote y h2).1 (promote y h2).2) fun h3 => Q σ .nx h3) (wL (putFld T a f y.toV h2) fun h3 => Q σ .nx h3)
  | .setI o i e, σ, h, Q => wE T cf e σ h fun y h1 => wE T cf o σ h1 fun x h2 => wE T cf i σ h2 fun k h3 => wL (setIV x.toV k.toV y.toV h3) fun h4 => Q σ .nx h4
  | .setO x i e, σ, h, Q => wE T cf e σ h fun y h1 => wE T cf i σ h1 fun k h2 => wL (putOwn (get σ x) k y.toV) fun s => Q (setN σ x s) .nx h2
  | .aug i o e, σ, h, Q => wL (getV σ i) fun x => wE T cf e σ h fun y h1 => wL (opV o x y.toV) fun z => Q (setN σ i (.v z)) .nx h1
  | .augF o f p e, σ, h, Q => wE T cf o σ h fun x h1 => wL (refX x) fun a => wL (fldOf T (.ref a) f h1) fun u => wE T cf e σ h1 fun y h2 => wI (decide (clsOf (.ref a) h1 = clsOf (.ref a) h2)) (wL (opV p u y.toV) fun z => wL (putFld T a f z h2) fun h3 => Q σ .nx h3) False
  | .augI o i p e, σ, h, Q => wE T cf o σ h fun x h1 => wE T cf i σ h1 fun k h2 => wL (ixV x.toV k.toV h2) fun u => wE T cf e σ h2 fun y h3 => wL (opV p u y.toV) fun z => wL (setIV x.toV k.toV z h3) fun h4 => Q σ .nx h4
  | .app x e, σ, h, Q => wE T cf e σ h fun y h1 => wL (appOwn (get σ x) y.toV) fun s => Q (setN σ x s) .nx h1
  | .appH o e, σ, h, Q => wE T cf o σ h fun x h1 => wL (lstAt x h1) fun a => wE T cf e σ h1 fun y h2 => wL (appAt a y.toV h2) fun h3 => Q σ .nx h3
  | .ext x e, σ, h, Q => wE T cf e σ h fun y h1 => wL (extOwn (get σ x) y.toV) fun s => Q (setN σ x s) .nx h1
  | .upd o e, σ, h, Q => wE T cf o σ h fun x h1 => wL (dicAt x h1) fun a => wE T cf e σ h1 fun y h2 => wL (updAt a y.toV h2) fun h3 => Q σ .nx h3
  | .ifs c a b, σ, h, Q => wE T cf c σ h fun x h1 => wB x fun t => wI t (wSs a σ h1 Q) (wSs b σ h1 Q)
  | .whl c b, σ, h, Q => LWhl T cf c b T.W σ h Q
  | .fr t it b, σ, h, Q => wIt T cf it σ h fun xs h1 => LFor T cf b t xs σ h1 Q
  | .ret e, σ, h, Q => wE T cf e σ h fun x h1 => Q σ (.rt x) h1
  | .retO x, σ, h, Q => wL (retOwn (get σ x)) fun x => Q σ (.rt x) h
  | .retN, σ, h, Q => Q σ (.rt (dat .non)) h
  | .ex e, σ, h, Q => wE T cf e σ h fun _ h1 => Q σ .nx h1
  | .pass, σ, h, Q => Q σ .nx h
  | .brk, σ, h, Q => Q σ .bk h
  | .cnt, σ, h, Q => Q σ .ct h
  | .frz x, σ, h, Q => wL (frzOwn (get σ x)) fun s => Q (setN σ x s) .nx h
  | .rais c as, σ, h, Q => False
def wSs : Ss → St → Hp → QS → Prop
  | .nil, σ, h, Q => Q σ .nx h
  | .cons s ss, σ, h, Q => wS s σ h fun σ1 f h1 => match f with
    | .nx => norm σ1 fun σ1 => wSs ss σ1 h1 Q
    | .rt x => Q σ1 (.rt x) h1
    | .bk => Q σ1 .bk h1
    | .ct => Q σ1 .ct h1
end
end
variable {T : Tab} {cf : Nat → List V → Hp → R X}
abbrev qs (Q : QS) : (St × Fl) → Hp → Prop := fun r h => Q r.1 r.2 h
mutual
theorem sS : ∀ (s : S) {σ : St} {h : Hp} {Q : QS}, wS T cf s σ h Q → Sat (exec T cf s σ h) (qs Q)
  | .set i e, σ, h, Q, s => by
    unfold wS at s; unfold exec
    exact sat_bind ((sE e s).mono fun x h1 s => by rw [nX_eq] at s; exact s)
  | .own i e, σ, h, Q, s => by
    unfold wS at s; unfold exec
    refine sat_bind ((sE e s).mono fun x h1 s => ?_)
    cases x with
    | v x => exact s.elim
    | fl xs => exact s
    | fd ks vs => exact s
  | .setP i e, σ, h, Q, s => by
    unfold wS at s; unfold exec
    exact sat_bind ((sE e s).mono fun x h1 s => s)
  | .setT t e, σ, h, Q, s => by
    unfold wS at s; unfold exec
    refine sat_bind ((sE e s).mono fun x h1 s => ?_)
    obtain ⟨r, e, k⟩ := wL_ex s
    try dsimp only
    rw [e]
    exact k
  | .par t es, σ, h, Q, s => by
    unfold wS at s; unfold exec
    refine sat_bind ((sEx es s).mono fun x h1 s => ?_)
    obtain ⟨r, e, k⟩ := wL_ex s
    try dsimp only
    rw [e]
    exact k
  | .setF p o f e, σ, h, Q, s => by
    unfold wS at s; unfold exec
    refine sat_bind ((sE e s).mono fun x h1 s => sat_bind ((sE o s).mono fun y h2 s => ?_))
    obtain ⟨r, e, k⟩ := wL_ex s
    clear s
    cases y with
    | v y =>
      cases y with
      | ref a =>
        cases e
        cases p
        · exact wL_bind k
        · exact wL_bind k
      | d _ => cases e
      | scr _ => cases e
    | fl _ => cases e
    | fd _ _ => cases e
  | .setI o i e, σ, h, Q, s => by
    unfold wS at s; unfold exec
    exact sat_bind ((sE e s).mono fun y h1 s => sat_bind ((sE o s).mono fun x h2 s => sat_bind ((sE i s).mono fun k h3 s => wL_bind s)))
  | .setO x i e, σ, h, Q, s => by
    unfold wS at s; unfold exec
    refine sat_bind ((sE e s).mono fun y h1 s => sat_bind ((sE i s).mono fun k h2 s => ?_))
    obtain ⟨r, e, kk⟩ := wL_ex s
    clear s
    unfold putOwn at e
    split at e
    · split at e
      · rename_i q1 q2 _ _ q3
        cases e
        (try dsimp only)
        (try rw [q1]); (try rw [q2])
        (try dsimp only)
        (try rw [q3])
        exact kk
      · cases e
    · split at e
      · rename_i q1 q2 q3
        cases e
        (try dsimp only)
        (try rw [q1]); (try rw [q2])
        (try dsimp only)
        (try rw [if_pos q3])
        exact kk
      · cases e
    · cases e
  | .aug i o e, σ, h, Q, s => by
    unfold wS at s; unfold exec
    obtain ⟨x, q, s⟩ := wL_ex s
    rw [get_getV q]
    exact sat_bind ((sE e s).mono fun y h1 s => wL_bind s)
  | .augF o f p e, σ, h, Q, s => by
    unfold wS at s; unfold exec
    refine sat_bind ((sE o s).mono fun x h1 s => ?_)
    obtain ⟨r, q, k⟩ := wL_ex s
    clear s
    cases x with
    | v y =>
      cases y with
      | ref a =>
        cases q
        refine wL_bind ?_
        obtain ⟨u, q, s⟩ := wL_ex k
        refine wL_of q (sat_bind ((sE e s).mono fun y h2 s => ?_))
        by_cases hc : clsOf (.ref r) h1 = clsOf (.ref r) h2
        · rw [if_pos hc]
          rw [decide_eq_true hc] at s
          refine wL_bind ?_
          obtain ⟨z, q, s⟩ := wL_ex s
          exact wL_of q (wL_bind s)
        · rw [decide_eq_false hc] at s
          exact s.elim
      | d _ => cases q
      | scr _ => cases q
    | fl _ => cases q
    | fd _ _ => cases q
  | .augI o i p e, σ, h, Q, s => by
    unfold wS at s; unfold exec
    refine sat_bind ((sE o s).mono fun x h1 s => sat_bind ((sE i s).mono fun k h2 s => wL_bind ?_))
    obtain ⟨u, q, s⟩ := wL_ex s
    refine wL_of q (sat_bind ((sE e s).mono fun y h2 s => wL_bind ?_))
    obtain ⟨z, q, s⟩ := wL_ex s
    exact wL_of q (wL_bind s)
  | .app x e, σ, h, Q, s => by
    unfold wS at s; unfold exec
    refine sat_bind ((sE e s).mono fun y h1 s => ?_)
    obtain ⟨r, e, kk⟩ := wL_ex s
    clear s
    unfold appOwn at e
    split at e
    · split at e
      · rename_i q1 q2 q3
        cases e
        (try dsimp only)
        (try rw [q1]); (try rw [q2])
        (try dsimp only)
        (try rw [if_pos q3])
        exact kk
      · cases e
    · cases e
  | .appH o e, σ, h, Q, s => by
    unfold wS at s; unfold exec
    refine sat_bind ((sE o s).mono fun x h1 s => ?_)
    obtain ⟨a, q, k⟩ := wL_ex s
    clear s
    unfold lstAt at q
    split at q
    · split at q
      · rename_i q1
        cases q
        (try dsimp only)
        (try rw [q1])
        (try dsimp only)
        refine sat_bind ((sE e k).mono fun y h2 s => ?_)
        obtain ⟨h3, q, k⟩ := wL_ex s
        clear s
        unfold appAt at q
        split at q
        · split at q
          · rename_i q1 q2
            cases q
            (try dsimp only)
            (try rw [q1])
            (try dsimp only)
            (try rw [if_pos q2])
            exact k
          · cases q
        · cases q
      · cases q
    · cases q
  | .ext x e, σ, h, Q, s => by
    unfold wS at s; unfold exec
    refine sat_bind ((sE e s).mono fun y h1 s => ?_)
    obtain ⟨r, e, kk⟩ := wL_ex s
    clear s
    unfold extOwn at e
    split at e
    · split at e
      · rename_i q1 q2 q3
        cases e
        (try dsimp only)
        (try rw [q1]); (try rw [q2])
        (try dsimp only)
        (try rw [if_pos q3])
        exact kk
      · cases e
    · cases e
  | .upd o e, σ, h, Q, s => by
    unfold wS at s; unfold exec
    refine sat_bind ((sE o s).mono fun x h1 s => ?_)
    obtain ⟨a, q, k⟩ := wL_ex s
    clear s
    unfold dicAt at q
    split at q
    · split at q
      · rename_i q1
        cases q
        (try dsimp only)
        (try rw [q1])
        (try dsimp only)
        refine sat_bind ((sE e k).mono fun y h2 s => ?_)
        obtain ⟨h3, q, k⟩ := wL_ex s
        clear s
        unfold updAt at q
        split at q
        · split at q
          · rename_i q1 q2 q3
            cases q
            (try dsimp only)
            (try rw [q1]); (try rw [q2])
            (try dsimp only)
            (try rw [if_pos q3])
            exact k
          · cases q
        · cases q
      · cases q
    · cases q
  | .ifs c a b, σ, h, Q, s => by
    unfold wS at s; unfold exec
    refine sat_bind ((sE c s).mono fun x h1 s => sat_bind (wB_sat ?_))
    unfold wB at s ⊢
    split at s
    · rename_i r
      cases r
      · exact sSs b s
      · exact sSs a s
    · exact s.elim
  | .whl c b, σ, h, Q, s => by
    unfold wS at s; unfold exec
    exact s.s
  | .fr t it b, σ, h, Q, s => by
    unfold wS at s; unfold exec
    exact sat_bind ((sIt it s).mono fun xs h1 s => s.s)
  | .ret e, σ, h, Q, s => by
    unfold wS at s; unfold exec
    exact sat_bind ((sE e s).mono fun x h1 s => s)
  | .retO x, σ, h, Q, s => by
    unfold wS at s; unfold exec
    obtain ⟨r, e, k⟩ := wL_ex s
    clear s
    unfold retOwn at e
    split at e
    · rename_i q; cases e; (try rw [q]); exact k
    · rename_i q; cases e; (try rw [q]); exact k
    · cases e
  | .retN, σ, h, Q, s => by unfold wS at s; unfold exec; exact s
  | .ex e, σ, h, Q, s => by
    unfold wS at s; unfold exec
    exact sat_bind ((sE e s).mono fun x h1 s => s)
  | .pass, σ, h, Q, s => by unfold wS at s; unfold exec; exact s
  | .brk, σ, h, Q, s => by unfold wS at s; unfold exec; exact s
  | .cnt, σ, h, Q, s => by unfold wS at s; unfold exec; exact s
  | .frz x, σ, h, Q, s => by
    unfold wS at s; unfold exec
    obtain ⟨r, e, k⟩ := wL_ex s
    clear s
    unfold frzOwn at e
    split at e
    · rename_i q; cases e; (try rw [q]); exact k
    · rename_i q; cases e; (try rw [q]); exact k
    · cases e
  | .rais c as, σ, h, Q, s => by unfold wS at s; exact s.elim
theorem sSs : ∀ (ss : Ss) {σ : St} {h : Hp} {Q : QS}, wSs T cf ss σ h Q → Sat (execs T cf ss σ h) (qs Q)
  | .nil, σ, h, Q, s => by unfold wSs at s; unfold execs; exact s
  | .cons s ss, σ, h, Q, k => by
    unfold wSs at k; unfold execs
    refine sat_bind ((sS s k).mono fun r h1 k => ?_)
    obtain ⟨σ1, fl⟩ := r
    cases fl with
    | nx => exact sSs ss (norm_eq.mp k)
    | rt x => exact k
    | bk => exact k
    | ct => exact k
end
/-! ### calls and loops -/
theorem Call.mono {f : Nat} {xs : List V} {h : Hp} {Q Q' : X → Hp → Prop} (s : Call cf f xs h Q) (m : ∀ a h, Q a h → Q' a h) : Call cf f xs h Q' := ⟨s.s.mono m⟩
/-- what a def's body must end with -/
def QF (Q : X → Hp → Prop) : QS := fun _ fl h => match fl with
  | .nx => Q (dat .non) h
  | .rt x => Q x h
  | .bk => False
  | .ct => False
theorem call_in {d f : Nat} {fn : Fn} {args : List V} {h : Hp} {Q : X → Hp → Prop} (hf : T.fns f = some fn) (hl : args.length = fn.np)
    (s : norm (args.map (fun v => some (.v v)) ++ List.replicate (fn.ns - fn.np) none) fun σ => wSs T (callF T d) fn.body σ h (QF Q)) : Call (callF T (d + 1)) f args h Q := by
  rw [norm_eq] at s
  constructor
  unfold callF
  rw [hf]
  show Sat (runF T (callF T d) fn args h) Q
  unfold runF
  rw [if_pos hl]
  refine sat_bind ((sSs _ s).mono fun r h1 q => ?_)
  obtain ⟨σ, fl⟩ := r
  cases fl <;> exact q
theorem for_nil {b : Ss} {t : Tg} {σ : St} {h : Hp} {Q : QS} (q : Q σ .nx h) : LFor T cf b t [] σ h Q := ⟨by unfold forGo; exact q⟩
/-- one turn of a for -/
def QT (P : St → Hp → Prop) (Q : QS) : QS := fun σ fl h => match fl with
  | .nx => P σ h
  | .ct => P σ h
  | .bk => Q σ .nx h
  | .rt x => Q σ (.rt x) h
theorem for_cons {b : Ss} {t : Tg} {x : V} {r : List V} {σ : St} {h : Hp} {Q : QS} (s : wL (bindT t x σ) fun σ1 => wSs T cf b σ1 h (QT (fun σ h => LFor T cf b t r σ h Q) Q)) : LFor T cf b t (x :: r) σ h Q := ⟨by
  unfold forGo
  obtain ⟨σ1, e, s⟩ := wL_ex s
  rw [e]
  refine sat_bind ((sSs b s).mono fun q h1 k => ?_)
  obtain ⟨σ2, fl⟩ := q
  cases fl with
  | nx => exact k.s
  | ct => exact k.s
  | bk => exact k
  | rt x => exact k⟩
theorem for_inv {b : Ss} {t : Tg} {Q : QS} (I : List V → St → Hp → Prop) (step : ∀ x r σ h, I (x :: r) σ h → wL (bindT t x σ) fun σ1 => wSs T cf b σ1 h (QT (I r) Q)) (fin : ∀ σ h, I [] σ h → Q σ .nx h) : ∀ (xs : List V) {σ : St} {h : Hp}, I xs σ h → LFor T cf b t xs σ h Q
  | [], σ, h, i => for_nil (fin σ h i)
  | x :: r, σ, h, i => ⟨by
    unfold forGo
    obtain ⟨σ1, e, s⟩ := wL_ex (step x r σ h i)
    rw [e]
    refine sat_bind ((sSs b s).mono fun q h1 k => ?_)
    obtain ⟨σ2, fl⟩ := q
    cases fl with
    | nx => exact (for_inv I step fin r k).s
    | ct => exact (for_inv I step fin r k).s
    | bk => exact k
    | rt x => exact k⟩
/-- a while by a measure: m turns at most -/
theorem whl_inv {c : E} {b : Ss} {Q : QS} (I : Nat → St → Hp → Prop) (step : ∀ m σ h, I m σ h → wE T cf c σ h fun x h1 => wB x fun t => wI t (∃ m', m = m' + 1 ∧ wSs T cf b σ h1 (QT (I m') Q)) (Q σ .nx h1)) : ∀ (m n : Nat) {σ : St} {h : Hp}, m < n → I m σ h → LWhl T cf c b n σ h Q := by
  intro m
  induction m with
  | zero =>
    intro n σ h hn i
    obtain ⟨n, rfl⟩ : ∃ k, n = k + 1 := ⟨n - 1, by omega⟩
    constructor
    unfold whileN
    refine sat_bind (sat_bind ((sE c (step 0 σ h i)).mono fun x h1 s => wB_sat ?_))
    unfold wB at s ⊢
    split at s
    · rename_i t
      cases t
      · exact s
      · obtain ⟨m', hm, _⟩ := s; omega
    · exact s.elim
  | succ m ih =>
    intro n σ h hn i
    obtain ⟨n, rfl⟩ : ∃ k, n = k + 1 := ⟨n - 1, by omega⟩
    constructor
    unfold whileN
    refine sat_bind (sat_bind ((sE c (step (m + 1) σ h i)).mono fun x h1 s => wB_sat ?_))
    unfold wB at s ⊢
    split at s
    · rename_i t
      cases t
      · exact s
      · obtain ⟨m', hm, s⟩ := s
        have hm' : m' = m := by omega
        subst hm'
        refine sat_bind ((sSs b s).mono fun q h2 k => ?_)
        obtain ⟨σ2, fl⟩ := q
        cases fl with
        | nx => exact (ih n (by omega) k).s
        | ct => exact (ih n (by omega) k).s
        | bk => exact k
        | rt x => exact k
    · exact s.elim
theorem lc_inv {c : Es} {e : E} {t : Tg} {σ : St} {Q : List D → Hp → Prop} (I : List V → List D → Hp → Prop) (step : ∀ x r acc h, I (x :: r) acc h → wL (bindT t x σ) fun σ1 => wAn T cf c σ1 h fun b h1 => wI b (wE T cf e σ1 h1 fun y h2 => wL y.toV.toD fun y => acc.length < LIM ∧ I r (acc ++ [y]) h2) (I r acc h1)) (fin : ∀ acc h, I [] acc h → Q acc h) : ∀ (xs : List V) {acc : List D} {h : Hp}, I xs acc h → LLc (fun σ h => evAn T cf c σ h) (fun σ h => (ev T cf e σ h).bind xD) t σ xs acc h Q
  | [], acc, h, i => ⟨fin acc h i⟩
  | x :: r, acc, h, i => ⟨by
    unfold lcGo
    obtain ⟨σ1, q, s⟩ := wL_ex (step x r acc h i)
    (try rw [q])
    refine sat_bind ((sAn c s).mono fun b h1 s => ?_)
    cases b
    · exact (lc_inv I step fin r s).s
    · refine sat_bind (sat_bind ((sE e s).mono fun y h2 s => wL_sat ?_))
      obtain ⟨z, q, hl, s⟩ := wL_ex s
      refine wL_of q ?_
      rw [if_pos (decide_eq_true hl)]
      exact (lc_inv I step fin r s).s⟩
theorem dc_inv {c : Es} {e f : E} {t : Tg} {σ : St} {Q : List D × List D → Hp → Prop} (I : List V → List D → List D → Hp → Prop) (step : ∀ x r ks vs h, I (x :: r) ks vs h → wL (bindT t x σ) fun σ1 => wAn T cf c σ1 h fun b h1 => wI b (wE T cf e σ1 h1 fun k h2 => wL k.toV.toD fun k => wE T cf f σ1 h2 fun y h3 => wL y.toV.toD fun y => (isKey k = true ∧ ks.length < LIM) ∧ I r (dicPut k y ks vs).1 (dicPut k y ks vs).2 h3) (I r ks vs h1)) (fin : ∀ ks vs h, I [] ks vs h → Q (ks, vs) h) : ∀ (xs : List V) {ks vs : List D} {h : Hp}, I xs ks vs h → LDc (fun σ h => evAn T cf c σ h) (fun σ h => (ev T cf e σ h).bind xD) (fun σ h => (ev T cf f σ h).bind xD) t σ xs ks vs h Q
  | [], ks, vs, h, i => ⟨fin ks vs h i⟩
  | x :: r, ks, vs, h, i => ⟨by
    unfold dcGo
    obtain ⟨σ1, q, s⟩ := wL_ex (step x r ks vs h i)
    (try rw [q])
    refine sat_bind ((sAn c s).mono fun b h1 s => ?_)
    cases b
    · exact (dc_inv I step fin r s).s
    · refine sat_bind (sat_bind ((sE e s).mono fun y h2 s => wL_sat ?_))
      obtain ⟨k, q, s⟩ := wL_ex s
      refine wL_of q (sat_bind (sat_bind ((sE f s).mono fun y h3 s => wL_sat ?_)))
      obtain ⟨z, q, ⟨hk, hl⟩, s⟩ := wL_ex s
      refine wL_of q ?_
      rw [if_pos (by rw [hk, decide_eq_true hl]; rfl)]
      exact (dc_inv I step fin r s).s⟩
end PF
set_option linter.all false
set_option maxRecDepth 100000
set_option maxHeartbeats 1000000
namespace PF
variable {T : Tab} {cf : Nat → List V → Hp → R X}
theorem wL_mono {α : Type} {o : Option α} {K K' : α → Prop} (m : ∀ a, K a → K' a) (s : wL o K) : wL o K' := by
  cases o with
  | none => exact s
  | some a => exact m a s
theorem wI_mono {b : Bool} {A B A' B' : Prop} (m : A → A') (n : B → B') (s : wI b A B) : wI b A' B' := by
  cases b
  · exact n s
  · exact m s
theorem wB_mono {x : X} {K K' : Bool → Prop} (m : ∀ b, K b → K' b) (s : wB x K) : wB x K' := by
  unfold wB at s ⊢
  split at s
  · exact m _ s
  · exact s
theorem LLc.mono {cond : St → Hp → R Bool} {elt : St → Hp → R D} {t : Tg} {σ : St} {xs : List V} {acc : List D} {h : Hp} {Q Q' : List D → Hp → Prop} (m : ∀ a h, Q a h → Q' a h) (s : LLc cond elt t σ xs acc h Q) : LLc cond elt t σ xs acc h Q' := ⟨s.s.mono m⟩
theorem LDc.mono {cond : St → Hp → R Bool} {key elt : St → Hp → R D} {t : Tg} {σ : St} {xs : List V} {ks vs : List D} {h : Hp} {Q Q' : List D × List D → Hp → Prop} (m : ∀ a h, Q a h → Q' a h) (s : LDc cond key elt t σ xs ks vs h Q) : LDc cond key elt t σ xs ks vs h Q' := ⟨s.s.mono m⟩
mutual
theorem mE : ∀ (e : E) {σ : St} {h : Hp} {Q Q' : X → Hp → Prop}, (∀ x h, Q x h → Q' x h) → wE T cf e σ h Q → wE T cf e σ h Q'
  | .v i, σ, h, Q, Q', m, s => by unfold wE at s ⊢; exact wL_mono (fun x s => m _ _ s) s
  | .k x, σ, h, Q, Q', m, s => by unfold wE at s ⊢; exact m _ _ s
  | .g j, σ, h, Q, Q', m, s => by unfold wE at s ⊢; exact wL_mono (fun x s => m _ _ s) s
  | .op o a b, σ, h, Q, Q', m, s => by unfold wE at s ⊢; exact mE a (fun x h s => mE b (fun y h s => wL_mono (fun r s => m _ _ s) s) s) s
  | .neg a, σ, h, Q, Q', m, s => by unfold wE at s ⊢; exact mE a (fun x h s => wL_mono (fun r s => m _ _ s) s) s
  | .cp o a b, σ, h, Q, Q', m, s => by unfold wE at s ⊢; exact mE a (fun x h s => mE b (fun y h s => wL_mono (fun r s => m _ _ s) s) s) s
  | .ch o p a b c, σ, h, Q, Q', m, s => by unfold wE at s ⊢; exact mE a (fun x h s => mE b (fun y h s => wL_mono (fun r s => wI_mono (fun s => mE c (fun z h s => wL_mono (fun r s => m _ _ s) s) s) (m _ _) s) s) s) s
  | .ch3 o p q a b c d, σ, h, Q, Q', m, s => by unfold wE at s ⊢; exact mE a (fun x h s => mE b (fun y h s => wL_mono (fun r s => wI_mono (fun s => mE c (fun z h s => wL_mono (fun r s => wI_mono (fun s => mE d (fun u h s => wL_mono (fun r s => m _ _ s) s) s) (m _ _) s) s) s) (m _ _) s) s) s) s
  | .isn n a, σ, h, Q, Q', m, s => by unfold wE at s ⊢; exact mE a (fun x h s => m _ _ s) s
  | .inn n a b, σ, h, Q, Q', m, s => by unfold wE at s ⊢; exact mE a (fun x h s => mE b (fun y h s => wL_mono (fun r s => m _ _ s) s) s) s
  | .an es, σ, h, Q, Q', m, s => by unfold wE at s ⊢; exact mAn es (fun b h s => m _ _ s) s
  | .orr es, σ, h, Q, Q', m, s => by unfold wE at s ⊢; exact mOr es (fun b h s => m _ _ s) s
  | .nt a, σ, h, Q, Q', m, s => by unfold wE at s ⊢; exact mE a (fun x h s => wB_mono (fun r s => m _ _ s) s) s
  | .ife c a b, σ, h, Q, Q', m, s => by unfold wE at s ⊢; exact mE c (fun x h s => wB_mono (fun r s => wI_mono (mE a m) (mE b m) s) s) s
  | .cl f as, σ, h, Q, Q', m, s => by unfold wE at s ⊢; exact mEs as (fun xs h s => s.mono m) s
  | .pcl f as, σ, h, Q, Q', m, s => by
    unfold wE at s ⊢
    refine mEs as (fun xs h1 s => wL_mono (fun _ s => s.mono fun x h2 s => ?_) s) s
    unfold wPure at s ⊢
    split at s
    · exact m _ _ s
    · exact m _ _ s
    · exact m _ _ s
    · exact s.elim
  | .pcb f as, σ, h, Q, Q', m, s => by unfold wE at s ⊢; exact mEB as (fun xs h1 s => wL_mono (fun _ s => s.mono fun x h2 s => wL_mono (fun y s => wI_mono (m _ _) id s) s) s) s
  | .bw _, _, _, _, _, _, s => by unfold wE at s ⊢; exact s
  | .rc c as, σ, h, Q, Q', m, s => by unfold wE at s ⊢; exact mEs as (fun xs h1 s => wL_mono (fun C s => wL_mono (fun _ s => s.mono fun r h2 s => wL_mono (fun ds s => m _ _ s) s) s) s) s
  | .mk c as, σ, h, Q, Q', m, s => by unfold wE at s ⊢; exact mEs as (fun xs h1 s => wL_mono (fun C s => s.mono fun r h2 s => wI_mono (m _ _) id s) s) s
  | .me i o as, σ, h, Q, Q', m, s => by unfold wE at s ⊢; exact mE o (fun x h1 s => wL_mono (fun c s => mEs as (fun xs h2 s => wL_mono (fun f s => s.mono m) s) s) s) s
  | .bi b as, σ, h, Q, Q', m, s => by unfold wE at s ⊢; exact mEs as (fun xs h1 s => wL_mono (fun r s => m _ _ s) s) s
  | .bm b o a, σ, h, Q, Q', m, s => by unfold wE at s ⊢; exact mE o (fun x h1 s => mE a (fun y h2 s => wL_mono (fun x s => wL_mono (fun y s => wL_mono (fun r s => m _ _ s) s) s) s) s) s
  | .isi a t, σ, h, Q, Q', m, s => by unfold wE at s ⊢; exact mE a (fun x h1 s => wL_mono (fun x s => wL_mono (fun b s => m _ _ s) s) s) s
  | .fd o f, σ, h, Q, Q', m, s => by unfold wE at s ⊢; exact mE o (fun x h1 s => wL_mono (fun b s => m _ _ s) s) s
  | .ix o i, σ, h, Q, Q', m, s => by unfold wE at s ⊢; exact mE o (fun x h s => mE i (fun y h s => wL_mono (fun r s => m _ _ s) s) s) s
  | .sl o lo hi, σ, h, Q, Q', m, s => by unfold wE at s ⊢; exact mE o (fun x h s => mE lo (fun y h s => mE hi (fun z h s => wL_mono (fun _ s => wL_mono (fun _ s => wI_mono (wL_mono (fun r s => m _ _ s)) id s) s) s) s) s) s
  | .no, σ, h, Q, Q', m, s => by unfold wE at s ⊢; exact m _ _ s
  | .lst es, σ, h, Q, Q', m, s => by unfold wE at s ⊢; exact mEs es (fun xs h s => wL_mono (fun ds s => wI_mono (m _ _) id s) s) s
  | .tup es, σ, h, Q, Q', m, s => by unfold wE at s ⊢; exact mEs es (fun xs h s => wL_mono (fun ds s => wI_mono (m _ _) id s) s) s
  | .dct, σ, h, Q, Q', m, s => by unfold wE at s ⊢; exact m _ _ s
  | .lc own e t it c, σ, h, Q, Q', m, s => by unfold wE at s ⊢; exact mIt it (fun xs h s => s.mono fun ys h s => m _ _ s) s
  | .dc own e f t it c, σ, h, Q, Q', m, s => by unfold wE at s ⊢; exact mIt it (fun xs h s => s.mono fun ys h s => m _ _ s) s
  | .pop o, σ, h, Q, Q', m, s => by unfold wE at s ⊢; exact mE o (fun x h s => wL_mono (fun r s => m _ _ s) s) s
  | .popI o i, σ, h, Q, Q', m, s => by unfold wE at s ⊢; exact mE o (fun x h s => wL_mono (fun a s => mE i (fun y h s => wL_mono (fun r s => m _ _ s) s) s) s) s
  | .ixO x i, σ, h, Q, Q', m, s => by unfold wE at s ⊢; exact mE i (fun x h s => wL_mono (fun r s => m _ _ s) s) s
  | .lenO x, σ, h, Q, Q', m, s => by unfold wE at s ⊢; exact wL_mono (fun r s => m _ _ s) s
  | .innO n a x, σ, h, Q, Q', m, s => by unfold wE at s ⊢; exact mE a (fun x h s => wL_mono (fun r s => m _ _ s) s) s
  | .nilO n x, σ, h, Q, Q', m, s => by unfold wE at s ⊢; exact wL_mono (fun r s => m _ _ s) s
theorem mEs : ∀ (es : Es) {σ : St} {h : Hp} {Q Q' : List V → Hp → Prop}, (∀ x h, Q x h → Q' x h) → wEs T cf es σ h Q → wEs T cf es σ h Q'
  | .nil, σ, h, Q, Q', m, s => by unfold wEs at s ⊢; exact m _ _ s
  | .cons e es, σ, h, Q, Q', m, s => by unfold wEs at s ⊢; exact mE e (fun x h s => mEs es (fun xs h s => m _ _ s) s) s
theorem mEx : ∀ (es : Es) {σ : St} {h : Hp} {Q Q' : List X → Hp → Prop}, (∀ x h, Q x h → Q' x h) → wEx T cf es σ h Q → wEx T cf es σ h Q'
  | .nil, σ, h, Q, Q', m, s => by unfold wEx at s ⊢; exact m _ _ s
  | .cons e es, σ, h, Q, Q', m, s => by unfold wEx at s ⊢; exact mE e (fun x h s => mEx es (fun xs h s => m _ _ s) s) s
theorem mEB : ∀ (es : Es) {σ : St} {h : Hp} {Q Q' : List V → Hp → Prop}, (∀ x h, Q x h → Q' x h) → wEB T cf es σ h Q → wEB T cf es σ h Q'
  | .nil, σ, h, Q, Q', m, s => by unfold wEB at s ⊢; exact m _ _ s
  | .cons e es, σ, h, Q, Q', m, s => by
    by_cases hb : ∃ i, e = .bw i
    · obtain ⟨i, rfl⟩ := hb
      unfold wEB at s ⊢
      exact wL_mono (fun xs s => mEB es (fun ys h s => m _ _ s) s) s
    · rw [wEB.eq_3 _ _ _ _ _ _ _ (fun i q => hb ⟨i, q⟩)] at s ⊢
      exact mE e (fun x h s => mEB es (fun xs h s => m _ _ s) s) s
theorem mAn : ∀ (es : Es) {σ : St} {h : Hp} {Q Q' : Bool → Hp → Prop}, (∀ x h, Q x h → Q' x h) → wAn T cf es σ h Q → wAn T cf es σ h Q'
  | .nil, σ, h, Q, Q', m, s => by unfold wAn at s ⊢; exact m _ _ s
  | .cons e es, σ, h, Q, Q', m, s => by unfold wAn at s ⊢; exact mE e (fun x h s => wB_mono (fun b s => wI_mono (mAn es m) (m _ _) s) s) s
theorem mOr : ∀ (es : Es) {σ : St} {h : Hp} {Q Q' : Bool → Hp → Prop}, (∀ x h, Q x h → Q' x h) → wOr T cf es σ h Q → wOr T cf es σ h Q'
  | .nil, σ, h, Q, Q', m, s => by unfold wOr at s ⊢; exact m _ _ s
  | .cons e es, σ, h, Q, Q', m, s => by unfold wOr at s ⊢; exact mE e (fun x h s => wB_mono (fun b s => wI_mono (m _ _) (mOr es m) s) s) s
theorem mIt : ∀ (it : It) {σ : St} {h : Hp} {Q Q' : List V → Hp → Prop}, (∀ x h, Q x h → Q' x h) → wIt T cf it σ h Q → wIt T cf it σ h Q'
  | .rng a b, σ, h, Q, Q', m, s => by unfold wIt at s ⊢; exact mE a (fun x h s => mE b (fun y h s => wL_mono (fun r s => m _ _ s) s) s) s
  | .enu e, σ, h, Q, Q', m, s => by unfold wIt at s ⊢; exact mE e (fun x h s => wL_mono (fun r s => m _ _ s) s) s
  | .e e, σ, h, Q, Q', m, s => by unfold wIt at s ⊢; exact mE e (fun x h s => wL_mono (fun r s => m _ _ s) s) s
end
theorem wNF_mono {x : X} {K K' : X → Prop} (m : ∀ b, K b → K' b) (s : wNF x K) : wNF x K' := by
  cases x with
  | v x => exact s
  | fl xs => exact m _ s
  | fd ks vs => exact m _ s
mutual
theorem mS : ∀ (s : S) {σ : St} {h : Hp} {Q Q' : QS}, (∀ σ f h, Q σ f h → Q' σ f h) → wS T cf s σ h Q → wS T cf s σ h Q'
  | .set i e, σ, h, Q, Q', m, s => by unfold wS at s ⊢; exact mE e (fun x h s => by rw [nX_eq] at s ⊢; exact m _ _ _ s) s
  | .own i e, σ, h, Q, Q', m, s => by unfold wS at s ⊢; exact mE e (fun x h s => wNF_mono (fun x s => m _ _ _ s) s) s
  | .setP i e, σ, h, Q, Q', m, s => by unfold wS at s ⊢; exact mE e (fun x h s => m _ _ _ s) s
  | .setT t e, σ, h, Q, Q', m, s => by unfold wS at s ⊢; exact mE e (fun x h s => wL_mono (fun σ s => m _ _ _ s) s) s
  | .par t es, σ, h, Q, Q', m, s => by unfold wS at s ⊢; exact mEx es (fun x h s => wL_mono (fun σ s => m _ _ _ s) s) s
  | .setF p o f e, σ, h, Q, Q', m, s => by unfold wS at s ⊢; exact mE e (fun y h s => mE o (fun x h s => wL_mono (fun a s => wI_mono (wL_mono fun h s => m _ _ _ s) (wL_mono fun h s => m _ _ _ s) s) s) s) s
  | .setI o i e, σ, h, Q, Q', m, s => by unfold wS at s ⊢; exact mE e (fun y h s => mE o (fun x h s => mE i (fun k h s => wL_mono (fun h s => m _ _ _ s) s) s) s) s
  | .setO x i e, σ, h, Q, Q', m, s => by unfold wS at s ⊢; exact mE e (fun y h s => mE i (fun k h s => wL_mono (fun h s => m _ _ _ s) s) s) s
  | .aug i o e, σ, h, Q, Q', m, s => by unfold wS at s ⊢; exact wL_mono (fun x s => mE e (fun y h s => wL_mono (fun z s => m _ _ _ s) s) s) s
  | .augF o f p e, σ, h, Q, Q', m, s => by unfold wS at s ⊢; exact mE o (fun x h s => wL_mono (fun a s => wL_mono (fun u s => mE e (fun y h s => wI_mono (wL_mono fun z s => wL_mono (fun h s => m _ _ _ s) s) id s) s) s) s) s
  | .augI o i p e, σ, h, Q, Q', m, s => by unfold wS at s ⊢; exact mE o (fun x h s => mE i (fun k h s => wL_mono (fun u s => mE e (fun y h s => wL_mono (fun z s => wL_mono (fun h s => m _ _ _ s) s) s) s) s) s) s
  | .app x e, σ, h, Q, Q', m, s => by unfold wS at s ⊢; exact mE e (fun y h s => wL_mono (fun z s => m _ _ _ s) s) s
  | .appH o e, σ, h, Q, Q', m, s => by unfold wS at s ⊢; exact mE o (fun x h s => wL_mono (fun a s => mE e (fun y h s => wL_mono (fun z s => m _ _ _ s) s) s) s) s
  | .ext x e, σ, h, Q, Q', m, s => by unfold wS at s ⊢; exact mE e (fun y h s => wL_mono (fun z s => m _ _ _ s) s) s
  | .upd o e, σ, h, Q, Q', m, s => by unfold wS at s ⊢; exact mE o (fun x h s => wL_mono (fun a s => mE e (fun y h s => wL_mono (fun z s => m _ _ _ s) s) s) s) s
  | .ifs c a b, σ, h, Q, Q', m, s => by unfold wS at s ⊢; exact mE c (fun x h s => wB_mono (fun t s => wI_mono (mSs a m) (mSs b m) s) s) s
  | .whl c b, σ, h, Q, Q', m, s => by unfold wS at s ⊢; exact ⟨s.s.mono fun r h s => m _ _ _ s⟩
  | .fr t it b, σ, h, Q, Q', m, s => by unfold wS at s ⊢; exact mIt it (fun xs h s => ⟨s.s.mono fun r h s => m _ _ _ s⟩) s
  | .ret e, σ, h, Q, Q', m, s => by unfold wS at s ⊢; exact mE e (fun x h s => m _ _ _ s) s
  | .retO x, σ, h, Q, Q', m, s => by unfold wS at s ⊢; exact wL_mono (fun z s => m _ _ _ s) s
  | .retN, σ, h, Q, Q', m, s => by unfold wS at s ⊢; exact m _ _ _ s
  | .ex e, σ, h, Q, Q', m, s => by unfold wS at s ⊢; exact mE e (fun x h s => m _ _ _ s) s
  | .pass, σ, h, Q, Q', m, s => by unfold wS at s ⊢; exact m _ _ _ s
  | .brk, σ, h, Q, Q', m, s => by unfold wS at s ⊢; exact m _ _ _ s
  | .cnt, σ, h, Q, Q', m, s => by unfold wS at s ⊢; exact m _ _ _ s
  | .frz x, σ, h, Q, Q', m, s => by unfold wS at s ⊢; exact wL_mono (fun z s => m _ _ _ s) s
  | .rais c as, σ, h, Q, Q', m, s => by unfold wS at s; exact s.elim
theorem mSs : ∀ (ss : Ss) {σ : St} {h : Hp} {Q Q' : QS}, (∀ σ f h, Q σ f h → Q' σ f h) → wSs T cf ss σ h Q → wSs T cf ss σ h Q'
  | .nil, σ, h, Q, Q', m, s => by unfold wSs at s ⊢; exact m _ _ _ s
  | .cons a ss, σ, h, Q, Q', m, s => by
    unfold wSs at s ⊢
    refine mS a (fun σ f h s => ?_) s
    cases f with
    | nx => exact norm_eq.mpr (mSs ss m (norm_eq.mp s))
    | rt x => exact m _ _ _ s
    | bk => exact m _ _ _ s
    | ct => exact m _ _ _ s
end
/-- a statement that goes on: what it leaves, then the rest -/
theorem seq_cut {s : S} {ss : Ss} {σ : St} {h : Hp} {Q : QS} (P : St → Hp → Prop) (a : wS T cf s σ h fun σ f h => match f with
    | .nx => P σ h
    | f => Q σ f h) (b : ∀ σ h, P σ h → wSs T cf ss σ h Q) : wSs T cf (.cons s ss) σ h Q := by
  unfold wSs
  refine mS s (fun σ f h p => ?_) a
  cases f with
  | nx => exact norm_eq.mpr (b σ h p)
  | rt x => exact p
  | bk => exact p
  | ct => exact p
/-- an expression whose value is all that the rest asks -/
theorem cutE {e : E} {σ : St} {h : Hp} {Q : X → Hp → Prop} (P : X → Hp → Prop) (a : wE T cf e σ h P) (b : ∀ x h, P x h → Q x h) : wE T cf e σ h Q := mE e b a
theorem if_cut {c : E} {a b : Ss} {σ : St} {h : Hp} {Q : QS} (P : Bool → Hp → Prop) (x : wE T cf c σ h fun x h => wB x fun t => P t h) (t : ∀ h, P true h → wSs T cf a σ h Q) (f : ∀ h, P false h → wSs T cf b σ h Q) : wS T cf (.ifs c a b) σ h Q := by
  unfold wS
  refine mE c (fun x h s => wB_mono (fun r s => ?_) s) x
  cases r
  · exact f h s
  · exact t h s
/-- a join behind an if: both ways leave P -/
theorem if_join {c : E} {a b ss : Ss} {σ : St} {h : Hp} {Q : QS} (P : Bool → Hp → Prop) (J : St → Hp → Prop) (x : wE T cf c σ h fun x h => wB x fun t => P t h) (t : ∀ h, P true h → wSs T cf a σ h fun σ f h => match f with
    | .nx => J σ h
    | f => Q σ f h) (f : ∀ h, P false h → wSs T cf b σ h fun σ f h => match f with
    | .nx => J σ h
    | f => Q σ f h) (r : ∀ σ h, J σ h → wSs T cf ss σ h Q) : wSs T cf (.cons (.ifs c a b) ss) σ h Q := seq_cut J (if_cut P x t f) r
theorem if_ret {c : E} {a ss : Ss} {σ : St} {h : Hp} {Q : QS} (P : Bool → Hp → Prop) (x : wE T cf c σ h fun x h => wB x fun t => P t h) (t : ∀ h, P true h → wSs T cf a σ h fun σ1 f h1 => match f with
    | .nx => norm σ1 fun σ1 => wSs T cf ss σ1 h1 Q
    | .rt x => Q σ1 (.rt x) h1
    | .bk => Q σ1 .bk h1
    | .ct => Q σ1 .ct h1) (f : ∀ h, P false h → wSs T cf ss σ h Q) : wSs T cf (.cons (.ifs c a .nil) ss) σ h Q := by
  unfold wSs
  refine if_cut P x t fun h p => ?_
  unfold wSs
  exact norm_eq.mpr (f h p)
end PF
set_option linter.all false
set_option maxRecDepth 100000
namespace PF
theorem wI_eq {c k : Int} {A B : Prop} (x : c = k → A) (y : c ≠ k → B) : wI (eqb (.int c) (.int k)) A B :=
  wI_in (fun e => x (by simpa [eqb] using e)) (fun e => y (by simpa [eqb] using e))
theorem wI_dec {p : Prop} [Decidable p] {A B : Prop} (x : p → A) (y : ¬ p → B) : wI (decide p) A B :=
  wI_in (fun e => x (by simpa using e)) (fun e => y (by simpa using e))
theorem wI_not {b : Bool} {A B : Prop} (x : wI b B A) : wI (!b) A B := by
  cases b <;> exact x
theorem ixN_nat {n k : Nat} (h : k < n) : ixN n (k : Int) = some k := by
  unfold ixN
  rw [if_pos (by omega), if_pos (by omega)]
  rfl
theorem ixN_neg1 {n : Nat} (h : 0 < n) : ixN n (-1) = some (n - 1) := by
  unfold ixN
  rw [if_neg (by omega), if_pos (by omega)]
  congr 1
  omega
theorem ixD_lst {xs : List D} {k : Nat} {x : D} (h : xs[k]? = some x) : ixD (.lst xs) (.int k) = some x := by
  have hk : k < xs.length := (List.getElem?_eq_some_iff.mp h).1
  show (ixN xs.length k).bind _ = _
  rw [ixN_nat hk]; exact h
theorem ixD_tup {xs : List D} {k : Nat} {x : D} (h : xs[k]? = some x) : ixD (.tup xs) (.int k) = some x := by
  have hk : k < xs.length := (List.getElem?_eq_some_iff.mp h).1
  show (ixN xs.length k).bind _ = _
  rw [ixN_nat hk]; exact h
theorem ixV_ref {a : Nat} {h : Hp} {xs : List V} {k : Nat} {x : V} (ha : h[a]? = some (.lst xs)) (hx : xs[k]? = some x) : ixV (.ref a) (.d (.int k)) h = some x := by
  have hk : k < xs.length := (List.getElem?_eq_some_iff.mp hx).1
  unfold ixV
  dsimp only
  rw [ha]
  show (ixN xs.length k).bind _ = _
  rw [ixN_nat hk]; exact hx
theorem setIV_ref {a : Nat} {h : Hp} {xs : List V} {k : Nat} {y : V} (ha : h[a]? = some (.lst xs)) (hk : k < xs.length) : setIV (.ref a) (.d (.int k)) y h = some (h.set a (.lst (xs.set k y))) := by
  unfold setIV
  dsimp only
  rw [ha]
  show (ixN xs.length k).map _ = _
  rw [ixN_nat hk]; rfl
theorem wL_mod {i j : Int} {K : X → Prop} (hj : 0 < j) (k : K (dat (.int (i % j)))) : wL (opX .mod (dat (.int i)) (dat (.int j))) K :=
  wL_of (by show (if _ then _ else _) = _; rw [if_pos (decide_eq_true hj)]) k
theorem wL_div {i j : Int} {K : X → Prop} (hj : 0 < j) (hj2 : j < 1073741824) (k : K (dat (.int (i / j)))) : wL (opX .div (dat (.int i)) (dat (.int j))) K :=
  wL_of (by show (if _ then _ else _) = _; rw [if_pos (by rw [decide_eq_true hj, decide_eq_true hj2]; rfl)]) k
theorem wL_mul {i j : Int} {K : X → Prop} (hj : small64 j = true) (k : K (dat (.int (i * j)))) : wL (opX .mul (dat (.int i)) (dat (.int j))) K :=
  wL_of (by show (if _ then _ else _) = _; rw [if_pos (by rw [hj, Bool.or_true])]) k
theorem popAt_nat {a : Nat} {h : Hp} {xs : List V} {k : Nat} {y : V} (ha : h[a]? = some (.lst xs)) (hx : xs[k]? = some y) (hb : k < 4611686018427387904) : popAt a (dat (.int k)) h = some (y, h.set a (.lst (xs.eraseIdx k))) := by
  have hk : k < xs.length := (List.getElem?_eq_some_iff.mp hx).1
  have hi : inR (k : Int) = true := by unfold inR B62; rw [decide_eq_true (by omega), decide_eq_true (by omega)]; rfl
  unfold popAt dat
  rw [ha]
  dsimp only
  rw [if_pos hi, ixN_nat hk]
  dsimp only
  rw [hx]
end PF
set_option linter.all false
set_option maxRecDepth 100000
namespace PF
variable {T : Tab} {cf : Nat → List V → Hp → R X}
theorem rangeL_nil {a b : Int} (h : b ≤ a) : rangeL a b = [] := by
  unfold rangeL
  have : (b - a).toNat = 0 := by omega
  rw [this]; rfl
theorem rangeL_cons {a b : Int} (h : a < b) : rangeL a b = .d (.int a) :: rangeL (a + 1) b := by
  unfold rangeL
  obtain ⟨n, hn⟩ : ∃ n, (b - a).toNat = n + 1 := ⟨(b - a).toNat - 1, by omega⟩
  have : (b - (a + 1)).toNat = n := by omega
  rw [hn, this, List.range_succ_eq_map, List.map_cons, List.map_map]
  congr 1
  · simp
  · apply List.map_congr_left
    intro k _
    simp only [Function.comp_apply, Nat.succ_eq_add_one]
    congr 2
    push_cast
    omega
/-- one turn and the rest, from what one turn shows -/
theorem for_step {b : Ss} {t : Tg} {x : V} {r : List V} {σ σ1 : St} {h : Hp} {Q : QS} {P : St → Hp → Prop} (e : bindT t x σ = some σ1) (s : wSs T cf b σ1 h (QT P Q)) (n : ∀ σ h, P σ h → LFor T cf b t r σ h Q) : LFor T cf b t (x :: r) σ h Q := ⟨by
  unfold forGo
  rw [e]
  refine sat_bind ((sSs b s).mono fun q h1 k => ?_)
  obtain ⟨σ2, fl⟩ := q
  cases fl with
  | nx => exact (n _ _ k).s
  | ct => exact (n _ _ k).s
  | bk => exact k
  | rt x => exact k⟩
theorem for_range {b : Ss} {i : Nat} {Q : QS} {n : Nat} (I : Nat → St → Hp → Prop) (step : ∀ (j : Nat) (ji : Int) σ h, ji = j → j < n → I j σ h → wSs T cf b (setN σ i (.v (.d (.int ji)))) h (QT (I (j + 1)) Q)) (fin : ∀ σ h, I n σ h → Q σ .nx h) {σ : St} {h : Hp} (i0 : I 0 σ h) : LFor T cf b (.n i) (rangeL 0 n) σ h Q := by
  have main : ∀ (m j : Nat) (σ : St) (h : Hp), j + m = n → I j σ h → LFor T cf b (.n i) (rangeL (j : Int) n) σ h Q := by
    intro m
    induction m with
    | zero =>
      intro j σ h e ij
      rw [rangeL_nil (by omega)]
      have : j = n := by omega
      subst this
      exact for_nil (fin σ h ij)
    | succ m ih =>
      intro j σ h e ij
      rw [rangeL_cons (by omega)]
      refine for_step (σ1 := setN σ i (.v (.d (.int j)))) rfl (step j j σ h rfl (by omega) ij) fun σ h k => ?_
      have := ih (j + 1) σ h (by omega) k
      have e2 : (((j + 1 : Nat)) : Int) = (j : Int) + 1 := by push_cast; rfl
      rw [e2] at this
      exact this
  exact main n 0 σ h (by omega) i0
theorem for_list {b : Ss} {i : Nat} {Q : QS} (I : List D → St → Hp → Prop) (step : ∀ x r σ h, I (x :: r) σ h → wSs T cf b (setN σ i (.v (.d x))) h (QT (I r) Q)) (fin : ∀ σ h, I [] σ h → Q σ .nx h) : ∀ (ds : List D) {σ : St} {h : Hp}, I ds σ h → LFor T cf b (.n i) (ds.map .d) σ h Q
  | [], σ, h, k => for_nil (fin σ h k)
  | x :: r, σ, h, k => for_step (σ1 := setN σ i (.v (.d x))) rfl (step x r σ h k) fun σ h k => for_list I step fin r k
/-- a for over data, each turn's target by bindT -/
theorem for_data {b : Ss} {t : Tg} {Q : QS} (I : List D → St → Hp → Prop) (step : ∀ x r σ h, I (x :: r) σ h → ∃ σ1, bindT t (.d x) σ = some σ1 ∧ wSs T cf b σ1 h (QT (I r) Q)) (fin : ∀ σ h, I [] σ h → Q σ .nx h) : ∀ (ds : List D) {σ : St} {h : Hp}, I ds σ h → LFor T cf b t (ds.map .d) σ h Q
  | [], σ, h, k => for_nil (fin σ h k)
  | x :: r, σ, h, k =>
    let ⟨σ1, e, s⟩ := step x r σ h k
    for_step (σ1 := σ1) e s fun σ h k => for_data I step fin r k
/-- a comprehension over range, no condition -/
theorem lc_range {e : E} {i : Nat} {σ : St} {Q : List D → Hp → Prop} {n : Nat} (I : Nat → List D → Hp → Prop) (step : ∀ (j : Nat) (ji : Int) acc h, ji = j → j < n → I j acc h → wE T cf e (setN σ i (.v (.d (.int ji)))) h fun y h2 => wL y.toV.toD fun y => acc.length < LIM ∧ I (j + 1) (acc ++ [y]) h2) (fin : ∀ acc h, I n acc h → Q acc h) {h : Hp} (i0 : I 0 [] h) : LLc (fun σ h => evAn T cf .nil σ h) (fun σ h => (ev T cf e σ h).bind xD) (.n i) σ (rangeL 0 n) [] h Q := by
  have main : ∀ (m j : Nat) (acc : List D) (h : Hp), j + m = n → I j acc h → LLc (fun σ h => evAn T cf .nil σ h) (fun σ h => (ev T cf e σ h).bind xD) (.n i) σ (rangeL (j : Int) n) acc h Q := by
    intro m
    induction m with
    | zero =>
      intro j acc h e ij
      rw [rangeL_nil (by omega)]
      have : j = n := by omega
      subst this
      exact ⟨fin acc h ij⟩
    | succ m ih =>
      intro j acc h hj ij
      rw [rangeL_cons (by omega)]
      constructor
      unfold lcGo
      show Sat (R.bind (.ok true h) _) Q
      refine sat_bind (sat_bind (sat_bind ((sE e (step j j acc h rfl (by omega) ij)).mono fun y h2 s => wL_sat ?_)))
      obtain ⟨z, q, hl, s⟩ := wL_ex s
      refine wL_of q ?_
      rw [if_pos (decide_eq_true hl)]
      have := (ih (j + 1) _ h2 (by omega) s).s
      have e2 : (((j + 1 : Nat)) : Int) = (j : Int) + 1 := by push_cast; rfl
      rw [e2] at this
      exact this
  exact main n 0 [] h (by omega) i0
/-- a comprehension over data, no condition -/
theorem lc_data {e : E} {t : Tg} {σ : St} {Q : List D → Hp → Prop} (I : List D → List D → Hp → Prop) (step : ∀ x r acc h, I (x :: r) acc h → wL (bindT t (.d x) σ) fun σ1 => wE T cf e σ1 h fun y h2 => wL y.toV.toD fun y => acc.length < LIM ∧ I r (acc ++ [y]) h2) (fin : ∀ acc h, I [] acc h → Q acc h) : ∀ (ds : List D) {acc : List D} {h : Hp}, I ds acc h → LLc (fun σ h => evAn T cf .nil σ h) (fun σ h => (ev T cf e σ h).bind xD) t σ (ds.map .d) acc h Q
  | [], acc, h, i => ⟨fin acc h i⟩
  | x :: r, acc, h, i => ⟨by
    rw [List.map_cons]
    unfold lcGo
    obtain ⟨σ1, q, s⟩ := wL_ex (step x r acc h i)
    rw [q]
    show Sat (R.bind (.ok true h) _) Q
    refine sat_bind (sat_bind (sat_bind ((sE e s).mono fun y h2 s => wL_sat ?_)))
    obtain ⟨z, q, hl, s⟩ := wL_ex s
    refine wL_of q ?_
    rw [if_pos (decide_eq_true hl)]
    exact (lc_data I step fin r s).s⟩
theorem rng_ok {i j : Int} {K : List V → Prop} (h1 : -4611686018427387904 ≤ i) (h2 : i < 4611686018427387904) (h3 : -4611686018427387904 ≤ j) (h4 : j < 4611686018427387904) (k : K (rangeL i j)) : wL (rngX (dat (.int i)) (dat (.int j))) K := by
  refine wL_of (a := rangeL i j) ?_ k
  unfold rngX dat
  have e : (inR i && inR j) = true := by
    unfold inR B62
    rw [decide_eq_true h1, decide_eq_true h2, decide_eq_true h3, decide_eq_true h4]; rfl
  dsimp only
  rw [if_pos e]
/-! ### parts of a text -/
def S.bd : S → Ss
  | .fr _ _ b => b
  | .whl _ b => b
  | _ => .nil
def S.th : S → Ss
  | .ifs _ a _ => a
  | _ => .nil
def S.el : S → Ss
  | .ifs _ _ b => b
  | _ => .nil
def Ss.dr : Nat → Ss → Ss
  | 0, b => b
  | n + 1, .cons _ b => Ss.dr n b
  | _, .nil => .nil
def Ss.at' : Nat → Ss → S
  | 0, .cons s _ => s
  | n + 1, .cons _ b => Ss.at' n b
  | _, .nil => .pass
/-! ### lookups -/
theorem ix_any {xs : List D} {m : Int} {h : Hp} {K : V → Prop} (h0 : 0 ≤ m) (h1 : m < xs.length) (k : ∀ x ∈ xs, K (.d x)) : wL (ixV (.d (.lst xs)) (.d (.int m)) h) K := by
  obtain ⟨n, rfl⟩ : ∃ n : Nat, m = n := ⟨m.toNat, by omega⟩
  have hn : n < xs.length := by omega
  refine wL_of (a := .d xs[n]) ?_ (k _ (List.getElem_mem hn))
  show (ixD _ _).map _ = _
  rw [ixD_lst (List.getElem?_eq_getElem hn)]
  rfl
theorem ix_str {s : List Nat} {m : Int} {h : Hp} {K : V → Prop} (hs : s.length ≤ LIM) (h0 : 0 ≤ m) (h1 : m < s.length) (k : ∀ x ∈ s, K (.d (.str [x]))) : wL (ixV (.d (.str s)) (.d (.int m)) h) K := by
  obtain ⟨n, rfl⟩ : ∃ n : Nat, m = n := ⟨m.toNat, by omega⟩
  have hn : n < s.length := by omega
  refine wL_of (a := .d (.str [s[n]])) ?_ (k _ (List.getElem_mem hn))
  show (ixD _ _).map _ = _
  unfold ixD
  dsimp only
  rw [if_pos (decide_eq_true hs), ixN_nat hn]
  simp [List.getElem?_eq_getElem hn]
end PF
set_option linter.all false
set_option maxRecDepth 100000
namespace PF
theorem cut_take {α : Type} {xs : List α} {v : Int} (h0 : 0 ≤ v) : cut xs none (some v) = xs.take v.toNat := by
  unfold cut sIx; dsimp only
  rw [if_neg (by omega)]
  simp
theorem cut_drop {α : Type} {xs : List α} {v : Int} (h0 : 0 ≤ v) : cut xs (some v) none = xs.drop v.toNat := by
  unfold cut sIx; dsimp only
  rw [if_neg (by omega)]
  have e : xs.drop (min v.toNat xs.length) = xs.drop v.toNat := by
    rcases Nat.le_total v.toNat xs.length with q | q
    · rw [Nat.min_eq_left q]
    · rw [Nat.min_eq_right q, List.drop_length, List.drop_eq_nil_of_le q]
  rw [e]
  refine List.take_of_length_le ?_
  rw [List.length_drop]
  omega
theorem cut_all {α : Type} {xs : List α} : cut xs none none = xs := by
  unfold cut sIx; dsimp only
  simp
theorem sl_take {xs : List D} {v : Int} {h : Hp} {K : X → Prop} (h0 : 0 ≤ v) (k : K (.fl (xs.take v.toNat))) : wL (slV (.d (.lst xs)) .non (.int v) h) K := by
  refine wL_of (a := .fl (xs.take v.toNat)) ?_ k
  show some (X.fl (cut xs none (some v))) = _
  congr 2
  unfold cut sIx; dsimp only
  rw [if_neg (by omega)]
  simp
theorem sl_drop {xs : List D} {v : Int} {h : Hp} {K : X → Prop} (h0 : 0 ≤ v) (k : K (.fl (xs.drop v.toNat))) : wL (slV (.d (.lst xs)) (.int v) .non h) K := by
  refine wL_of (a := .fl (xs.drop v.toNat)) ?_ k
  show some (X.fl (cut xs (some v) none)) = _
  congr 2
  unfold cut sIx; dsimp only
  rw [if_neg (by omega)]
  have e : xs.drop (min v.toNat xs.length) = xs.drop v.toNat := by
    rcases Nat.le_total v.toNat xs.length with q | q
    · rw [Nat.min_eq_left q]
    · rw [Nat.min_eq_right q, List.drop_length, List.drop_eq_nil_of_le q]
  rw [e]
  refine List.take_of_length_le ?_
  rw [List.length_drop]
  omega
theorem sl_all {xs : List D} {h : Hp} {K : X → Prop} (k : K (.fl xs)) : wL (slV (.d (.lst xs)) .non .non h) K := by
  refine wL_of (a := .fl xs) ?_ k
  show some (X.fl (cut xs none none)) = _
  congr 2
  unfold cut sIx; dsimp only
  simp
theorem wL_addL {xs ys : List D} {a b : X} {K : X → Prop} (ha : a.toV = .d (.lst xs)) (hb : b.toV = .d (.lst ys)) (hl : xs.length + ys.length ≤ LIM) (k : K (.fl (xs ++ ys))) : wL (opX .add a b) K := by
  refine wL_of (a := .fl (xs ++ ys)) ?_ k
  unfold opX
  rw [ha, hb]
  show (if _ then _ else _) = _
  rw [if_pos (decide_eq_true hl)]
theorem wL_addS {s t : List Nat} {K : X → Prop} (hl : s.length + t.length ≤ LIM) (k : K (dat (.str (s ++ t)))) : wL (opX .add (dat (.str s)) (dat (.str t))) K := by
  refine wL_of (a := dat (.str (s ++ t))) ?_ k
  show (if _ then _ else _) = _
  rw [if_pos (decide_eq_true hl)]
theorem wL_app {xs : List D} {y : D} {K : SV → Prop} (hl : xs.length < LIM) (k : K (.ol (xs ++ [y]))) : wL (appOwn (some (.ol xs)) (.d y)) K :=
  wL_of (if_pos (decide_eq_true hl)) k
theorem wL_ext {xs ys : List D} {K : SV → Prop} (hl : xs.length + ys.length ≤ LIM) (k : K (.ol (xs ++ ys))) : wL (extOwn (some (.ol xs)) (.d (.lst ys))) K :=
  wL_of (if_pos (decide_eq_true hl)) k
theorem wI_lim {ds : List D} {A B : Prop} (hl : ds.length ≤ LIM) (k : A) : wI (limL ds) A B := wI_t (decide_eq_true hl) k
theorem ixL {α : Type} {f : α → D} {l : List α} {n : Nat} {i : Int} {x : α} {h : Hp} {K : V → Prop} (hi : i = n) (hx : l[n]? = some x) (k : K (.d (f x))) : wL (ixV (.d (.lst (l.map f))) (.d (.int i)) h) K := by
  subst hi
  refine wL_of (a := .d (f x)) ?_ k
  show (ixD _ _).map _ = _
  rw [ixD_lst (x := f x) (by rw [List.getElem?_map, hx]; rfl)]
  rfl
/-- for x in range(len(l)) -/
theorem fr_len {T : Tab} {cf : Nat → List V → Hp → R X} {t : Tg} {i : Nat} {b : Ss} {σ : St} {h : Hp} {Q : QS} {ds : List D} (hv : getV σ i = some (.d (.lst ds))) (hl : ds.length < 4611686018427387904) (k : LFor T cf b t (rangeL 0 (ds.length : Nat)) σ h Q) : wS T cf (.fr t (.rng (.k (.int 0)) (.bi .len (.cons (.v i) .nil))) b) σ h Q := by
  unfold wS wIt wE wE wEs wE wEs
  refine wL_of hv ?_
  show wL (some (dat (.int ds.length))) _
  refine wL_of rfl ?_
  exact rng_ok (by omega) (by omega) (by omega) (by omega) k
end PF
set_option linter.all false
set_option maxRecDepth 100000
namespace PF
/-! ### programs as the law makes them -/
abbrev Nm := List Nat
inductive Tm where | n (k : Nat) | l (x : Nm) | c (i : Nat)
abbrev Ex := List (Nat × Tm)
inductive Sm where
  | set (x : Nm) (e : Ex)
  | put (i : Nat) (e : Ex)
  | emit (e : Ex)
  | ret (e : Ex)
  | ifs (l : Ex) (o : Nat) (r : Ex) (a b : List Sm)
  | loop (e : Ex) (b : List Sm)
  | call (x f : Nm) (as : List Ex) (p q : Nat) (e : Ex)
structure Fx where
  name : Nm
  ps : List Nm
  body : List Sm
def encT : Nat × Tm → D
  | (o, .n k) => .tup [.str [o], .str [110], .int k]
  | (o, .l x) => .tup [.str [o], .str [108], .str x]
  | (o, .c i) => .tup [.str [o], .str [99], .int i]
def encE (e : Ex) : List D := e.map encT
mutual
def encS : Sm → D
  | .set x e => .tup [.str [115, 101, 116], .str x, .lst (encE e)]
  | .put i e => .tup [.str [112, 117, 116], .int i, .lst (encE e)]
  | .emit e => .tup [.str [101, 109, 105, 116], .lst (encE e)]
  | .ret e => .tup [.str [114, 101, 116, 117, 114, 110], .lst (encE e)]
  | .ifs l o r a b => .tup [.str [105, 102], .lst (encE l), .str [o], .lst (encE r), .lst (encSs a), .lst (encSs b)]
  | .loop e b => .tup [.str [108, 111, 111, 112], .lst (encE e), .lst (encSs b)]
  | .call x f as p q e => .tup [.str [99, 97, 108, 108], .str x, .str f, .lst (as.map fun e => .lst (encE e)), .tup [.int p, .int q], .lst (encE e)]
def encSs : List Sm → List D
  | [] => []
  | s :: ss => encS s :: encSs ss
end
def encF (f : Fx) : D := .tup [.str f.name, .lst (f.ps.map .str), .lst (encSs f.body)]
theorem encSs_map : ∀ ss : List Sm, encSs ss = ss.map encS
  | [] => by unfold encSs; rfl
  | s :: ss => by unfold encSs; rw [encSs_map ss]; rfl
theorem encSs_append (a b : List Sm) : encSs (a ++ b) = encSs a ++ encSs b := by simp [encSs_map]
mutual
def tot : Sm → Nat
  | .ifs _ _ _ a b => 1 + tots a + tots b
  | .loop _ b => 1 + tots b
  | _ => 1
def tots : List Sm → Nat
  | [] => 0
  | s :: ss => tot s + tots ss
end
/-! ### which are made -/
def TmOk (ns : List Nm) : Tm → Prop
  | .n k => k < 1000000
  | .l x => x ∈ ns
  | .c i => i < 8
def OpOk (o : Nat) : Prop := o = 43 ∨ o = 45 ∨ o = 42
structure ExOk (ns : List Nm) (e : Ex) : Prop where
  ne : 0 < e.length
  few : e.length ≤ 5
  fst : ∀ p, e[0]? = some p → p.1 = 43
  ops : ∀ p ∈ e, OpOk p.1
  tms : ∀ p ∈ e, TmOk ns p.2
def ShOk (p q : Nat) : Prop := (p, q) ∈ [(1, 1), (1, 2), (2, 3), (8, 9), (1, 9)]
structure Spc where
  names : List Nm
  targets : List Nm
  callees : List (Nm × Nat)
mutual
/-- a statement of at most n blocks deep -/
def SmOk (z : Spc) : Nat → Sm → Prop
  | _, .set x e => x ∈ z.targets ∧ ExOk z.names e
  | _, .put i e => i < 8 ∧ ExOk z.names e
  | _, .emit e => ExOk z.names e
  | _, .ret e => ExOk z.names e
  | n, .ifs l o r a b => ExOk z.names l ∧ (o = 60 ∨ o = 61 ∨ o = 62) ∧ ExOk z.names r ∧ 0 < n ∧ SmsOk z (n - 1) a ∧ SmsOk z (n - 1) b ∧ a.length ≤ 3 ∧ b.length ≤ 3
  | n, .loop e b => ExOk z.names e ∧ 0 < n ∧ SmsOk z (n - 1) b ∧ b.length ≤ 3
  | _, .call x f as p q e => x ∈ z.targets ∧ (f, as.length) ∈ z.callees ∧ (∀ a ∈ as, ExOk z.names a) ∧ ShOk p q ∧ ExOk z.names e
def SmsOk (z : Spc) : Nat → List Sm → Prop
  | _, [] => True
  | n, s :: ss => SmOk z n s ∧ SmsOk z n ss
end
theorem SmsOk_iff {z : Spc} {n : Nat} : ∀ {ss : List Sm}, SmsOk z n ss ↔ ∀ s ∈ ss, SmOk z n s
  | [] => by unfold SmsOk; simp
  | s :: ss => by unfold SmsOk; rw [SmsOk_iff (ss := ss)]; simp
end PF
set_option linter.all false
set_option maxRecDepth 100000
namespace PF
mutual
def dpt : Sm → Nat
  | .ifs _ _ _ a b => 1 + max (dpts a) (dpts b)
  | .loop _ b => 1 + dpts b
  | _ => 0
def dpts : List Sm → Nat
  | [] => 0
  | s :: ss => max (dpt s) (dpts ss)
end
theorem tots_cons (s : Sm) (ss : List Sm) : tots (s :: ss) = tot s + tots ss := by simp only [tots]
theorem tots_nil : tots [] = 0 := by simp only [tots]
theorem tot_ifs (l : Ex) (o : Nat) (r : Ex) (a b : List Sm) : tot (.ifs l o r a b) = 1 + tots a + tots b := by simp only [tot]
theorem tot_loop (e : Ex) (b : List Sm) : tot (.loop e b) = 1 + tots b := by simp only [tot]
theorem dpts_cons (s : Sm) (ss : List Sm) : dpts (s :: ss) = max (dpt s) (dpts ss) := by simp only [dpts]
theorem tots_sum : ∀ ss : List Sm, tots ss = (ss.map tot).sum
  | [] => by unfold tots; rfl
  | s :: ss => by unfold tots; rw [tots_sum ss]; simp
theorem tots_append (a b : List Sm) : tots (a ++ b) = tots a + tots b := by simp [tots_sum]
mutual
theorem SmOk.dpt {z : Spc} : ∀ {n : Nat} {s : Sm}, SmOk z n s → dpt s ≤ n
  | n, .set _ _, _ => by unfold PF.dpt; omega
  | n, .put _ _, _ => by unfold PF.dpt; omega
  | n, .emit _, _ => by unfold PF.dpt; omega
  | n, .ret _, _ => by unfold PF.dpt; omega
  | n, .ifs l o r a b, h => by
    unfold SmOk at h
    have h1 := SmsOk.dpts h.2.2.2.2.1
    have h2 := SmsOk.dpts h.2.2.2.2.2.1
    have := h.2.2.2.1
    unfold PF.dpt
    omega
  | n, .loop e b, h => by
    unfold SmOk at h
    have h1 := SmsOk.dpts h.2.2.1
    have := h.2.1
    unfold PF.dpt
    omega
  | n, .call _ _ _ _ _ _, _ => by unfold PF.dpt; omega
theorem SmsOk.dpts {z : Spc} : ∀ {n : Nat} {ss : List Sm}, SmsOk z n ss → dpts ss ≤ n
  | n, [], _ => by unfold PF.dpts; omega
  | n, s :: ss, h => by
    unfold SmsOk at h
    have h1 := SmOk.dpt h.1
    have h2 := SmsOk.dpts h.2
    unfold PF.dpts
    omega
end
def NM : List Nm := [[109, 97, 105, 110], [102], [103], [108, 111, 110, 103, 110, 97, 109, 101]]
def PA : List Nm := [[97], [98]]
def XY : List Nm := [[120], [121]]
def flat1 : Sm → Bool
  | .ifs _ _ _ _ _ => false
  | .loop _ _ => false
  | _ => true
/-- the k-th function -/
structure FxOk (hs : List (Nm × Nat)) (b : Bool) (k : Nat) (f : Fx) : Prop where
  hd : hs[k]? = some (f.name, f.ps.length)
  ps : ∃ i, f.ps = PA.take i
  body : ∃ j, SmsOk ⟨f.ps ++ XY.take j, f.ps ++ XY.take j, hs.drop (if b then k + 1 else 0)⟩ 2 f.body ∧ ∀ x ∈ XY.take j, ∃ e, Sm.set x e ∈ f.body
  few : f.body.length ≤ 6
def hdr (f : Fx) : Nm × Nat := (f.name, f.ps.length)
def tsum (p : List Fx) : Nat := (p.map fun f => tots f.body).sum
structure ProgOk (b : Bool) (p : List Fx) : Prop where
  ne : 0 < p.length
  nm : ∃ n, p.map Fx.name = NM.take n
  fx : ∀ k f, p[k]? = some f → FxOk (p.map hdr) b k f
  few : tsum p ≤ 25
end PF
set_option linter.all false
set_option maxRecDepth 100000
namespace PF
/-! ### digits -/
theorem digit_code {n : Nat} (h : n < 10) : (Nat.digitChar n).toNat = 48 + n := by
  have : n = 0 ∨ n = 1 ∨ n = 2 ∨ n = 3 ∨ n = 4 ∨ n = 5 ∨ n = 6 ∨ n = 7 ∨ n = 8 ∨ n = 9 := by omega
  rcases this with rfl | rfl | rfl | rfl | rfl | rfl | rfl | rfl | rfl | rfl <;> rfl
theorem digs_lt {n : Nat} (h : n < 10) : natDigs n = [48 + n] := by
  unfold natDigs
  rw [Nat.toDigits_of_lt_base h, List.map_singleton, digit_code h]
theorem digs_ge {n : Nat} (h : 10 ≤ n) : natDigs n = natDigs (n / 10) ++ [48 + n % 10] := by
  unfold natDigs
  rw [Nat.toDigits_of_base_le (by omega) h, List.map_append, List.map_singleton, digit_code (Nat.mod_lt _ (by omega))]
theorem digs_dig (n : Nat) : ∀ c ∈ natDigs n, 48 ≤ c ∧ c ≤ 57 := by
  induction n using Nat.strongRecOn with
  | _ n ih =>
    rcases Nat.lt_or_ge n 10 with h | h
    · rw [digs_lt h]; intro c hc; simp at hc; omega
    · rw [digs_ge h]
      intro c hc
      rcases List.mem_append.mp hc with hc | hc
      · exact ih (n / 10) (by omega) c hc
      · simp at hc; omega
theorem digs_ne (n : Nat) : natDigs n ≠ [] := by
  rcases Nat.lt_or_ge n 10 with h | h
  · rw [digs_lt h]; simp
  · rw [digs_ge h]; simp
theorem digs_len : ∀ (k n : Nat), n < 10 ^ (k + 1) → (natDigs n).length ≤ k + 1
  | 0, n, h => by rw [digs_lt (by simpa using h)]; simp
  | k + 1, n, h => by
    rcases Nat.lt_or_ge n 10 with q | q
    · rw [digs_lt q]; simp
    · rw [digs_ge q, List.length_append]
      have := digs_len k (n / 10) (by rw [Nat.div_lt_iff_lt_mul (by omega)]; rw [Nat.pow_succ] at h; exact h)
      simp; omega
theorem digs_head (n : Nat) (h : 0 < n) : ∃ c r, natDigs n = c :: r ∧ 48 < c ∧ c ≤ 57 := by
  induction n using Nat.strongRecOn with
  | _ n ih =>
    rcases Nat.lt_or_ge n 10 with q | q
    · exact ⟨48 + n, [], digs_lt q, by omega, by omega⟩
    · obtain ⟨c, r, e, h1, h2⟩ := ih (n / 10) (by omega) (by omega)
      exact ⟨c, r ++ [48 + n % 10], by rw [digs_ge q, e]; rfl, h1, h2⟩
theorem digVal_snoc (s : List Nat) (c : Nat) : digVal (s ++ [c]) = digVal s * 10 + (c - 48) := by
  unfold digVal
  rw [List.foldl_append]; rfl
theorem digVal_digs (n : Nat) : digVal (natDigs n) = n := by
  induction n using Nat.strongRecOn with
  | _ n ih =>
    rcases Nat.lt_or_ge n 10 with q | q
    · rw [digs_lt q]; simp [digVal]
    · rw [digs_ge q, digVal_snoc, ih (n / 10) (by omega)]; omega
/-! ### texts -/
def tmS : Tm → List Nat
  | .n k => natDigs k
  | .l x => x
  | .c i => [65 + i]
def exW (e : Ex) : List (List Nat) := e.flatMap fun p => [[p.1], tmS p.2]
def exS (e : Ex) : List Nat := joinS [32] ((exW e).drop 1)
def lnS : Sm → List Nat
  | .set x e => [115, 101, 116, 32] ++ x ++ [32, 61, 32] ++ exS e ++ [59]
  | .put i e => [112, 117, 116, 32] ++ [65 + i] ++ [32, 61, 32] ++ exS e ++ [59]
  | .emit e => [101, 109, 105, 116] ++ [32] ++ exS e ++ [59]
  | .ret e => [114, 101, 116, 117, 114, 110] ++ [32] ++ exS e ++ [59]
  | .call x f as p q e => joinS [32] [[99, 97, 108, 108], x, [61], f ++ [40] ++ joinS [44, 32] (as.map exS) ++ [41], [115, 104, 97, 114, 101], natDigs p ++ [47] ++ natDigs q, [101, 108, 115, 101]] ++ [32] ++ exS e ++ [59]
  | _ => []
mutual
def lns (i : List Nat) : Sm → List (List Nat)
  | .ifs l o r a b => (i ++ joinS [32] [[105, 102], exS l, [o], exS r, [123]]) :: (lnss (i ++ [32, 32]) a ++ (if b.isEmpty then [] else (i ++ [125, 32, 101, 108, 115, 101, 32, 123]) :: lnss (i ++ [32, 32]) b) ++ [i ++ [125]])
  | .loop e b => (i ++ [108, 111, 111, 112, 32] ++ exS e ++ [32, 123]) :: (lnss (i ++ [32, 32]) b ++ [i ++ [125]])
  | s => [i ++ lnS s]
def lnss (i : List Nat) : List Sm → List (List Nat)
  | [] => []
  | s :: ss => lns i s ++ lnss i ss
end
def fxL (f : Fx) : List (List Nat) := ([100, 101, 102, 32] ++ f.name ++ [40] ++ joinS [44, 32] f.ps ++ [41, 32, 123]) :: (lnss [32, 32] f.body ++ [[125]])
def srcL (p : List Fx) : List (List Nat) := p.flatMap fxL
def srcS (p : List Fx) : List Nat := joinS [10] (srcL p)
/-! ### sizes -/
def NsOk (ns : List Nm) : Prop := ∀ x ∈ ns, x.length ≤ 8
theorem joinS_len (sep : List Nat) : ∀ ws : List (List Nat), (joinS sep ws).length ≤ (ws.map List.length).sum + ws.length * sep.length
  | [] => by simp [joinS]
  | [x] => by simp [joinS]
  | x :: y :: r => by
    have := joinS_len sep (y :: r)
    simp only [joinS, List.length_append, List.map_cons, List.sum_cons, List.length_cons] at this ⊢
    rw [Nat.succ_mul]
    omega
theorem tmS_len {ns : List Nm} (hn : NsOk ns) {t : Tm} (h : TmOk ns t) : (tmS t).length ≤ 8 := by
  cases t with
  | n k => have := digs_len 5 k h; show (natDigs k).length ≤ 8; omega
  | l x => exact hn x h
  | c i => show 1 ≤ 8; omega
theorem exW_sum : ∀ (e : Ex), (∀ p ∈ e, (tmS p.2).length ≤ 8) → ((exW e).map List.length).sum ≤ 9 * e.length ∧ (exW e).length = 2 * e.length
  | [], _ => by simp [exW]
  | p :: e, h => by
    obtain ⟨h1, h2⟩ := exW_sum e fun q hq => h q (List.mem_cons_of_mem _ hq)
    have h3 := h p List.mem_cons_self
    unfold exW at h1 h2 ⊢
    simp only [List.flatMap_cons, List.map_append, List.sum_append, List.length_append, List.map_cons, List.map_nil, List.sum_cons, List.sum_nil, List.length_cons, List.length_nil] at h1 h2 ⊢
    omega
theorem sum_drop1 (l : List Nat) : (l.drop 1).sum ≤ l.sum := by
  cases l with
  | nil => simp
  | cons a l => simp
theorem exW_drop {ns : List Nm} (hn : NsOk ns) {e : Ex} (h : ExOk ns e) : (((exW e).drop 1).map List.length).sum + ((exW e).drop 1).length ≤ 60 := by
  obtain ⟨h1, h2⟩ := exW_sum e fun p hp => tmS_len hn (h.tms p hp)
  have h3 := sum_drop1 ((exW e).map List.length)
  rw [← List.map_drop] at h3
  have := h.few
  rw [List.length_drop]
  omega
theorem exS_len {ns : List Nm} (hn : NsOk ns) {e : Ex} (h : ExOk ns e) : (exS e).length ≤ 60 := by
  have h1 := joinS_len [32] ((exW e).drop 1)
  have h2 := exW_drop hn h
  simp only [List.length_cons, List.length_nil] at h1
  unfold exS
  omega
end PF
set_option linter.all false
set_option maxRecDepth 100000
namespace PF
def SYM : List Nat := [40, 41, 123, 125, 61, 59, 44, 47, 60, 62, 43, 45, 42]
def CEL : List Nat := [65, 66, 67, 68, 69, 70, 71, 72]
def LOW : List Nat := [97, 98, 99, 100, 101, 102, 103, 104, 105, 106, 107, 108, 109, 110, 111, 112, 113, 114, 115, 116, 117, 118, 119, 120, 121, 122]
def DIG : List Nat := [48, 49, 50, 51, 52, 53, 54, 55, 56, 57]
def KWS : List (List Nat) := [[100, 101, 102], [115, 101, 116], [112, 117, 116], [101, 109, 105, 116], [114, 101, 116, 117, 114, 110], [105, 102], [101, 108, 115, 101], [108, 111, 111, 112], [99, 97, 108, 108], [115, 104, 97, 114, 101]]
def kW : List Nat := [119, 111, 114, 100]
def kK : List Nat := [107, 101, 121, 119, 111, 114, 100]
def kC : List Nat := [99, 101, 108, 108]
def kN : List Nat := [110, 117, 109, 98, 101, 114]
def kS : List Nat := [115, 121, 109, 98, 111, 108]
def kE : List Nat := [101, 110, 100]
structure TK where
  kind : List Nat
  text : List Nat
inductive TkOk : TK → Prop
  | sym {c : Nat} : c ∈ SYM → TkOk ⟨kS, [c]⟩
  | cell {c : Nat} : c ∈ CEL → TkOk ⟨kC, [c]⟩
  | word {w : List Nat} : w ≠ [] → w.length ≤ 8 → (∀ c ∈ w, c ∈ LOW) → w ∉ KWS → TkOk ⟨kW, w⟩
  | key {w : List Nat} : w ∈ KWS → TkOk ⟨kK, w⟩
  | num {w : List Nat} : w ≠ [] → w.length ≤ 6 → (∀ c ∈ w, c ∈ DIG) → (1 < w.length → w[0]? ≠ some 48) → TkOk ⟨kN, w⟩
abbrev Itm := Nat × TK
def ren : List Itm → List Nat
  | [] => []
  | (k, t) :: r => List.replicate k 32 ++ (t.text ++ ren r)
/-- what may stand behind a token: the first sign of the rest -/
def Sep (t : TK) (rest : List Nat) : Prop := ∀ c, rest[0]? = some c → (∀ x ∈ t.text, x ∈ LOW → c ∉ LOW) ∧ (∀ x ∈ t.text, x ∈ DIG → c ∉ DIG)
inductive ItOk (tr : Nat) : List Itm → Prop
  | nil : ItOk tr []
  | cons {k : Nat} {t : TK} {r : List Itm} : TkOk t → Sep t (ren r ++ List.replicate tr 32) → ItOk tr r → ItOk tr ((k, t) :: r)
def tokD (t : TK) (l c : Int) : D := .ins 3 [.str t.kind, .str t.text, .int l, .int c]
def IsTok (d : D) (t : TK) : Prop := ∃ l c : Int, d = tokD t l c
def TokL : List D → List TK → Prop
  | [], [] => True
  | d :: ds, t :: ts => IsTok d t ∧ TokL ds ts
  | _, _ => False
theorem TokL.append : ∀ {a b : List D} {x y : List TK}, TokL a x → TokL b y → TokL (a ++ b) (x ++ y)
  | [], b, [], y, _, h => h
  | _ :: a, b, _ :: x, y, g, h => ⟨g.1, TokL.append g.2 h⟩
  | [], _, _ :: _, _, g, _ => g.elim
  | _ :: _, _, [], _, g, _ => g.elim
theorem TokL.len : ∀ {a : List D} {x : List TK}, TokL a x → a.length = x.length
  | [], [], _ => rfl
  | _ :: a, _ :: x, g => by rw [List.length_cons, List.length_cons, TokL.len g.2]
  | [], _ :: _, g => g.elim
  | _ :: _, [], g => g.elim
theorem TokL.get : ∀ {a : List D} {x : List TK} {i : Nat} {t : TK}, TokL a x → x[i]? = some t → ∃ d, a[i]? = some d ∧ IsTok d t
  | _ :: a, _ :: x, 0, t, g, h => by simp at h; subst h; exact ⟨_, rfl, g.1⟩
  | _ :: a, _ :: x, i + 1, t, g, h => by
    obtain ⟨d, h1, h2⟩ := TokL.get (i := i) g.2 (by simpa using h)
    exact ⟨d, by simpa using h1, h2⟩
  | [], [], _, _, _, h => by simp at h
  | [], _ :: _, _, _, g, _ => g.elim
  | _ :: _, [], _, _, g, _ => g.elim
/-! classes of signs -/
theorem any_mem {l : List Nat} {c : Nat} (h : c ∈ l) : (l.any fun x => x == c) = true := List.any_eq_true.mpr ⟨c, h, by simp⟩
theorem any_not {l : List Nat} {c : Nat} (h : c ∉ l) : (l.any fun x => x == c) = false := by
  rw [Bool.eq_false_iff]
  intro q
  obtain ⟨x, hx, e⟩ := List.any_eq_true.mp q
  rw [beq_iff_eq.mp e] at hx
  exact h hx
theorem low_sym : ∀ c ∈ LOW, c ∉ SYM ∧ c ∉ CEL ∧ c ∉ DIG ∧ c ≠ 32 ∧ c ≠ 10 := by decide
theorem dig_sym : ∀ c ∈ DIG, c ∉ SYM ∧ c ∉ CEL ∧ c ∉ LOW ∧ c ≠ 32 ∧ c ≠ 10 := by decide
theorem cel_sym : ∀ c ∈ CEL, c ∉ SYM ∧ c ∉ LOW ∧ c ∉ DIG ∧ c ≠ 32 ∧ c ≠ 10 := by decide
theorem sym_sym : ∀ c ∈ SYM, c ∉ CEL ∧ c ∉ LOW ∧ c ∉ DIG ∧ c ≠ 32 ∧ c ≠ 10 := by decide
theorem kws_low : ∀ w ∈ KWS, (∀ c ∈ w, c ∈ LOW) ∧ w ≠ [] ∧ w.length ≤ 8 := by decide
theorem TkOk.ne {t : TK} (h : TkOk t) : t.text ≠ [] := by
  cases h with
  | sym h => simp
  | cell h => simp
  | word h _ _ _ => exact h
  | key h => exact (kws_low _ h).2.1
  | num h _ _ _ => exact h
theorem TkOk.no {t : TK} (h : TkOk t) : ∀ c ∈ t.text, c ≠ 32 ∧ c ≠ 10 := by
  cases h with
  | sym h => intro c hc; simp at hc; subst hc; exact (sym_sym _ h).2.2.2
  | cell h => intro c hc; simp at hc; subst hc; exact (cel_sym _ h).2.2.2
  | word _ _ h _ => intro c hc; exact (low_sym _ (h c hc)).2.2.2
  | key h => intro c hc; exact (low_sym _ ((kws_low _ h).1 c hc)).2.2.2
  | num _ _ h _ => intro c hc; exact (dig_sym _ (h c hc)).2.2.2
theorem ItOk.no10 {tr : Nat} : ∀ {r : List Itm}, ItOk tr r → ∀ c ∈ ren r ++ List.replicate tr 32, c ≠ 10
  | [], _, c, h => by simp [ren] at h; omega
  | (k, t) :: r, .cons h1 _ h3, c, h => by
    unfold ren at h
    rw [List.append_assoc, List.append_assoc] at h
    rcases List.mem_append.mp h with h | h
    · have := List.eq_of_mem_replicate h; omega
    · rcases List.mem_append.mp h with h | h
      · exact (h1.no c h).2
      · exact ItOk.no10 h3 c h
/-! lines -/
theorem splitC_cons_no {c : Nat} : ∀ {w : List Nat}, (∀ x ∈ w, x ≠ c) → splitC c w = [w]
  | [], _ => rfl
  | x :: w, h => by
    unfold splitC
    rw [if_neg (h x List.mem_cons_self), splitC_cons_no fun y hy => h y (List.mem_cons_of_mem _ hy)]
theorem splitC_app {c : Nat} : ∀ {w s : List Nat}, (∀ x ∈ w, x ≠ c) → splitC c (w ++ c :: s) = w :: splitC c s
  | [], s, _ => by rw [List.nil_append]; conv => lhs; unfold splitC
                   rw [if_pos rfl]
  | x :: w, s, h => by
    rw [List.cons_append]
    conv => lhs; unfold splitC
    rw [if_neg (h x List.mem_cons_self), splitC_app fun y hy => h y (List.mem_cons_of_mem _ hy)]
theorem splitC_join {c : Nat} : ∀ {ls : List (List Nat)}, ls ≠ [] → (∀ w ∈ ls, ∀ x ∈ w, x ≠ c) → splitC c (joinS [c] ls) = ls
  | [], h, _ => absurd rfl h
  | [w], _, h => by unfold joinS; exact splitC_cons_no (h w (by simp))
  | w :: v :: r, _, h => by
    unfold joinS
    rw [List.append_assoc, List.singleton_append, splitC_app (h w (by simp)), splitC_join (by simp) fun u hu => h u (List.mem_cons_of_mem _ hu)]
end PF
set_option linter.all false
set_option maxRecDepth 100000
namespace PF
def sy (c : Nat) : TK := ⟨kS, [c]⟩
def kw (w : List Nat) : TK := ⟨kK, w⟩
def wd (w : List Nat) : TK := ⟨kW, w⟩
def nu (n : Nat) : TK := ⟨kN, natDigs n⟩
def tkT : Tm → TK
  | .n k => nu k
  | .l x => wd x
  | .c i => ⟨kC, [65 + i]⟩
def exK : Ex → List TK
  | [] => []
  | p :: r => tkT p.2 :: r.flatMap fun q => [sy q.1, tkT q.2]
def arK : List Ex → List TK
  | [] => []
  | [a] => exK a
  | a :: b :: r => exK a ++ sy 44 :: arK (b :: r)
def pmK : List Nm → List TK
  | [] => []
  | [a] => [wd a]
  | a :: b :: r => wd a :: sy 44 :: pmK (b :: r)
mutual
def stK : Sm → List TK
  | .set x e => kw [115, 101, 116] :: wd x :: sy 61 :: (exK e ++ [sy 59])
  | .put i e => kw [112, 117, 116] :: ⟨kC, [65 + i]⟩ :: sy 61 :: (exK e ++ [sy 59])
  | .emit e => kw [101, 109, 105, 116] :: (exK e ++ [sy 59])
  | .ret e => kw [114, 101, 116, 117, 114, 110] :: (exK e ++ [sy 59])
  | .ifs l o r a b => kw [105, 102] :: (exK l ++ sy o :: (exK r ++ sy 123 :: (stKs a ++ sy 125 :: (if b.isEmpty then [] else kw [101, 108, 115, 101] :: sy 123 :: (stKs b ++ [sy 125])))))
  | .loop e b => kw [108, 111, 111, 112] :: (exK e ++ sy 123 :: (stKs b ++ [sy 125]))
  | .call x f as p q e => kw [99, 97, 108, 108] :: wd x :: sy 61 :: wd f :: sy 40 :: (arK as ++ sy 41 :: kw [115, 104, 97, 114, 101] :: nu p :: sy 47 :: nu q :: kw [101, 108, 115, 101] :: (exK e ++ [sy 59]))
def stKs : List Sm → List TK
  | [] => []
  | s :: ss => stK s ++ stKs ss
end
def fxK (f : Fx) : List TK := kw [100, 101, 102] :: wd f.name :: sy 40 :: (pmK f.ps ++ sy 41 :: sy 123 :: (stKs f.body ++ [sy 125]))
/-! ### well-formed -/
def NmV (x : Nm) : Prop := TkOk (wd x)
def ExV (e : Ex) : Prop := 0 < e.length ∧ e.length ≤ 100 ∧ (∀ p, e[0]? = some p → p.1 = 43) ∧ (∀ p ∈ e, OpOk p.1) ∧ ∀ p ∈ e, TkOk (tkT p.2)
mutual
def SmV : Sm → Prop
  | .set x e => NmV x ∧ ExV e
  | .put i e => i < 8 ∧ ExV e
  | .emit e => ExV e
  | .ret e => ExV e
  | .ifs l o r a b => ExV l ∧ (o = 60 ∨ o = 61 ∨ o = 62) ∧ ExV r ∧ SmsV a ∧ SmsV b ∧ a.length ≤ 1000 ∧ b.length ≤ 1000
  | .loop e b => ExV e ∧ SmsV b ∧ b.length ≤ 1000
  | .call x f as p q e => NmV x ∧ NmV f ∧ (∀ a ∈ as, ExV a) ∧ as.length ≤ 100 ∧ TkOk (nu p) ∧ TkOk (nu q) ∧ ExV e
def SmsV : List Sm → Prop
  | [] => True
  | s :: ss => SmV s ∧ SmsV ss
end
theorem SmsV_iff : ∀ {ss : List Sm}, SmsV ss ↔ ∀ s ∈ ss, SmV s
  | [] => by unfold SmsV; simp
  | s :: ss => by unfold SmsV; rw [SmsV_iff (ss := ss)]; simp
theorem nu_ok {n : Nat} (h : n < 1000000) : TkOk (nu n) := by
  refine .num (digs_ne n) (digs_len 5 n h) (fun c hc => ?_) fun hl => ?_
  · have := digs_dig n c hc
    have q : c = 48 ∨ c = 49 ∨ c = 50 ∨ c = 51 ∨ c = 52 ∨ c = 53 ∨ c = 54 ∨ c = 55 ∨ c = 56 ∨ c = 57 := by omega
    rcases q with rfl | rfl | rfl | rfl | rfl | rfl | rfl | rfl | rfl | rfl <;> decide
  · rcases Nat.lt_or_ge n 10 with q | q
    · rw [digs_lt q] at hl; simp at hl
    · obtain ⟨c, r, e, h1, h2⟩ := digs_head n (by omega)
      rw [e]; simp; omega
theorem cell_ok {i : Nat} (h : i < 8) : TkOk ⟨kC, [65 + i]⟩ := by
  have q : i = 0 ∨ i = 1 ∨ i = 2 ∨ i = 3 ∨ i = 4 ∨ i = 5 ∨ i = 6 ∨ i = 7 := by omega
  rcases q with rfl | rfl | rfl | rfl | rfl | rfl | rfl | rfl <;> exact .cell (by decide)
theorem ExOk.v {ns : List Nm} (hn : ∀ x ∈ ns, NmV x) {e : Ex} (h : ExOk ns e) : ExV e := by
  refine ⟨h.ne, by have := h.few; omega, h.fst, h.ops, fun p hp => ?_⟩
  have := h.tms p hp
  revert this
  cases p.2 with
  | n k => exact fun q => nu_ok q
  | l x => exact fun q => hn x q
  | c i => exact fun q => cell_ok q
structure ZV (z : Spc) : Prop where
  n : ∀ x ∈ z.names, NmV x
  t : ∀ x ∈ z.targets, NmV x
  c : ∀ c ∈ z.callees, NmV c.1 ∧ c.2 ≤ 4
mutual
theorem SmOk.v {z : Spc} (hz : ZV z) : ∀ (s : Sm) (n : Nat), SmOk z n s → SmV s
  | .set x e, n, h => by unfold SmOk at h; unfold SmV; exact ⟨hz.t x h.1, h.2.v hz.n⟩
  | .put i e, n, h => by unfold SmOk at h; unfold SmV; exact ⟨h.1, h.2.v hz.n⟩
  | .emit e, n, h => by unfold SmOk at h; unfold SmV; exact h.v hz.n
  | .ret e, n, h => by unfold SmOk at h; unfold SmV; exact h.v hz.n
  | .ifs l o r a b, n, h => by
    unfold SmOk at h
    obtain ⟨he1, ho, he2, hn0, ha, hb, hla, hlb⟩ := h
    unfold SmV
    exact ⟨he1.v hz.n, ho, he2.v hz.n, SmsOk.v hz a _ ha, SmsOk.v hz b _ hb, by omega, by omega⟩
  | .loop e b, n, h => by
    unfold SmOk at h
    unfold SmV
    exact ⟨h.1.v hz.n, SmsOk.v hz b _ h.2.2.1, by omega⟩
  | .call x f as p q e, n, h => by
    unfold SmOk at h
    obtain ⟨hx, hf, has, hpq, he⟩ := h
    obtain ⟨h1, h2⟩ := hz.c _ hf
    dsimp only at h1 h2
    have hp : p < 10 ∧ q < 10 := by
      unfold ShOk at hpq
      simp at hpq
      omega
    unfold SmV
    exact ⟨hz.t x hx, h1, fun a ha => (has a ha).v hz.n, by omega, nu_ok (by omega), nu_ok (by omega), he.v hz.n⟩
theorem SmsOk.v {z : Spc} (hz : ZV z) : ∀ (ss : List Sm) (n : Nat), SmsOk z n ss → SmsV ss
  | [], n, h => by unfold SmsV; trivial
  | s :: ss, n, h => by
    unfold SmsOk at h
    unfold SmsV
    exact ⟨SmOk.v hz s n h.1, SmsOk.v hz ss n h.2⟩
end
/-! ### what the parser makes -/
inductive RelT : List D → Ex → Prop
  | nil : RelT [] []
  | cons {o : Nat} {tm : Tm} {t : D} {ds : List D} {g : Ex} : IsTok t (tkT tm) → RelT ds g → RelT (.tup [.str [o], t] :: ds) ((o, tm) :: g)
def RelE (d : D) (g : Ex) : Prop := ∃ ds, d = .lst ds ∧ RelT ds g
inductive RelEs : List D → List Ex → Prop
  | nil : RelEs [] []
  | cons {d : D} {g : Ex} {ds : List D} {gs : List Ex} : RelE d g → RelEs ds gs → RelEs (d :: ds) (g :: gs)
mutual
inductive RelS : D → Sm → Prop
  | set {t x e : D} {n : Nm} {g : Ex} : IsTok x (wd n) → RelE e g → RelS (.tup [.str [115, 101, 116], t, x, e]) (.set n g)
  | put {t x e : D} {i : Nat} {g : Ex} : IsTok x ⟨kC, [65 + i]⟩ → RelE e g → RelS (.tup [.str [112, 117, 116], t, x, e]) (.put i g)
  | emit {t e : D} {g : Ex} : RelE e g → RelS (.tup [.str [101, 109, 105, 116], t, e]) (.emit g)
  | ret {t e : D} {g : Ex} : RelE e g → RelS (.tup [.str [114, 101, 116, 117, 114, 110], t, e]) (.ret g)
  | ifs {t l r : D} {a b : List D} {o : Nat} {gl gr : Ex} {ga gb : List Sm} : RelE l gl → RelE r gr → RelSs a ga → RelSs b gb → RelS (.tup [.str [105, 102], t, l, .str [o], r, .lst a, .lst b]) (.ifs gl o gr ga gb)
  | loop {t e : D} {b : List D} {g : Ex} {gb : List Sm} : RelE e g → RelSs b gb → RelS (.tup [.str [108, 111, 111, 112], t, e, .lst b]) (.loop g gb)
  | call {t x f p q e : D} {as : List D} {n m : Nm} {gs : List Ex} {i j : Nat} {g : Ex} : IsTok x (wd n) → IsTok f (wd m) → RelEs as gs → IsTok p (nu i) → IsTok q (nu j) → RelE e g → RelS (.tup [.str [99, 97, 108, 108], t, x, f, .lst as, p, q, e]) (.call n m gs i j g)
inductive RelSs : List D → List Sm → Prop
  | nil : RelSs [] []
  | cons {d : D} {s : Sm} {ds : List D} {ss : List Sm} : RelS d s → RelSs ds ss → RelSs (d :: ds) (s :: ss)
end
inductive RelP : List D → List Nm → Prop
  | nil : RelP [] []
  | cons {d : D} {x : Nm} {ds : List D} {xs : List Nm} : IsTok d (wd x) → RelP ds xs → RelP (d :: ds) (x :: xs)
inductive RelF : D → Fx → Prop
  | mk {n : D} {ps : List D} {b : List D} {f : Fx} : IsTok n (wd f.name) → RelP ps f.ps → RelSs b f.body → RelF (.ins 4 [n, .lst ps, .lst b]) f
inductive RelFs : List D → List Fx → Prop
  | nil : RelFs [] []
  | cons {d : D} {f : Fx} {ds : List D} {fs : List Fx} : RelF d f → RelFs ds fs → RelFs (d :: ds) (f :: fs)
theorem RelT.snoc {o : Nat} {tm : Tm} {t : D} (ht : IsTok t (tkT tm)) : ∀ {ds : List D} {g : Ex}, RelT ds g → RelT (ds ++ [.tup [.str [o], t]]) (g ++ [(o, tm)])
  | _, _, .nil => .cons ht .nil
  | _, _, .cons a r => .cons a (RelT.snoc ht r)
theorem RelEs.snoc {d : D} {g : Ex} (h : RelE d g) : ∀ {ds : List D} {gs : List Ex}, RelEs ds gs → RelEs (ds ++ [d]) (gs ++ [g])
  | _, _, .nil => .cons h .nil
  | _, _, .cons a r => .cons a (RelEs.snoc h r)
theorem RelSs.snoc {d : D} {s : Sm} (h : RelS d s) : ∀ {ds : List D} {ss : List Sm}, RelSs ds ss → RelSs (ds ++ [d]) (ss ++ [s])
  | _, _, .nil => .cons h .nil
  | _, _, .cons a r => .cons a (RelSs.snoc h r)
theorem RelP.snoc {d : D} {x : Nm} (h : IsTok d (wd x)) : ∀ {ds : List D} {xs : List Nm}, RelP ds xs → RelP (ds ++ [d]) (xs ++ [x])
  | _, _, .nil => .cons h .nil
  | _, _, .cons a r => .cons a (RelP.snoc h r)
theorem RelFs.snoc {d : D} {f : Fx} (h : RelF d f) : ∀ {ds : List D} {fs : List Fx}, RelFs ds fs → RelFs (ds ++ [d]) (fs ++ [f])
  | _, _, .nil => .cons h .nil
  | _, _, .cons a r => .cons a (RelFs.snoc h r)
theorem RelSs.len : ∀ {ds : List D} {ss : List Sm}, RelSs ds ss → ds.length = ss.length
  | _, _, .nil => rfl
  | _, _, .cons _ r => by rw [List.length_cons, List.length_cons, RelSs.len r]
theorem RelEs.len : ∀ {ds : List D} {ss : List Ex}, RelEs ds ss → ds.length = ss.length
  | _, _, .nil => rfl
  | _, _, .cons _ r => by rw [List.length_cons, List.length_cons, RelEs.len r]
theorem RelT.len : ∀ {ds : List D} {ss : Ex}, RelT ds ss → ds.length = ss.length
  | _, _, .nil => rfl
  | _, _, .cons _ r => by rw [List.length_cons, List.length_cons, RelT.len r]
theorem RelP.len : ∀ {ds : List D} {ss : List Nm}, RelP ds ss → ds.length = ss.length
  | _, _, .nil => rfl
  | _, _, .cons _ r => by rw [List.length_cons, List.length_cons, RelP.len r]
theorem RelFs.len : ∀ {ds : List D} {ss : List Fx}, RelFs ds ss → ds.length = ss.length
  | _, _, .nil => rfl
  | _, _, .cons _ r => by rw [List.length_cons, List.length_cons, RelFs.len r]
end PF
set_option linter.all false
set_option maxRecDepth 100000
namespace PF
mutual
def allS : Sm → List Sm
  | .ifs l o r a b => .ifs l o r a b :: (allSs a ++ allSs b)
  | .loop e b => .loop e b :: allSs b
  | s => [s]
def allSs : List Sm → List Sm
  | [] => []
  | s :: ss => allS s ++ allSs ss
end
theorem allSs_cons (s : Sm) (ss : List Sm) : allSs (s :: ss) = allS s ++ allSs ss := by simp only [allSs]
theorem allSs_nil : allSs [] = [] := by simp only [allSs]
theorem allSs_append (a b : List Sm) : allSs (a ++ b) = allSs a ++ allSs b := by
  induction a with
  | nil => simp [allSs_nil]
  | cons s a ih => rw [List.cons_append, allSs_cons, allSs_cons, ih, List.append_assoc]
theorem allS_ifs (l : Ex) (o : Nat) (r : Ex) (a b : List Sm) : allS (.ifs l o r a b) = .ifs l o r a b :: (allSs a ++ allSs b) := by simp only [allS]
theorem allS_loop (e : Ex) (b : List Sm) : allS (.loop e b) = .loop e b :: allSs b := by simp only [allS]
theorem allS_flat {s : Sm} (h : flat1 s = true) : allS s = [s] := by
  cases s <;> first | (simp only [allS]; done) | cases h
mutual
theorem allS_len : ∀ s : Sm, (allS s).length = tot s
  | .ifs l o r a b => by rw [allS_ifs, tot_ifs, List.length_cons, List.length_append, allSs_len a, allSs_len b]; omega
  | .loop e b => by rw [allS_loop, tot_loop, List.length_cons, allSs_len b]; omega
  | .set _ _ => by simp [allS, tot]
  | .put _ _ => by simp [allS, tot]
  | .emit _ => by simp [allS, tot]
  | .ret _ => by simp [allS, tot]
  | .call _ _ _ _ _ _ => by simp [allS, tot]
theorem allSs_len : ∀ ss : List Sm, (allSs ss).length = tots ss
  | [] => by rw [allSs_nil, tots_nil]; rfl
  | s :: ss => by rw [allSs_cons, tots_cons, List.length_append, allS_len s, allSs_len ss]
end
def exs : Sm → List Ex
  | .set _ e => [e]
  | .put _ e => [e]
  | .emit e => [e]
  | .ret e => [e]
  | .ifs l _ r _ _ => [l, r]
  | .loop e _ => [e]
  | .call _ _ as _ _ e => as ++ [e]
def tgN : Sm → Option Nm
  | .set x _ => some x
  | .call x _ _ _ _ _ => some x
  | _ => none
def addN (ks : List Nm) (x : Nm) : List Nm := if x ∈ ks then ks else ks ++ [x]
def tgF (ks : List Nm) (s : Sm) : List Nm := match tgN s with
  | some x => addN ks x
  | none => ks
def tgts (ss : List Sm) : List Nm := (allSs ss).foldl tgF []
theorem mem_addN {ks : List Nm} {x y : Nm} : y ∈ addN ks x ↔ y ∈ ks ∨ y = x := by
  unfold addN
  split
  · rename_i h
    constructor
    · exact .inl
    · rintro (q | rfl)
      · exact q
      · exact h
  · simp
theorem mem_tgF {ks : List Nm} {s : Sm} {y : Nm} : y ∈ tgF ks s ↔ y ∈ ks ∨ tgN s = some y := by
  unfold tgF
  cases h : tgN s with
  | none => simp
  | some x =>
    dsimp only
    rw [mem_addN]
    constructor
    · rintro (q | rfl)
      · exact .inl q
      · exact .inr rfl
    · rintro (q | q)
      · exact .inl q
      · cases q; exact .inr rfl
theorem mem_foldl {y : Nm} : ∀ {l : List Sm} {ks : List Nm}, y ∈ l.foldl tgF ks ↔ y ∈ ks ∨ ∃ s ∈ l, tgN s = some y
  | [], ks => by simp
  | s :: l, ks => by
    rw [List.foldl_cons, mem_foldl, mem_tgF]
    constructor
    · rintro ((q | q) | ⟨t, ht, q⟩)
      · exact .inl q
      · exact .inr ⟨s, by simp, q⟩
      · exact .inr ⟨t, by simp [ht], q⟩
    · rintro (q | ⟨t, ht, q⟩)
      · exact .inl (.inl q)
      · rcases List.mem_cons.mp ht with rfl | ht
        · exact .inl (.inr q)
        · exact .inr ⟨t, ht, q⟩
theorem mem_tgts {ss : List Sm} {y : Nm} : y ∈ tgts ss ↔ ∃ s ∈ allSs ss, tgN s = some y := by
  unfold tgts; rw [mem_foldl]; simp
/-! ### what the checker asks -/
def TmC (kn : List Nm) : Tm → Prop
  | .l x => x ∈ kn
  | _ => True
def ExC (kn : List Nm) (e : Ex) : Prop := ∀ p ∈ e, TmC kn p.2
def SmC (hs : List (Nm × Nat)) (kn : List Nm) (s : Sm) : Prop := (∀ e ∈ exs s, ExC kn e) ∧ match s with
  | .call _ f as p q _ => (f, as.length) ∈ hs ∧ 1 ≤ p ∧ p ≤ q ∧ q ≤ 9
  | _ => True
structure CkF (hs : List (Nm × Nat)) (f : Fx) : Prop where
  ps : f.ps.length ≤ 4
  nd : f.ps.Nodup
  dp : dpts f.body ≤ 7
  st : ∀ s ∈ allSs f.body, SmC hs (tgts f.body ++ f.ps) s
structure CkOk (p : List Fx) : Prop where
  few : p.length ≤ 12
  nd : (p.map Fx.name).Nodup
  tt : tsum p ≤ 60
  fx : ∀ f ∈ p, CkF (p.map hdr) f
end PF
set_option linter.all false
set_option maxRecDepth 100000
namespace PF
theorem ren_append (b : List Itm) : ∀ a : List Itm, ren (a ++ b) = ren a ++ ren b
  | [] => rfl
  | (k, t) :: a => by
    rw [List.cons_append]
    show List.replicate k 32 ++ (t.text ++ ren (a ++ b)) = List.replicate k 32 ++ (t.text ++ ren a) ++ ren b
    rw [ren_append b a]
    simp
theorem joinS_cons (sep w : List Nat) : ∀ ws : List (List Nat), joinS sep (w :: ws) = w ++ ws.flatMap fun v => sep ++ v
  | [] => by simp [joinS]
  | v :: ws => by
    rw [show joinS sep (w :: v :: ws) = w ++ sep ++ joinS sep (v :: ws) from rfl, joinS_cons sep v ws, List.flatMap_cons]
    simp
theorem tkT_text (t : Tm) : (tkT t).text = tmS t := by cases t <;> rfl
def exIt (k : Nat) : Ex → List Itm
  | [] => []
  | p :: r => (k, tkT p.2) :: r.flatMap fun q => [(1, sy q.1), (1, tkT q.2)]
theorem ren_flat : ∀ r : Ex, ren (r.flatMap fun q => [(1, sy q.1), (1, tkT q.2)]) = (exW r).flatMap fun v => [32] ++ v
  | [] => rfl
  | q :: r => by
    rw [List.flatMap_cons, ren_append, ren_flat r]
    unfold exW
    rw [List.flatMap_cons]
    simp [ren, tkT_text, sy]
theorem ren_ex {k : Nat} {e : Ex} (h : 0 < e.length) : ren (exIt k e) = List.replicate k 32 ++ exS e := by
  cases e with
  | nil => simp at h
  | cons p r =>
    unfold exIt exS exW
    rw [List.flatMap_cons]
    show List.replicate k 32 ++ ((tkT p.2).text ++ ren _) = List.replicate k 32 ++ joinS [32] (tmS p.2 :: exW r)
    rw [joinS_cons, ren_flat, tkT_text]
theorem exIt_tok (k : Nat) (e : Ex) : (exIt k e).map (·.2) = exK e := by
  cases e with
  | nil => rfl
  | cons p r =>
    unfold exIt exK
    rw [List.map_cons]
    congr 1
    induction r with
    | nil => rfl
    | cons q r ih => rw [List.flatMap_cons, List.flatMap_cons, List.map_append, ih]; rfl
def arIt : List Ex → List Itm
  | [] => []
  | a :: r => exIt 0 a ++ r.flatMap fun b => (0, sy 44) :: exIt 1 b
def pmIt : List Nm → List Itm
  | [] => []
  | a :: r => (0, wd a) :: r.flatMap fun b => [(0, sy 44), (1, wd b)]
def stIt (n : Nat) : Sm → List Itm
  | .set x e => (n, kw [115, 101, 116]) :: (1, wd x) :: (1, sy 61) :: (exIt 1 e ++ [(0, sy 59)])
  | .put i e => (n, kw [112, 117, 116]) :: (1, ⟨kC, [65 + i]⟩) :: (1, sy 61) :: (exIt 1 e ++ [(0, sy 59)])
  | .emit e => (n, kw [101, 109, 105, 116]) :: (exIt 1 e ++ [(0, sy 59)])
  | .ret e => (n, kw [114, 101, 116, 117, 114, 110]) :: (exIt 1 e ++ [(0, sy 59)])
  | .call x f as p q e => (n, kw [99, 97, 108, 108]) :: (1, wd x) :: (1, sy 61) :: (1, wd f) :: (0, sy 40) :: (arIt as ++ (0, sy 41) :: (1, kw [115, 104, 97, 114, 101]) :: (1, nu p) :: (0, sy 47) :: (0, nu q) :: (1, kw [101, 108, 115, 101]) :: (exIt 1 e ++ [(0, sy 59)]))
  | _ => []
mutual
def lnIt (n : Nat) : Sm → List (List Itm)
  | .ifs l o r a b => ((n, kw [105, 102]) :: (exIt 1 l ++ (1, sy o) :: (exIt 1 r ++ [(1, sy 123)]))) :: (lnsIt (n + 2) a ++ (if b.isEmpty then [] else [(n, sy 125), (1, kw [101, 108, 115, 101]), (1, sy 123)] :: lnsIt (n + 2) b) ++ [[(n, sy 125)]])
  | .loop e b => ((n, kw [108, 111, 111, 112]) :: (exIt 1 e ++ [(1, sy 123)])) :: (lnsIt (n + 2) b ++ [[(n, sy 125)]])
  | s => [stIt n s]
def lnsIt (n : Nat) : List Sm → List (List Itm)
  | [] => []
  | s :: ss => lnIt n s ++ lnsIt n ss
end
def fxIt (f : Fx) : List (List Itm) := ((0, kw [100, 101, 102]) :: (1, wd f.name) :: (0, sy 40) :: (pmIt f.ps ++ [(0, sy 41), (1, sy 123)])) :: (lnsIt 2 f.body ++ [[(0, sy 125)]])
def srcIt (p : List Fx) : List (List Itm) := p.flatMap fxIt
/-! texts -/
theorem ren_ar : ∀ {as : List Ex}, (∀ a ∈ as, 0 < a.length) → ren (arIt as) = joinS [44, 32] (as.map exS)
  | [], _ => rfl
  | a :: as, h => by
    unfold arIt
    rw [ren_append, ren_ex (h a (by simp)), List.map_cons, joinS_cons]
    have : ∀ r : List Ex, (∀ a ∈ r, 0 < a.length) → ren (r.flatMap fun b => (0, sy 44) :: exIt 1 b) = (r.map exS).flatMap fun v => [44, 32] ++ v := by
      intro r
      induction r with
      | nil => intro _; rfl
      | cons b r ih =>
        intro h
        rw [List.flatMap_cons, ren_append, ih fun x hx => h x (by simp [hx]), List.map_cons, List.flatMap_cons]
        show (List.replicate 0 32 ++ ([44] ++ ren (exIt 1 b))) ++ _ = _
        rw [ren_ex (h b (by simp))]
        simp
    rw [this as fun x hx => h x (by simp [hx])]
    simp
theorem ren_pm : ∀ ps : List Nm, ren (pmIt ps) = joinS [44, 32] ps
  | [] => rfl
  | a :: r => by
    unfold pmIt
    rw [joinS_cons]
    show List.replicate 0 32 ++ (a ++ ren _) = _
    have : ∀ r : List Nm, ren (r.flatMap fun b => [(0, sy 44), (1, wd b)]) = r.flatMap fun v => [44, 32] ++ v := by
      intro r
      induction r with
      | nil => rfl
      | cons b r ih =>
        rw [List.flatMap_cons, ren_append, ih, List.flatMap_cons]
        simp [ren, sy, wd]
    rw [this]
    simp
theorem rep_add (n : Nat) : List.replicate n 32 ++ [32, 32] = List.replicate (n + 2) 32 := by
  rw [show [32, 32] = List.replicate 2 32 from rfl, List.replicate_append_replicate]
theorem ren_st {n : Nat} {s : Sm} (hv : SmV s) (hf : flat1 s = true) : ren (stIt n s) = List.replicate n 32 ++ lnS s := by
  cases s with
  | ifs l o r a b => cases hf
  | loop e b => cases hf
  | set x e =>
    unfold SmV at hv
    simp only [stIt, lnS, ren, ren_append, ren_ex hv.2.1, sy, kw, wd]
    simp
  | put x e =>
    unfold SmV at hv
    simp only [stIt, lnS, ren, ren_append, ren_ex hv.2.1, sy, kw, wd]
    simp
  | emit e =>
    unfold SmV at hv
    simp only [stIt, lnS, ren, ren_append, ren_ex hv.1, sy, kw, wd]
    simp
  | ret e =>
    unfold SmV at hv
    simp only [stIt, lnS, ren, ren_append, ren_ex hv.1, sy, kw, wd]
    simp
  | call x f as p q e =>
    unfold SmV at hv
    obtain ⟨v1, v2, v3, v4, v5, v6, v7⟩ := hv
    simp only [stIt, lnS, ren, ren_append, ren_ex v7.1, ren_ar fun a ha => (v3 a ha).1, sy, kw, wd, nu, joinS]
    simp
mutual
theorem lnIt_text : ∀ (s : Sm) (n : Nat), SmV s → (lnIt n s).map ren = lns (List.replicate n 32) s
  | .ifs l o r a b, n, hv => by
    unfold SmV at hv
    obtain ⟨v1, v2, v3, v4, v5, v6, v7⟩ := hv
    simp only [lnIt, lns, List.map_cons, List.map_append, lnsIt_text a (n + 2) v4, rep_add, ren, ren_append, ren_ex v1.1, ren_ex v3.1, sy, kw, joinS]
    cases b with
    | nil => simp
    | cons x b =>
      have := lnsIt_text (x :: b) (n + 2) v5
      simp [this, ren]
  | .loop e b, n, hv => by
    unfold SmV at hv
    simp only [lnIt, lns, List.map_cons, List.map_append, lnsIt_text b (n + 2) hv.2.1, rep_add, ren, ren_append, ren_ex hv.1.1, sy, kw]
    simp
  | .set x e, n, hv => by simp only [lnIt, lns, List.map_cons, List.map_nil, ren_st hv rfl]
  | .put x e, n, hv => by simp only [lnIt, lns, List.map_cons, List.map_nil, ren_st hv rfl]
  | .emit e, n, hv => by simp only [lnIt, lns, List.map_cons, List.map_nil, ren_st hv rfl]
  | .ret e, n, hv => by simp only [lnIt, lns, List.map_cons, List.map_nil, ren_st hv rfl]
  | .call x f as p q e, n, hv => by simp only [lnIt, lns, List.map_cons, List.map_nil, ren_st hv rfl]
theorem lnsIt_text : ∀ (ss : List Sm) (n : Nat), SmsV ss → (lnsIt n ss).map ren = lnss (List.replicate n 32) ss
  | [], n, _ => by simp [lnsIt, lnss]
  | s :: ss, n, hv => by
    unfold SmsV at hv
    simp only [lnsIt, lnss, List.map_append, lnIt_text s n hv.1, lnsIt_text ss n hv.2]
end
theorem fxIt_text {f : Fx} (hv : SmsV f.body) : (fxIt f).map ren = fxL f := by
  unfold fxIt fxL
  simp only [List.map_cons, List.map_append, lnsIt_text f.body 2 hv, ren, ren_append, ren_pm, sy, kw, wd]
  simp
theorem srcIt_text {p : List Fx} (hv : ∀ f ∈ p, SmsV f.body) : (srcIt p).map ren = srcL p := by
  unfold srcIt srcL
  induction p with
  | nil => rfl
  | cons f p ih => rw [List.flatMap_cons, List.flatMap_cons, List.map_append, fxIt_text (hv f (by simp)), ih fun g hg => hv g (by simp [hg])]
/-! tokens -/
def itK (l : List (List Itm)) : List TK := l.flatMap fun its => its.map (·.2)
theorem itK_append (a b : List (List Itm)) : itK (a ++ b) = itK a ++ itK b := by unfold itK; rw [List.flatMap_append]
theorem arIt_tok : ∀ as : List Ex, (arIt as).map (·.2) = arK as
  | [] => rfl
  | [a] => by unfold arIt arK; simp [exIt_tok]
  | a :: b :: r => by
    have := arIt_tok (b :: r)
    unfold arIt at this ⊢
    rw [show arK (a :: b :: r) = exK a ++ sy 44 :: arK (b :: r) from rfl, ← this]
    simp [exIt_tok]
theorem pmIt_tok : ∀ ps : List Nm, (pmIt ps).map (·.2) = pmK ps
  | [] => rfl
  | [a] => rfl
  | a :: b :: r => by
    have := pmIt_tok (b :: r)
    unfold pmIt at this ⊢
    rw [show pmK (a :: b :: r) = wd a :: sy 44 :: pmK (b :: r) from rfl, ← this]
    simp
theorem stIt_tok {n : Nat} {s : Sm} (hf : flat1 s = true) : (stIt n s).map (·.2) = stK s := by
  cases s <;> first | cases hf; done | (simp [stIt, stK, exIt_tok, arIt_tok]; done) | cases hf
mutual
theorem lnIt_tok : ∀ (s : Sm) (n : Nat), itK (lnIt n s) = stK s
  | .ifs l o r a b, n => by
    have h1 := lnsIt_tok a (n + 2)
    have h2 := lnsIt_tok b (n + 2)
    simp only [lnIt, stK]
    rw [show ∀ (x : List Itm) (l : List (List Itm)), itK (x :: l) = x.map (·.2) ++ itK l from fun x l => by unfold itK; rw [List.flatMap_cons], itK_append, itK_append, h1]
    cases b with
    | nil => simp [itK, exIt_tok]
    | cons x b =>
      simp only [List.isEmpty_cons, Bool.false_eq_true, if_false]
      rw [show ∀ (x : List Itm) (l : List (List Itm)), itK (x :: l) = x.map (·.2) ++ itK l from fun x l => by unfold itK; rw [List.flatMap_cons], h2]
      simp [itK, exIt_tok]
  | .loop e b, n => by
    have h1 := lnsIt_tok b (n + 2)
    simp only [lnIt, stK]
    rw [show ∀ (x : List Itm) (l : List (List Itm)), itK (x :: l) = x.map (·.2) ++ itK l from fun x l => by unfold itK; rw [List.flatMap_cons], itK_append, h1]
    simp [itK, exIt_tok]
  | .set x e, n => by simp only [lnIt]; simp [itK]; exact stIt_tok rfl
  | .put x e, n => by simp only [lnIt]; simp [itK]; exact stIt_tok rfl
  | .emit e, n => by simp only [lnIt]; simp [itK]; exact stIt_tok rfl
  | .ret e, n => by simp only [lnIt]; simp [itK]; exact stIt_tok rfl
  | .call x f as p q e, n => by simp only [lnIt]; simp [itK]; exact stIt_tok rfl
theorem lnsIt_tok : ∀ (ss : List Sm) (n : Nat), itK (lnsIt n ss) = stKs ss
  | [], n => by simp [lnsIt, stKs, itK]
  | s :: ss, n => by simp only [lnsIt, stKs]; rw [itK_append, lnIt_tok s n, lnsIt_tok ss n]
end
theorem fxIt_tok (f : Fx) : itK (fxIt f) = fxK f := by
  unfold fxIt fxK
  rw [show ∀ (x : List Itm) (l : List (List Itm)), itK (x :: l) = x.map (·.2) ++ itK l from fun x l => by unfold itK; rw [List.flatMap_cons], itK_append, lnsIt_tok]
  simp [itK, pmIt_tok]
theorem srcIt_tok (p : List Fx) : itK (srcIt p) = p.flatMap fxK := by
  unfold srcIt
  induction p with
  | nil => rfl
  | cons f p ih => rw [List.flatMap_cons, itK_append, fxIt_tok, ih, List.flatMap_cons]
/-! what stands beside what -/
def isS (t : TK) : Prop := t.kind = kS
def Adj : Prop → List Itm → Prop
  | _, [] => True
  | b, (k, t) :: r => (b ∨ 1 ≤ k ∨ isS t) ∧ Adj (isS t) r
theorem Adj.mono {b c : Prop} (h : b → c) : ∀ {r : List Itm}, Adj b r → Adj c r
  | [], _ => trivial
  | (k, t) :: r, a => ⟨a.1.imp_left h, a.2⟩
theorem sym_isS {t : TK} (h : TkOk t) (hs : isS t) : ∃ c ∈ SYM, t.text = [c] := by
  cases h with
  | sym h => exact ⟨_, h, rfl⟩
  | cell h => exact absurd (show kC = kS from hs) (by decide)
  | word _ _ _ _ => exact absurd (show kW = kS from hs) (by decide)
  | key _ => exact absurd (show kK = kS from hs) (by decide)
  | num _ _ _ _ => exact absurd (show kN = kS from hs) (by decide)
theorem ren_cons' (k : Nat) (t : TK) (r : List Itm) : ren ((k, t) :: r) = List.replicate k 32 ++ (t.text ++ ren r) := rfl
theorem itOk_of : ∀ {its : List Itm} {b : Prop}, (∀ it ∈ its, TkOk it.2) → Adj b its → ItOk 0 its
  | [], b, _, _ => .nil
  | (k, t) :: r, b, h, a => by
    have ht := h (k, t) (by simp)
    refine .cons ht ?_ (itOk_of (fun it hi => h it (by simp [hi])) a.2)
    intro c hc
    cases r with
    | nil => simp [ren] at hc
    | cons it r =>
      obtain ⟨k', t'⟩ := it
      have ht' := h (k', t') (by simp)
      rcases a.2.1 with q | q | q
      · obtain ⟨x, hx, e⟩ := sym_isS ht q
        rw [e]
        have := sym_sym x hx
        refine ⟨fun y hy hl => ?_, fun y hy hl => ?_⟩
        · simp at hy; subst hy; exact absurd hl this.2.1
        · simp at hy; subst hy; exact absurd hl this.2.2.1
      · obtain ⟨j, rfl⟩ : ∃ j, k' = j + 1 := ⟨k' - 1, by omega⟩
        have : c = 32 := by simpa [ren, List.replicate_succ] using hc.symm
        subst this
        exact ⟨fun _ _ _ => by decide, fun _ _ _ => by decide⟩
      · obtain ⟨x, hx, e⟩ := sym_isS ht' q
        cases k' with
        | zero =>
          have : c = x := by
            rw [ren_cons', e] at hc
            simpa using hc.symm
          subst this
          have := sym_sym c hx
          exact ⟨fun _ _ _ => this.2.1, fun _ _ _ => this.2.2.1⟩
        | succ j =>
          have : c = 32 := by simpa [ren, List.replicate_succ] using hc.symm
          subst this
          exact ⟨fun _ _ _ => by decide, fun _ _ _ => by decide⟩
theorem adj_ex {b : Prop} {k : Nat} {e : Ex} {rest : List Itm} (hb : b ∨ 1 ≤ k) (he : 0 < e.length) (hr : Adj False rest) : Adj b (exIt k e ++ rest) := by
  cases e with
  | nil => simp at he
  | cons p r =>
    unfold exIt
    refine ⟨hb.imp_right .inl, ?_⟩
    refine Adj.mono (b := False) (fun q => q.elim) ?_
    induction r with
    | nil => exact hr
    | cons q r ih =>
      rw [List.flatMap_cons]
      exact ⟨.inr (.inl (by omega)), ⟨.inr (.inl (by omega)), Adj.mono (b := False) (fun q => q.elim) (ih (by simp))⟩⟩
theorem adj_ar {rest : List Itm} (hr : Adj False rest) (hr2 : Adj True rest) : ∀ {as : List Ex}, (∀ a ∈ as, 0 < a.length) → Adj True (arIt as ++ rest)
  | [], _ => hr2
  | a :: as, h => by
    unfold arIt
    rw [List.append_assoc]
    refine adj_ex (.inl trivial) (h a (by simp)) ?_
    have h2 : ∀ x ∈ as, 0 < x.length := fun x hx => h x (by simp [hx])
    clear h
    induction as with
    | nil => exact hr
    | cons b as ih =>
      rw [List.flatMap_cons, List.append_assoc]
      refine ⟨.inr (.inr rfl), ?_⟩
      exact adj_ex (.inr (by omega)) (h2 b (by simp)) (ih fun x hx => h2 x (by simp [hx]))
theorem adj_pm {rest : List Itm} (hr : Adj False rest) (hr2 : Adj True rest) : ∀ {ps : List Nm}, Adj True (pmIt ps ++ rest)
  | [] => hr2
  | a :: ps => by
    unfold pmIt
    refine ⟨.inl trivial, Adj.mono (b := False) (fun q => q.elim) ?_⟩
    induction ps with
    | nil => exact hr
    | cons b ps ih =>
      rw [List.flatMap_cons]
      exact ⟨.inr (.inr rfl), ⟨.inr (.inl (by omega)), Adj.mono (b := False) (fun q => q.elim) ih⟩⟩
theorem adj_st {n : Nat} {s : Sm} (hv : SmV s) : Adj True (stIt n s) := by
  cases s with
  | ifs l o r a b => exact trivial
  | loop e b => exact trivial
  | set x e =>
    unfold SmV at hv
    exact ⟨.inl trivial, .inr (.inl (by omega)), .inr (.inl (by omega)), adj_ex (.inr (by omega)) hv.2.1 ⟨.inr (.inr rfl), trivial⟩⟩
  | put x e =>
    unfold SmV at hv
    exact ⟨.inl trivial, .inr (.inl (by omega)), .inr (.inl (by omega)), adj_ex (.inr (by omega)) hv.2.1 ⟨.inr (.inr rfl), trivial⟩⟩
  | emit e =>
    unfold SmV at hv
    exact ⟨.inl trivial, adj_ex (.inr (by omega)) hv.1 ⟨.inr (.inr rfl), trivial⟩⟩
  | ret e =>
    unfold SmV at hv
    exact ⟨.inl trivial, adj_ex (.inr (by omega)) hv.1 ⟨.inr (.inr rfl), trivial⟩⟩
  | call x f as p q e =>
    unfold SmV at hv
    obtain ⟨v1, v2, v3, v4, v5, v6, v7⟩ := hv
    have tail : ∀ b : Prop, Adj b ((0, sy 41) :: (1, kw [115, 104, 97, 114, 101]) :: (1, nu p) :: (0, sy 47) :: (0, nu q) :: (1, kw [101, 108, 115, 101]) :: (exIt 1 e ++ [(0, sy 59)])) := fun b =>
      ⟨.inr (.inr rfl), .inr (.inl (by omega)), .inr (.inl (by omega)), .inr (.inr rfl), .inl rfl, .inr (.inl (by omega)), adj_ex (.inr (by omega)) v7.1 ⟨.inr (.inr rfl), trivial⟩⟩
    refine ⟨.inl trivial, .inr (.inl (by omega)), .inr (.inl (by omega)), .inr (.inl (by omega)), .inr (.inr rfl), ?_⟩
    exact Adj.mono (b := True) (fun _ => rfl) (adj_ar (tail _) (tail _) fun a ha => (v3 a ha).1)
mutual
theorem adj_ln : ∀ (s : Sm) (n : Nat), SmV s → ∀ its ∈ lnIt n s, Adj True its
  | .ifs l o r a b, n, hv, its, hi => by
    unfold SmV at hv
    obtain ⟨v1, v2, v3, v4, v5, v6, v7⟩ := hv
    simp only [lnIt] at hi
    rcases List.mem_cons.mp hi with rfl | hi
    · exact ⟨.inl trivial, adj_ex (.inr (by omega)) v1.1 ⟨.inr (.inl (by omega)), adj_ex (.inr (by omega)) v3.1 ⟨.inr (.inl (by omega)), trivial⟩⟩⟩
    · rcases List.mem_append.mp hi with hi | hi
      · rcases List.mem_append.mp hi with hi | hi
        · exact adj_lns a (n + 2) v4 its hi
        · split at hi
          · cases hi
          · rcases List.mem_cons.mp hi with rfl | hi
            · exact ⟨.inl trivial, .inr (.inl (by omega)), .inr (.inl (by omega)), trivial⟩
            · exact adj_lns b (n + 2) v5 its hi
      · simp at hi; subst hi; exact ⟨.inl trivial, trivial⟩
  | .loop e b, n, hv, its, hi => by
    unfold SmV at hv
    simp only [lnIt] at hi
    rcases List.mem_cons.mp hi with rfl | hi
    · exact ⟨.inl trivial, adj_ex (.inr (by omega)) hv.1.1 ⟨.inr (.inl (by omega)), trivial⟩⟩
    · rcases List.mem_append.mp hi with hi | hi
      · exact adj_lns b (n + 2) hv.2.1 its hi
      · simp at hi; subst hi; exact ⟨.inl trivial, trivial⟩
  | .set x e, n, hv, its, hi => by simp only [lnIt] at hi; simp at hi; subst hi; exact adj_st hv
  | .put x e, n, hv, its, hi => by simp only [lnIt] at hi; simp at hi; subst hi; exact adj_st hv
  | .emit e, n, hv, its, hi => by simp only [lnIt] at hi; simp at hi; subst hi; exact adj_st hv
  | .ret e, n, hv, its, hi => by simp only [lnIt] at hi; simp at hi; subst hi; exact adj_st hv
  | .call x f as p q e, n, hv, its, hi => by simp only [lnIt] at hi; simp at hi; subst hi; exact adj_st hv
theorem adj_lns : ∀ (ss : List Sm) (n : Nat), SmsV ss → ∀ its ∈ lnsIt n ss, Adj True its
  | [], n, hv, its, hi => by simp [lnsIt] at hi
  | s :: ss, n, hv, its, hi => by
    unfold SmsV at hv
    simp only [lnsIt] at hi
    rcases List.mem_append.mp hi with hi | hi
    · exact adj_ln s n hv.1 its hi
    · exact adj_lns ss n hv.2 its hi
end
theorem adj_fx {f : Fx} (hv : SmsV f.body) : ∀ its ∈ fxIt f, Adj True its := by
  intro its hi
  unfold fxIt at hi
  rcases List.mem_cons.mp hi with rfl | hi
  · exact ⟨.inl trivial, .inr (.inl (by omega)), .inr (.inr rfl), Adj.mono (b := True) (fun _ => rfl) (adj_pm (rest := [(0, sy 41), (1, sy 123)]) ⟨.inr (.inr rfl), .inr (.inl (by omega)), trivial⟩ ⟨.inr (.inr rfl), .inr (.inl (by omega)), trivial⟩)⟩
  · rcases List.mem_append.mp hi with hi | hi
    · exact adj_lns f.body 2 hv its hi
    · simp at hi; subst hi; exact ⟨.inl trivial, trivial⟩
/-! all tokens are right -/
theorem sy_ok {c : Nat} (h : c ∈ SYM) : TkOk (sy c) := .sym h
theorem kw_ok {w : List Nat} (h : w ∈ KWS) : TkOk (kw w) := .key h
theorem exK_ok {e : Ex} (hv : ExV e) : ∀ t ∈ exK e, TkOk t := by
  obtain ⟨h0, h1, h2, h3, h4⟩ := hv
  cases e with
  | nil => intro t ht; cases ht
  | cons p r =>
    intro t ht
    unfold exK at ht
    rcases List.mem_cons.mp ht with rfl | ht
    · exact h4 p (by simp)
    · obtain ⟨q, hq, ht⟩ := List.mem_flatMap.mp ht
      simp at ht
      rcases ht with rfl | rfl
      · have := h3 q (by simp [hq])
        exact sy_ok (by rcases this with e | e | e <;> rw [e] <;> decide)
      · exact h4 q (by simp [hq])
theorem arK_ok : ∀ {as : List Ex}, (∀ a ∈ as, ExV a) → ∀ t ∈ arK as, TkOk t
  | [], _, t, ht => by cases ht
  | [a], h, t, ht => exK_ok (h a (by simp)) t ht
  | a :: b :: r, h, t, ht => by
    rw [show arK (a :: b :: r) = exK a ++ sy 44 :: arK (b :: r) from rfl] at ht
    rcases List.mem_append.mp ht with ht | ht
    · exact exK_ok (h a (by simp)) t ht
    · rcases List.mem_cons.mp ht with rfl | ht
      · exact sy_ok (by decide)
      · exact arK_ok (fun x hx => h x (by simp at hx ⊢; right; exact hx)) t ht
theorem pmK_ok : ∀ {ps : List Nm}, (∀ a ∈ ps, NmV a) → ∀ t ∈ pmK ps, TkOk t
  | [], _, t, ht => by cases ht
  | [a], h, t, ht => by simp [pmK] at ht; subst ht; exact h a (by simp)
  | a :: b :: r, h, t, ht => by
    rw [show pmK (a :: b :: r) = wd a :: sy 44 :: pmK (b :: r) from rfl] at ht
    rcases List.mem_cons.mp ht with rfl | ht
    · exact h a (by simp)
    · rcases List.mem_cons.mp ht with rfl | ht
      · exact sy_ok (by decide)
      · exact pmK_ok (fun x hx => h x (by simp at hx ⊢; right; exact hx)) t ht
mutual
theorem stK_ok : ∀ (s : Sm), SmV s → ∀ t ∈ stK s, TkOk t
  | .set x e, hv, t, ht => by
    unfold SmV at hv
    simp only [stK, List.mem_cons, List.mem_append, List.not_mem_nil, or_false] at ht
    rcases ht with rfl | rfl | rfl | ht | rfl
    · exact kw_ok (by decide)
    · exact hv.1
    · exact sy_ok (by decide)
    · exact exK_ok hv.2 t ht
    · exact sy_ok (by decide)
  | .put x e, hv, t, ht => by
    unfold SmV at hv
    simp only [stK, List.mem_cons, List.mem_append, List.not_mem_nil, or_false] at ht
    rcases ht with rfl | rfl | rfl | ht | rfl
    · exact kw_ok (by decide)
    · exact cell_ok hv.1
    · exact sy_ok (by decide)
    · exact exK_ok hv.2 t ht
    · exact sy_ok (by decide)
  | .emit e, hv, t, ht => by
    unfold SmV at hv
    simp only [stK, List.mem_cons, List.mem_append, List.not_mem_nil, or_false] at ht
    rcases ht with rfl | ht | rfl
    · exact kw_ok (by decide)
    · exact exK_ok hv t ht
    · exact sy_ok (by decide)
  | .ret e, hv, t, ht => by
    unfold SmV at hv
    simp only [stK, List.mem_cons, List.mem_append, List.not_mem_nil, or_false] at ht
    rcases ht with rfl | ht | rfl
    · exact kw_ok (by decide)
    · exact exK_ok hv t ht
    · exact sy_ok (by decide)
  | .ifs l o r a b, hv, t, ht => by
    unfold SmV at hv
    obtain ⟨v1, v2, v3, v4, v5, v6, v7⟩ := hv
    simp only [stK, List.mem_cons, List.mem_append] at ht
    rcases ht with rfl | ht | rfl | ht | rfl | ht | rfl | ht
    · exact kw_ok (by decide)
    · exact exK_ok v1 t ht
    · exact sy_ok (by rcases v2 with e | e | e <;> rw [e] <;> decide)
    · exact exK_ok v3 t ht
    · exact sy_ok (by decide)
    · exact stKs_ok a v4 t ht
    · exact sy_ok (by decide)
    · split at ht
      · cases ht
      · simp only [List.mem_cons, List.mem_append, List.not_mem_nil, or_false] at ht
        rcases ht with rfl | rfl | ht | rfl
        · exact kw_ok (by decide)
        · exact sy_ok (by decide)
        · exact stKs_ok b v5 t ht
        · exact sy_ok (by decide)
  | .loop e b, hv, t, ht => by
    unfold SmV at hv
    simp only [stK, List.mem_cons, List.mem_append, List.not_mem_nil, or_false] at ht
    rcases ht with rfl | ht | rfl | ht | rfl
    · exact kw_ok (by decide)
    · exact exK_ok hv.1 t ht
    · exact sy_ok (by decide)
    · exact stKs_ok b hv.2.1 t ht
    · exact sy_ok (by decide)
  | .call x f as p q e, hv, t, ht => by
    unfold SmV at hv
    obtain ⟨v1, v2, v3, v4, v5, v6, v7⟩ := hv
    simp only [stK, List.mem_cons, List.mem_append, List.not_mem_nil, or_false] at ht
    rcases ht with rfl | rfl | rfl | rfl | rfl | ht | rfl | rfl | rfl | rfl | rfl | rfl | ht | rfl
    · exact kw_ok (by decide)
    · exact v1
    · exact sy_ok (by decide)
    · exact v2
    · exact sy_ok (by decide)
    · exact arK_ok v3 t ht
    · exact sy_ok (by decide)
    · exact kw_ok (by decide)
    · exact v5
    · exact sy_ok (by decide)
    · exact v6
    · exact kw_ok (by decide)
    · exact exK_ok v7 t ht
    · exact sy_ok (by decide)
theorem stKs_ok : ∀ (ss : List Sm), SmsV ss → ∀ t ∈ stKs ss, TkOk t
  | [], hv, t, ht => by simp [stKs] at ht
  | s :: ss, hv, t, ht => by
    unfold SmsV at hv
    simp only [stKs] at ht
    rcases List.mem_append.mp ht with ht | ht
    · exact stK_ok s hv.1 t ht
    · exact stKs_ok ss hv.2 t ht
end
theorem fxK_ok {f : Fx} (h1 : NmV f.name) (h2 : ∀ x ∈ f.ps, NmV x) (h3 : SmsV f.body) : ∀ t ∈ fxK f, TkOk t := by
  intro t ht
  simp only [fxK, List.mem_cons, List.mem_append, List.not_mem_nil, or_false] at ht
  rcases ht with rfl | rfl | rfl | ht | rfl | rfl | ht | rfl
  · exact kw_ok (by decide)
  · exact h1
  · exact sy_ok (by decide)
  · exact pmK_ok h2 t ht
  · exact sy_ok (by decide)
  · exact sy_ok (by decide)
  · exact stKs_ok f.body h3 t ht
  · exact sy_ok (by decide)
theorem srcIt_ok {p : List Fx} (h : ∀ f ∈ p, NmV f.name ∧ (∀ x ∈ f.ps, NmV x) ∧ SmsV f.body) : ∀ its ∈ srcIt p, ItOk 0 its := by
  intro its hi
  unfold srcIt at hi
  obtain ⟨f, hf, hi⟩ := List.mem_flatMap.mp hi
  obtain ⟨h1, h2, h3⟩ := h f hf
  refine itOk_of (fun it hit => ?_) (adj_fx h3 its hi)
  refine fxK_ok h1 h2 h3 it.2 ?_
  rw [← fxIt_tok]
  exact List.mem_flatMap.mpr ⟨its, hi, List.mem_map.mpr ⟨it, hit, rfl⟩⟩
end PF
set_option maxRecDepth 100000
namespace K
open PF
/-- run_length(text, start, characters) : 0=text 1=start 2=characters 3=length -/
def f_run_length : Fn := { np := 3, ns := 4, body := (.cons (.set 3 (.k (.int 0)))
    (.cons (.whl (.an (.cons (.cp .lt (.op .add (.v 1) (.v 3)) (.bi .len (.cons (.v 0) .nil))) (.cons (.inn false (.ix (.v 0) (.op .add (.v 1) (.v 3))) (.v 2)) .nil))) (.cons (.aug 3 .add (.k (.int 1)))
    .nil))
    (.cons (.ret (.v 3))
    .nil))) }
/-- scan_token(text, line, column) : 0=text 1=line 2=column 3=first 4=word 5=number -/
def f_scan_token : Fn := { np := 3, ns := 6, body := (.cons (.set 3 (.ix (.v 0) (.v 2)))
    (.cons (.ifs (.inn false (.v 3) (.k (.str [40, 41, 123, 125, 61, 59, 44, 47, 60, 62, 43, 45, 42]))) (.cons (.ret (.rc 3 (.cons (.k (.str [115, 121, 109, 98, 111, 108])) (.cons (.v 3) (.cons (.v 1) (.cons (.v 2) .nil))))))
    .nil) .nil)
    (.cons (.ifs (.inn false (.v 3) (.k (.str [65, 66, 67, 68, 69, 70, 71, 72]))) (.cons (.ret (.rc 3 (.cons (.k (.str [99, 101, 108, 108])) (.cons (.v 3) (.cons (.v 1) (.cons (.v 2) .nil))))))
    .nil) .nil)
    (.cons (.ifs (.inn false (.v 3) (.k (.str [97, 98, 99, 100, 101, 102, 103, 104, 105, 106, 107, 108, 109, 110, 111, 112, 113, 114, 115, 116, 117, 118, 119, 120, 121, 122]))) (.cons (.set 4 (.sl (.v 0) (.v 2) (.op .add (.v 2) (.cl 0 (.cons (.v 0) (.cons (.v 2) (.cons (.k (.str [97, 98, 99, 100, 101, 102, 103, 104, 105, 106, 107, 108, 109, 110, 111, 112, 113, 114, 115, 116, 117, 118, 119, 120, 121, 122])) .nil)))))))
    (.cons (.ifs (.cp .gt (.bi .len (.cons (.v 4) .nil)) (.k (.int 8))) (.cons (.rais 1 (.cons (.v 1) (.cons (.v 2) .nil)))
    .nil) .nil)
    (.cons (.ret (.rc 3 (.cons (.ife (.inn false (.v 4) (.g 0)) (.k (.str [107, 101, 121, 119, 111, 114, 100])) (.k (.str [119, 111, 114, 100]))) (.cons (.v 4) (.cons (.v 1) (.cons (.v 2) .nil))))))
    .nil))) .nil)
    (.cons (.ifs (.inn true (.v 3) (.k (.str [48, 49, 50, 51, 52, 53, 54, 55, 56, 57]))) (.cons (.rais 1 (.cons (.v 1) (.cons (.v 2) .nil)))
    .nil) .nil)
    (.cons (.set 5 (.sl (.v 0) (.v 2) (.op .add (.v 2) (.cl 0 (.cons (.v 0) (.cons (.v 2) (.cons (.k (.str [48, 49, 50, 51, 52, 53, 54, 55, 56, 57])) .nil)))))))
    (.cons (.ifs (.orr (.cons (.cp .gt (.bi .len (.cons (.v 5) .nil)) (.k (.int 6))) (.cons (.an (.cons (.cp .gt (.bi .len (.cons (.v 5) .nil)) (.k (.int 1))) (.cons (.cp .eq (.v 3) (.k (.str [48]))) .nil))) .nil))) (.cons (.rais 1 (.cons (.v 1) (.cons (.v 2) .nil)))
    .nil) .nil)
    (.cons (.ret (.rc 3 (.cons (.k (.str [110, 117, 109, 98, 101, 114])) (.cons (.v 5) (.cons (.v 1) (.cons (.v 2) .nil))))))
    .nil)))))))) }
/-- tokenize(source) : 0=source 1=lines 2=tokens 3=line 4=text 5=column -/
def f_tokenize : Fn := { np := 1, ns := 6, body := (.cons (.par [(1, false), (2, true)] (.cons (.bm .split (.v 0) (.k (.str [10]))) (.cons (.lst .nil) .nil)))
    (.cons (.fr (.t [3, 4]) (.enu (.v 1)) (.cons (.set 5 (.k (.int 0)))
    (.cons (.whl (.cp .lt (.v 5) (.bi .len (.cons (.v 4) .nil))) (.cons (.ifs (.cp .eq (.ix (.v 4) (.v 5)) (.k (.str [32]))) (.cons (.aug 5 .add (.k (.int 1)))
    .nil) (.cons (.app 2 (.cl 1 (.cons (.v 4) (.cons (.v 3) (.cons (.v 5) .nil)))))
    (.cons (.aug 5 .add (.bi .len (.cons (.fd (.ixO 2 (.neg (.k (.int 1)))) 0) .nil)))
    .nil)))
    .nil))
    .nil)))
    (.cons (.app 2 (.rc 3 (.cons (.k (.str [101, 110, 100])) (.cons (.k (.str [])) (.cons (.bi .len (.cons (.v 1) .nil)) (.cons (.k (.int 0)) .nil))))))
    (.cons (.retO 2)
    .nil)))) }
/-- parse(source) : 0=source -/
def f_parse : Fn := { np := 1, ns := 1, body := (.cons (.ret (.me 0 (.mk 5 (.cons (.v 0) .nil)) .nil))
    .nil) }
/-- fail(reason, token) : 0=reason 1=token -/
def f_fail : Fn := { np := 2, ns := 2, body := (.cons (.rais 2 (.cons (.v 0) (.cons (.fd (.v 1) 1) (.cons (.fd (.v 1) 2) .nil))))
    .nil) }
/-- statements_in(body) : 0=body 1=found 2=statement -/
def f_statements_in : Fn := { np := 1, ns := 3, body := (.cons (.own 1 (.lst .nil))
    (.cons (.fr (.n 2) (.e (.v 0)) (.cons (.app 1 (.v 2))
    (.cons (.ifs (.cp .eq (.ix (.v 2) (.k (.int 0))) (.k (.str [105, 102]))) (.cons (.ext 1 (.op .add (.cl 5 (.cons (.ix (.v 2) (.k (.int 5))) .nil)) (.cl 5 (.cons (.ix (.v 2) (.k (.int 6))) .nil))))
    .nil) (.cons (.ifs (.cp .eq (.ix (.v 2) (.k (.int 0))) (.k (.str [108, 111, 111, 112]))) (.cons (.ext 1 (.cl 5 (.cons (.ix (.v 2) (.k (.int 3))) .nil)))
    .nil) .nil)
    .nil))
    .nil)))
    (.cons (.retO 1)
    .nil))) }
/-- expressions_of(statement) : 0=statement -/
def f_expressions_of : Fn := { np := 1, ns := 1, body := (.cons (.ifs (.inn false (.ix (.v 0) (.k (.int 0))) (.tup (.cons (.k (.str [115, 101, 116])) (.cons (.k (.str [112, 117, 116])) .nil)))) (.cons (.ret (.lst (.cons (.ix (.v 0) (.k (.int 3))) .nil)))
    .nil) .nil)
    (.cons (.ifs (.inn false (.ix (.v 0) (.k (.int 0))) (.tup (.cons (.k (.str [101, 109, 105, 116])) (.cons (.k (.str [114, 101, 116, 117, 114, 110])) (.cons (.k (.str [108, 111, 111, 112])) .nil))))) (.cons (.ret (.lst (.cons (.ix (.v 0) (.k (.int 2))) .nil)))
    .nil) .nil)
    (.cons (.ifs (.cp .eq (.ix (.v 0) (.k (.int 0))) (.k (.str [105, 102]))) (.cons (.ret (.lst (.cons (.ix (.v 0) (.k (.int 2))) (.cons (.ix (.v 0) (.k (.int 4))) .nil))))
    .nil) .nil)
    (.cons (.ret (.op .add (.ix (.v 0) (.k (.int 4))) (.lst (.cons (.ix (.v 0) (.k (.int 7))) .nil))))
    .nil)))) }
/-- targets_in(body) : 0=body 1=found 2=statement -/
def f_targets_in : Fn := { np := 1, ns := 3, body := (.cons (.own 1 .dct)
    (.cons (.fr (.n 2) (.e (.cl 5 (.cons (.v 0) .nil))) (.cons (.ifs (.inn false (.ix (.v 2) (.k (.int 0))) (.tup (.cons (.k (.str [115, 101, 116])) (.cons (.k (.str [99, 97, 108, 108])) .nil)))) (.cons (.setO 1 (.fd (.ix (.v 2) (.k (.int 2))) 0) (.k (.bl true)))
    .nil) .nil)
    .nil))
    (.cons (.retO 1)
    .nil))) }
/-- load(source) : 0=source 1=functions -/
def f_load : Fn := { np := 1, ns := 2, body := (.cons (.set 1 (.pcl 3 (.cons (.v 0) .nil)))
    (.cons (.ex (.me 1 (.mk 6 (.cons (.v 1) .nil)) .nil))
    (.cons (.ret (.v 1))
    .nil))) }
/-- format_expression(expression) : 0=expression 1=words 2=operator 3=token -/
def f_format_expression : Fn := { np := 1, ns := 4, body := (.cons (.own 1 (.lst (.cons (.fd (.ix (.ix (.v 0) (.k (.int 0))) (.k (.int 1))) 0) .nil)))
    (.cons (.fr (.t [2, 3]) (.e (.sl (.v 0) (.k (.int 1)) .no)) (.cons (.ext 1 (.lst (.cons (.v 2) (.cons (.fd (.v 3) 0) .nil))))
    .nil))
    (.cons (.frz 1)
    (.cons (.ret (.bm .join (.k (.str [32])) (.v 1)))
    .nil)))) }
/-- format_call(statement) : 0=statement 1=keyword 2=token 3=target 4=function 5=arguments 6=numerator 7=denominator 8=fallback 9=inner 10=argument 11=share 12=head -/
def f_format_call : Fn := { np := 1, ns := 13, body := (.cons (.setT [1, 2, 3, 4, 5, 6, 7, 8] (.v 0))
    (.cons (.set 9 (.bm .join (.k (.str [44, 32])) (.lc [10] (.cl 48 (.cons (.v 10) .nil)) (.n 10) (.e (.v 5)) .nil)))
    (.cons (.set 11 (.op .add (.op .add (.fd (.v 6) 0) (.k (.str [47]))) (.fd (.v 7) 0)))
    (.cons (.set 12 (.op .add (.op .add (.op .add (.op .add (.op .add (.op .add (.k (.str [99, 97, 108, 108, 32])) (.fd (.v 3) 0)) (.k (.str [32, 61, 32]))) (.fd (.v 4) 0)) (.k (.str [40]))) (.v 9)) (.k (.str [41]))))
    (.cons (.ret (.op .add (.op .add (.op .add (.op .add (.op .add (.v 12) (.k (.str [32, 115, 104, 97, 114, 101, 32]))) (.v 11)) (.k (.str [32, 101, 108, 115, 101, 32]))) (.cl 48 (.cons (.v 8) .nil))) (.k (.str [59]))))
    .nil))))) }
/-- format_simple(statement) : 0=statement -/
def f_format_simple : Fn := { np := 1, ns := 1, body := (.cons (.ifs (.cp .eq (.ix (.v 0) (.k (.int 0))) (.k (.str [99, 97, 108, 108]))) (.cons (.ret (.cl 49 (.cons (.v 0) .nil)))
    .nil) .nil)
    (.cons (.ifs (.inn false (.ix (.v 0) (.k (.int 0))) (.tup (.cons (.k (.str [101, 109, 105, 116])) (.cons (.k (.str [114, 101, 116, 117, 114, 110])) .nil)))) (.cons (.ret (.op .add (.op .add (.op .add (.ix (.v 0) (.k (.int 0))) (.k (.str [32]))) (.cl 48 (.cons (.ix (.v 0) (.k (.int 2))) .nil))) (.k (.str [59]))))
    .nil) .nil)
    (.cons (.ret (.op .add (.op .add (.op .add (.op .add (.op .add (.ix (.v 0) (.k (.int 0))) (.k (.str [32]))) (.fd (.ix (.v 0) (.k (.int 2))) 0)) (.k (.str [32, 61, 32]))) (.cl 48 (.cons (.ix (.v 0) (.k (.int 3))) .nil))) (.k (.str [59]))))
    .nil))) }
/-- format_body(body, indent) : 0=body 1=indent 2=lines 3=statement 4=left 5=right -/
def f_format_body : Fn := { np := 2, ns := 6, body := (.cons (.own 2 (.lst .nil))
    (.cons (.fr (.n 3) (.e (.v 0)) (.cons (.ifs (.cp .eq (.ix (.v 3) (.k (.int 0))) (.k (.str [105, 102]))) (.cons (.par [(4, false), (5, false)] (.cons (.cl 48 (.cons (.ix (.v 3) (.k (.int 2))) .nil)) (.cons (.cl 48 (.cons (.ix (.v 3) (.k (.int 4))) .nil)) .nil)))
    (.cons (.app 2 (.op .add (.op .add (.op .add (.op .add (.op .add (.op .add (.op .add (.v 1) (.k (.str [105, 102, 32]))) (.v 4)) (.k (.str [32]))) (.ix (.v 3) (.k (.int 3)))) (.k (.str [32]))) (.v 5)) (.k (.str [32, 123]))))
    (.cons (.ext 2 (.cl 51 (.cons (.ix (.v 3) (.k (.int 5))) (.cons (.op .add (.v 1) (.k (.str [32, 32]))) .nil))))
    (.cons (.ifs (.cp .ne (.ix (.v 3) (.k (.int 6))) (.lst .nil)) (.cons (.app 2 (.op .add (.v 1) (.k (.str [125, 32, 101, 108, 115, 101, 32, 123]))))
    (.cons (.ext 2 (.cl 51 (.cons (.ix (.v 3) (.k (.int 6))) (.cons (.op .add (.v 1) (.k (.str [32, 32]))) .nil))))
    .nil)) .nil)
    (.cons (.app 2 (.op .add (.v 1) (.k (.str [125]))))
    .nil))))) (.cons (.ifs (.cp .eq (.ix (.v 3) (.k (.int 0))) (.k (.str [108, 111, 111, 112]))) (.cons (.app 2 (.op .add (.op .add (.op .add (.v 1) (.k (.str [108, 111, 111, 112, 32]))) (.cl 48 (.cons (.ix (.v 3) (.k (.int 2))) .nil))) (.k (.str [32, 123]))))
    (.cons (.ext 2 (.cl 51 (.cons (.ix (.v 3) (.k (.int 3))) (.cons (.op .add (.v 1) (.k (.str [32, 32]))) .nil))))
    (.cons (.app 2 (.op .add (.v 1) (.k (.str [125]))))
    .nil))) (.cons (.app 2 (.op .add (.v 1) (.cl 50 (.cons (.v 3) .nil))))
    .nil))
    .nil))
    .nil))
    (.cons (.retO 2)
    .nil))) }
/-- format_functions(functions) : 0=functions 1=lines 2=function 3=names 4=parameter -/
def f_format_functions : Fn := { np := 1, ns := 5, body := (.cons (.own 1 (.lst .nil))
    (.cons (.fr (.n 2) (.e (.v 0)) (.cons (.set 3 (.bm .join (.k (.str [44, 32])) (.lc [4] (.fd (.v 4) 0) (.n 4) (.e (.fd (.v 2) 6)) .nil)))
    (.cons (.app 1 (.op .add (.op .add (.op .add (.op .add (.k (.str [100, 101, 102, 32])) (.fd (.fd (.v 2) 3) 0)) (.k (.str [40]))) (.v 3)) (.k (.str [41, 32, 123]))))
    (.cons (.ext 1 (.cl 51 (.cons (.fd (.v 2) 4) (.cons (.k (.str [32, 32])) .nil))))
    (.cons (.app 1 (.k (.str [125])))
    .nil)))))
    (.cons (.frz 1)
    (.cons (.ret (.bm .join (.k (.str [10])) (.v 1)))
    .nil)))) }
/-- format_source(source) : 0=source -/
def f_format_source : Fn := { np := 1, ns := 1, body := (.cons (.ret (.pcl 52 (.cons (.pcl 8 (.cons (.v 0) .nil)) .nil)))
    .nil) }
/-- _law_random(_law_script, _law_salt) : 0=_law_script 1=_law_salt 2=_law_seed 3=_law_cell -/
def f_law_random : Fn := { np := 2, ns := 4, body := (.cons (.set 2 (.v 1))
    (.cons (.fr (.n 3) (.e (.v 0)) (.cons (.set 2 (.op .mod (.op .add (.op .mul (.v 2) (.k (.int 31))) (.bi .abs (.cons (.v 3) .nil))) (.k (.int 2147483647))))
    .nil))
    (.cons (.ret (.op .add (.lst (.cons (.v 2) (.cons (.k (.int 0)) .nil))) (.lc [3] (.v 3) (.n 3) (.e (.v 0)) (.cons (.cp .ge (.v 3) (.op .pow (.k (.int 10)) (.k (.int 18)))) .nil))))
    .nil))) }
/-- _law_below(_law_d, _law_limit) : 0=_law_d 1=_law_limit 2=_law_result -/
def f_law_below : Fn := { np := 2, ns := 3, body := (.cons (.ifs (.an (.cons (.cp .eq (.ix (.v 0) (.k (.int 1))) (.k (.int 0))) (.cons (.cp .gt (.bi .len (.cons (.v 0) .nil)) (.k (.int 2))) .nil))) (.cons (.setI (.v 0) (.k (.int 1)) (.popI (.v 0) (.k (.int 2))))
    .nil) .nil)
    (.cons (.ifs (.cp .gt (.ix (.v 0) (.k (.int 1))) (.k (.int 0))) (.cons (.set 2 (.op .mod (.ix (.v 0) (.k (.int 1))) (.v 1)))
    (.cons (.setI (.v 0) (.k (.int 1)) (.op .div (.ix (.v 0) (.k (.int 1))) (.v 1)))
    (.cons (.ret (.v 2))
    .nil))) .nil)
    (.cons (.setI (.v 0) (.k (.int 0)) (.op .mod (.op .add (.op .mul (.ix (.v 0) (.k (.int 0))) (.k (.int 48271))) (.k (.int 11))) (.k (.int 2147483647))))
    (.cons (.ret (.op .mod (.op .div (.ix (.v 0) (.k (.int 0))) (.k (.int 64))) (.v 1)))
    .nil)))) }
/-- _law_expression(_law_d, _law_names) : 0=_law_d 1=_law_names 2=_law_result 3=_law_k 4=_law_operator 5=_law_kind 6=_law_small_here -/
def f_law_expression : Fn := { np := 2, ns := 7, body := (.cons (.own 2 (.lst .nil))
    (.cons (.fr (.n 3) (.rng (.k (.int 0)) (.op .add (.k (.int 1)) (.cl 11 (.cons (.v 0) (.cons (.ix (.lst (.cons (.k (.int 1)) (.cons (.k (.int 1)) (.cons (.k (.int 5)) .nil)))) (.cl 11 (.cons (.v 0) (.cons (.k (.int 3)) .nil)))) .nil))))) (.cons (.set 4 (.ife (.cp .eq (.v 3) (.k (.int 0))) (.k (.str [43])) (.ix (.k (.str [43, 45, 42])) (.cl 11 (.cons (.v 0) (.cons (.k (.int 3)) .nil))))))
    (.cons (.set 5 (.cl 11 (.cons (.v 0) (.cons (.k (.int 4)) .nil))))
    (.cons (.ifs (.orr (.cons (.cp .eq (.v 5) (.k (.int 0))) (.cons (.an (.cons (.cp .eq (.v 5) (.k (.int 1))) (.cons (.cp .eq (.v 1) (.lst .nil)) .nil))) .nil))) (.cons (.set 6 (.cl 11 (.cons (.v 0) (.cons (.k (.int 4)) .nil))))
    (.cons (.app 2 (.tup (.cons (.v 4) (.cons (.k (.str [110])) (.cons (.ix (.lst (.cons (.v 6) (.cons (.v 6) (.cons (.cl 11 (.cons (.v 0) (.cons (.k (.int 1000000)) .nil))) (.cons (.k (.int 999999)) .nil))))) (.cl 11 (.cons (.v 0) (.cons (.k (.int 4)) .nil)))) .nil)))))
    .nil)) (.cons (.ifs (.an (.cons (.cp .lt (.v 5) (.k (.int 3))) (.cons (.cp .ne (.v 1) (.lst .nil)) .nil))) (.cons (.app 2 (.tup (.cons (.v 4) (.cons (.k (.str [108])) (.cons (.ix (.v 1) (.cl 11 (.cons (.v 0) (.cons (.bi .len (.cons (.v 1) .nil)) .nil)))) .nil)))))
    .nil) (.cons (.app 2 (.tup (.cons (.v 4) (.cons (.k (.str [99])) (.cons (.cl 11 (.cons (.v 0) (.cons (.k (.int 8)) .nil))) .nil)))))
    .nil))
    .nil))
    .nil))))
    (.cons (.retO 2)
    .nil))) }
/-- _law_small(_law_d, _law_names) : 0=_law_d 1=_law_names -/
def f_law_small : Fn := { np := 2, ns := 2, body := (.cons (.ifs (.an (.cons (.cp .ne (.v 1) (.lst .nil)) (.cons (.cp .eq (.cl 11 (.cons (.v 0) (.cons (.k (.int 3)) .nil))) (.k (.int 0))) .nil))) (.cons (.ret (.lst (.cons (.tup (.cons (.k (.str [43])) (.cons (.k (.str [108])) (.cons (.ix (.v 1) (.cl 11 (.cons (.v 0) (.cons (.bi .len (.cons (.v 1) .nil)) .nil)))) .nil)))) .nil)))
    .nil) .nil)
    (.cons (.ret (.lst (.cons (.tup (.cons (.k (.str [43])) (.cons (.k (.str [110])) (.cons (.cl 11 (.cons (.v 0) (.cons (.k (.int 4)) .nil))) .nil)))) .nil)))
    .nil)) }
/-- _law_statement(_law_d, _law_spec, _law_depth) : 0=_law_d 1=_law_spec 2=_law_depth 3=_law_names 4=_law_targets 5=_law_callees 6=_law_is_short 7=_law_kind 8=_law_inputs 9=_law_share 10=_law_name 11=_law_many 12=_law_k 13=_law_sides 14=_law_other 15=_law_body 16=_law_count -/
def f_law_statement : Fn := { np := 3, ns := 17, body := (.cons (.setT [3, 4, 5, 6] (.v 1))
    (.cons (.set 7 (.cl 11 (.cons (.v 0) (.cons (.k (.int 9)) .nil))))
    (.cons (.ifs (.an (.cons (.cp .lt (.v 7) (.k (.int 2))) (.cons (.cp .ne (.v 4) (.lst .nil)) .nil))) (.cons (.ret (.tup (.cons (.k (.str [115, 101, 116])) (.cons (.ix (.v 4) (.cl 11 (.cons (.v 0) (.cons (.bi .len (.cons (.v 4) .nil)) .nil)))) (.cons (.cl 12 (.cons (.v 0) (.cons (.v 3) .nil))) .nil)))))
    .nil) .nil)
    (.cons (.ifs (.an (.cons (.cp .lt (.v 7) (.k (.int 5))) (.cons (.cp .ne (.v 5) (.lst .nil)) (.cons (.cp .ne (.v 4) (.lst .nil)) .nil)))) (.cons (.setT [10, 11] (.ix (.v 5) (.cl 11 (.cons (.v 0) (.cons (.bi .len (.cons (.v 5) .nil)) .nil)))))
    (.cons (.set 8 (.lc [12] (.cl 12 (.cons (.v 0) (.cons (.v 3) .nil))) (.n 12) (.rng (.k (.int 0)) (.v 11)) .nil))
    (.cons (.set 9 (.ix (.lst (.cons (.tup (.cons (.k (.int 1)) (.cons (.k (.int 1)) .nil))) (.cons (.tup (.cons (.k (.int 1)) (.cons (.k (.int 2)) .nil))) (.cons (.tup (.cons (.k (.int 2)) (.cons (.k (.int 3)) .nil))) (.cons (.tup (.cons (.k (.int 8)) (.cons (.k (.int 9)) .nil))) (.cons (.tup (.cons (.k (.int 1)) (.cons (.k (.int 9)) .nil))) .nil)))))) (.cl 11 (.cons (.v 0) (.cons (.k (.int 5)) .nil)))))
    (.cons (.ret (.tup (.cons (.k (.str [99, 97, 108, 108])) (.cons (.ix (.v 4) (.cl 11 (.cons (.v 0) (.cons (.bi .len (.cons (.v 4) .nil)) .nil)))) (.cons (.v 10) (.cons (.v 8) (.cons (.v 9) (.cons (.cl 12 (.cons (.v 0) (.cons (.v 3) .nil))) .nil))))))))
    .nil)))) .nil)
    (.cons (.ifs (.an (.cons (.cp .eq (.v 7) (.k (.int 5))) (.cons (.cp .gt (.v 2) (.k (.int 0))) .nil))) (.cons (.par [(15, false), (14, false)] (.cons (.cl 15 (.cons (.v 0) (.cons (.v 1) (.cons (.op .sub (.v 2) (.k (.int 1))) .nil)))) (.cons (.cl 15 (.cons (.v 0) (.cons (.v 1) (.cons (.op .sub (.v 2) (.k (.int 1))) .nil)))) .nil)))
    (.cons (.set 13 (.lst (.cons (.cl 13 (.cons (.v 0) (.cons (.v 3) .nil))) (.cons (.cl 13 (.cons (.v 0) (.cons (.v 3) .nil))) .nil))))
    (.cons (.set 14 (.ife (.cp .eq (.cl 11 (.cons (.v 0) (.cons (.k (.int 2)) .nil))) (.k (.int 0))) (.v 14) (.lst .nil)))
    (.cons (.ret (.tup (.cons (.k (.str [105, 102])) (.cons (.ix (.v 13) (.k (.int 0))) (.cons (.ix (.k (.str [60, 61, 62])) (.cl 11 (.cons (.v 0) (.cons (.k (.int 3)) .nil)))) (.cons (.ix (.v 13) (.k (.int 1))) (.cons (.v 15) (.cons (.v 14) .nil))))))))
    .nil)))) .nil)
    (.cons (.ifs (.an (.cons (.cp .eq (.v 7) (.k (.int 6))) (.cons (.cp .gt (.v 2) (.k (.int 0))) .nil))) (.cons (.set 16 (.ife (.v 6) (.lst (.cons (.tup (.cons (.k (.str [43])) (.cons (.k (.str [110])) (.cons (.cl 11 (.cons (.v 0) (.cons (.k (.int 4)) .nil))) .nil)))) .nil)) (.cl 13 (.cons (.v 0) (.cons (.v 3) .nil)))))
    (.cons (.ret (.tup (.cons (.k (.str [108, 111, 111, 112])) (.cons (.v 16) (.cons (.cl 15 (.cons (.v 0) (.cons (.v 1) (.cons (.op .sub (.v 2) (.k (.int 1))) .nil)))) .nil)))))
    .nil)) .nil)
    (.cons (.ifs (.cp .eq (.v 7) (.k (.int 7))) (.cons (.ret (.tup (.cons (.k (.str [112, 117, 116])) (.cons (.cl 11 (.cons (.v 0) (.cons (.k (.int 8)) .nil))) (.cons (.cl 12 (.cons (.v 0) (.cons (.v 3) .nil))) .nil)))))
    .nil) .nil)
    (.cons (.ifs (.an (.cons (.cp .eq (.v 7) (.k (.int 8))) (.cons (.cp .eq (.cl 11 (.cons (.v 0) (.cons (.k (.int 2)) .nil))) (.k (.int 0))) .nil))) (.cons (.ret (.tup (.cons (.k (.str [114, 101, 116, 117, 114, 110])) (.cons (.cl 12 (.cons (.v 0) (.cons (.v 3) .nil))) .nil))))
    .nil) .nil)
    (.cons (.ret (.tup (.cons (.k (.str [101, 109, 105, 116])) (.cons (.cl 12 (.cons (.v 0) (.cons (.v 3) .nil))) .nil))))
    .nil))))))))) }
/-- _law_block(_law_d, _law_spec, _law_depth) : 0=_law_d 1=_law_spec 2=_law_depth 3=_law_k -/
def f_law_block : Fn := { np := 3, ns := 4, body := (.cons (.ret (.lc [3] (.cl 14 (.cons (.v 0) (.cons (.v 1) (.cons (.v 2) .nil)))) (.n 3) (.rng (.k (.int 0)) (.cl 11 (.cons (.v 0) (.cons (.k (.int 4)) .nil)))) .nil))
    .nil) }
/-- _law_total(_law_body) : 0=_law_body 1=_law_total_here 2=_law_statement_here -/
def f_law_total : Fn := { np := 1, ns := 3, body := (.cons (.set 1 (.k (.int 0)))
    (.cons (.fr (.n 2) (.e (.v 0)) (.cons (.set 1 (.op .add (.v 1) (.k (.int 1))))
    (.cons (.ifs (.cp .eq (.ix (.v 2) (.k (.int 0))) (.k (.str [105, 102]))) (.cons (.set 1 (.op .add (.op .add (.v 1) (.cl 16 (.cons (.ix (.v 2) (.k (.int 4))) .nil))) (.cl 16 (.cons (.ix (.v 2) (.k (.int 5))) .nil))))
    .nil) .nil)
    (.cons (.ifs (.cp .eq (.ix (.v 2) (.k (.int 0))) (.k (.str [108, 111, 111, 112]))) (.cons (.set 1 (.op .add (.v 1) (.cl 16 (.cons (.ix (.v 2) (.k (.int 2))) .nil))))
    .nil) .nil)
    .nil))))
    (.cons (.ret (.v 1))
    .nil))) }
/-- _law_program(_law_d, _law_is_short) : 0=_law_d 1=_law_is_short 2=_law_headers 3=_law_name 4=_law_result 5=_law_k 6=_law_targets 7=_law_names 8=_law_callees 9=_law_spec 10=_law_body 11=_law_parameters 12=_law_one 13=_law_target 14=_law_few 15=_law_statement_here -/
def f_law_program : Fn := { np := 2, ns := 16, body := (.cons (.own 2 (.lst .nil))
    (.cons (.fr (.n 3) (.e (.sl (.lst (.cons (.k (.str [109, 97, 105, 110])) (.cons (.k (.str [102])) (.cons (.k (.str [103])) (.cons (.k (.str [108, 111, 110, 103, 110, 97, 109, 101])) .nil))))) .no (.op .add (.k (.int 1)) (.cl 11 (.cons (.v 0) (.cons (.k (.int 4)) .nil)))))) (.cons (.app 2 (.tup (.cons (.v 3) (.cons (.sl (.lst (.cons (.k (.str [97])) (.cons (.k (.str [98])) .nil))) .no (.cl 11 (.cons (.v 0) (.cons (.k (.int 3)) .nil)))) .nil))))
    .nil))
    (.cons (.frz 2)
    (.cons (.own 4 (.lst .nil))
    (.cons (.fr (.n 5) (.rng (.k (.int 0)) (.bi .len (.cons (.v 2) .nil))) (.cons (.setT [3, 11] (.ix (.v 2) (.v 5)))
    (.cons (.set 6 (.sl (.lst (.cons (.k (.str [120])) (.cons (.k (.str [121])) .nil))) .no (.cl 11 (.cons (.v 0) (.cons (.k (.int 3)) .nil)))))
    (.cons (.set 7 (.op .add (.v 11) (.v 6)))
    (.cons (.set 8 (.lc [12] (.tup (.cons (.ix (.v 12) (.k (.int 0))) (.cons (.bi .len (.cons (.ix (.v 12) (.k (.int 1))) .nil)) .nil))) (.n 12) (.e (.sl (.v 2) (.op .mul (.op .add (.v 5) (.k (.int 1))) (.bi .int (.cons (.v 1) .nil))) .no)) .nil))
    (.cons (.set 9 (.tup (.cons (.v 7) (.cons (.sl (.v 7) .no .no) (.cons (.v 8) (.cons (.v 1) .nil))))))
    (.cons (.own 10 (.lc [13] (.tup (.cons (.k (.str [115, 101, 116])) (.cons (.v 13) (.cons (.cl 12 (.cons (.v 0) (.cons (.v 11) .nil))) .nil)))) (.n 13) (.e (.v 6)) .nil))
    (.cons (.frz 10)
    (.cons (.own 10 (.op .add (.v 10) (.cl 15 (.cons (.v 0) (.cons (.v 9) (.cons (.k (.int 2)) .nil))))))
    (.cons (.ifs (.an (.cons (.cp .ne (.v 11) (.lst .nil)) (.cons (.cp .eq (.cl 11 (.cons (.v 0) (.cons (.k (.int 2)) .nil))) (.k (.int 0))) .nil))) (.cons (.app 10 (.tup (.cons (.k (.str [114, 101, 116, 117, 114, 110])) (.cons (.cl 12 (.cons (.v 0) (.cons (.v 7) .nil))) .nil))))
    .nil) .nil)
    (.cons (.frz 10)
    (.cons (.app 4 (.tup (.cons (.v 3) (.cons (.v 11) (.cons (.v 10) .nil)))))
    .nil))))))))))))
    (.cons (.frz 4)
    (.cons (.ifs (.cp .le (.bi .sum (.cons (.lc [12] (.cl 16 (.cons (.ix (.v 12) (.k (.int 2))) .nil)) (.n 12) (.e (.v 4)) .nil) .nil)) (.k (.int 25))) (.cons (.ret (.v 4))
    .nil) .nil)
    (.cons (.own 14 (.lst .nil))
    (.cons (.fr (.t [3, 11, 10]) (.e (.v 4)) (.cons (.app 14 (.tup (.cons (.v 3) (.cons (.v 11) (.cons (.lc [15] (.v 15) (.n 15) (.e (.v 10)) (.cons (.inn true (.ix (.v 15) (.k (.int 0))) (.lst (.cons (.k (.str [105, 102])) (.cons (.k (.str [108, 111, 111, 112])) .nil)))) .nil)) .nil)))))
    .nil))
    (.cons (.retO 14)
    .nil)))))))))) }
/-- _law_text_of(_law_expression_here) : 0=_law_expression_here 1=_law_words 2=_law_operator 3=_law_kind 4=_law_value -/
def f_law_text_of : Fn := { np := 1, ns := 5, body := (.cons (.set 1 (.lst .nil))
    (.cons (.fr (.t [2, 3, 4]) (.e (.v 0)) (.cons (.set 1 (.op .add (.v 1) (.lst (.cons (.v 2) (.cons (.ife (.cp .eq (.v 3) (.k (.str [99]))) (.ix (.k (.str [65, 66, 67, 68, 69, 70, 71, 72])) (.v 4)) (.bi .str (.cons (.v 4) .nil))) .nil)))))
    .nil))
    (.cons (.ret (.bm .join (.k (.str [32])) (.sl (.v 1) (.k (.int 1)) .no)))
    .nil))) }
/-- _law_line_of(_law_statement_here) : 0=_law_statement_here 1=_law_inner 2=_law_share 3=_law_words 4=_law_one -/
def f_law_line_of : Fn := { np := 1, ns := 5, body := (.cons (.ifs (.cp .eq (.ix (.v 0) (.k (.int 0))) (.k (.str [115, 101, 116]))) (.cons (.ret (.op .add (.op .add (.op .add (.op .add (.k (.str [115, 101, 116, 32])) (.ix (.v 0) (.k (.int 1)))) (.k (.str [32, 61, 32]))) (.cl 18 (.cons (.ix (.v 0) (.k (.int 2))) .nil))) (.k (.str [59]))))
    .nil) .nil)
    (.cons (.ifs (.cp .eq (.ix (.v 0) (.k (.int 0))) (.k (.str [112, 117, 116]))) (.cons (.ret (.op .add (.op .add (.op .add (.op .add (.k (.str [112, 117, 116, 32])) (.ix (.k (.str [65, 66, 67, 68, 69, 70, 71, 72])) (.ix (.v 0) (.k (.int 1))))) (.k (.str [32, 61, 32]))) (.cl 18 (.cons (.ix (.v 0) (.k (.int 2))) .nil))) (.k (.str [59]))))
    .nil) .nil)
    (.cons (.ifs (.cp .eq (.ix (.v 0) (.k (.int 0))) (.k (.str [99, 97, 108, 108]))) (.cons (.set 1 (.bm .join (.k (.str [44, 32])) (.lc [4] (.cl 18 (.cons (.v 4) .nil)) (.n 4) (.e (.ix (.v 0) (.k (.int 3)))) .nil)))
    (.cons (.set 2 (.op .add (.op .add (.bi .str (.cons (.ix (.ix (.v 0) (.k (.int 4))) (.k (.int 0))) .nil)) (.k (.str [47]))) (.bi .str (.cons (.ix (.ix (.v 0) (.k (.int 4))) (.k (.int 1))) .nil))))
    (.cons (.set 3 (.lst (.cons (.k (.str [99, 97, 108, 108])) (.cons (.ix (.v 0) (.k (.int 1))) (.cons (.k (.str [61])) (.cons (.op .add (.op .add (.op .add (.ix (.v 0) (.k (.int 2))) (.k (.str [40]))) (.v 1)) (.k (.str [41]))) (.cons (.k (.str [115, 104, 97, 114, 101])) (.cons (.v 2) (.cons (.k (.str [101, 108, 115, 101])) .nil)))))))))
    (.cons (.ret (.op .add (.op .add (.op .add (.bm .join (.k (.str [32])) (.v 3)) (.k (.str [32]))) (.cl 18 (.cons (.ix (.v 0) (.k (.int 5))) .nil))) (.k (.str [59]))))
    .nil)))) .nil)
    (.cons (.ret (.op .add (.op .add (.op .add (.ix (.v 0) (.k (.int 0))) (.k (.str [32]))) (.cl 18 (.cons (.ix (.v 0) (.k (.int 1))) .nil))) (.k (.str [59]))))
    .nil)))) }
/-- _law_lines(_law_body, _law_indent) : 0=_law_body 1=_law_indent 2=_law_lines_here 3=_law_statement_here 4=_law_sides -/
def f_law_lines : Fn := { np := 2, ns := 5, body := (.cons (.own 2 (.lst .nil))
    (.cons (.fr (.n 3) (.e (.v 0)) (.cons (.ifs (.cp .eq (.ix (.v 3) (.k (.int 0))) (.k (.str [105, 102]))) (.cons (.set 4 (.lst (.cons (.cl 18 (.cons (.ix (.v 3) (.k (.int 1))) .nil)) (.cons (.cl 18 (.cons (.ix (.v 3) (.k (.int 3))) .nil)) .nil))))
    (.cons (.app 2 (.op .add (.v 1) (.bm .join (.k (.str [32])) (.lst (.cons (.k (.str [105, 102])) (.cons (.ix (.v 4) (.k (.int 0))) (.cons (.ix (.v 3) (.k (.int 2))) (.cons (.ix (.v 4) (.k (.int 1))) (.cons (.k (.str [123])) .nil)))))))))
    (.cons (.frz 2)
    (.cons (.own 2 (.op .add (.v 2) (.cl 20 (.cons (.ix (.v 3) (.k (.int 4))) (.cons (.op .add (.v 1) (.k (.str [32, 32]))) .nil)))))
    (.cons (.ifs (.cp .ne (.ix (.v 3) (.k (.int 5))) (.lst .nil)) (.cons (.frz 2)
    (.cons (.own 2 (.op .add (.op .add (.v 2) (.lst (.cons (.op .add (.v 1) (.k (.str [125, 32, 101, 108, 115, 101, 32, 123]))) .nil))) (.cl 20 (.cons (.ix (.v 3) (.k (.int 5))) (.cons (.op .add (.v 1) (.k (.str [32, 32]))) .nil)))))
    .nil)) .nil)
    (.cons (.app 2 (.op .add (.v 1) (.k (.str [125]))))
    .nil)))))) (.cons (.ifs (.cp .eq (.ix (.v 3) (.k (.int 0))) (.k (.str [108, 111, 111, 112]))) (.cons (.app 2 (.op .add (.op .add (.op .add (.v 1) (.k (.str [108, 111, 111, 112, 32]))) (.cl 18 (.cons (.ix (.v 3) (.k (.int 1))) .nil))) (.k (.str [32, 123]))))
    (.cons (.frz 2)
    (.cons (.own 2 (.op .add (.op .add (.v 2) (.cl 20 (.cons (.ix (.v 3) (.k (.int 2))) (.cons (.op .add (.v 1) (.k (.str [32, 32]))) .nil)))) (.lst (.cons (.op .add (.v 1) (.k (.str [125]))) .nil))))
    .nil))) (.cons (.app 2 (.op .add (.v 1) (.cl 19 (.cons (.v 3) .nil))))
    .nil))
    .nil))
    .nil))
    (.cons (.retO 2)
    .nil))) }
/-- _law_source(_law_program_here) : 0=_law_program_here 1=_law_lines_here 2=_law_name 3=_law_parameters 4=_law_body -/
def f_law_source : Fn := { np := 1, ns := 5, body := (.cons (.own 1 (.lst .nil))
    (.cons (.fr (.t [2, 3, 4]) (.e (.v 0)) (.cons (.app 1 (.op .add (.op .add (.op .add (.op .add (.k (.str [100, 101, 102, 32])) (.v 2)) (.k (.str [40]))) (.bm .join (.k (.str [44, 32])) (.v 3))) (.k (.str [41, 32, 123]))))
    (.cons (.frz 1)
    (.cons (.own 1 (.op .add (.op .add (.v 1) (.cl 20 (.cons (.v 4) (.cons (.k (.str [32, 32])) .nil)))) (.lst (.cons (.k (.str [125])) .nil))))
    .nil))))
    (.cons (.frz 1)
    (.cons (.ret (.bm .join (.k (.str [10])) (.v 1)))
    .nil)))) }
/-- _law_equal(_law_actual, _law_expected) : 0=_law_actual 1=_law_expected 2=_law_k -/
def f_law_equal : Fn := { np := 2, ns := 3, body := (.cons (.ifs (.isn false (.v 1)) (.cons (.ret (.isn false (.v 0)))
    .nil) .nil)
    (.cons (.ifs (.isi (.v 1) .bool) (.cons (.ret (.an (.cons (.isi (.v 0) .bool) (.cons (.cp .eq (.v 0) (.v 1)) .nil))))
    .nil) .nil)
    (.cons (.ifs (.isi (.v 1) .int) (.cons (.ret (.an (.cons (.isi (.v 0) .int) (.cons (.nt (.isi (.v 0) .bool)) (.cons (.cp .eq (.v 0) (.v 1)) .nil)))))
    .nil) .nil)
    (.cons (.ifs (.isi (.v 1) .str) (.cons (.ret (.an (.cons (.isi (.v 0) .str) (.cons (.cp .eq (.v 0) (.v 1)) .nil))))
    .nil) .nil)
    (.cons (.ifs (.cp .ne (.isi (.v 1) .tup) (.isi (.v 0) .tup)) (.cons (.ret (.k (.bl false)))
    .nil) .nil)
    (.cons (.ifs (.cp .ne (.isi (.v 1) .lst) (.isi (.v 0) .lst)) (.cons (.ret (.k (.bl false)))
    .nil) .nil)
    (.cons (.ifs (.cp .ne (.bi .len (.cons (.v 0) .nil)) (.bi .len (.cons (.v 1) .nil))) (.cons (.ret (.k (.bl false)))
    .nil) .nil)
    (.cons (.ret (.bi .all (.cons (.lc [2] (.cl 22 (.cons (.ix (.v 0) (.v 2)) (.cons (.ix (.v 1) (.v 2)) .nil))) (.n 2) (.rng (.k (.int 0)) (.bi .len (.cons (.v 1) .nil))) .nil) .nil)))
    .nil)))))))) }
/-- _law_spaced(_law_d, _law_tokens) : 0=_law_d 1=_law_tokens 2=_law_result 3=_law_letters 4=_law_token 5=_law_gap -/
def f_law_spaced : Fn := { np := 2, ns := 6, body := (.cons (.setT [2, 3] (.tup (.cons (.k (.str [])) (.cons (.k (.str [97, 98, 99, 100, 101, 102, 103, 104, 105, 106, 107, 108, 109, 110, 111, 112, 113, 114, 115, 116, 117, 118, 119, 120, 121, 122, 48, 49, 50, 51, 52, 53, 54, 55, 56, 57])) .nil))))
    (.cons (.fr (.n 4) (.e (.v 1)) (.cons (.set 5 (.ix (.lst (.cons (.k (.str [])) (.cons (.k (.str [32])) (.cons (.k (.str [32, 32])) (.cons (.k (.str [10])) (.cons (.k (.str [32, 10, 10, 32])) .nil)))))) (.cl 11 (.cons (.v 0) (.cons (.k (.int 5)) .nil)))))
    (.cons (.ifs (.an (.cons (.cp .eq (.v 5) (.k (.str []))) (.cons (.cp .ne (.v 2) (.k (.str []))) (.cons (.inn false (.ix (.v 2) (.neg (.k (.int 1)))) (.v 3)) (.cons (.inn false (.ix (.v 4) (.k (.int 0))) (.v 3)) .nil))))) (.cons (.set 5 (.k (.str [32])))
    .nil) .nil)
    (.cons (.set 2 (.op .add (.op .add (.v 2) (.v 5)) (.v 4)))
    .nil))))
    (.cons (.ret (.op .add (.v 2) (.ix (.lst (.cons (.k (.str [])) (.cons (.k (.str [32])) (.cons (.k (.str [10])) .nil)))) (.cl 11 (.cons (.v 0) (.cons (.k (.int 3)) .nil))))))
    .nil))) }
/-- _law_split(_law_text) : 0=_law_text 1=_law_tokens 2=_law_current 3=_law_sign 4=_law_one -/
def f_law_split : Fn := { np := 1, ns := 5, body := (.cons (.par [(1, false), (2, false)] (.cons (.lst .nil) (.cons (.k (.str [])) .nil)))
    (.cons (.fr (.n 3) (.e (.op .add (.v 0) (.k (.str [32])))) (.cons (.ifs (.inn false (.v 3) (.k (.str [97, 98, 99, 100, 101, 102, 103, 104, 105, 106, 107, 108, 109, 110, 111, 112, 113, 114, 115, 116, 117, 118, 119, 120, 121, 122, 48, 49, 50, 51, 52, 53, 54, 55, 56, 57]))) (.cons (.set 2 (.op .add (.v 2) (.v 3)))
    .nil) (.cons (.set 1 (.op .add (.v 1) (.lc [4] (.v 4) (.n 4) (.e (.lst (.cons (.v 2) (.cons (.v 3) .nil)))) (.cons (.inn true (.v 4) (.lst (.cons (.k (.str [])) (.cons (.k (.str [32])) (.cons (.k (.str [10])) .nil))))) .nil))))
    (.cons (.set 2 (.k (.str [])))
    .nil)))
    .nil))
    (.cons (.ret (.v 1))
    .nil))) }
/-- law(_law_script) : 0=_law_script 1=_law_d 2=_law_step 3=_law_program_here 4=_law_canonical -/
def f_law : Fn := { np := 1, ns := 5, body := (.cons (.setP 1 (.cl 10 (.cons (.v 0) (.cons (.k (.int 3)) .nil))))
    (.cons (.fr (.n 2) (.rng (.k (.int 0)) (.k (.int 3))) (.cons (.set 3 (.cl 17 (.cons (.v 1) (.cons (.k (.bl false)) .nil))))
    (.cons (.set 4 (.cl 21 (.cons (.v 3) .nil)))
    (.cons (.ifs (.nt (.cl 22 (.cons (.pcl 53 (.cons (.v 4) .nil)) (.cons (.v 4) .nil)))) (.cons (.ret (.k (.bl false)))
    .nil) .nil)
    (.cons (.ifs (.nt (.cl 22 (.cons (.pcl 53 (.cons (.cl 54 (.cons (.v 1) (.cons (.cl 55 (.cons (.v 4) .nil)) .nil))) .nil)) (.cons (.v 4) .nil)))) (.cons (.ret (.k (.bl false)))
    .nil) .nil)
    .nil)))))
    (.cons (.ret (.k (.bl true)))
    .nil))) }
/-- Token.__init__(self, kind, text, line, column) : 0=self 1=kind 2=text 3=line 4=column -/
def f_Token___init : Fn := { np := 5, ns := 5, body := (.cons (.setF false (.v 0) 5 (.v 1))
    (.cons (.setF false (.v 0) 0 (.v 2))
    (.cons (.setF false (.v 0) 1 (.v 3))
    (.cons (.setF false (.v 0) 2 (.v 4))
    .nil)))) }
/-- Function.__init__(self, name, parameters, body) : 0=self 1=name 2=parameters 3=body -/
def f_Function___init : Fn := { np := 4, ns := 4, body := (.cons (.setF false (.v 0) 3 (.v 1))
    (.cons (.setF false (.v 0) 6 (.v 2))
    (.cons (.setF false (.v 0) 4 (.v 3))
    .nil))) }
/-- Parser.__init__(self, source) : 0=self 1=source -/
def f_Parser___init : Fn := { np := 2, ns := 2, body := (.cons (.setF false (.v 0) 7 (.cl 2 (.cons (.v 1) .nil)))
    (.cons (.setF false (.v 0) 8 (.k (.int 0)))
    .nil)) }
/-- Parser.peek(self) : 0=self -/
def f_Parser_peek : Fn := { np := 1, ns := 1, body := (.cons (.ret (.ix (.fd (.v 0) 7) (.fd (.v 0) 8)))
    .nil) }
/-- Parser.advance(self) : 0=self -/
def f_Parser_advance : Fn := { np := 1, ns := 1, body := (.cons (.augF (.v 0) 8 .add (.k (.int 1)))
    (.cons (.ret (.ix (.fd (.v 0) 7) (.op .sub (.fd (.v 0) 8) (.k (.int 1)))))
    .nil)) }
/-- Parser.fail(self) : 0=self -/
def f_Parser_fail : Fn := { np := 1, ns := 1, body := (.cons (.rais 1 (.cons (.fd (.me 2 (.v 0) .nil) 1) (.cons (.fd (.me 2 (.v 0) .nil) 2) .nil)))
    .nil) }
/-- Parser.accept(self, text) : 0=self 1=text -/
def f_Parser_accept : Fn := { np := 2, ns := 2, body := (.cons (.ifs (.cp .ne (.fd (.me 2 (.v 0) .nil) 0) (.v 1)) (.cons (.ret (.k (.bl false)))
    .nil) .nil)
    (.cons (.augF (.v 0) 8 .add (.k (.int 1)))
    (.cons (.ret (.k (.bl true)))
    .nil))) }
/-- Parser.expect(self, text) : 0=self 1=text -/
def f_Parser_expect : Fn := { np := 2, ns := 2, body := (.cons (.ifs (.cp .ne (.fd (.me 2 (.v 0) .nil) 0) (.v 1)) (.cons (.ex (.me 3 (.v 0) .nil))
    .nil) .nil)
    (.cons (.ret (.me 4 (.v 0) .nil))
    .nil)) }
/-- Parser.expect_kind(self, kind) : 0=self 1=kind -/
def f_Parser_expect_kind : Fn := { np := 2, ns := 2, body := (.cons (.ifs (.cp .ne (.fd (.me 2 (.v 0) .nil) 5) (.v 1)) (.cons (.ex (.me 3 (.v 0) .nil))
    .nil) .nil)
    (.cons (.ret (.me 4 (.v 0) .nil))
    .nil)) }
/-- Parser.parse_functions(self) : 0=self 1=functions -/
def f_Parser_parse_functions : Fn := { np := 1, ns := 2, body := (.cons (.own 1 (.lst (.cons (.me 5 (.v 0) .nil) .nil)))
    (.cons (.whl (.cp .ne (.fd (.me 2 (.v 0) .nil) 5) (.k (.str [101, 110, 100]))) (.cons (.app 1 (.me 5 (.v 0) .nil))
    .nil))
    (.cons (.retO 1)
    .nil))) }
/-- Parser.parse_function(self) : 0=self 1=name 2=parameters -/
def f_Parser_parse_function : Fn := { np := 1, ns := 3, body := (.cons (.ex (.me 6 (.v 0) (.cons (.k (.str [100, 101, 102])) .nil)))
    (.cons (.par [(1, false), (2, true)] (.cons (.me 7 (.v 0) (.cons (.k (.str [119, 111, 114, 100])) .nil)) (.cons (.lst .nil) .nil)))
    (.cons (.ex (.me 6 (.v 0) (.cons (.k (.str [40])) .nil)))
    (.cons (.ifs (.cp .eq (.fd (.me 2 (.v 0) .nil) 5) (.k (.str [119, 111, 114, 100]))) (.cons (.app 2 (.me 4 (.v 0) .nil))
    (.cons (.whl (.me 8 (.v 0) (.cons (.k (.str [44])) .nil)) (.cons (.app 2 (.me 7 (.v 0) (.cons (.k (.str [119, 111, 114, 100])) .nil)))
    .nil))
    .nil)) .nil)
    (.cons (.frz 2)
    (.cons (.ex (.me 6 (.v 0) (.cons (.k (.str [41])) .nil)))
    (.cons (.ret (.rc 4 (.cons (.v 1) (.cons (.v 2) (.cons (.me 9 (.v 0) .nil) .nil)))))
    .nil))))))) }
/-- Parser.parse_block(self) : 0=self 1=statements -/
def f_Parser_parse_block : Fn := { np := 1, ns := 2, body := (.cons (.ex (.me 6 (.v 0) (.cons (.k (.str [123])) .nil)))
    (.cons (.own 1 (.lst .nil))
    (.cons (.whl (.nt (.me 8 (.v 0) (.cons (.k (.str [125])) .nil))) (.cons (.app 1 (.me 10 (.v 0) .nil))
    .nil))
    (.cons (.retO 1)
    .nil)))) }
/-- Parser.parse_statement(self) : 0=self 1=token 2=statement -/
def f_Parser_parse_statement : Fn := { np := 1, ns := 3, body := (.cons (.set 1 (.me 2 (.v 0) .nil))
    (.cons (.ifs (.inn false (.fd (.v 1) 0) (.tup (.cons (.k (.str [115, 101, 116])) (.cons (.k (.str [112, 117, 116])) (.cons (.k (.str [101, 109, 105, 116])) (.cons (.k (.str [114, 101, 116, 117, 114, 110])) (.cons (.k (.str [99, 97, 108, 108])) .nil))))))) (.cons (.set 2 (.me 11 (.v 0) (.cons (.me 4 (.v 0) .nil) .nil)))
    (.cons (.ex (.me 6 (.v 0) (.cons (.k (.str [59])) .nil)))
    (.cons (.ret (.v 2))
    .nil))) .nil)
    (.cons (.ifs (.me 8 (.v 0) (.cons (.k (.str [105, 102])) .nil)) (.cons (.ret (.me 12 (.v 0) (.cons (.v 1) .nil)))
    .nil) .nil)
    (.cons (.ifs (.me 8 (.v 0) (.cons (.k (.str [108, 111, 111, 112])) .nil)) (.cons (.ret (.tup (.cons (.k (.str [108, 111, 111, 112])) (.cons (.v 1) (.cons (.me 13 (.v 0) .nil) (.cons (.me 9 (.v 0) .nil) .nil))))))
    .nil) .nil)
    (.cons (.rais 1 (.cons (.fd (.v 1) 1) (.cons (.fd (.v 1) 2) .nil)))
    .nil))))) }
/-- Parser.parse_simple(self, token) : 0=self 1=token 2=target -/
def f_Parser_parse_simple : Fn := { np := 2, ns := 3, body := (.cons (.ifs (.orr (.cons (.cp .eq (.fd (.v 1) 0) (.k (.str [101, 109, 105, 116]))) (.cons (.cp .eq (.fd (.v 1) 0) (.k (.str [114, 101, 116, 117, 114, 110]))) .nil))) (.cons (.ret (.tup (.cons (.fd (.v 1) 0) (.cons (.v 1) (.cons (.me 13 (.v 0) .nil) .nil)))))
    .nil) .nil)
    (.cons (.ifs (.cp .eq (.fd (.v 1) 0) (.k (.str [99, 97, 108, 108]))) (.cons (.ret (.me 14 (.v 0) (.cons (.v 1) .nil)))
    .nil) .nil)
    (.cons (.set 2 (.me 7 (.v 0) (.cons (.ife (.cp .eq (.fd (.v 1) 0) (.k (.str [115, 101, 116]))) (.k (.str [119, 111, 114, 100])) (.k (.str [99, 101, 108, 108]))) .nil)))
    (.cons (.ex (.me 6 (.v 0) (.cons (.k (.str [61])) .nil)))
    (.cons (.ret (.tup (.cons (.fd (.v 1) 0) (.cons (.v 1) (.cons (.v 2) (.cons (.me 13 (.v 0) .nil) .nil))))))
    .nil))))) }
/-- Parser.parse_call(self, token) : 0=self 1=token 2=target 3=function 4=arguments 5=numerator 6=denominator -/
def f_Parser_parse_call : Fn := { np := 2, ns := 7, body := (.cons (.set 2 (.me 7 (.v 0) (.cons (.k (.str [119, 111, 114, 100])) .nil)))
    (.cons (.ex (.me 6 (.v 0) (.cons (.k (.str [61])) .nil)))
    (.cons (.par [(3, false), (4, true)] (.cons (.me 7 (.v 0) (.cons (.k (.str [119, 111, 114, 100])) .nil)) (.cons (.lst .nil) .nil)))
    (.cons (.ex (.me 6 (.v 0) (.cons (.k (.str [40])) .nil)))
    (.cons (.ifs (.nt (.me 8 (.v 0) (.cons (.k (.str [41])) .nil))) (.cons (.app 4 (.me 13 (.v 0) .nil))
    (.cons (.whl (.me 8 (.v 0) (.cons (.k (.str [44])) .nil)) (.cons (.app 4 (.me 13 (.v 0) .nil))
    .nil))
    (.cons (.ex (.me 6 (.v 0) (.cons (.k (.str [41])) .nil)))
    .nil))) .nil)
    (.cons (.frz 4)
    (.cons (.ex (.me 6 (.v 0) (.cons (.k (.str [115, 104, 97, 114, 101])) .nil)))
    (.cons (.set 5 (.me 7 (.v 0) (.cons (.k (.str [110, 117, 109, 98, 101, 114])) .nil)))
    (.cons (.ex (.me 6 (.v 0) (.cons (.k (.str [47])) .nil)))
    (.cons (.set 6 (.me 7 (.v 0) (.cons (.k (.str [110, 117, 109, 98, 101, 114])) .nil)))
    (.cons (.ex (.me 6 (.v 0) (.cons (.k (.str [101, 108, 115, 101])) .nil)))
    (.cons (.ret (.tup (.cons (.k (.str [99, 97, 108, 108])) (.cons (.v 1) (.cons (.v 2) (.cons (.v 3) (.cons (.v 4) (.cons (.v 5) (.cons (.v 6) (.cons (.me 13 (.v 0) .nil) .nil))))))))))
    .nil)))))))))))) }
/-- Parser.parse_if(self, token) : 0=self 1=token 2=left 3=operator 4=right 5=body -/
def f_Parser_parse_if : Fn := { np := 2, ns := 6, body := (.cons (.set 2 (.me 13 (.v 0) .nil))
    (.cons (.ifs (.inn true (.fd (.me 2 (.v 0) .nil) 0) (.g 1)) (.cons (.ex (.me 3 (.v 0) .nil))
    .nil) .nil)
    (.cons (.par [(3, false), (4, false)] (.cons (.fd (.me 4 (.v 0) .nil) 0) (.cons (.me 13 (.v 0) .nil) .nil)))
    (.cons (.set 5 (.me 9 (.v 0) .nil))
    (.cons (.ret (.tup (.cons (.k (.str [105, 102])) (.cons (.v 1) (.cons (.v 2) (.cons (.v 3) (.cons (.v 4) (.cons (.v 5) (.cons (.ife (.me 8 (.v 0) (.cons (.k (.str [101, 108, 115, 101])) .nil)) (.me 9 (.v 0) .nil) (.lst .nil)) .nil)))))))))
    .nil))))) }
/-- Parser.parse_expression(self) : 0=self 1=terms 2=operator -/
def f_Parser_parse_expression : Fn := { np := 1, ns := 3, body := (.cons (.own 1 (.lst (.cons (.tup (.cons (.k (.str [43])) (.cons (.me 15 (.v 0) .nil) .nil))) .nil)))
    (.cons (.whl (.inn false (.fd (.me 2 (.v 0) .nil) 0) (.g 2)) (.cons (.set 2 (.fd (.me 4 (.v 0) .nil) 0))
    (.cons (.app 1 (.tup (.cons (.v 2) (.cons (.me 15 (.v 0) .nil) .nil))))
    .nil)))
    (.cons (.retO 1)
    .nil))) }
/-- Parser.parse_term(self) : 0=self -/
def f_Parser_parse_term : Fn := { np := 1, ns := 1, body := (.cons (.ifs (.inn true (.fd (.me 2 (.v 0) .nil) 5) (.tup (.cons (.k (.str [119, 111, 114, 100])) (.cons (.k (.str [99, 101, 108, 108])) (.cons (.k (.str [110, 117, 109, 98, 101, 114])) .nil))))) (.cons (.ex (.me 3 (.v 0) .nil))
    .nil) .nil)
    (.cons (.ret (.me 4 (.v 0) .nil))
    .nil)) }
/-- Checker.__init__(self, functions) : 0=self 1=functions -/
def f_Checker___init : Fn := { np := 2, ns := 2, body := (.cons (.setF false (.v 0) 9 (.v 1))
    (.cons (.setF true (.v 0) 10 .dct)
    (.cons (.setF false (.v 0) 11 (.k (.int 0)))
    (.cons (.setF true (.v 0) 12 .dct)
    .nil)))) }
/-- Checker.check_headers(self) : 0=self 1=number 2=function 3=names 4=parameter -/
def f_Checker_check_headers : Fn := { np := 1, ns := 5, body := (.cons (.fr (.t [1, 2]) (.enu (.fd (.v 0) 9)) (.cons (.ifs (.cp .eq (.v 1) (.k (.int 12))) (.cons (.ex (.cl 4 (.cons (.k (.str [102, 117, 110, 99, 116, 105, 111, 110, 115])) (.cons (.fd (.v 2) 3) .nil))))
    .nil) .nil)
    (.cons (.ifs (.inn false (.fd (.fd (.v 2) 3) 0) (.fd (.v 0) 10)) (.cons (.ex (.cl 4 (.cons (.k (.str [100, 117, 112, 108, 105, 99, 97, 116, 101])) (.cons (.fd (.v 2) 3) .nil))))
    .nil) .nil)
    (.cons (.setI (.fd (.v 0) 10) (.fd (.fd (.v 2) 3) 0) (.bi .len (.cons (.fd (.v 2) 6) .nil)))
    (.cons (.own 3 (.lst .nil))
    (.cons (.fr (.n 4) (.e (.fd (.v 2) 6)) (.cons (.ifs (.cp .eq (.lenO 3) (.k (.int 4))) (.cons (.ex (.cl 4 (.cons (.k (.str [112, 97, 114, 97, 109, 101, 116, 101, 114, 115])) (.cons (.v 4) .nil))))
    .nil) .nil)
    (.cons (.ifs (.innO false (.fd (.v 4) 0) 3) (.cons (.ex (.cl 4 (.cons (.k (.str [100, 117, 112, 108, 105, 99, 97, 116, 101])) (.cons (.v 4) .nil))))
    .nil) .nil)
    (.cons (.app 3 (.fd (.v 4) 0))
    .nil))))
    .nil))))))
    .nil) }
/-- Checker.check_all(self) : 0=self 1=function 2=parameter -/
def f_Checker_check_all : Fn := { np := 1, ns := 3, body := (.cons (.ex (.me 16 (.v 0) .nil))
    (.cons (.fr (.n 1) (.e (.fd (.v 0) 9)) (.cons (.setF true (.v 0) 12 (.cl 7 (.cons (.fd (.v 1) 4) .nil)))
    (.cons (.upd (.fd (.v 0) 12) (.dc [2] (.fd (.v 2) 0) (.k (.bl true)) (.n 2) (.e (.fd (.v 1) 6)) .nil))
    (.cons (.ex (.me 17 (.v 0) (.cons (.fd (.v 1) 4) (.cons (.k (.int 1)) .nil))))
    .nil))))
    .nil)) }
/-- Checker.check_body(self, body, depth) : 0=self 1=body 2=depth 3=statement 4=expression -/
def f_Checker_check_body : Fn := { np := 3, ns := 5, body := (.cons (.fr (.n 3) (.e (.v 1)) (.cons (.augF (.v 0) 11 .add (.k (.int 1)))
    (.cons (.ifs (.cp .gt (.fd (.v 0) 11) (.k (.int 60))) (.cons (.ex (.cl 4 (.cons (.k (.str [115, 116, 97, 116, 101, 109, 101, 110, 116, 115])) (.cons (.ix (.v 3) (.k (.int 1))) .nil))))
    .nil) .nil)
    (.cons (.ifs (.cp .gt (.v 2) (.k (.int 8))) (.cons (.ex (.cl 4 (.cons (.k (.str [110, 101, 115, 116, 105, 110, 103])) (.cons (.ix (.v 3) (.k (.int 1))) .nil))))
    .nil) .nil)
    (.cons (.ifs (.cp .eq (.ix (.v 3) (.k (.int 0))) (.k (.str [99, 97, 108, 108]))) (.cons (.ex (.me 18 (.v 0) (.cons (.v 3) .nil)))
    .nil) .nil)
    (.cons (.fr (.n 4) (.e (.cl 6 (.cons (.v 3) .nil))) (.cons (.ex (.me 19 (.v 0) (.cons (.v 4) .nil)))
    .nil))
    (.cons (.ifs (.cp .eq (.ix (.v 3) (.k (.int 0))) (.k (.str [105, 102]))) (.cons (.ex (.me 17 (.v 0) (.cons (.ix (.v 3) (.k (.int 5))) (.cons (.op .add (.v 2) (.k (.int 1))) .nil))))
    (.cons (.ex (.me 17 (.v 0) (.cons (.ix (.v 3) (.k (.int 6))) (.cons (.op .add (.v 2) (.k (.int 1))) .nil))))
    .nil)) (.cons (.ifs (.cp .eq (.ix (.v 3) (.k (.int 0))) (.k (.str [108, 111, 111, 112]))) (.cons (.ex (.me 17 (.v 0) (.cons (.ix (.v 3) (.k (.int 3))) (.cons (.op .add (.v 2) (.k (.int 1))) .nil))))
    .nil) .nil)
    .nil))
    .nil)))))))
    .nil) }
/-- Checker.check_call(self, statement) : 0=self 1=statement 2=name 3=numerator 4=denominator -/
def f_Checker_check_call : Fn := { np := 2, ns := 5, body := (.cons (.set 2 (.ix (.v 1) (.k (.int 3))))
    (.cons (.ifs (.inn true (.fd (.v 2) 0) (.fd (.v 0) 10)) (.cons (.ex (.cl 4 (.cons (.k (.str [117, 110, 100, 101, 102, 105, 110, 101, 100])) (.cons (.v 2) .nil))))
    .nil) .nil)
    (.cons (.ifs (.cp .ne (.bi .len (.cons (.ix (.v 1) (.k (.int 4))) .nil)) (.ix (.fd (.v 0) 10) (.fd (.v 2) 0))) (.cons (.ex (.cl 4 (.cons (.k (.str [97, 114, 103, 117, 109, 101, 110, 116, 115])) (.cons (.v 2) .nil))))
    .nil) .nil)
    (.cons (.par [(3, false), (4, false)] (.cons (.bi .int (.cons (.fd (.ix (.v 1) (.k (.int 5))) 0) .nil)) (.cons (.bi .int (.cons (.fd (.ix (.v 1) (.k (.int 6))) 0) .nil)) .nil)))
    (.cons (.ifs (.nt (.ch3 .le .le .le (.k (.int 1)) (.v 3) (.v 4) (.k (.int 9)))) (.cons (.ex (.cl 4 (.cons (.k (.str [115, 104, 97, 114, 101])) (.cons (.ix (.v 1) (.k (.int 5))) .nil))))
    .nil) .nil)
    .nil))))) }
/-- Checker.check_expression(self, expression) : 0=self 1=expression 2=operator 3=token -/
def f_Checker_check_expression : Fn := { np := 2, ns := 4, body := (.cons (.fr (.t [2, 3]) (.e (.v 1)) (.cons (.ifs (.an (.cons (.inn true (.fd (.v 3) 5) (.tup (.cons (.k (.str [99, 101, 108, 108])) (.cons (.k (.str [110, 117, 109, 98, 101, 114])) .nil)))) (.cons (.inn true (.fd (.v 3) 0) (.fd (.v 0) 12)) .nil))) (.cons (.ex (.cl 4 (.cons (.k (.str [117, 110, 100, 101, 102, 105, 110, 101, 100])) (.cons (.v 3) .nil))))
    .nil) .nil)
    .nil))
    .nil) }
def fnsL : List (Nat × Fn) := [(0, f_run_length), (1, f_scan_token), (2, f_tokenize), (3, f_parse), (4, f_fail), (5, f_statements_in), (6, f_expressions_of), (7, f_targets_in), (8, f_load), (48, f_format_expression), (49, f_format_call), (50, f_format_simple), (51, f_format_body), (52, f_format_functions), (53, f_format_source), (10, f_law_random), (11, f_law_below), (12, f_law_expression), (13, f_law_small), (14, f_law_statement), (15, f_law_block), (16, f_law_total), (17, f_law_program), (18, f_law_text_of), (19, f_law_line_of), (20, f_law_lines), (21, f_law_source), (22, f_law_equal), (54, f_law_spaced), (55, f_law_split), (23, f_law), (24, f_Token___init), (25, f_Function___init), (26, f_Parser___init), (27, f_Parser_peek), (28, f_Parser_advance), (29, f_Parser_fail), (30, f_Parser_accept), (31, f_Parser_expect), (32, f_Parser_expect_kind), (33, f_Parser_parse_functions), (34, f_Parser_parse_function), (35, f_Parser_parse_block), (36, f_Parser_parse_statement), (37, f_Parser_parse_simple), (38, f_Parser_parse_call), (39, f_Parser_parse_if), (40, f_Parser_parse_expression), (41, f_Parser_parse_term), (42, f_Checker___init), (43, f_Checker_check_headers), (44, f_Checker_check_all), (45, f_Checker_check_body), (46, f_Checker_check_call), (47, f_Checker_check_expression)]
def clsL : List (Nat × Cl) := [(3, { flds := [5, 0, 1, 2], init := 24, meths := [] }), (4, { flds := [3, 6, 4], init := 25, meths := [] }), (5, { flds := [7, 8], init := 26, meths := [(2, 27), (4, 28), (3, 29), (8, 30), (6, 31), (7, 32), (0, 33), (5, 34), (9, 35), (10, 36), (11, 37), (14, 38), (12, 39), (13, 40), (15, 41)] }), (6, { flds := [9, 10, 11, 12], init := 42, meths := [(16, 43), (1, 44), (17, 45), (18, 46), (19, 47)] })]
def glsL : List (Nat × D) := [(0, (.tup [(.str [100, 101, 102]), (.str [115, 101, 116]), (.str [112, 117, 116]), (.str [101, 109, 105, 116]), (.str [114, 101, 116, 117, 114, 110]), (.str [105, 102]), (.str [101, 108, 115, 101]), (.str [108, 111, 111, 112]), (.str [99, 97, 108, 108]), (.str [115, 104, 97, 114, 101])])), (2, (.tup [(.str [43]), (.str [45]), (.str [42])])), (1, (.tup [(.str [60]), (.str [61]), (.str [62])]))]
def T : Tab := Tab.ofL fnsL clsL glsL 1000000

end K
set_option linter.all false
set_option maxRecDepth 100000
namespace PF
open K
/-- the law's source of numbers -/
def rnd (s c : Int) (r : List Int) : O := .lst (.d (.int s) :: .d (.int c) :: r.map fun i => .d (.int i))
def RndOk (s c : Int) (r : List Int) : Prop := 0 ≤ s ∧ 0 ≤ c ∧ ∀ i ∈ r, 0 ≤ i
theorem below_ok {d : Nat} {n : Int} {s c : Int} {r : List Int} {h : Hp} (hr : RndOk s c r) (hn : 0 < n) (hn2 : n < 1073741824) {Q : X → Hp → Prop}
    (k : ∀ m s' c' r', 0 ≤ m → m < n → RndOk s' c' r' → Q (dat (.int m)) (rnd s' c' r' :: h)) : Call (callF T (d + 1)) 11 [.ref 0, .d (.int n)] (rnd s c r :: h) Q := by
  have last : ∀ {s c : Int} {r : List Int}, RndOk s c r → wSs T (callF T d) (match f_law_below.body with
      | .cons _ x => x
      | x => x) [some (.v (.ref 0)), some (.v (.d (.int n))), none] (rnd s c r :: h) (QF Q) := by
    intro s c r hr
    conv => whnf
    refine wL_of (a := .d (.int c)) (ixV_ref (k := 1) rfl rfl) ?_
    conv => whnf
    refine wI_dec (fun h0 => ?_) (fun h0 => ?_)
    · conv => whnf
      refine wL_of (a := .d (.int c)) (ixV_ref (k := 1) rfl rfl) ?_
      conv => whnf
      refine wL_mod hn ?_
      conv => whnf
      refine wL_of (a := .d (.int c)) (ixV_ref (k := 1) rfl rfl) ?_
      conv => whnf
      refine wL_div hn hn2 ?_
      conv => whnf
      refine wL_of (setIV_ref (k := 1) rfl (by simp)) ?_
      exact k _ s (c / n) r (Int.emod_nonneg _ (by omega)) (Int.emod_lt_of_pos _ hn) ⟨hr.1, Int.ediv_nonneg hr.2.1 (by omega), hr.2.2⟩
    · conv => whnf
      refine wL_of (a := .d (.int s)) (ixV_ref (k := 0) rfl rfl) ?_
      conv => whnf
      refine wL_mul rfl ?_
      conv => whnf
      refine wL_of (setIV_ref (k := 0) rfl (by simp)) ?_
      conv => whnf
      refine wL_of (ixV_ref (k := 0) rfl rfl) ?_
      conv => whnf
      refine wL_mod hn ?_
      exact k _ _ c r (Int.emod_nonneg _ (by omega)) (Int.emod_lt_of_pos _ hn) ⟨Int.emod_nonneg _ (by omega), hr.2.1, hr.2.2⟩
  refine call_in rfl rfl ?_
  conv => whnf
  refine wL_of (a := .d (.int c)) (ixV_ref (k := 1) rfl rfl) ?_
  conv => whnf
  refine wI_eq (fun h0 => ?_) (fun h0 => ?_)
  · conv => whnf
    refine wI_dec (fun h1 => ?_) (fun h1 => ?_)
    · cases r with
      | nil => exact absurd h1 (by simp)
      | cons i r =>
        have hi : 0 ≤ i := hr.2.2 i List.mem_cons_self
        refine wL_of (popAt_nat (k := 2) rfl rfl (by omega)) ?_
        conv => whnf
        refine wL_of (setIV_ref (k := 1) rfl (by simp)) ?_
        exact last (c := i) ⟨hr.1, hi, fun j hj => hr.2.2 j (List.mem_cons_of_mem _ hj)⟩
    · exact last hr
  · exact last hr
end PF
set_option linter.all false
set_option maxRecDepth 100000
namespace PF
open K
theorem encE_len (g : Ex) : (encE g).length = g.length := List.length_map ..
theorem encE_snoc (g : Ex) (p : Nat × Tm) : encE (g ++ [p]) = encE g ++ [encT p] := List.map_append ..
def exI (ns : List Nm) (h : Hp) (j : Nat) (σ : St) (h' : Hp) : Prop := ∃ (g : Ex) (s c : Int) (r : List Int) (a3 a4 a5 a6 : Option SV), j = g.length ∧ σ = [some (.v (.ref 0)), some (.v (.d (.lst (ns.map .str)))), some (.ol (encE g)), a3, a4, a5, a6] ∧ h' = rnd s c r :: h ∧ RndOk s c r ∧ (∀ p, g[0]? = some p → p.1 = 43) ∧ (∀ p ∈ g, OpOk p.1) ∧ ∀ p ∈ g, TmOk ns p.2
theorem isE_map {α β : Type} (f : α → β) (l : List α) : (l.map f).isEmpty = l.isEmpty := by cases l <;> rfl
theorem expr_ok {d : Nat} {s c : Int} {r : List Int} {h : Hp} {ns : List Nm} (hr : RndOk s c r) (hns : ns.length ≤ 100) {Q : X → Hp → Prop}
    (k : ∀ e s' c' r', ExOk ns e → RndOk s' c' r' → Q (.fl (encE e)) (rnd s' c' r' :: h)) : Call (callF T (d + 2)) 12 [.ref 0, .d (.lst (ns.map .str))] (rnd s c r :: h) Q := by
  refine call_in rfl rfl ?_
  conv => whnf
  refine below_ok hr (by omega) (by omega) fun m s c r h0 h1 hr => ?_
  conv => whnf
  refine ix_any h0 h1 fun x hx => ?_
  obtain ⟨v, rfl, hv1, hv2⟩ : ∃ v, x = D.int v ∧ 1 ≤ v ∧ v ≤ 5 := by
    simp [dat, X.toV, V.toD] at hx
    rcases hx with rfl | rfl <;> exact ⟨_, rfl, by omega, by omega⟩
  refine below_ok hr (by omega) (by omega) fun m s c r h0 h1 hr => ?_
  conv => whnf
  refine rng_ok (by omega) (by omega) (by omega) (by omega) ?_
  obtain ⟨n, hn⟩ : ∃ n : Nat, 1 + m = n := ⟨(1 + m).toNat, by omega⟩
  rw [hn]
  refine for_range (exI ns h) (fun j ji σ h' hji hj I => ?_) (fun σ h' I => ?_) ?_
  · obtain ⟨g, s, c, r, a3, a4, a5, a6, rfl, rfl, rfl, hr, i1, i2, i3⟩ := I
    have hlen : (encE g).length < LIM := by rw [encE_len]; unfold LIM; omega
    have fin : ∀ {o : Nat} {tm : Tm} {s c : Int} {r : List Int} {a3 a4 a5 a6 : Option SV}, (g.length = 0 → o = 43) → OpOk o → TmOk ns tm → RndOk s c r → QT (exI ns h (g.length + 1)) (QF Q) [some (.v (.ref 0)), some (.v (.d (.lst (ns.map .str)))), some (.ol (encE g ++ [encT (o, tm)])), a3, a4, a5, a6] .nx (rnd s c r :: h) := by
      intro o tm s c r a3 a4 a5 a6 q1 q2 q3 q4
      refine ⟨g ++ [(o, tm)], s, c, r, a3, a4, a5, a6, by simp, by rw [encE_snoc], rfl, q4, fun p hp => ?_, fun p hp => ?_, fun p hp => ?_⟩
      · cases g with
        | nil => simp at hp; subst hp; exact q1 rfl
        | cons a g => exact i1 p (by simpa using hp)
      · rcases List.mem_append.mp hp with hp | hp
        · exact i2 p hp
        · simp at hp; subst hp; exact q2
      · rcases List.mem_append.mp hp with hp | hp
        · exact i3 p hp
        · simp at hp; subst hp; exact q3
    refine seq_cut (fun σ h' => ∃ o s c r, σ = [some (.v (.ref 0)), some (.v (.d (.lst (ns.map .str)))), some (.ol (encE g)), some (.v (.d (.int ji))), some (.v (.d (.str [o]))), a5, a6] ∧ h' = rnd s c r :: h ∧ RndOk s c r ∧ (g.length = 0 → o = 43) ∧ OpOk o) ?_ ?_
    · conv => whnf
      refine wI_eq (fun e => ?_) (fun e => ?_)
      · exact ⟨43, s, c, r, rfl, rfl, hr, fun _ => rfl, .inl rfl⟩
      · conv => whnf
        refine below_ok hr (by omega) (by omega) fun m s c r h0 h1 hr => ?_
        conv => whnf
        refine ix_str (by decide) h0 h1 fun x hx => ?_
        exact ⟨x, s, c, r, rfl, rfl, hr, fun q => absurd (by omega) e, by simpa [OpOk] using hx⟩
    · rintro σ h' ⟨o, s, c, r, rfl, rfl, hr, q1, q2⟩
      conv => whnf
      refine below_ok hr (by omega) (by omega) fun m s c r h0 h1 hr => ?_
      refine if_join (fun b h' => h' = rnd s c r :: h) (exI ns h (g.length + 1)) ?_ (fun h' e => ?_) (fun h' e => ?_) (fun σ h q => q)
      · conv => whnf
        refine wI_eq (fun e => ?_) (fun e => ?_)
        · rfl
        · conv => whnf
          refine wI_eq (fun e => ?_) (fun e => ?_)
          · conv => whnf
            refine wI_in (fun e => ?_) (fun e => ?_)
            · rfl
            · rfl
          · rfl
      · subst e
        conv => whnf
        refine below_ok hr (by omega) (by omega) fun m2 s c r h0 h1 hr => ?_
        conv => whnf
        refine below_ok hr (by omega) (by omega) fun m3 s c r h0' h1' hr => ?_
        conv => whnf
        refine below_ok hr (by omega) (by omega) fun m4 s c r h0'' h1'' hr => ?_
        conv => whnf
        refine ix_any h0'' h1'' fun x hx => ?_
        obtain ⟨v, rfl, hv⟩ : ∃ v : Nat, x = D.int v ∧ v < 1000000 := by
          simp [dat, X.toV, V.toD] at hx
          rcases hx with rfl | rfl | rfl
          · exact ⟨m2.toNat, by congr 1; omega, by omega⟩
          · exact ⟨m3.toNat, by congr 1; omega, by omega⟩
          · exact ⟨999999, rfl, by omega⟩
        conv => whnf
        refine wL_of (a := .ol (encE g ++ [encT (o, .n v)])) (if_pos (decide_eq_true hlen)) ?_
        exact fin q1 q2 hv hr
      · subst e
        refine if_join (fun b h' => h' = rnd s c r :: h ∧ (b = true → ns ≠ [])) (exI ns h (g.length + 1)) ?_ (fun h' e => ?_) (fun h' e => ?_) (fun σ h q => q)
        · conv => whnf
          refine wI_dec (fun e => ?_) (fun e => ?_)
          · conv => whnf
            refine wI_not (wI_in (fun e => ?_) (fun e => ?_))
            · exact ⟨rfl, fun q => nomatch q⟩
            · refine ⟨rfl, fun _ q => ?_⟩
              subst q
              exact absurd e (by simp)
          · exact ⟨rfl, fun q => nomatch q⟩
        · obtain ⟨rfl, hb⟩ := e
          have hne := hb rfl
          have hpos : 0 < ns.length := List.length_pos_iff.mpr hne
          conv => whnf
          refine below_ok (n := ((ns.map D.str).length : Nat)) hr (by rw [List.length_map]; omega) (by rw [List.length_map]; omega) fun m2 s c r h0 h1 hr => ?_
          conv => whnf
          refine ix_any h0 h1 fun x hx => ?_
          obtain ⟨y, hy, rfl⟩ := List.mem_map.mp hx
          conv => whnf
          refine wL_of (a := .ol (encE g ++ [encT (o, .l y)])) (if_pos (decide_eq_true hlen)) ?_
          exact fin q1 q2 hy hr
        · obtain ⟨rfl, hb⟩ := e
          conv => whnf
          refine below_ok hr (by omega) (by omega) fun m2 s c r h0 h1 hr => ?_
          obtain ⟨i, rfl⟩ : ∃ i : Nat, m2 = i := ⟨m2.toNat, by omega⟩
          conv => whnf
          refine wL_of (a := .ol (encE g ++ [encT (o, .c i)])) (if_pos (decide_eq_true hlen)) ?_
          exact fin q1 q2 (show i < 8 by omega) hr
  · obtain ⟨g, s, c, r, a3, a4, a5, a6, hl, rfl, rfl, hr, i1, i2, i3⟩ := I
    exact k g s c r ⟨by omega, by omega, i1, i2, i3⟩ hr
  · exact ⟨[], s, c, r, none, none, none, none, rfl, rfl, rfl, hr, by simp, by simp, by simp⟩
end PF
set_option linter.all false
set_option maxRecDepth 100000
namespace PF
open K
theorem ne_map {α : Type} {f : α → D} {l : List α} (e : (l.map f).isEmpty = false) : l ≠ [] := by
  rintro rfl; cases e
theorem pick {α : Type} {f : α → D} {l : List α} {m : Int} {h : Hp} {K : V → Prop} (h0 : 0 ≤ m) (h1 : m < ((l.map f).length : Nat)) (k : ∀ x ∈ l, K (.d (f x))) : wL (ixV (.d (.lst (l.map f))) (.d (.int m)) h) K :=
  ix_any h0 h1 fun x hx => by obtain ⟨y, hy, rfl⟩ := List.mem_map.mp hx; exact k y hy
/-- below(d, len(l)) -/
theorem below_len {α : Type} {f : α → D} {l : List α} {d : Nat} {s c : Int} {r : List Int} {h : Hp} (hr : RndOk s c r) (hne : l ≠ []) (hl : l.length ≤ 100) {Q : X → Hp → Prop}
    (k : ∀ (m : Int) s' c' r', 0 ≤ m → m < ((l.map f).length : Nat) → RndOk s' c' r' → Q (dat (.int m)) (rnd s' c' r' :: h)) : Call (callF T (d + 1)) 11 [.ref 0, .d (.int ((l.map f).length : Nat))] (rnd s c r :: h) Q := by
  have hpos : 0 < l.length := List.length_pos_iff.mpr hne
  exact below_ok hr (by rw [List.length_map]; omega) (by rw [List.length_map]; omega) k
theorem pickC {l : List (Nm × Nat)} {m : Int} {h : Hp} {K : V → Prop} (h0 : 0 ≤ m) (h1 : m < ((l.map fun c : Nm × Nat => D.tup [.str c.1, .int c.2]).length : Nat)) (k : ∀ (f : Nm) (a : Nat) (ai : Int), ai = a → (f, a) ∈ l → K (.d (.tup [.str f, .int ai]))) : wL (ixV (.d (.lst (l.map fun c : Nm × Nat => D.tup [.str c.1, .int c.2]))) (.d (.int m)) h) K :=
  ix_any h0 h1 fun x hx => by obtain ⟨y, hy, rfl⟩ := List.mem_map.mp hx; exact k y.1 y.2 y.2 rfl hy
theorem small_ok {d : Nat} {s c : Int} {r : List Int} {h : Hp} {ns : List Nm} (hr : RndOk s c r) (hns : ns.length ≤ 100) {Q : X → Hp → Prop}
    (k : ∀ e s' c' r', ExOk ns e → RndOk s' c' r' → Q (.fl (encE e)) (rnd s' c' r' :: h)) : Call (callF T (d + 2)) 13 [.ref 0, .d (.lst (ns.map .str))] (rnd s c r :: h) Q := by
  have one : ∀ {tm : Tm} {s c : Int} {r : List Int}, TmOk ns tm → RndOk s c r → Q (.fl [encT (43, tm)]) (rnd s c r :: h) := fun {tm s c r} q hr =>
    k [(43, tm)] s c r ⟨by simp, by simp, fun p hp => by simp at hp; rw [← hp], fun p hp => by simp at hp; rw [hp]; exact .inl rfl, fun p hp => by simp at hp; rw [hp]; exact q⟩ hr
  refine call_in rfl rfl ?_
  refine if_ret (fun b h' => (∃ s c r, h' = rnd s c r :: h ∧ RndOk s c r) ∧ (b = true → ns ≠ [])) ?_ (fun h' e => ?_) (fun h' e => ?_)
  · conv => whnf
    refine wI_not (wI_in (fun e => ?_) (fun e => ?_))
    · exact ⟨⟨s, c, r, rfl, hr⟩, fun q => nomatch q⟩
    · conv => whnf
      refine below_ok hr (by omega) (by omega) fun m2 s c r h0 h1 hr => ?_
      refine wI_eq (fun _ => ?_) (fun _ => ?_)
      · exact ⟨⟨s, c, r, rfl, hr⟩, fun _ => ne_map e⟩
      · exact ⟨⟨s, c, r, rfl, hr⟩, fun q => nomatch q⟩
  · obtain ⟨⟨s, c, r, rfl, hr⟩, hb⟩ := e
    conv => whnf
    refine below_len hr (hb rfl) hns fun m s c r h0 h1 hr => ?_
    conv => whnf
    refine pick h0 h1 fun x hx => ?_
    exact one (tm := .l x) hx hr
  · obtain ⟨⟨s, c, r, rfl, hr⟩, hb⟩ := e
    conv => whnf
    refine below_ok hr (by omega) (by omega) fun m2 s c r h0 h1 hr => ?_
    obtain ⟨i, rfl⟩ : ∃ i : Nat, m2 = i := ⟨m2.toNat, by omega⟩
    exact one (tm := .n i) (show i < 1000000 by omega) hr
def encZ (z : Spc) (b : Bool) : D := .tup [.lst (z.names.map .str), .lst (z.targets.map .str), .lst (z.callees.map fun c => .tup [.str c.1, .int c.2]), .bl b]
structure SpcOk (z : Spc) : Prop where
  n : z.names.length ≤ 100
  t : z.targets.length ≤ 100
  c : z.callees.length ≤ 100
  a : ∀ c ∈ z.callees, c.2 ≤ 4
/-- what a block of depth n is -/
structure BlkOk (z : Spc) (b : Bool) (n d : Nat) : Prop where
  p : ∀ {s c : Int} {r : List Int} {h : Hp} {i : Int} {Q : X → Hp → Prop}, i = n → RndOk s c r →
  (∀ ss s' c' r', SmsOk z n ss → ss.length ≤ 3 → RndOk s' c' r' → Q (.fl (encSs ss)) (rnd s' c' r' :: h)) → Call (callF T d) 15 [.ref 0, .d (encZ z b), .d (.int i)] (rnd s c r :: h) Q
structure StmOk (z : Spc) (b : Bool) (n d : Nat) : Prop where
  p : ∀ {s c : Int} {r : List Int} {h : Hp} {i : Int} {Q : X → Hp → Prop}, i = n → RndOk s c r →
  (∀ st s' c' r', SmOk z n st → RndOk s' c' r' → Q (dat (encS st)) (rnd s' c' r' :: h)) → Call (callF T d) 14 [.ref 0, .d (encZ z b), .d (.int i)] (rnd s c r :: h) Q
theorem block_of {z : Spc} {b : Bool} {n d : Nat} (st : StmOk z b n (d + 1)) : BlkOk z b n (d + 2) := by
  constructor
  intro s c r h i Q hi hr k
  refine call_in rfl rfl ?_
  conv => whnf
  refine below_ok hr (by omega) (by omega) fun m s c r h0 h1 hr => ?_
  conv => whnf
  refine rng_ok (by omega) (by omega) (by omega) (by omega) ?_
  obtain ⟨n', hn⟩ : ∃ n : Nat, m = n := ⟨m.toNat, by omega⟩
  rw [hn]
  refine lc_range (fun j acc h' => ∃ (ss : List Sm) (s c : Int) (r : List Int), j = ss.length ∧ acc = encSs ss ∧ SmsOk z n ss ∧ h' = rnd s c r :: h ∧ RndOk s c r) (fun j ji acc h' hji hj I => ?_) (fun acc h' I => ?_) ⟨[], s, c, r, rfl, by unfold encSs; rfl, by unfold SmsOk; trivial, rfl, hr⟩
  · obtain ⟨ss, s, c, r, rfl, rfl, ok, rfl, hr⟩ := I
    conv => whnf
    refine st.p hi hr fun t s c r q hr => ?_
    refine ⟨by rw [encSs_map, List.length_map]; unfold LIM; omega, ss ++ [t], s, c, r, by simp, by rw [encSs_append]; unfold encSs; unfold encSs; rfl, SmsOk_iff.mpr fun x hx => ?_, rfl, hr⟩
    rcases List.mem_append.mp hx with hx | hx
    · exact SmsOk_iff.mp ok x hx
    · simp at hx; subst hx; exact q
  · obtain ⟨ss, s, c, r, hl, rfl, ok, rfl, hr⟩ := I
    exact k ss s c r ok (by omega) hr
theorem sub1 {i : Int} {n : Nat} (h : i = (n + 1 : Nat)) : i - 1 = n := by omega
theorem stmt_of {z : Spc} {b : Bool} {n d : Nat} (hz : SpcOk z) (bl : ∀ m, n = m + 1 → BlkOk z b m (d + 2)) : StmOk z b n (d + 3) := by
  constructor
  intro s c r h i Q hi hr k
  refine call_in rfl rfl ?_
  conv => whnf
  refine below_ok hr (by omega) (by omega) fun m s c r h0 h1 hr => ?_
  -- set
  refine if_ret (fun b h' => h' = rnd s c r :: h ∧ (b = true → z.targets ≠ [])) ?_ (fun h' e => ?_) (fun h' e => ?_)
  · conv => whnf
    refine wI_dec (fun _ => ?_) (fun _ => ?_)
    · conv => whnf
      refine wI_not (wI_in (fun e => ?_) (fun e => ?_))
      · exact ⟨rfl, fun q => nomatch q⟩
      · exact ⟨rfl, fun _ => ne_map e⟩
    · exact ⟨rfl, fun q => nomatch q⟩
  · obtain ⟨rfl, hb⟩ := e
    conv => whnf
    refine below_len hr (hb rfl) hz.t fun m s c r h0 h1 hr => ?_
    conv => whnf
    refine pick h0 h1 fun x hx => ?_
    conv => whnf
    refine expr_ok hr hz.n fun e s c r he hr => ?_
    exact k (.set x e) s c r (by unfold SmOk; exact ⟨hx, he⟩) hr
  obtain ⟨rfl, -⟩ := e
  -- call
  refine if_ret (fun b h' => h' = rnd s c r :: h ∧ (b = true → z.callees ≠ [] ∧ z.targets ≠ [])) ?_ (fun h' e => ?_) (fun h' e => ?_)
  · conv => whnf
    refine wI_dec (fun _ => ?_) (fun _ => ?_)
    · conv => whnf
      refine wI_not (wI_in (fun e => ?_) (fun e => ?_))
      · exact ⟨rfl, fun q => nomatch q⟩
      · conv => whnf
        refine wI_not (wI_in (fun e2 => ?_) (fun e2 => ?_))
        · exact ⟨rfl, fun q => nomatch q⟩
        · exact ⟨rfl, fun _ => ⟨ne_map e, ne_map e2⟩⟩
    · exact ⟨rfl, fun q => nomatch q⟩
  · obtain ⟨rfl, hb⟩ := e
    obtain ⟨hb1, hb2⟩ := hb rfl
    conv => whnf
    refine below_len hr hb1 hz.c fun m s c r h0 h1 hr => ?_
    conv => whnf
    refine pickC h0 h1 fun f a ai hai hy => ?_
    have ha := hz.a _ hy
    dsimp only at ha
    conv => whnf
    refine rng_ok (by omega) (by omega) (by omega) (by omega) ?_
    rw [hai]
    refine lc_range (fun j acc h' => ∃ (es : List Ex) (s c : Int) (r : List Int), j = es.length ∧ acc = es.map (fun e => .lst (encE e)) ∧ (∀ e ∈ es, ExOk z.names e) ∧ h' = rnd s c r :: h ∧ RndOk s c r) (fun j ji acc h' hji hj I => ?_) (fun acc h' I => ?_) ⟨[], s, c, r, rfl, rfl, by simp, rfl, hr⟩
    · obtain ⟨es, s, c, r, rfl, rfl, ok, rfl, hr⟩ := I
      conv => whnf
      refine expr_ok hr hz.n fun e s c r he hr => ?_
      refine ⟨by rw [List.length_map]; unfold LIM; omega, es ++ [e], s, c, r, by simp, by simp [X.toV, V.toD], fun x hx => ?_, rfl, hr⟩
      rcases List.mem_append.mp hx with hx | hx
      · exact ok x hx
      · simp at hx; subst hx; exact he
    · obtain ⟨es, s, c, r, hl, rfl, ok, rfl, hr⟩ := I
      conv => whnf
      refine below_ok hr (by omega) (by omega) fun m s c r h0 h1 hr => ?_
      conv => whnf
      refine ix_any h0 h1 fun x hx => ?_
      obtain ⟨p, q, rfl, hpq⟩ : ∃ p q : Nat, x = .tup [.int p, .int q] ∧ ShOk p q := by
        simp [dat, X.toV, V.toD] at hx
        rcases hx with rfl | rfl | rfl | rfl | rfl
        · exact ⟨1, 1, rfl, by simp [ShOk]⟩
        · exact ⟨1, 2, rfl, by simp [ShOk]⟩
        · exact ⟨2, 3, rfl, by simp [ShOk]⟩
        · exact ⟨8, 9, rfl, by simp [ShOk]⟩
        · exact ⟨1, 9, rfl, by simp [ShOk]⟩
      conv => whnf
      refine below_len hr hb2 hz.t fun m s c r h0 h1 hr => ?_
      conv => whnf
      refine pick h0 h1 fun x hx => ?_
      conv => whnf
      refine expr_ok hr hz.n fun e s c r he hr => ?_
      exact k (.call x f es p q e) s c r (by unfold SmOk; exact ⟨hx, by rw [← hl]; exact hy, ok, hpq, he⟩) hr
  obtain ⟨rfl, -⟩ := e
  -- if
  refine if_ret (fun b h' => h' = rnd s c r :: h ∧ (b = true → 0 < i)) ?_ (fun h' e => ?_) (fun h' e => ?_)
  · conv => whnf
    refine wI_eq (fun _ => ?_) (fun _ => ?_)
    · conv => whnf
      refine wI_dec (fun e => ?_) (fun e => ?_)
      · exact ⟨rfl, fun _ => e⟩
      · exact ⟨rfl, fun q => nomatch q⟩
    · exact ⟨rfl, fun q => nomatch q⟩
  · obtain ⟨rfl, hb⟩ := e
    obtain ⟨n, rfl⟩ : ∃ m, n = m + 1 := ⟨n - 1, by have := hb rfl; omega⟩
    conv => whnf
    refine (bl n rfl).p (sub1 hi) hr fun sa s c r ha la hr => ?_
    conv => whnf
    refine (bl n rfl).p (sub1 hi) hr fun sb s c r hb lb hr => ?_
    conv => whnf
    refine small_ok hr hz.n fun e1 s c r he1 hr => ?_
    conv => whnf
    refine small_ok hr hz.n fun e2 s c r he2 hr => ?_
    conv => whnf
    refine below_ok hr (by omega) (by omega) fun m s c r h0 h1 hr => ?_
    conv => whnf
    refine wI_eq (fun _ => ?_) (fun _ => ?_)
    · conv => whnf
      refine below_ok hr (by omega) (by omega) fun m s c r h0 h1 hr => ?_
      conv => whnf
      refine ix_str (by decide) h0 h1 fun o ho => ?_
      exact k (.ifs e1 o e2 sa sb) s c r (by unfold SmOk; exact ⟨he1, by simpa using ho, he2, by omega, ha, hb, la, lb⟩) hr
    · conv => whnf
      refine below_ok hr (by omega) (by omega) fun m s c r h0 h1 hr => ?_
      conv => whnf
      refine ix_str (by decide) h0 h1 fun o ho => ?_
      exact k (.ifs e1 o e2 sa []) s c r (by unfold SmOk; exact ⟨he1, by simpa using ho, he2, by omega, ha, by unfold SmsOk; trivial, la, by simp⟩) hr
  obtain ⟨rfl, -⟩ := e
  -- loop
  refine if_ret (fun b h' => h' = rnd s c r :: h ∧ (b = true → 0 < i)) ?_ (fun h' e => ?_) (fun h' e => ?_)
  · conv => whnf
    refine wI_eq (fun _ => ?_) (fun _ => ?_)
    · conv => whnf
      refine wI_dec (fun e => ?_) (fun e => ?_)
      · exact ⟨rfl, fun _ => e⟩
      · exact ⟨rfl, fun q => nomatch q⟩
    · exact ⟨rfl, fun q => nomatch q⟩
  · obtain ⟨rfl, hb⟩ := e
    obtain ⟨n, rfl⟩ : ∃ m, n = m + 1 := ⟨n - 1, by have := hb rfl; omega⟩
    conv => whnf
    refine wI_in (fun _ => ?_) (fun _ => ?_)
    · conv => whnf
      refine below_ok hr (by omega) (by omega) fun m s c r h0 h1 hr => ?_
      conv => whnf
      refine (bl n rfl).p (sub1 hi) hr fun sb s c r hb lb hr => ?_
      obtain ⟨j, rfl⟩ : ∃ i : Nat, m = i := ⟨m.toNat, by omega⟩
      exact k (.loop [(43, .n j)] sb) s c r (by unfold SmOk; exact ⟨⟨by simp, by simp, fun p hp => by simp at hp; rw [← hp], fun p hp => by simp at hp; rw [hp]; exact .inl rfl, fun p hp => by simp at hp; rw [hp]; exact (show j < 1000000 by omega)⟩, by omega, hb, lb⟩) hr
    · conv => whnf
      refine small_ok hr hz.n fun e2 s c r he2 hr => ?_
      conv => whnf
      refine (bl n rfl).p (sub1 hi) hr fun sb s c r hb lb hr => ?_
      exact k (.loop e2 sb) s c r (by unfold SmOk; exact ⟨he2, by omega, hb, lb⟩) hr
  obtain ⟨rfl, -⟩ := e
  -- put
  refine if_ret (fun b h' => h' = rnd s c r :: h) ?_ (fun h' e => ?_) (fun h' e => ?_)
  · conv => whnf
  · subst e
    conv => whnf
    refine below_ok hr (by omega) (by omega) fun m s c r h0 h1 hr => ?_
    conv => whnf
    refine expr_ok hr hz.n fun e s c r he hr => ?_
    obtain ⟨j, rfl⟩ : ∃ i : Nat, m = i := ⟨m.toNat, by omega⟩
    exact k (.put j e) s c r (by unfold SmOk; exact ⟨by omega, he⟩) hr
  subst e
  -- return
  refine if_ret (fun b h' => ∃ s c r, h' = rnd s c r :: h ∧ RndOk s c r) ?_ (fun h' e => ?_) (fun h' e => ?_)
  · conv => whnf
    refine wI_eq (fun _ => ?_) (fun _ => ?_)
    · conv => whnf
      refine below_ok hr (by omega) (by omega) fun m s c r h0 h1 hr => ?_
      refine wI_eq (fun _ => ⟨s, c, r, rfl, hr⟩) (fun _ => ⟨s, c, r, rfl, hr⟩)
    · exact ⟨s, c, r, rfl, hr⟩
  · obtain ⟨s, c, r, rfl, hr⟩ := e
    conv => whnf
    refine expr_ok hr hz.n fun e s c r he hr => ?_
    exact k (.ret e) s c r (by unfold SmOk; exact he) hr
  obtain ⟨s, c, r, rfl, hr⟩ := e
  conv => whnf
  refine expr_ok hr hz.n fun e s c r he hr => ?_
  exact k (.emit e) s c r (by unfold SmOk; exact he) hr
theorem stm_ok {z : Spc} {b : Bool} (hz : SpcOk z) (n : Nat) : ∀ d, StmOk z b n (d + 3 + 2 * n) := by
  induction n with
  | zero => exact fun d => stmt_of hz fun m q => nomatch q
  | succ n ih =>
    intro d
    have := stmt_of (d := d + 2 * n + 2) (n := n + 1) (b := b) hz fun m q => by
      cases q
      have e : d + 2 * n + 2 + 2 = d + 2 * n + 2 + 2 := rfl
      refine block_of (d := d + 2 * n + 2) ?_
      have := ih d
      have e : d + 3 + 2 * n = d + 2 * n + 2 + 1 := by omega
      rw [e] at this
      exact this
    have e : d + 3 + 2 * (n + 1) = d + 2 * n + 2 + 3 := by omega
    rw [e]
    exact this
theorem blk_ok {z : Spc} {b : Bool} (hz : SpcOk z) (n d : Nat) : BlkOk z b n (d + 4 + 2 * n) := by
  have q := stm_ok (b := b) hz n d
  have e1 : d + 3 + 2 * n = d + 2 + 2 * n + 1 := by omega
  rw [e1] at q
  have := block_of (d := d + 2 + 2 * n) q
  have e : d + 2 + 2 * n + 2 = d + 4 + 2 * n := by omega
  rw [e] at this
  exact this
end PF
set_option linter.all false
set_option maxRecDepth 100000
namespace PF
open K
def toI (L : List D) (tt : Nat) (n : Nat) (h : Hp) (rest : List D) (σ : St) (h' : Hp) : Prop := ∃ (ss : List Sm) (t : Int) (a2 : Option SV), rest = encSs ss ∧ t + tots ss = tt ∧ dpts ss ≤ n ∧ σ = [some (.v (.d (.lst L))), some (.v (.d (.int t))), a2] ∧ h' = h
theorem total_ok (n : Nat) : ∀ (ss : List Sm) {d : Nat} {h : Hp} {Q : X → Hp → Prop}, dpts ss ≤ n → (∀ t : Int, t = tots ss → Q (dat (.int t)) h) → Call (callF T (d + 1 + n)) 16 [.d (.lst (encSs ss))] h Q := by
  induction n with
  | zero => ?_
  | succ n ih => ?_
  all_goals
    intro ss d h Q hd k
    refine call_in rfl rfl ?_
    conv => whnf
    refine for_list (toI (encSs ss) (tots ss) _ h) (fun x r σ h' I => ?_) (fun σ h' I => ?_) _ ⟨ss, 0, none, rfl, by omega, hd, rfl, rfl⟩
    rotate_left
    · obtain ⟨ss', t, a2, e, ht, _, rfl, rfl⟩ := I
      cases ss' with
      | nil => exact k t (by rw [← ht, tots_nil]; omega)
      | cons s ss' => rw [encSs_map] at e; cases e
    obtain ⟨ss', t, a2, e, ht, hd', rfl, rfl⟩ := I
    cases ss' with
    | nil => rw [encSs_map] at e; cases e
    | cons s ss' =>
      unfold encSs at e
      cases e
      rw [tots_cons] at ht
      rw [dpts_cons] at hd'
      cases s with
      | set x e => exact ⟨ss', t + 1, _, rfl, by simp only [tot] at ht; push_cast at ht ⊢; omega, by omega, rfl, rfl⟩
      | put x e => exact ⟨ss', t + 1, _, rfl, by simp only [tot] at ht; push_cast at ht ⊢; omega, by omega, rfl, rfl⟩
      | emit e => exact ⟨ss', t + 1, _, rfl, by simp only [tot] at ht; push_cast at ht ⊢; omega, by omega, rfl, rfl⟩
      | ret e => exact ⟨ss', t + 1, _, rfl, by simp only [tot] at ht; push_cast at ht ⊢; omega, by omega, rfl, rfl⟩
      | call x f as p q e => exact ⟨ss', t + 1, _, rfl, by simp only [tot] at ht; push_cast at ht ⊢; omega, by omega, rfl, rfl⟩
      | ifs l o r a b =>
        unfold dpt at hd'
        first
          | (exfalso; omega)
          | (conv => whnf
             refine ih a (by omega) fun ta hta => ?_
             conv => whnf
             refine ih b (by omega) fun tb htb => ?_
             exact ⟨ss', t + 1 + ta + tb, _, rfl, by simp only [tot] at ht; push_cast at ht ⊢; omega, by omega, rfl, rfl⟩)
      | loop e b =>
        unfold dpt at hd'
        first
          | (exfalso; omega)
          | (conv => whnf
             refine ih b (by omega) fun tb htb => ?_
             exact ⟨ss', t + 1 + tb, _, rfl, by simp only [tot] at ht; push_cast at ht ⊢; omega, by omega, rfl, rfl⟩)
end PF
set_option linter.all false
set_option maxRecDepth 100000
namespace PF
open K
abbrev Hd := Nm × List Nm
def encH (p : Hd) : D := .tup [.str p.1, .lst (p.2.map .str)]
def hdN (p : Hd) : Nm × Nat := (p.1, p.2.length)
def HdOk (hs : List Hd) : Prop := (∃ n, hs.map Prod.fst = NM.take n) ∧ ∀ p ∈ hs, ∃ i, p.2 = PA.take i
def pgI1 (b : Bool) (n : Nat) (h : Hp) (rest : List D) (σ : St) (h' : Hp) : Prop := ∃ (hs : List Hd) (m : Nat) (s c : Int) (r : List Int) (a3 : Option SV), hs.map Prod.fst = NM.take m ∧ rest = ((NM.take n).drop m).map .str ∧ m ≤ n ∧ (∀ p ∈ hs, ∃ i, p.2 = PA.take i) ∧ h' = rnd s c r :: h ∧ RndOk s c r ∧
  σ = [some (.v (.ref 0)), some (.v (.d (.bl b))), some (.ol (hs.map encH)), a3, none, none, none, none, none, none, none, none, none, none, none, none]
theorem hs_len {hs : List Hd} {n : Nat} (e : hs.map Prod.fst = NM.take n) : hs.length ≤ 4 := by
  have := congrArg List.length e
  simp [NM] at this
  omega
theorem prog_head {d : Nat} {s c : Int} {r : List Int} {h : Hp} {b : Bool} (hr : RndOk s c r) {Q : QS} {ss : Ss} (k : ∀ hs s c r a3, HdOk hs → 0 < hs.length → RndOk s c r → wSs T (callF T (d + 1)) ss [some (.v (.ref 0)), some (.v (.d (.bl b))), some (.ol (hs.map encH)), a3, none, none, none, none, none, none, none, none, none, none, none, none] (rnd s c r :: h) Q) :
    wSs T (callF T (d + 1)) (.cons (f_law_program.body.at' 0) (.cons (f_law_program.body.at' 1) ss)) [some (.v (.ref 0)), some (.v (.d (.bl b))), none, none, none, none, none, none, none, none, none, none, none, none, none, none] (rnd s c r :: h) Q := by
  conv => whnf
  refine below_ok hr (by omega) (by omega) fun m s c r h0 h1 hr => ?_
  conv => whnf
  have e : cut [D.str [109, 97, 105, 110], .str [102], .str [103], .str [108, 111, 110, 103, 110, 97, 109, 101]] none (some (1 + m)) = (NM.take (1 + m).toNat).map .str := by
    rw [cut_take (by omega), List.map_take]; rfl
  refine (show ∀ L : List D, L = _ → LFor T (callF T (d + 1)) (f_law_program.body.at' 1).bd (.n 3) (L.map .d) _ _ _ from fun L eL => ?_) _ e
  subst eL
  refine for_list (pgI1 b (1 + m).toNat h) (fun x rest σ h' I => ?_) (fun σ h' I => ?_) _ ⟨[], 0, s, c, r, none, rfl, rfl, by omega, by simp, rfl, hr, rfl⟩
  · obtain ⟨hs, j, s, c, r, a3, e1, e2, hj, hp, rfl, hr, rfl⟩ := I
    have hl := hs_len e1
    cases q : (NM.take (1 + m).toNat).drop j with
    | nil => rw [q] at e2; cases e2
    | cons y ys =>
      rw [q] at e2
      cases e2
      have hlt : j < (NM.take (1 + m).toNat).length := by
        rcases Nat.lt_or_ge j (NM.take (1 + m).toNat).length with q2 | q2
        · exact q2
        · rw [List.drop_eq_nil_of_le q2] at q; cases q
      have hj2 : j < (1 + m).toNat := by rw [List.length_take] at hlt; omega
      rw [List.drop_eq_getElem_cons hlt] at q
      cases q
      have hjN : j < NM.length := by rw [List.length_take] at hlt; omega
      conv => whnf
      refine below_ok hr (by omega) (by omega) fun i s c r h0 h1 hr => ?_
      conv => whnf
      have e3 : cut [D.str [97], .str [98]] none (some i) = (PA.take i.toNat).map .str := by rw [cut_take h0, List.map_take]; rfl
      refine wL_app (xs := hs.map encH) (by rw [List.length_map]; unfold LIM; omega) ?_
      refine ⟨hs ++ [((NM.take (1 + m).toNat)[j], PA.take i.toNat)], j + 1, s, c, r, some (.v (.d (.str (NM.take (1 + m).toNat)[j]))), ?_, rfl, hj2, ?_, rfl, hr, ?_⟩
      · rw [List.map_append, e1, List.take_succ_eq_append_getElem hjN]
        simp
      · intro p hp'
        rcases List.mem_append.mp hp' with hp' | hp'
        · exact hp p hp'
        · simp at hp'; subst hp'; exact ⟨_, rfl⟩
      · rw [List.map_append, List.map_singleton, encH, ← e3]
  · obtain ⟨hs, j, s, c, r, a3, e1, e2, hj, hp, rfl, hr, rfl⟩ := I
    refine norm_eq.mpr (k hs s c r a3 ⟨⟨j, e1⟩, hp⟩ ?_ hr)
    have e3 : ((NM.take (1 + m).toNat).drop j).length = 0 := by
      have := congrArg List.length e2
      simpa using this.symm
    have e4 : hs.length = (NM.take j).length := by rw [← e1, List.length_map]
    rw [List.length_drop, List.length_take] at e3
    rw [e4, List.length_take]
    have : NM.length = 4 := rfl
    omega
def pgS (b : Bool) (hs : List Hd) (fs : List Fx) (a3 a5 a6 a7 a8 a9 a10 a11 a12 a13 : Option SV) : St := [some (.v (.ref 0)), some (.v (.d (.bl b))), some (.v (.d (.lst (hs.map encH)))), a3, some (.ol (fs.map encF)), a5, a6, a7, a8, a9, a10, a11, a12, a13, none, none]
def pgI2 (b : Bool) (hs : List Hd) (h : Hp) (j : Nat) (σ : St) (h' : Hp) : Prop := ∃ (fs : List Fx) (s c : Int) (r : List Int) (a3 a5 a6 a7 a8 a9 a10 a11 a12 a13 : Option SV), fs.length = j ∧ fs.map (fun f => (f.name, f.ps)) = hs.take j ∧ (∀ k f, fs[k]? = some f → FxOk (hs.map hdN) b k f) ∧ h' = rnd s c r :: h ∧ RndOk s c r ∧ σ = pgS b hs fs a3 a5 a6 a7 a8 a9 a10 a11 a12 a13
theorem lst_eq {xs ys : List D} (e : xs = ys) : (some (SV.v (V.d (D.lst xs)))) = some (.v (.d (.lst ys))) := by rw [e]
theorem callees_ok {T : Tab} {cf : Nat → List V → Hp → R X} {σ : St} {h : Hp} {Q : List D → Hp → Prop} (hl : σ.length = 16) : ∀ (hs : List Hd) (acc : List D), acc.length + hs.length ≤ 100 → Q (acc ++ hs.map fun p => .tup [.str p.1, .int p.2.length]) h → LLc (fun σ h => evAn T cf .nil σ h) (fun σ h => (ev T cf (.tup (.cons (.ix (.v 12) (.k (.int 0))) (.cons (.bi .len (.cons (.ix (.v 12) (.k (.int 1))) .nil)) .nil))) σ h).bind xD) (.n 12) σ ((hs.map encH).map .d) acc h Q := by
  intro hs
  induction hs with
  | nil => intro acc _ q; rw [List.map_nil, List.append_nil] at q; exact ⟨q⟩
  | cons p hs ih =>
    intro acc ha q
    constructor
    rw [List.map_cons, List.map_cons]
    unfold lcGo
    show Sat (R.bind (.ok true h) _) Q
    have hg : getV (setN σ 12 (.v (.d (encH p)))) 12 = some (.d (encH p)) := by
      unfold getV setN
      rw [List.getElem?_set_self (by omega)]
    have w : wE T cf (.tup (.cons (.ix (.v 12) (.k (.int 0))) (.cons (.bi .len (.cons (.ix (.v 12) (.k (.int 1))) .nil)) .nil))) (setN σ 12 (.v (.d (encH p)))) h fun y h2 => wL y.toV.toD fun y => y = .tup [.str p.1, .int p.2.length] ∧ h2 = h := by
      unfold wE wEs wE wE
      refine wL_of hg ?_
      conv => whnf
      refine wL_of hg ?_
      exact ⟨by rw [List.length_map], rfl⟩
    refine sat_bind (sat_bind (sat_bind ((sE _ w).mono fun y h2 s => wL_sat ?_)))
    obtain ⟨z, e, rfl, rfl⟩ := wL_ex s
    refine wL_of e ?_
    rw [if_pos (decide_eq_true (by unfold LIM; simp at ha; omega))]
    refine (ih (acc ++ [.tup [.str p.1, .int p.2.length]]) (by simp at ha ⊢; omega) ?_).s
    simpa using q
theorem set_own {T : Tab} {cf : Nat → List V → Hp → R X} {e : E} {i : Nat} {σ : St} {h : Hp} {Q : QS} (k : wE T cf e σ h fun x h1 => wNF x fun x => Q (setN σ i x.sv) .nx h1) : wS T cf (.own i e) σ h Q := by unfold wS; exact k
theorem pg_step {d : Nat} {b : Bool} {hs : List Hd} {h : Hp} {j : Nat} {ji : Int} {σ : St} {h' : Hp} {Q : QS} (hh : HdOk hs) (hji : ji = j) (hj : j < hs.length) (I : pgI2 b hs h j σ h') : wSs T (callF T (d + 8)) (f_law_program.body.at' 4).bd (setN σ 5 (.v (.d (.int ji)))) h' (QT (pgI2 b hs h (j + 1)) Q) := by
  obtain ⟨fs, s, c, r, a3, a5, a6, a7, a8, a9, a10, a11, a12, a13, hfl, hfm, hfx, rfl, hr, rfl⟩ := I
  obtain ⟨⟨nn, hnn⟩, hpa⟩ := hh
  have hl4 := hs_len hnn
  obtain ⟨nm, ps, hp⟩ : ∃ nm ps, hs[j] = (nm, ps) := ⟨_, _, rfl⟩
  have hx : hs[j]? = some (nm, ps) := by rw [List.getElem?_eq_getElem hj, hp]
  obtain ⟨ip, hip⟩ := hpa (nm, ps) (by rw [← hp]; exact List.getElem_mem hj)
  dsimp only at hip
  have hps : ps.length ≤ 2 := by rw [hip]; simp [PA]; omega
  -- name, parameters; targets
  refine seq_cut (fun σ h' => σ = pgS b hs fs (some (.v (.d (.str nm)))) (some (.v (.d (.int ji)))) a6 a7 a8 a9 a10 (some (.v (.d (.lst (ps.map .str))))) a12 a13 ∧ h' = rnd s c r :: h) ?_ ?_
  · conv => whnf
    refine ixL hji hx ?_
    exact ⟨rfl, rfl⟩
  rintro _ _ ⟨rfl, rfl⟩
  refine seq_cut (fun σ h' => ∃ s c r jt, RndOk s c r ∧ σ = pgS b hs fs (some (.v (.d (.str nm)))) (some (.v (.d (.int ji)))) (some (.v (.d (.lst ((XY.take jt).map .str))))) a7 a8 a9 a10 (some (.v (.d (.lst (ps.map .str))))) a12 a13 ∧ h' = rnd s c r :: h) ?_ ?_
  · conv => whnf
    refine below_ok hr (by omega) (by omega) fun i s c r h0 h1 hr => ?_
    have e3 : cut [D.str [120], .str [121]] none (some i) = (XY.take i.toNat).map .str := by rw [cut_take h0, List.map_take]; rfl
    refine ⟨s, c, r, i.toNat, hr, ?_, rfl⟩
    rw [← e3]
    rfl
  rintro _ _ ⟨s, c, r, jt, hr, rfl, rfl⟩
  have hjt : (XY.take jt).length ≤ 2 := by simp [XY]; omega
  -- names
  refine seq_cut (fun σ h' => σ = pgS b hs fs (some (.v (.d (.str nm)))) (some (.v (.d (.int ji)))) (some (.v (.d (.lst ((XY.take jt).map .str))))) (some (.v (.d (.lst ((ps ++ XY.take jt).map .str))))) a8 a9 a10 (some (.v (.d (.lst (ps.map .str))))) a12 a13 ∧ h' = rnd s c r :: h) ?_ ?_
  · conv => whnf
    refine wL_addL (xs := ps.map .str) (ys := (XY.take jt).map .str) rfl rfl (by simp only [List.length_map]; unfold LIM; omega) ?_
    refine ⟨?_, rfl⟩
    rw [List.map_append]
    rfl
  rintro _ _ ⟨rfl, rfl⟩
  -- callees
  have hdr : ∀ v : Int, 0 ≤ v → v.toNat = (if b then j + 1 else 0) → LLc (fun σ h => evAn T (callF T (d + 8)) .nil σ h) (fun σ h => (ev T (callF T (d + 8)) (.tup (.cons (.ix (.v 12) (.k (.int 0))) (.cons (.bi .len (.cons (.ix (.v 12) (.k (.int 1))) .nil)) .nil))) σ h).bind xD) (.n 12) (wipe (pgS b hs fs (some (.v (.d (.str nm)))) (some (.v (.d (.int ji)))) (some (.v (.d (.lst ((XY.take jt).map .str))))) (some (.v (.d (.lst ((ps ++ XY.take jt).map .str))))) a8 a9 a10 (some (.v (.d (.lst (ps.map .str))))) a12 a13) [12]) ((cut (hs.map encH) (some v) none).map .d) [] (rnd s c r :: h) fun ys h2 => ys = ((hs.map hdN).drop (if b then j + 1 else 0)).map (fun c => .tup [.str c.1, .int c.2]) ∧ h2 = rnd s c r :: h := by
    intro v hv hv2
    rw [cut_drop hv, hv2, ← List.map_drop]
    refine callees_ok rfl _ [] (by simp; omega) ⟨?_, rfl⟩
    rw [List.nil_append, ← List.map_drop, List.map_map]
    rfl
  refine seq_cut (fun σ h' => σ = pgS b hs fs (some (.v (.d (.str nm)))) (some (.v (.d (.int ji)))) (some (.v (.d (.lst ((XY.take jt).map .str))))) (some (.v (.d (.lst ((ps ++ XY.take jt).map .str))))) (some (.v (.d (.lst (((hs.map hdN).drop (if b then j + 1 else 0)).map (fun c => .tup [.str c.1, .int c.2])))))) a9 a10 (some (.v (.d (.lst (ps.map .str))))) a12 a13 ∧ h' = rnd s c r :: h) ?_ ?_
  · cases b
    · conv => whnf
      refine wL_mul rfl ?_
      refine (hdr ((ji + 1) * 0) (by omega) (by simp)).mono ?_
      rintro ys h2 ⟨rfl, rfl⟩
      exact ⟨rfl, rfl⟩
    · conv => whnf
      refine wL_mul rfl ?_
      refine (hdr ((ji + 1) * 1) (by omega) (by simp; omega)).mono ?_
      rintro ys h2 ⟨rfl, rfl⟩
      exact ⟨rfl, rfl⟩
  rintro _ _ ⟨rfl, rfl⟩
  have hz : SpcOk ⟨ps ++ XY.take jt, ps ++ XY.take jt, (hs.map hdN).drop (if b then j + 1 else 0)⟩ := by
    refine ⟨by simp only [List.length_append]; omega, by simp only [List.length_append]; omega, by simp only [List.length_drop, List.length_map]; omega, fun c hc => ?_⟩
    obtain ⟨p, hp, rfl⟩ := List.mem_map.mp (List.mem_of_mem_drop hc)
    obtain ⟨i, hi⟩ := hpa p hp
    show p.2.length ≤ 4
    rw [hi]; simp [PA]; omega
  generalize hze : (⟨ps ++ XY.take jt, ps ++ XY.take jt, (hs.map hdN).drop (if b then j + 1 else 0)⟩ : Spc) = z at hz
  have hzn : z.names = ps ++ XY.take jt := by rw [← hze]
  have hzt : z.targets = ps ++ XY.take jt := by rw [← hze]
  have hex : ∀ {e : Ex}, ExOk ps e → ExOk z.names e := fun {e} q => ⟨q.ne, q.few, q.fst, q.ops, fun p hp => by
    have := q.tms p hp
    revert this
    cases p.2 with
    | n k => exact fun q => q
    | l x => exact fun q => by rw [hzn]; exact List.mem_append_left _ q
    | c i => exact fun q => q⟩
  -- spec
  refine seq_cut (fun σ h' => σ = pgS b hs fs (some (.v (.d (.str nm)))) (some (.v (.d (.int ji)))) (some (.v (.d (.lst ((XY.take jt).map .str))))) (some (.v (.d (.lst (z.names.map .str))))) (some (.v (.d (.lst (((hs.map hdN).drop (if b then j + 1 else 0)).map (fun c => .tup [.str c.1, .int c.2])))))) (some (.v (.d (encZ z b)))) a10 (some (.v (.d (.lst (ps.map .str))))) a12 a13 ∧ h' = rnd s c r :: h) ?_ ?_
  · conv => whnf
    refine ⟨?_, rfl⟩
    subst hze
    have e := cut_all (xs := (ps ++ XY.take jt).map D.str)
    unfold encZ
    dsimp only
    conv => rhs; rw [show (D.lst ((ps ++ XY.take jt).map D.str) :: [D.lst ((ps ++ XY.take jt).map D.str), D.lst (((hs.map hdN).drop (if b then j + 1 else 0)).map (fun c => .tup [.str c.1, .int c.2])), D.bl b]) = (D.lst ((ps ++ XY.take jt).map D.str) :: [D.lst (cut ((ps ++ XY.take jt).map D.str) none none), D.lst (((hs.map hdN).drop (if b then j + 1 else 0)).map (fun c => .tup [.str c.1, .int c.2])), D.bl b]) by rw [e]]
    rfl
  rintro _ _ ⟨rfl, rfl⟩
  generalize (some (SV.v (V.d (.lst (((hs.map hdN).drop (if b then j + 1 else 0)).map (fun c => .tup [.str c.1, .int c.2])))))) = a8'
  -- the first statements
  refine seq_cut (fun σ h' => ∃ s c r sa, RndOk s c r ∧ SmsOk z 2 sa ∧ sa.length ≤ 2 ∧ (∀ x ∈ XY.take jt, ∃ e, Sm.set x e ∈ sa) ∧ σ = pgS b hs fs (some (.v (.d (.str nm)))) (some (.v (.d (.int ji)))) (some (.v (.d (.lst ((XY.take jt).map .str))))) (some (.v (.d (.lst (z.names.map .str))))) a8' (some (.v (.d (encZ z b)))) (some (.ol (encSs sa))) (some (.v (.d (.lst (ps.map .str))))) a12 a13 ∧ h' = rnd s c r :: h) ?_ ?_
  · conv => whnf
    refine lc_data (fun rest acc h' => ∃ (dn tl : List Nm) (sa : List Sm) (s c : Int) (r : List Int), XY.take jt = dn ++ tl ∧ rest = tl.map .str ∧ acc = encSs sa ∧ sa.length = dn.length ∧ SmsOk z 2 sa ∧ (∀ x ∈ dn, ∃ e, Sm.set x e ∈ sa) ∧ h' = rnd s c r :: h ∧ RndOk s c r) (fun x rest acc h' I => ?_) (fun acc h' I => ?_) _ ⟨[], XY.take jt, [], s, c, r, rfl, rfl, by unfold encSs; rfl, rfl, by unfold SmsOk; trivial, by simp, rfl, hr⟩
    · obtain ⟨dn, tl, sa, s, c, r, e1, e2, rfl, e3, ok, hin, rfl, hr⟩ := I
      cases tl with
      | nil => cases e2
      | cons y tl =>
        cases e2
        conv => whnf
        refine expr_ok hr (by omega) fun e s c r he hr => ?_
        have hdn : dn.length ≤ 2 := by have := congrArg List.length e1; rw [List.length_append] at this; omega
        refine ⟨by rw [encSs_map, List.length_map]; unfold LIM; omega, dn ++ [y], tl, sa ++ [.set y e], s, c, r, by rw [e1]; simp, rfl, by rw [encSs_append]; simp only [encSs, encS], by simp [e3], SmsOk_iff.mpr fun t ht => ?_, fun x hx => ?_, rfl, hr⟩
        · rcases List.mem_append.mp ht with ht | ht
          · exact SmsOk_iff.mp ok t ht
          · simp at ht; subst ht
            unfold SmOk
            refine ⟨?_, hex he⟩
            rw [hzt, e1]
            simp
        · rcases List.mem_append.mp hx with hx | hx
          · obtain ⟨e', q⟩ := hin x hx; exact ⟨e', List.mem_append_left _ q⟩
          · simp at hx; subst hx; exact ⟨e, by simp⟩
    · obtain ⟨dn, tl, sa, s, c, r, e1, e2, rfl, e3, ok, hin, rfl, hr⟩ := I
      cases tl with
      | cons y tl => cases e2
      | nil =>
        rw [List.append_nil] at e1
        exact ⟨s, c, r, sa, hr, ok, by rw [e3, ← e1]; exact hjt, by rw [e1]; exact hin, rfl, rfl⟩
  rintro _ _ ⟨s, c, r, sa, hr, oka, hla, hin, rfl, rfl⟩
  -- the block
  refine seq_cut (fun σ h' => σ = pgS b hs fs (some (.v (.d (.str nm)))) (some (.v (.d (.int ji)))) (some (.v (.d (.lst ((XY.take jt).map .str))))) (some (.v (.d (.lst (z.names.map .str))))) a8' (some (.v (.d (encZ z b)))) (some (.v (.d (.lst (encSs sa))))) (some (.v (.d (.lst (ps.map .str))))) a12 a13 ∧ h' = rnd s c r :: h) ⟨rfl, rfl⟩ ?_
  rintro _ _ ⟨rfl, rfl⟩
  refine seq_cut (fun σ h' => ∃ s c r sb, RndOk s c r ∧ SmsOk z 2 sb ∧ sb.length ≤ 3 ∧ σ = pgS b hs fs (some (.v (.d (.str nm)))) (some (.v (.d (.int ji)))) (some (.v (.d (.lst ((XY.take jt).map .str))))) (some (.v (.d (.lst (z.names.map .str))))) a8' (some (.v (.d (encZ z b)))) (some (.ol (encSs (sa ++ sb)))) (some (.v (.d (.lst (ps.map .str))))) a12 a13 ∧ h' = rnd s c r :: h) ?_ ?_
  · conv => whnf
    refine (blk_ok (b := b) hz 2 d).p rfl hr fun sb s c r ok hl hr => ?_
    refine wL_addL (xs := encSs sa) (ys := encSs sb) rfl rfl (by rw [encSs_map, encSs_map, List.length_map, List.length_map]; unfold LIM; omega) ?_
    refine ⟨s, c, r, sb, hr, ok, hl, ?_, rfl⟩
    rw [encSs_append]
    rfl
  rintro _ _ ⟨s, c, r, sb, hr, okb, hlb, rfl, rfl⟩
  -- the last return
  refine if_join (fun b h' => ∃ s c r, h' = rnd s c r :: h ∧ RndOk s c r) (fun σ h' => ∃ s c r sc, RndOk s c r ∧ SmsOk z 2 sc ∧ sc.length ≤ 6 ∧ (∀ t ∈ sa, t ∈ sc) ∧ σ = pgS b hs fs (some (.v (.d (.str nm)))) (some (.v (.d (.int ji)))) (some (.v (.d (.lst ((XY.take jt).map .str))))) (some (.v (.d (.lst (z.names.map .str))))) a8' (some (.v (.d (encZ z b)))) (some (.ol (encSs sc))) (some (.v (.d (.lst (ps.map .str))))) a12 a13 ∧ h' = rnd s c r :: h) ?_ (fun h' e => ?_) (fun h' e => ?_) ?_
  · conv => whnf
    refine wI_not (wI_in (fun e => ?_) (fun e => ?_))
    · exact ⟨s, c, r, rfl, hr⟩
    · conv => whnf
      refine below_ok hr (by omega) (by omega) fun m s c r h0 h1 hr => ?_
      refine wI_eq (fun _ => ⟨s, c, r, rfl, hr⟩) (fun _ => ⟨s, c, r, rfl, hr⟩)
  · obtain ⟨s, c, r, rfl, hr⟩ := e
    conv => whnf
    refine expr_ok hr hz.n fun e s c r he hr => ?_
    refine wL_app (xs := encSs (sa ++ sb)) (by rw [encSs_map, List.length_map, List.length_append]; unfold LIM; omega) ?_
    refine ⟨s, c, r, sa ++ sb ++ [.ret e], hr, SmsOk_iff.mpr fun t ht => ?_, by simp; omega, fun t ht => by simp [ht], ?_, rfl⟩
    · rcases List.mem_append.mp ht with ht | ht
      · rcases List.mem_append.mp ht with ht | ht
        · exact SmsOk_iff.mp oka t ht
        · exact SmsOk_iff.mp okb t ht
      · simp at ht; subst ht; unfold SmOk; exact he
    · rw [encSs_append (sa ++ sb)]
      simp only [encSs, encS]
      rfl
  · obtain ⟨s, c, r, rfl, hr⟩ := e
    refine ⟨s, c, r, sa ++ sb, hr, SmsOk_iff.mpr fun t ht => ?_, by simp; omega, fun t ht => by simp [ht], rfl, rfl⟩
    rcases List.mem_append.mp ht with ht | ht
    · exact SmsOk_iff.mp oka t ht
    · exact SmsOk_iff.mp okb t ht
  rintro _ _ ⟨s, c, r, sc, hr, okc, hlc, hac, rfl, rfl⟩
  conv => whnf
  refine wL_app (xs := fs.map encF) (by rw [List.length_map]; unfold LIM; omega) ?_
  have hff : FxOk (hs.map hdN) b j ⟨nm, ps, sc⟩ := by
    refine ⟨by rw [List.getElem?_map, hx]; rfl, ⟨ip, hip⟩, ⟨jt, by rw [hze]; exact okc, fun x hx => ?_⟩, hlc⟩
    obtain ⟨e, q⟩ := hin x hx
    exact ⟨e, hac _ q⟩
  refine ⟨fs ++ [⟨nm, ps, sc⟩], s, c, r, some (.v (.d (.str nm))), some (.v (.d (.int ji))), some (.v (.d (.lst ((XY.take jt).map .str)))), some (.v (.d (.lst (z.names.map .str)))), a8', some (.v (.d (encZ z b))), some (.v (.d (.lst (encSs sc)))), some (.v (.d (.lst (ps.map .str)))), a12, a13, by simp [hfl], ?_, fun k f hk => ?_, rfl, hr, ?_⟩
  · rw [List.map_append, hfm, List.take_succ_eq_append_getElem hj, hp]
    rfl
  · rcases Nat.lt_or_ge k fs.length with q | q
    · rw [List.getElem?_append_left q] at hk; exact hfx k f hk
    · rw [List.getElem?_append_right q] at hk
      cases q2 : k - fs.length with
      | zero =>
        rw [q2] at hk
        cases hk
        have : k = j := by omega
        rw [this]
        exact hff
      | succ n => rw [q2] at hk; cases hk
  · unfold pgS
    rw [List.map_append]
    rfl
end PF
set_option linter.all false
set_option maxRecDepth 100000
namespace PF
open K
theorem intsOf_map {α : Type} (g : α → Int) : ∀ l : List α, intsOf (l.map fun x => .int (g x)) = some (l.map g)
  | [] => rfl
  | x :: l => by rw [List.map_cons]; unfold intsOf; rw [intsOf_map g l]; rfl
theorem sum_cast {α : Type} (g : α → Nat) : ∀ l : List α, (l.map fun x => (g x : Int)).sum = ((l.map g).sum : Nat)
  | [] => rfl
  | x :: l => by rw [List.map_cons, List.map_cons, List.sum_cons, List.sum_cons, sum_cast g l]; push_cast; rfl
def few (f : Fx) : Fx := ⟨f.name, f.ps, f.body.filter flat1⟩
theorem tot_flat {s : Sm} (h : flat1 s = true) : tot s = 1 := by
  cases s <;> first | (simp only [tot]; done) | cases h
theorem tots_few (ss : List Sm) : tots (ss.filter flat1) ≤ ss.length := by
  induction ss with
  | nil => simp [tots_nil]
  | cons s ss ih =>
    cases h : flat1 s with
    | true => rw [List.filter_cons_of_pos h, tots_cons, tot_flat h, List.length_cons]; omega
    | false => rw [List.filter_cons_of_neg (by rw [h]; exact Bool.false_ne_true), List.length_cons]; omega
theorem filt_ok {d : Nat} {σ : St} {h : Hp} {Q : List D → Hp → Prop} (hl : ∃ a0 a1 a2 a3 a4 a5 a6 a7 a8 a9 a10 a11 a12 a13 a14 a15, σ = [a0, a1, a2, a3, a4, a5, a6, a7, a8, a9, a10, a11, a12, a13, a14, a15]) (ss : List Sm) (hs : ss.length ≤ 100) (q : Q (encSs (ss.filter flat1)) h) : LLc (fun σ h => evAn T (callF T d) (.cons (.inn true (.ix (.v 15) (.k (.int 0))) (.lst (.cons (.k (.str [105, 102])) (.cons (.k (.str [108, 111, 111, 112])) .nil)))) .nil) σ h) (fun σ h => (ev T (callF T d) (.v 15) σ h).bind xD) (.n 15) σ ((encSs ss).map .d) [] h Q := by
  obtain ⟨a0, a1, a2, a3, a4, a5, a6, a7, a8, a9, a10, a11, a12, a13, a14, a15, rfl⟩ := hl
  refine lc_inv (fun rest acc h' => ∃ dn tl : List Sm, ss = dn ++ tl ∧ rest = (encSs tl).map .d ∧ acc = encSs (dn.filter flat1) ∧ h' = h) (fun x rest acc h' I => ?_) (fun acc h' I => ?_) _ ⟨[], ss, rfl, rfl, by simp [encSs], rfl⟩
  · obtain ⟨dn, tl, rfl, e2, rfl, rfl⟩ := I
    cases tl with
    | nil => simp [encSs] at e2
    | cons t tl =>
      rw [encSs_map, List.map_cons, List.map_cons, ← encSs_map] at e2
      cases e2
      have hacc : (encSs (dn.filter flat1)).length < LIM := by
        have := List.length_filter_le flat1 dn
        rw [encSs_map, List.length_map]
        simp at hs
        unfold LIM; omega
      have tru : flat1 t = true → (encSs (dn.filter flat1)).length < LIM ∧ ∃ dn' tl' : List Sm, dn ++ t :: tl = dn' ++ tl' ∧ (encSs tl).map V.d = (encSs tl').map .d ∧ encSs (dn.filter flat1) ++ [encS t] = encSs (dn'.filter flat1) ∧ h' = h' := fun q =>
        ⟨hacc, dn ++ [t], tl, by simp, rfl, by rw [List.filter_append, encSs_append, List.filter_cons_of_pos q]; simp [encSs], rfl⟩
      have fls : flat1 t = false → ∃ dn' tl' : List Sm, dn ++ t :: tl = dn' ++ tl' ∧ (encSs tl).map V.d = (encSs tl').map .d ∧ encSs (dn.filter flat1) = encSs (dn'.filter flat1) ∧ h' = h' := fun q =>
        ⟨dn ++ [t], tl, by simp, rfl, by rw [List.filter_append, List.filter_cons_of_neg (by rw [q]; exact Bool.false_ne_true)]; simp, rfl⟩
      cases t with
      | set x e => exact tru rfl
      | put x e => exact tru rfl
      | emit e => exact tru rfl
      | ret e => exact tru rfl
      | call x f as p q e => exact tru rfl
      | ifs l o r a b => exact fls rfl
      | loop e b => exact fls rfl
  · obtain ⟨dn, tl, rfl, e2, rfl, rfl⟩ := I
    cases tl with
    | cons t tl => rw [encSs_map] at e2; cases e2
    | nil => rw [List.append_nil] at q; exact q
theorem prog_ok {d : Nat} {s c : Int} {r : List Int} {h : Hp} {b : Bool} (hr : RndOk s c r) {Q : X → Hp → Prop}
    (k : ∀ p x s' c' r', ProgOk b p → (x = .v (.d (.lst (p.map encF))) ∨ x = .fl (p.map encF)) → RndOk s' c' r' → Q x (rnd s' c' r' :: h)) : Call (callF T (d + 9)) 17 [.ref 0, .d (.bl b)] (rnd s c r :: h) Q := by
  refine call_in rfl rfl (norm_eq.mpr (prog_head (ss := f_law_program.body.dr 2) hr fun hs s c r a3 hok hne hr => ?_))
  have hl4 := hs_len hok.1.choose_spec
  refine seq_cut (fun σ h' => σ = [some (.v (.ref 0)), some (.v (.d (.bl b))), some (.v (.d (.lst (hs.map encH)))), a3, none, none, none, none, none, none, none, none, none, none, none, none] ∧ h' = rnd s c r :: h) ⟨rfl, rfl⟩ ?_
  rintro _ _ ⟨rfl, rfl⟩
  refine seq_cut (fun σ h' => σ = pgS b hs [] a3 none none none none none none none none none ∧ h' = rnd s c r :: h) ⟨rfl, rfl⟩ ?_
  rintro _ _ ⟨rfl, rfl⟩
  refine seq_cut (fun σ h' => pgI2 b hs h hs.length σ h') (fr_len (ds := hs.map encH) rfl (by rw [List.length_map]; omega) ?_) ?_
  · rw [List.length_map]
    exact for_range (pgI2 b hs h) (fun j ji σ h' hji hj I => pg_step hok hji hj I) (fun σ h' I => I) ⟨[], s, c, r, a3, none, none, none, none, none, none, none, none, none, rfl, rfl, fun k f q => (nomatch q), rfl, hr, rfl⟩
  rintro σ h' ⟨fs, s, c, r, b3, b5, b6, b7, b8, b9, b10, b11, b12, b13, hfl, hfm, hfx, rfl, hr, rfl⟩
  have hfm2 : fs.map hdr = hs.map hdN := by
    rw [List.take_length] at hfm
    rw [← hfm, List.map_map]; rfl
  have hnm : ∃ n, fs.map Fx.name = NM.take n := by
    obtain ⟨n, hn⟩ := hok.1
    refine ⟨n, ?_⟩
    rw [List.take_length] at hfm
    rw [← hn, ← hfm, List.map_map]; rfl
  have hdp : ∀ f ∈ fs, dpts f.body ≤ 2 ∧ f.body.length ≤ 6 := fun f hf => by
    obtain ⟨i, hi, rfl⟩ := List.getElem_of_mem hf
    have q := hfx i _ (List.getElem?_eq_getElem hi)
    obtain ⟨j, q1, _⟩ := q.body
    exact ⟨q1.dpts, q.few⟩
  refine seq_cut (fun σ h' => σ = [some (.v (.ref 0)), some (.v (.d (.bl b))), some (.v (.d (.lst (hs.map encH)))), b3, some (.v (.d (.lst (fs.map encF)))), b5, b6, b7, b8, b9, b10, b11, b12, b13, none, none] ∧ h' = rnd s c r :: h) ⟨rfl, rfl⟩ ?_
  rintro _ _ ⟨rfl, rfl⟩
  refine if_ret (fun t h' => h' = rnd s c r :: h ∧ (t = true → tsum fs ≤ 25)) ?_ (fun h' e => ?_) (fun h' e => ?_)
  · conv => whnf
    refine lc_data (fun rest acc h' => ∃ dn tl : List Fx, fs = dn ++ tl ∧ rest = tl.map encF ∧ acc = dn.map (fun f => .int (tots f.body)) ∧ h' = rnd s c r :: h) (fun x rest acc h' I => ?_) (fun acc h' I => ?_) _ ⟨[], fs, rfl, rfl, rfl, rfl⟩
    · obtain ⟨dn, tl, e1, e2, rfl, rfl⟩ := I
      cases tl with
      | nil => cases e2
      | cons f tl =>
        cases e2
        conv => whnf
        refine total_ok 2 f.body (d := d + 5) (hdp f (by rw [e1]; simp)).1 fun t ht => ?_
        subst ht
        have : dn.length ≤ 4 := by have := congrArg List.length e1; rw [List.length_append] at this; omega
        exact ⟨by rw [List.length_map]; unfold LIM; omega, dn ++ [f], tl, by rw [e1]; simp, rfl, by simp, rfl⟩
    · obtain ⟨dn, tl, e1, e2, rfl, rfl⟩ := I
      cases tl with
      | cons f tl => cases e2
      | nil =>
        rw [List.append_nil] at e1
        subst e1
        obtain ⟨S, hS⟩ : ∃ S : Int, S = tsum fs := ⟨_, rfl⟩
        refine wL_of (a := dat (.int S)) ?_ ?_
        · show (intsOf _).map _ = _
          rw [intsOf_map, Option.map_some, hS]
          unfold tsum
          rw [← sum_cast]
        · conv => whnf
          exact ⟨rfl, fun q => by have := of_decide_eq_true q; omega⟩
  · obtain ⟨rfl, hb⟩ := e
    refine k fs _ s c r ⟨by omega, hnm, fun k f q => by rw [hfm2]; exact hfx k f q, hb rfl⟩ (.inl rfl) hr
  obtain ⟨rfl, -⟩ := e
  refine seq_cut (fun σ h' => σ = [some (.v (.ref 0)), some (.v (.d (.bl b))), some (.v (.d (.lst (hs.map encH)))), b3, some (.v (.d (.lst (fs.map encF)))), b5, b6, b7, b8, b9, b10, b11, b12, b13, some (.ol []), none] ∧ h' = rnd s c r :: h) ⟨rfl, rfl⟩ ?_
  rintro _ _ ⟨rfl, rfl⟩
  conv => whnf
  refine for_data (fun rest σ h' => ∃ (dn tl : List Fx) (b3 b10 b11 : Option SV), fs = dn ++ tl ∧ rest = tl.map encF ∧ σ = [some (.v (.ref 0)), some (.v (.d (.bl b))), some (.v (.d (.lst (hs.map encH)))), b3, some (.v (.d (.lst (fs.map encF)))), b5, b6, b7, b8, b9, b10, b11, b12, b13, some (.ol ((dn.map few).map encF)), none] ∧ h' = rnd s c r :: h) (fun x rest σ h' I => ?_) (fun σ h' I => ?_) _ ⟨[], fs, b3, b10, b11, rfl, rfl, rfl, rfl⟩
  · obtain ⟨dn, tl, b3, b10, b11, e1, e2, rfl, rfl⟩ := I
    cases tl with
    | nil => cases e2
    | cons f tl =>
      cases e2
      refine ⟨[some (.v (.ref 0)), some (.v (.d (.bl b))), some (.v (.d (.lst (hs.map encH)))), some (.v (.d (.str f.name))), some (.v (.d (.lst (fs.map encF)))), b5, b6, b7, b8, b9, some (.v (.d (.lst (encSs f.body)))), some (.v (.d (.lst (f.ps.map .str)))), b12, b13, some (.ol ((dn.map few).map encF)), none], rfl, ?_⟩
      conv => whnf
      refine filt_ok ⟨_, _, _, _, _, _, _, _, _, _, _, _, _, _, _, _, rfl⟩ f.body (by have := (hdp f (by rw [e1]; simp)).2; omega) ?_
      have : dn.length ≤ 4 := by have := congrArg List.length e1; rw [List.length_append] at this; omega
      refine wL_app (xs := (dn.map few).map encF) (by rw [List.length_map, List.length_map]; unfold LIM; omega) ?_
      refine ⟨dn ++ [f], tl, some (.v (.d (.str f.name))), some (.v (.d (.lst (encSs f.body)))), some (.v (.d (.lst (f.ps.map .str)))), by rw [e1]; simp, rfl, ?_, rfl⟩
      rw [List.map_append, List.map_append]
      rfl
  · obtain ⟨dn, tl, b3, b10, b11, e1, e2, rfl, rfl⟩ := I
    cases tl with
    | cons f tl => cases e2
    | nil =>
      rw [List.append_nil] at e1
      subst e1
      refine k (fs.map few) _ s c r ⟨by rw [List.length_map]; omega, by rw [List.map_map]; exact hnm, fun k f q => ?_, ?_⟩ (.inr rfl) hr
      · rw [List.getElem?_map, Option.map_eq_some_iff] at q
        obtain ⟨g, q, rfl⟩ := q
        have o := hfx k g q
        have e : (fs.map few).map hdr = hs.map hdN := by rw [List.map_map, ← hfm2]; rfl
        rw [e]
        obtain ⟨j, ok, hin⟩ := o.body
        refine ⟨o.hd, o.ps, ⟨j, SmsOk_iff.mpr fun t ht => SmsOk_iff.mp ok t ((List.mem_filter.mp ht).1), fun x hx => ?_⟩, Nat.le_trans (List.length_filter_le ..) o.few⟩
        obtain ⟨e, q⟩ := hin x hx
        exact ⟨e, List.mem_filter.mpr ⟨q, rfl⟩⟩
      · unfold tsum
        rw [List.map_map]
        have : ∀ l : List Fx, (∀ f ∈ l, f.body.length ≤ 6) → (l.map ((fun f => tots f.body) ∘ few)).sum ≤ 6 * l.length := by
          intro l
          induction l with
          | nil => simp
          | cons f l ih =>
            intro hl
            rw [List.map_cons, List.sum_cons, List.length_cons]
            have h1 := tots_few f.body
            have h2 := hl f List.mem_cons_self
            have h3 := ih fun g hg => hl g (List.mem_cons_of_mem _ hg)
            show tots (f.body.filter flat1) + _ ≤ _
            omega
        have q := this fs fun f hf => (hdp f hf).2
        omega
end PF
set_option linter.all false
set_option maxRecDepth 100000
namespace PF
open K
theorem str_int {i : Int} {n : Nat} {h : Hp} {K : X → Prop} (hi : i = n) (hn : n < 1000000) (k : K (dat (.str (natDigs n)))) : wL (biV .str [.d (.int i)] h) K := by
  refine wL_of (a := dat (.str (natDigs n))) ?_ k
  show (if _ then _ else _) = _
  rw [if_pos (by rw [decide_eq_true (by omega), decide_eq_true (by omega)]; rfl), hi]
  rfl
theorem strsOf_map : ∀ ws : List (List Nat), strsOf (ws.map .str) = some ws
  | [] => rfl
  | w :: ws => by rw [List.map_cons]; unfold strsOf; rw [strsOf_map ws]; rfl
theorem join_ok {sep : List Nat} {ws : List (List Nat)} {ds : List D} {K : X → Prop} (e : ds = ws.map .str) (hl : (ws.map List.length).sum + ws.length * sep.length ≤ LIM) (k : K (dat (.str (joinS sep ws)))) : wL (bmD .join (.str sep) (.lst ds)) K := by
  refine wL_of (a := dat (.str (joinS sep ws))) ?_ k
  subst e
  show (strsOf _).bind _ = _
  rw [strsOf_map, Option.bind_some, if_pos (decide_eq_true hl)]
theorem cell_ix {i : Nat} {j : Int} {h : Hp} {K : V → Prop} (hj : j = i) (hi : i < 8) (k : K (.d (.str [65 + i]))) : wL (ixV (.d (.str [65, 66, 67, 68, 69, 70, 71, 72])) (.d (.int j)) h) K := by
  subst hj
  have : i = 0 ∨ i = 1 ∨ i = 2 ∨ i = 3 ∨ i = 4 ∨ i = 5 ∨ i = 6 ∨ i = 7 := by omega
  rcases this with rfl | rfl | rfl | rfl | rfl | rfl | rfl | rfl <;> exact k
theorem text_ok {d : Nat} {h : Hp} {ns : List Nm} (hn : NsOk ns) {e : Ex} (he : ExOk ns e) {Q : X → Hp → Prop} (k : Q (dat (.str (exS e))) h) : Call (callF T (d + 1)) 18 [.d (.lst (encE e))] h Q := by
  refine call_in rfl rfl ?_
  conv => whnf
  refine for_data (fun rest σ h' => ∃ (dn tl : Ex) (a2 a3 a4 : Option SV), e = dn ++ tl ∧ rest = encE tl ∧ σ = [some (.v (.d (.lst (encE e)))), some (.v (.d (.lst ((exW dn).map .str)))), a2, a3, a4] ∧ h' = h) (fun x rest σ h' I => ?_) (fun σ h' I => ?_) _ ⟨[], e, none, none, none, rfl, rfl, rfl, rfl⟩
  · obtain ⟨dn, tl, a2, a3, a4, e1, e2, rfl, rfl⟩ := I
    cases tl with
    | nil => cases e2
    | cons p tl =>
      obtain ⟨o, t⟩ := p
      cases e2
      have hlen : dn.length ≤ 5 := by have := congrArg List.length e1; rw [List.length_append] at this; have := he.few; omega
      have hw : (exW dn).length = 2 * dn.length := (exW_sum dn fun p hp => tmS_len hn (he.tms p (by rw [e1]; simp [hp]))).2
      have ht : TmOk ns t := he.tms (o, t) (by rw [e1]; simp)
      have fin : ∀ {a2 a3 a4 : Option SV}, ∃ (dn' tl' : Ex) (b2 b3 b4 : Option SV), e = dn' ++ tl' ∧ encE tl = encE tl' ∧ [some (SV.v (V.d (.lst (encE e)))), some (.v (.d (.lst ((exW dn).map .str ++ [.str [o], .str (tmS t)])))), a2, a3, a4] = [some (.v (.d (.lst (encE e)))), some (.v (.d (.lst ((exW dn').map .str)))), b2, b3, b4] ∧ h' = h' := fun {a2 a3 a4} =>
        ⟨dn ++ [(o, t)], tl, a2, a3, a4, by rw [e1]; simp, rfl, by unfold exW; simp, rfl⟩
      cases t with
      | n kk =>
        obtain ⟨ki, hki⟩ : ∃ ki : Int, ki = kk := ⟨_, rfl⟩
        refine ⟨[some (.v (.d (.lst (encE e)))), some (.v (.d (.lst ((exW dn).map .str)))), some (.v (.d (.str [o]))), some (.v (.d (.str [110]))), some (.v (.d (.int ki)))], by rw [hki]; rfl, ?_⟩
        conv => whnf
        refine str_int hki ht ?_
        refine wL_addL (xs := (exW dn).map .str) (ys := [.str [o], .str (natDigs kk)]) rfl rfl (by rw [List.length_map]; simp; unfold LIM; omega) ?_
        exact fin
      | l x =>
        refine ⟨[some (.v (.d (.lst (encE e)))), some (.v (.d (.lst ((exW dn).map .str)))), some (.v (.d (.str [o]))), some (.v (.d (.str [108]))), some (.v (.d (.str x)))], rfl, ?_⟩
        conv => whnf
        refine wL_addL (xs := (exW dn).map .str) (ys := [.str [o], .str x]) rfl rfl (by rw [List.length_map]; simp; unfold LIM; omega) ?_
        exact fin
      | c i =>
        obtain ⟨ki, hki⟩ : ∃ ki : Int, ki = i := ⟨_, rfl⟩
        refine ⟨[some (.v (.d (.lst (encE e)))), some (.v (.d (.lst ((exW dn).map .str)))), some (.v (.d (.str [o]))), some (.v (.d (.str [99]))), some (.v (.d (.int ki)))], by rw [hki]; rfl, ?_⟩
        conv => whnf
        refine cell_ix hki ht ?_
        refine wL_addL (xs := (exW dn).map .str) (ys := [.str [o], .str [65 + i]]) rfl rfl (by rw [List.length_map]; simp; unfold LIM; omega) ?_
        exact fin
  · obtain ⟨dn, tl, a2, a3, a4, e1, e2, rfl, rfl⟩ := I
    cases tl with
    | cons p tl => cases e2
    | nil =>
      rw [List.append_nil] at e1
      subst e1
      conv => whnf
      have h2 := exW_drop hn he
      refine join_ok (ws := (exW e).drop 1) (by rw [cut_drop (by omega), List.map_drop]; rfl) (by simp only [List.length_cons, List.length_nil]; unfold LIM; omega) ?_
      exact k
theorem stm_text {d : Nat} {h : Hp} {z : Spc} {n : Nat} (hn : NsOk z.names) (ht : NsOk z.targets) (hc : ∀ c ∈ z.callees, c.1.length ≤ 8 ∧ c.2 ≤ 4) {s : Sm} (hs : SmOk z n s) (hf : flat1 s = true) {Q : X → Hp → Prop} (k : (lnS s).length ≤ 600 → Q (dat (.str (lnS s))) h) : Call (callF T (d + 2)) 19 [.d (encS s)] h Q := by
  cases s with
  | ifs l o r a b => cases hf
  | loop e b => cases hf
  | set x e =>
    unfold SmOk at hs
    have l1 := ht x hs.1
    have l2 := exS_len hn hs.2
    refine call_in rfl rfl ?_
    conv => whnf
    refine wL_addS (by simp; unfold LIM; omega) ?_
    conv => whnf
    refine wL_addS (by simp; unfold LIM; omega) ?_
    conv => whnf
    refine text_ok hn hs.2 ?_
    refine wL_addS (by simp; unfold LIM; omega) ?_
    conv => whnf
    refine wL_addS (by simp; unfold LIM; omega) ?_
    exact k (by unfold lnS; simp; omega)
  | put i e =>
    unfold SmOk at hs
    have l2 := exS_len hn hs.2
    obtain ⟨ki, hki⟩ : ∃ ki : Int, ki = i := ⟨_, rfl⟩
    have ee : encS (.put i e) = .tup [.str [112, 117, 116], .int ki, .lst (encE e)] := by rw [hki]; simp only [encS]
    rw [ee]
    refine call_in rfl rfl ?_
    conv => whnf
    refine cell_ix hki hs.1 ?_
    conv => whnf
    refine text_ok hn hs.2 ?_
    refine wL_addS (by simp; unfold LIM; omega) ?_
    conv => whnf
    refine wL_addS (by simp; unfold LIM; omega) ?_
    exact k (by unfold lnS; simp; omega)
  | emit e =>
    unfold SmOk at hs
    have l2 := exS_len hn hs
    refine call_in rfl rfl ?_
    conv => whnf
    refine text_ok hn hs ?_
    refine wL_addS (by simp; unfold LIM; omega) ?_
    conv => whnf
    refine wL_addS (by simp; unfold LIM; omega) ?_
    exact k (by unfold lnS; simp; omega)
  | ret e =>
    unfold SmOk at hs
    have l2 := exS_len hn hs
    refine call_in rfl rfl ?_
    conv => whnf
    refine text_ok hn hs ?_
    refine wL_addS (by simp; unfold LIM; omega) ?_
    conv => whnf
    refine wL_addS (by simp; unfold LIM; omega) ?_
    exact k (by unfold lnS; simp; omega)
  | call x f as p q e =>
    unfold SmOk at hs
    obtain ⟨hx, hf, has, hpq, he⟩ := hs
    have l1 := ht x hx
    have l2 := exS_len hn he
    obtain ⟨l3, l4⟩ := hc _ hf
    dsimp only at l3 l4
    have hp : p < 10 ∧ q < 10 := by
      unfold ShOk at hpq
      simp at hpq
      omega
    have lp : (natDigs p).length = 1 := by rw [digs_lt hp.1]; rfl
    have lq : (natDigs q).length = 1 := by rw [digs_lt hp.2]; rfl
    have lin : ∀ as : List Ex, (∀ a ∈ as, ExOk z.names a) → ((as.map exS).map List.length).sum ≤ 60 * as.length := by
      intro as
      induction as with
      | nil => simp
      | cons a as ih =>
        intro h
        have h1 := exS_len hn (h a List.mem_cons_self)
        have h2 := ih fun b hb => h b (List.mem_cons_of_mem _ hb)
        simp only [List.map_cons, List.sum_cons, List.length_cons]
        omega
    have l5 := lin as has
    have l6 := joinS_len [44, 32] (as.map exS)
    simp only [List.length_cons, List.length_nil, List.length_map] at l6
    obtain ⟨pi, hpi⟩ : ∃ ki : Int, ki = p := ⟨_, rfl⟩
    obtain ⟨qi, hqi⟩ : ∃ ki : Int, ki = q := ⟨_, rfl⟩
    have ee : encS (.call x f as p q e) = .tup [.str [99, 97, 108, 108], .str x, .str f, .lst (as.map fun e => .lst (encE e)), .tup [.int pi, .int qi], .lst (encE e)] := by rw [hpi, hqi]; simp only [encS]
    rw [ee]
    refine call_in rfl rfl ?_
    conv => whnf
    refine lc_data (fun rest acc h' => ∃ dn tl : List Ex, as = dn ++ tl ∧ rest = tl.map (fun e => .lst (encE e)) ∧ acc = (dn.map exS).map .str ∧ h' = h) (fun y rest acc h' I => ?_) (fun acc h' I => ?_) _ ⟨[], as, rfl, rfl, rfl, rfl⟩
    · obtain ⟨dn, tl, e1, e2, rfl, rfl⟩ := I
      cases tl with
      | nil => cases e2
      | cons a tl =>
        cases e2
        conv => whnf
        refine text_ok hn (has a (by rw [e1]; simp)) ?_
        have : dn.length ≤ 4 := by have := congrArg List.length e1; rw [List.length_append] at this; omega
        exact ⟨by rw [List.length_map, List.length_map]; unfold LIM; omega, dn ++ [a], tl, by rw [e1]; simp, rfl, by simp, rfl⟩
    · obtain ⟨dn, tl, e1, e2, rfl, rfl⟩ := I
      cases tl with
      | cons f tl => cases e2
      | nil =>
        rw [List.append_nil] at e1
        subst e1
        conv => whnf
        refine join_ok (ws := as.map exS) rfl (by simp only [List.length_cons, List.length_nil, List.length_map]; unfold LIM; omega) ?_
        conv => whnf
        refine str_int hpi (by omega) ?_
        conv => whnf
        refine wL_addS (by simp; unfold LIM; omega) ?_
        conv => whnf
        refine str_int hqi (by omega) ?_
        conv => whnf
        refine wL_addS (by simp; unfold LIM; omega) ?_
        conv => whnf
        refine wL_addS (by simp; unfold LIM; omega) ?_
        conv => whnf
        refine wL_addS (by simp; unfold LIM; omega) ?_
        conv => whnf
        refine wL_addS (by simp; unfold LIM; omega) ?_
        conv => whnf
        refine join_ok (ws := [[99, 97, 108, 108], x, [61], f ++ [40] ++ joinS [44, 32] (as.map exS) ++ [41], [115, 104, 97, 114, 101], natDigs p ++ [47] ++ natDigs q, [101, 108, 115, 101]]) rfl (by simp; unfold LIM; omega) ?_
        have l7 := joinS_len [32] [[99, 97, 108, 108], x, [61], f ++ [40] ++ joinS [44, 32] (as.map exS) ++ [41], [115, 104, 97, 114, 101], natDigs p ++ [47] ++ natDigs q, [101, 108, 115, 101]]
        simp only [List.map_cons, List.map_nil, List.sum_cons, List.sum_nil, List.length_append, List.length_cons, List.length_nil] at l7
        conv => whnf
        refine wL_addS (by simp only [List.length_append, List.length_cons, List.length_nil]; unfold LIM; omega) ?_
        conv => whnf
        refine text_ok hn he ?_
        refine wL_addS (by simp only [List.length_append, List.length_cons, List.length_nil]; unfold LIM; omega) ?_
        conv => whnf
        refine wL_addS (by simp only [List.length_append, List.length_cons, List.length_nil]; unfold LIM; omega) ?_
        exact k (by unfold lnS; simp only [List.length_append, List.length_cons, List.length_nil]; omega)
end PF
set_option linter.all false
set_option maxRecDepth 100000
namespace PF
open K
theorem lnss_cons (i : List Nat) (s : Sm) (ss : List Sm) : lnss i (s :: ss) = lns i s ++ lnss i ss := by simp only [lnss]
theorem lnss_nil (i : List Nat) : lnss i [] = [] := by simp only [lnss]
theorem lnss_append (i : List Nat) (a b : List Sm) : lnss i (a ++ b) = lnss i a ++ lnss i b := by
  induction a with
  | nil => simp [lnss_nil]
  | cons s a ih => rw [List.cons_append, lnss_cons, lnss_cons, ih, List.append_assoc]
theorem lns_ifs (i : List Nat) (l : Ex) (o : Nat) (r : Ex) (a b : List Sm) : lns i (.ifs l o r a b) = (i ++ joinS [32] [[105, 102], exS l, [o], exS r, [123]]) :: (lnss (i ++ [32, 32]) a ++ (if b.isEmpty then [] else (i ++ [125, 32, 101, 108, 115, 101, 32, 123]) :: lnss (i ++ [32, 32]) b) ++ [i ++ [125]]) := by simp only [lns]
theorem lns_loop (i : List Nat) (e : Ex) (b : List Sm) : lns i (.loop e b) = (i ++ [108, 111, 111, 112, 32] ++ exS e ++ [32, 123]) :: (lnss (i ++ [32, 32]) b ++ [i ++ [125]]) := by simp only [lns]
theorem lns_flat (i : List Nat) {s : Sm} (h : flat1 s = true) : lns i s = [i ++ lnS s] := by
  cases s <;> first | (simp only [lns]; done) | cases h
mutual
theorem lns_len : ∀ (s : Sm) (i : List Nat), (lns i s).length ≤ 3 * tot s
  | .ifs l o r a b, i => by
    have h1 := lnss_len a (i ++ [32, 32])
    have h2 := lnss_len b (i ++ [32, 32])
    rw [lns_ifs, tot_ifs]
    split <;> simp <;> omega
  | .loop e b, i => by
    have h1 := lnss_len b (i ++ [32, 32])
    rw [lns_loop, tot_loop]
    simp; omega
  | .set x e, i => by rw [lns_flat i rfl]; simp [tot]
  | .put x e, i => by rw [lns_flat i rfl]; simp [tot]
  | .emit e, i => by rw [lns_flat i rfl]; simp [tot]
  | .ret e, i => by rw [lns_flat i rfl]; simp [tot]
  | .call x f as p q e, i => by rw [lns_flat i rfl]; simp [tot]
theorem lnss_len : ∀ (ss : List Sm) (i : List Nat), (lnss i ss).length ≤ 3 * tots ss
  | [], i => by rw [lnss_nil]; simp
  | s :: ss, i => by
    have h1 := lns_len s i
    have h2 := lnss_len ss i
    rw [lnss_cons, tots_cons, List.length_append]
    omega
end
structure NzOk (z : Spc) : Prop where
  n : NsOk z.names
  t : NsOk z.targets
  c : ∀ c ∈ z.callees, c.1.length ≤ 8 ∧ c.2 ≤ 4
def lnI (ss : List Sm) (i : List Nat) (h : Hp) (rest : List D) (σ : St) (h' : Hp) : Prop := ∃ (dn tl : List Sm) (a3 a4 : Option SV), ss = dn ++ tl ∧ rest = encSs tl ∧ σ = [some (.v (.d (.lst (encSs ss)))), some (.v (.d (.str i))), some (.ol ((lnss i dn).map .str)), a3, a4] ∧ h' = h
structure LinP (z : Spc) (n d : Nat) : Prop where
  p : ∀ (ss : List Sm) (i : List Nat) {h : Hp} {Q : X → Hp → Prop}, SmsOk z n ss → tots ss ≤ 100 → i.length + 2 * n ≤ 100 → Q (.fl ((lnss i ss).map .str)) h → Call (callF T d) 20 [.d (.lst (encSs ss)), .d (.str i)] h Q
theorem lines_of {z : Spc} (hz : NzOk z) {n d : Nat} (ih : ∀ m, n = m + 1 → LinP z m (d + 2)) : LinP z n (d + 3) := by
  constructor
  intro ss i h Q hok htt hil k
  refine call_in rfl rfl ?_
  conv => whnf
  refine for_list (lnI ss i h) (fun x rest σ h' I => ?_) (fun σ h' I => ?_) _ ⟨[], ss, none, none, rfl, rfl, by rw [lnss_nil]; rfl, rfl⟩
  rotate_left
  · obtain ⟨dn, tl, a3, a4, e1, e2, rfl, rfl⟩ := I
    cases tl with
    | cons s tl => rw [encSs_map] at e2; cases e2
    | nil =>
      rw [List.append_nil] at e1
      subst e1
      exact k
  obtain ⟨dn, tl, a3, a4, e1, e2, rfl, rfl⟩ := I
  cases tl with
  | nil => rw [encSs_map] at e2; cases e2
  | cons s tl =>
    rw [encSs_map, List.map_cons, ← encSs_map] at e2
    cases e2
    have hs : SmOk z n s := SmsOk_iff.mp hok s (by rw [e1]; simp)
    have htd : tots dn + (tot s + tots tl) = tots ss := by rw [e1, tots_append, tots_cons]
    have hln := lnss_len dn i
    have hlenL : ((lnss i dn).map D.str).length ≤ 300 := by rw [List.length_map]; omega
    have fin : ∀ {L : List D} {a3 a4 : Option SV}, L = (lnss i (dn ++ [s])).map .str → lnI ss i h' (encSs tl) [some (.v (.d (.lst (encSs ss)))), some (.v (.d (.str i))), some (.ol L), a3, a4] h' := fun {L a3 a4} q =>
      ⟨dn ++ [s], tl, a3, a4, by rw [e1]; simp, rfl, by rw [q], rfl⟩
    have hsn : lnss i (dn ++ [s]) = lnss i dn ++ lns i s := by rw [lnss_append, lnss_cons, lnss_nil, List.append_nil]
    rw [hsn, List.map_append] at fin
    generalize hL : (lnss i dn).map D.str = L at hlenL fin ⊢
    have flt : flat1 s = true → (lnS s).length ≤ 600 → ∀ a3 a4, wL (opX .add (dat (.str i)) (dat (.str (lnS s)))) fun r => wL (appOwn (some (.ol L)) r.toV) fun sv => lnI ss i h' (encSs tl) [some (.v (.d (.lst (encSs ss)))), some (.v (.d (.str i))), some sv, a3, a4] h' := by
      intro q hl a3 a4
      refine wL_addS (by unfold LIM; omega) ?_
      refine wL_app (by unfold LIM; omega) ?_
      refine fin ?_
      rw [lns_flat i q]
      rfl
    cases s with
    | set x e =>
      conv => whnf
      exact stm_text hz.n hz.t hz.c hs rfl fun hl => flt rfl hl _ _
    | put x e =>
      conv => whnf
      exact stm_text hz.n hz.t hz.c hs rfl fun hl => flt rfl hl _ _
    | emit e =>
      conv => whnf
      exact stm_text hz.n hz.t hz.c hs rfl fun hl => flt rfl hl _ _
    | ret e =>
      conv => whnf
      exact stm_text hz.n hz.t hz.c hs rfl fun hl => flt rfl hl _ _
    | call x f as p q e =>
      conv => whnf
      exact stm_text hz.n hz.t hz.c hs rfl fun hl => flt rfl hl _ _
    | loop e b =>
      clear flt
      unfold SmOk at hs
      obtain ⟨he, hn0, hb, hlb⟩ := hs
      obtain ⟨m, rfl⟩ : ∃ m, n = m + 1 := ⟨n - 1, by omega⟩
      have l2 := exS_len hz.n he
      rw [tot_loop] at htd
      rw [lns_loop] at fin
      conv => whnf
      refine wL_addS (by simp; unfold LIM; omega) ?_
      conv => whnf
      refine text_ok hz.n he ?_
      refine wL_addS (by simp; unfold LIM; omega) ?_
      conv => whnf
      refine wL_addS (by simp; unfold LIM; omega) ?_
      conv => whnf
      refine wL_app (by unfold LIM; omega) ?_
      conv => whnf
      refine wL_addS (by simp; unfold LIM; omega) ?_
      have lb := lnss_len b (i ++ [32, 32])
      refine (ih m rfl).p b (i ++ [32, 32]) hb (by omega) (by simp; omega) ?_
      refine wL_addL (xs := L ++ [.str (i ++ [108, 111, 111, 112, 32] ++ exS e ++ [32, 123])]) (ys := (lnss (i ++ [32, 32]) b).map .str) rfl rfl (by simp; unfold LIM; omega) ?_
      conv => whnf
      refine wL_addS (by simp; unfold LIM; omega) ?_
      refine wL_addL (xs := L ++ [.str (i ++ [108, 111, 111, 112, 32] ++ exS e ++ [32, 123])] ++ (lnss (i ++ [32, 32]) b).map .str) (ys := [.str (i ++ [125])]) rfl rfl (by simp; unfold LIM; omega) ?_
      refine fin ?_
      simp
    | ifs l o r a b =>
      clear flt
      unfold SmOk at hs
      obtain ⟨he1, ho, he2, hn0, ha, hb, hla, hlb⟩ := hs
      obtain ⟨m, rfl⟩ : ∃ m, n = m + 1 := ⟨n - 1, by omega⟩
      have l1 := exS_len hz.n he1
      have l2 := exS_len hz.n he2
      rw [tot_ifs] at htd
      rw [lns_ifs] at fin
      conv => whnf
      refine text_ok hz.n he1 ?_
      conv => whnf
      refine text_ok hz.n he2 ?_
      conv => whnf
      refine join_ok (ws := [[105, 102], exS l, [o], exS r, [123]]) rfl (by simp; unfold LIM; omega) ?_
      have l7 := joinS_len [32] [[105, 102], exS l, [o], exS r, [123]]
      simp only [List.map_cons, List.map_nil, List.sum_cons, List.sum_nil, List.length_append, List.length_cons, List.length_nil] at l7
      generalize hJ : joinS [32] [[105, 102], exS l, [o], exS r, [123]] = J at l7 fin ⊢
      refine wL_addS (by unfold LIM; omega) ?_
      conv => whnf
      refine wL_app (by unfold LIM; omega) ?_
      conv => whnf
      refine wL_addS (by simp; unfold LIM; omega) ?_
      have la := lnss_len a (i ++ [32, 32])
      have lb := lnss_len b (i ++ [32, 32])
      refine (ih m rfl).p a (i ++ [32, 32]) ha (by omega) (by simp; omega) ?_
      refine wL_addL (xs := L ++ [.str (i ++ J)]) (ys := (lnss (i ++ [32, 32]) a).map .str) rfl rfl (by simp; unfold LIM; omega) ?_
      conv => whnf
      refine wI_not (wI_in (fun hbe => ?_) (fun hbe => ?_))
      · conv => whnf
        refine wL_addS (by simp; unfold LIM; omega) ?_
        refine wL_app (xs := L ++ [.str (i ++ J)] ++ (lnss (i ++ [32, 32]) a).map .str) (by simp; unfold LIM; omega) ?_
        refine fin ?_
        have : b = [] := by rw [encSs_map] at hbe; cases b with
          | nil => rfl
          | cons s b => cases hbe
        subst this
        simp
      · have hne : b.isEmpty = false := by
          cases b with
          | nil => rw [encSs_map] at hbe; cases hbe
          | cons s b => rfl
        conv => whnf
        refine wL_addS (by simp; unfold LIM; omega) ?_
        conv => whnf
        refine wL_addL (xs := L ++ [.str (i ++ J)] ++ (lnss (i ++ [32, 32]) a).map .str) (ys := [.str (i ++ [125, 32, 101, 108, 115, 101, 32, 123])]) rfl rfl (by simp; unfold LIM; omega) ?_
        conv => whnf
        refine wL_addS (by simp; unfold LIM; omega) ?_
        refine (ih m rfl).p b (i ++ [32, 32]) hb (by omega) (by simp; omega) ?_
        refine wL_addL (xs := L ++ [.str (i ++ J)] ++ (lnss (i ++ [32, 32]) a).map .str ++ [.str (i ++ [125, 32, 101, 108, 115, 101, 32, 123])]) (ys := (lnss (i ++ [32, 32]) b).map .str) rfl rfl (by simp; unfold LIM; omega) ?_
        conv => whnf
        refine wL_addS (by simp; unfold LIM; omega) ?_
        refine wL_app (xs := L ++ [.str (i ++ J)] ++ (lnss (i ++ [32, 32]) a).map .str ++ [.str (i ++ [125, 32, 101, 108, 115, 101, 32, 123])] ++ (lnss (i ++ [32, 32]) b).map .str) (by simp; unfold LIM; omega) ?_
        refine fin ?_
        rw [hne]
        simp
theorem lines_ok {z : Spc} (hz : NzOk z) (n : Nat) : ∀ d, LinP z n (d + 3 + n) := by
  induction n with
  | zero => exact fun d => lines_of hz fun m q => nomatch q
  | succ n ih =>
    intro d
    have := lines_of (n := n + 1) (d := d + n + 1) hz fun m q => by
      cases q
      have := ih d
      have e : d + 3 + n = d + n + 1 + 2 := by omega
      rw [e] at this
      exact this
    have e : d + 3 + (n + 1) = d + n + 1 + 3 := by omega
    rw [e]
    exact this
/-! ### a function's facts -/
theorem le_sum {a : Nat} : ∀ {l : List Nat}, a ∈ l → a ≤ l.sum
  | x :: l, h => by
    rw [List.sum_cons]
    rcases List.mem_cons.mp h with rfl | h
    · omega
    · have := le_sum h; omega
theorem lnS_len {z : Spc} (hz : NzOk z) {n : Nat} {s : Sm} (hs : SmOk z n s) : (lnS s).length ≤ 600 := by
  cases s with
  | ifs l o r a b => simp [lnS]
  | loop e b => simp [lnS]
  | set x e =>
    unfold SmOk at hs
    have l1 := hz.t x hs.1
    have l2 := exS_len hz.n hs.2
    unfold lnS; simp; omega
  | put i e =>
    unfold SmOk at hs
    have l2 := exS_len hz.n hs.2
    unfold lnS; simp; omega
  | emit e =>
    unfold SmOk at hs
    have l2 := exS_len hz.n hs
    unfold lnS; simp; omega
  | ret e =>
    unfold SmOk at hs
    have l2 := exS_len hz.n hs
    unfold lnS; simp; omega
  | call x f as p q e =>
    unfold SmOk at hs
    obtain ⟨hx, hf, has, hpq, he⟩ := hs
    have l1 := hz.t x hx
    have l2 := exS_len hz.n he
    obtain ⟨l3, l4⟩ := hz.c _ hf
    dsimp only at l3 l4
    have hp : p < 10 ∧ q < 10 := by
      unfold ShOk at hpq
      simp at hpq
      omega
    have lp : (natDigs p).length = 1 := by rw [digs_lt hp.1]; rfl
    have lq : (natDigs q).length = 1 := by rw [digs_lt hp.2]; rfl
    have lin : ∀ as : List Ex, (∀ a ∈ as, ExOk z.names a) → ((as.map exS).map List.length).sum ≤ 60 * as.length := by
      intro as
      induction as with
      | nil => simp
      | cons a as ih =>
        intro h
        have h1 := exS_len hz.n (h a List.mem_cons_self)
        have h2 := ih fun b hb => h b (List.mem_cons_of_mem _ hb)
        simp only [List.map_cons, List.sum_cons, List.length_cons]
        omega
    have l5 := lin as has
    have l6 := joinS_len [44, 32] (as.map exS)
    simp only [List.length_cons, List.length_nil, List.length_map] at l6
    have l7 := joinS_len [32] [[99, 97, 108, 108], x, [61], f ++ [40] ++ joinS [44, 32] (as.map exS) ++ [41], [115, 104, 97, 114, 101], natDigs p ++ [47] ++ natDigs q, [101, 108, 115, 101]]
    simp only [List.map_cons, List.map_nil, List.sum_cons, List.sum_nil, List.length_append, List.length_cons, List.length_nil] at l7
    unfold lnS; simp only [List.length_append, List.length_cons, List.length_nil]; omega
mutual
theorem lns_wide {z : Spc} (hz : NzOk z) : ∀ (s : Sm) (n : Nat) (i : List Nat), SmOk z n s → ∀ ln ∈ lns i s, ln.length ≤ i.length + 2 * n + 600
  | .ifs l o r a b, n, i, h, ln, hl => by
    unfold SmOk at h
    obtain ⟨he1, ho, he2, hn0, ha, hb, hla, hlb⟩ := h
    have l1 := exS_len hz.n he1
    have l2 := exS_len hz.n he2
    have l7 := joinS_len [32] [[105, 102], exS l, [o], exS r, [123]]
    simp only [List.map_cons, List.map_nil, List.sum_cons, List.sum_nil, List.length_append, List.length_cons, List.length_nil] at l7
    have h1 := lnss_wide hz a (n - 1) (i ++ [32, 32]) ha
    have h2 := lnss_wide hz b (n - 1) (i ++ [32, 32]) hb
    rw [lns_ifs] at hl
    rcases List.mem_cons.mp hl with rfl | hl
    · simp only [List.length_append]; omega
    · rcases List.mem_append.mp hl with hl | hl
      · rcases List.mem_append.mp hl with hl | hl
        · have := h1 ln hl; simp at this; omega
        · split at hl
          · simp at hl
          · rcases List.mem_cons.mp hl with rfl | hl
            · simp; omega
            · have := h2 ln hl; simp at this; omega
      · simp at hl; subst hl; simp; omega
  | .loop e b, n, i, h, ln, hl => by
    unfold SmOk at h
    obtain ⟨he, hn0, hb, hlb⟩ := h
    have l1 := exS_len hz.n he
    have h2 := lnss_wide hz b (n - 1) (i ++ [32, 32]) hb
    rw [lns_loop] at hl
    rcases List.mem_cons.mp hl with rfl | hl
    · simp; omega
    · rcases List.mem_append.mp hl with hl | hl
      · have := h2 ln hl; simp at this; omega
      · simp at hl; subst hl; simp; omega
  | .set x e, n, i, h, ln, hl => by rw [lns_flat i rfl] at hl; have := lnS_len hz h; simp at hl; subst hl; simp; omega
  | .put x e, n, i, h, ln, hl => by rw [lns_flat i rfl] at hl; have := lnS_len hz h; simp at hl; subst hl; simp; omega
  | .emit e, n, i, h, ln, hl => by rw [lns_flat i rfl] at hl; have := lnS_len hz h; simp at hl; subst hl; simp; omega
  | .ret e, n, i, h, ln, hl => by rw [lns_flat i rfl] at hl; have := lnS_len hz h; simp at hl; subst hl; simp; omega
  | .call x f as p q e, n, i, h, ln, hl => by rw [lns_flat i rfl] at hl; have := lnS_len hz h; simp at hl; subst hl; simp; omega
theorem lnss_wide {z : Spc} (hz : NzOk z) : ∀ (ss : List Sm) (n : Nat) (i : List Nat), SmsOk z n ss → ∀ ln ∈ lnss i ss, ln.length ≤ i.length + 2 * n + 600
  | [], n, i, h, ln, hl => by rw [lnss_nil] at hl; cases hl
  | s :: ss, n, i, h, ln, hl => by
    unfold SmsOk at h
    rw [lnss_cons] at hl
    rcases List.mem_append.mp hl with hl | hl
    · exact lns_wide hz s n i h.1 ln hl
    · exact lnss_wide hz ss n i h.2 ln hl
end
theorem NM_len {x : Nm} (h : x ∈ NM) : x.length ≤ 8 := by
  simp [NM] at h
  rcases h with rfl | rfl | rfl | rfl <;> simp
theorem mem_PA {x : Nm} {i : Nat} (h : x ∈ PA.take i) : x.length ≤ 8 := by
  have := List.mem_of_mem_take h
  simp [PA] at this
  rcases this with rfl | rfl <;> simp
theorem mem_XY {x : Nm} {i : Nat} (h : x ∈ XY.take i) : x.length ≤ 8 := by
  have := List.mem_of_mem_take h
  simp [XY] at this
  rcases this with rfl | rfl <;> simp
theorem ProgOk.hdr_ok {b : Bool} {p : List Fx} (hp : ProgOk b p) : ∀ c ∈ p.map hdr, c.1.length ≤ 8 ∧ c.2 ≤ 4 := by
  intro c hc
  obtain ⟨f, hf, rfl⟩ := List.mem_map.mp hc
  obtain ⟨n, hn⟩ := hp.nm
  obtain ⟨k, hk, rfl⟩ := List.getElem_of_mem hf
  have q := hp.fx k _ (List.getElem?_eq_getElem hk)
  obtain ⟨i, hi⟩ := q.ps
  refine ⟨NM_len (List.mem_of_mem_take (i := n) (by rw [← hn]; exact List.mem_map_of_mem hf)), ?_⟩
  show (p[k]).ps.length ≤ 4
  rw [hi]; simp [PA]; omega
theorem ProgOk.body {b : Bool} {p : List Fx} (hp : ProgOk b p) {f : Fx} (hf : f ∈ p) : ∃ z : Spc, NzOk z ∧ SmsOk z 2 f.body ∧ tots f.body ≤ 25 ∧ f.name.length ≤ 8 ∧ (∃ i, f.ps = PA.take i) := by
  obtain ⟨k, hk, rfl⟩ := List.getElem_of_mem hf
  have q := hp.fx k _ (List.getElem?_eq_getElem hk)
  obtain ⟨i, hi⟩ := q.ps
  obtain ⟨j, ok, _⟩ := q.body
  refine ⟨_, ⟨fun x hx => ?_, fun x hx => ?_, fun c hc => hp.hdr_ok c (List.mem_of_mem_drop hc)⟩, ok, ?_, (hp.hdr_ok _ (List.mem_map_of_mem hf)).1, ⟨i, hi⟩⟩
  · rcases List.mem_append.mp hx with hx | hx
    · rw [hi] at hx; exact mem_PA hx
    · exact mem_XY hx
  · rcases List.mem_append.mp hx with hx | hx
    · rw [hi] at hx; exact mem_PA hx
    · exact mem_XY hx
  · refine Nat.le_trans ?_ hp.few
    unfold tsum
    exact le_sum (List.mem_map.mpr ⟨_, hf, rfl⟩)
theorem ProgOk.len {b : Bool} {p : List Fx} (hp : ProgOk b p) : p.length ≤ 4 := by
  obtain ⟨n, hn⟩ := hp.nm
  have := congrArg List.length hn
  simp [NM] at this
  omega
theorem fxL_len (f : Fx) : (fxL f).length ≤ 2 + 3 * tots f.body := by
  have := lnss_len f.body [32, 32]
  unfold fxL
  simp
  omega
theorem srcL_len (p : List Fx) : (srcL p).length ≤ 2 * p.length + 3 * tsum p := by
  induction p with
  | nil => simp [srcL, tsum]
  | cons f p ih =>
    have := fxL_len f
    unfold srcL tsum at ih ⊢
    simp only [List.flatMap_cons, List.length_append, List.length_cons, List.map_cons, List.sum_cons]
    omega
theorem ps_join {i : Nat} : (joinS [44, 32] (PA.take i)).length ≤ 10 := by
  have h1 := joinS_len [44, 32] (PA.take i)
  have h2 : ((PA.take i).map List.length).sum ≤ 2 := by
    rcases i with _ | _ | _ | i <;> simp [PA]
  have h3 : (PA.take i).length ≤ 2 := by simp [PA]; omega
  simp only [List.length_cons, List.length_nil] at h1
  omega
theorem ProgOk.wide {b : Bool} {p : List Fx} (hp : ProgOk b p) : ∀ ln ∈ srcL p, ln.length ≤ 700 := by
  intro ln hl
  obtain ⟨f, hf, hl⟩ := List.mem_flatMap.mp hl
  obtain ⟨z, hz, ok, ht, hn, i, hi⟩ := hp.body hf
  unfold fxL at hl
  rcases List.mem_cons.mp hl with rfl | hl
  · have := ps_join (i := i)
    rw [hi]
    simp; omega
  · rcases List.mem_append.mp hl with hl | hl
    · have := lnss_wide hz _ _ _ ok ln hl
      simp at this; omega
    · simp at hl; subst hl; simp
theorem sum_le_mul {l : List Nat} {m : Nat} (h : ∀ a ∈ l, a ≤ m) : l.sum ≤ m * l.length := by
  induction l with
  | nil => simp
  | cons a l ih =>
    have h1 := h a List.mem_cons_self
    have h2 := ih fun b hb => h b (List.mem_cons_of_mem _ hb)
    rw [List.sum_cons, List.length_cons, Nat.mul_succ]
    omega
theorem ProgOk.size {b : Bool} {p : List Fx} (hp : ProgOk b p) : (srcL p).length ≤ 83 ∧ ((srcL p).map List.length).sum + (srcL p).length * 1 ≤ 100000 := by
  have h1 := srcL_len p
  have h2 := hp.len
  have h3 := hp.few
  have h4 : ((srcL p).map List.length).sum ≤ 700 * ((srcL p).map List.length).length := sum_le_mul fun a ha => by
    obtain ⟨ln, hl, rfl⟩ := List.mem_map.mp ha
    exact hp.wide ln hl
  rw [List.length_map] at h4
  omega
theorem source_ok {d : Nat} {h : Hp} {b : Bool} {p : List Fx} (hp : ProgOk b p) {Q : X → Hp → Prop} (k : Q (dat (.str (srcS p))) h) : Call (callF T (d + 6)) 21 [.d (.lst (p.map encF))] h Q := by
  obtain ⟨sz1, sz2⟩ := hp.size
  refine call_in rfl rfl ?_
  conv => whnf
  refine for_data (fun rest σ h' => ∃ (dn tl : List Fx) (a2 a3 a4 : Option SV), p = dn ++ tl ∧ rest = tl.map encF ∧ σ = [some (.v (.d (.lst (p.map encF)))), some (.ol ((srcL dn).map .str)), a2, a3, a4] ∧ h' = h) (fun x rest σ h' I => ?_) (fun σ h' I => ?_) _ ⟨[], p, none, none, none, rfl, rfl, rfl, rfl⟩
  · obtain ⟨dn, tl, a2, a3, a4, e1, e2, rfl, rfl⟩ := I
    cases tl with
    | nil => cases e2
    | cons f tl =>
      cases e2
      have hf : f ∈ p := by rw [e1]; simp
      obtain ⟨z, hz, ok, ht, hn, i, hi⟩ := hp.body hf
      have hpj := ps_join (i := i)
      rw [← hi] at hpj
      have hps : (f.ps.map List.length).sum + f.ps.length * 2 ≤ 100 := by
        rw [hi]
        rcases i with _ | _ | _ | i <;> simp [PA]
      have hln := lnss_len f.body [32, 32]
      have hdn : (srcL dn).length ≤ 83 := by
        have : (srcL p).length = (srcL dn).length + (srcL (f :: tl)).length := by rw [e1]; unfold srcL; simp
        omega
      have fin : ∀ {L : List D} {a2 a3 a4 : Option SV}, L = (srcL dn).map .str ++ (fxL f).map .str → ∃ (dn' tl' : List Fx) (b2 b3 b4 : Option SV), p = dn' ++ tl' ∧ tl.map encF = tl'.map encF ∧ [some (SV.v (V.d (.lst (p.map encF)))), some (.ol L), a2, a3, a4] = [some (.v (.d (.lst (p.map encF)))), some (.ol ((srcL dn').map .str)), b2, b3, b4] ∧ h' = h' := fun {L a2 a3 a4} q =>
        ⟨dn ++ [f], tl, a2, a3, a4, by rw [e1]; simp, rfl, by rw [q]; unfold srcL; simp, rfl⟩
      generalize hL : (srcL dn).map D.str = L at fin ⊢
      have hlL : L.length ≤ 83 := by rw [← hL, List.length_map]; exact hdn
      refine ⟨[some (.v (.d (.lst (p.map encF)))), some (.ol L), some (.v (.d (.str f.name))), some (.v (.d (.lst (f.ps.map .str)))), some (.v (.d (.lst (encSs f.body))))], rfl, ?_⟩
      conv => whnf
      refine wL_addS (by simp; unfold LIM; omega) ?_
      conv => whnf
      refine wL_addS (by simp; unfold LIM; omega) ?_
      conv => whnf
      refine join_ok (ws := f.ps) rfl (by simp only [List.length_cons, List.length_nil]; unfold LIM; omega) ?_
      refine wL_addS (by simp; unfold LIM; omega) ?_
      conv => whnf
      refine wL_addS (by simp; unfold LIM; omega) ?_
      refine wL_app (by unfold LIM; omega) ?_
      conv => whnf
      refine (lines_ok hz 2 d).p f.body [32, 32] ok (by omega) (by simp) ?_
      refine wL_addL (xs := L ++ [.str ([100, 101, 102, 32] ++ f.name ++ [40] ++ joinS [44, 32] f.ps ++ [41, 32, 123])]) (ys := (lnss [32, 32] f.body).map .str) rfl rfl (by simp; unfold LIM; omega) ?_
      conv => whnf
      refine wL_addL (xs := L ++ [.str ([100, 101, 102, 32] ++ f.name ++ [40] ++ joinS [44, 32] f.ps ++ [41, 32, 123])] ++ (lnss [32, 32] f.body).map .str) (ys := [.str [125]]) rfl rfl (by simp; unfold LIM; omega) ?_
      refine fin ?_
      unfold fxL
      simp
  · obtain ⟨dn, tl, a2, a3, a4, e1, e2, rfl, rfl⟩ := I
    cases tl with
    | cons f tl => cases e2
    | nil =>
      rw [List.append_nil] at e1
      subst e1
      conv => whnf
      refine join_ok (ws := srcL p) rfl (by simp only [List.length_cons, List.length_nil]; unfold LIM; omega) ?_
      exact k
end PF
set_option linter.all false
set_option maxRecDepth 100000
namespace PF
open K
theorem str_at {text pre post : List Nat} {c : Nat} {i : Int} {h : Hp} {K : V → Prop} (e : text = pre ++ c :: post) (hi : i = pre.length) (hl : text.length ≤ LIM) (k : K (.d (.str [c]))) : wL (ixV (.d (.str text)) (.d (.int i)) h) K := by
  refine wL_of (a := .d (.str [c])) ?_ k
  have hx : text[pre.length]? = some c := by rw [e]; simp
  have hn : pre.length < text.length := by rw [e]; simp
  show (ixD _ _).map _ = _
  unfold ixD
  dsimp only
  rw [if_pos (decide_eq_true hl), hi, ixN_nat hn]
  simp [hx]
theorem len_str {text : List Nat} {h : Hp} {K : X → Prop} (hl : text.length ≤ LIM) (k : ∀ n : Int, n = text.length → K (dat (.int n))) : wL (biV .len [.d (.str text)] h) K := by
  refine wL_of (a := dat (.int text.length)) ?_ (k _ rfl)
  show (if _ then _ else _) = _
  rw [if_pos (decide_eq_true hl)]
theorem in_yes {c : Nat} {cs : List Nat} {h : Hp} {K : Bool → Prop} (hl : cs.length ≤ LIM) (hc : c ∈ cs) (k : K true) : wL (inV (.d (.str [c])) (.d (.str cs)) h) K := by
  refine wL_of (a := true) ?_ k
  show (if _ then _ else _) = _
  rw [if_pos (decide_eq_true hl), any_mem hc]
theorem in_no {c : Nat} {cs : List Nat} {h : Hp} {K : Bool → Prop} (hl : cs.length ≤ LIM) (hc : c ∉ cs) (k : K false) : wL (inV (.d (.str [c])) (.d (.str cs)) h) K := by
  refine wL_of (a := false) ?_ k
  show (if _ then _ else _) = _
  rw [if_pos (decide_eq_true hl), any_not hc]
theorem runlen_ok {d : Nat} {h : Hp} {text pre w post cs : List Nat} {st : Int} (e : text = pre ++ (w ++ post)) (hst : st = pre.length) (hl : text.length ≤ 900000) (hc : cs.length ≤ LIM) (hw : ∀ c ∈ w, c ∈ cs) (hp : ∀ c, post[0]? = some c → c ∉ cs) {Q : X → Hp → Prop} (k : ∀ n : Int, n = w.length → Q (dat (.int n)) h) : Call (callF T (d + 1)) 0 [.d (.str text), .d (.int st), .d (.str cs)] h Q := by
  have hL : text.length ≤ LIM := by unfold LIM; omega
  refine call_in rfl rfl ?_
  conv => whnf
  refine whl_inv (fun m σ h' => ∃ (x y : List Nat) (n : Int), w = x ++ y ∧ n = x.length ∧ m = y.length ∧ σ = [some (.v (.d (.str text))), some (.v (.d (.int st))), some (.v (.d (.str cs))), some (.v (.d (.int n)))] ∧ h' = h) (fun m σ h' I => ?_) w.length 1000000 ?_ ⟨[], w, 0, rfl, rfl, rfl, rfl, rfl⟩
  · obtain ⟨x, y, n, e1, hn, rfl, rfl, rfl⟩ := I
    conv => whnf
    refine len_str hL fun N hN => ?_
    conv => whnf
    have hlen : text.length = pre.length + (x.length + y.length + post.length) := by rw [e, e1]; simp; omega
    refine wI_dec (fun hlt => ?_) (fun hge => ?_)
    · conv => whnf
      cases y with
      | cons c y =>
        refine str_at (pre := pre ++ x) (c := c) (post := y ++ post) (by rw [e, e1]; simp) (by rw [List.length_append]; omega) hL ?_
        conv => whnf
        refine in_yes hc (hw c (by rw [e1]; simp)) ?_
        conv => whnf
        refine ⟨y.length, rfl, ?_⟩
        exact ⟨x ++ [c], y, n + 1, by rw [e1]; simp, by rw [List.length_append, hn]; rfl, rfl, rfl, rfl⟩
      | nil =>
        cases post with
        | nil => simp at hlen; omega
        | cons c post =>
          refine str_at (pre := pre ++ x) (c := c) (post := post) (by rw [e, e1]; simp) (by rw [List.length_append]; omega) hL ?_
          conv => whnf
          refine in_no hc (hp c rfl) ?_
          conv => whnf
          exact k n (by rw [hn, e1]; simp)
    · conv => whnf
      have : y = [] := by
        cases y with
        | nil => rfl
        | cons c y => simp at hlen; omega
      subst this
      exact k n (by rw [hn, e1]; simp)
  · rw [e] at hl
    simp at hl
    omega
theorem tok_new {d : Nat} {kd tx : List Nat} {l c : Int} {Q : List D → Prop} (k : Q [.str kd, .str tx, .int l, .int c]) : Call (callF T (d + 1)) 24 [.ref 0, .d (.str kd), .d (.str tx), .d (.int l), .d (.int c)] [.ins 3 []] fun r h2 => wL (recOf 3 r h2) fun ds => Q ds := by
  refine call_in rfl rfl ?_
  exact k
theorem cut_mid {pre w post : List Nat} {i j : Int} (hi : i = pre.length) (hj : j = w.length) : cut (pre ++ (w ++ post)) (some i) (some (i + j)) = w := by
  subst hi hj
  unfold cut sIx
  dsimp only
  rw [if_neg (by omega), if_neg (by omega)]
  have e1 : min (pre.length : Int).toNat (pre ++ (w ++ post)).length = pre.length := by simp only [List.length_append]; omega
  have e2 : min ((pre.length : Int) + w.length).toNat (pre ++ (w ++ post)).length = pre.length + w.length := by simp only [List.length_append]; omega
  rw [e1, e2, List.drop_left' rfl, Nat.add_sub_cancel_left, List.take_left' rfl]
theorem sl_str {text pre w post : List Nat} {i j : Int} {h : Hp} {K : X → Prop} (e : text = pre ++ (w ++ post)) (hi : i = pre.length) (hj : j = w.length) (hl : text.length ≤ LIM) (k : K (dat (.str w))) : wL (slV (.d (.str text)) (.int i) (.int (i + j)) h) K := by
  refine wL_of (a := dat (.str w)) ?_ k
  show (if _ then _ else _) = _
  rw [if_pos (decide_eq_true hl), e, cut_mid hi hj]
theorem inD_tup {w : List Nat} {ys : List D} (hf : ys.all flat = true) : inD (.str w) (.tup ys) = some (ys.any fun y => eqb y (.str w)) := by
  have : inD (.str w) (.tup ys) = if flat (.str w) && ys.all flat then some (ys.any fun y => eqb y (.str w)) else none := by
    rcases w with _ | ⟨a, _ | ⟨b, w⟩⟩ <;> rfl
  rw [this, hf]
  rfl
theorem any_str (w : List Nat) : ∀ l : List (List Nat), ((l.map D.str).any fun y => eqb y (.str w)) = decide (w ∈ l)
  | [] => rfl
  | x :: l => by
    rw [List.map_cons, List.any_cons, any_str w l]
    have : eqb (.str x) (.str w) = (x == w) := by simp [eqb]
    rw [this]
    by_cases h : x = w
    · subst h; simp
    · have h2 : ¬ w = x := fun q => h q.symm
      simp [h, h2]
theorem in_tup {w : List Nat} {l : List (List Nat)} {ds : List D} {h : Hp} {K : Bool → Prop} (e : ds = l.map .str) (k : K (decide (w ∈ l))) : wL (inV (.d (.str w)) (.d (.tup ds)) h) K := by
  subst e
  refine wL_of (a := decide (w ∈ l)) ?_ k
  show inD _ _ = _
  rw [inD_tup (by simp [flat]), any_str]
theorem scan_ok {d : Nat} {h : Hp} {text pre post : List Nat} {t : TK} {l i : Int} (e : text = pre ++ (t.text ++ post)) (hi : i = pre.length) (hl : text.length ≤ 900000) (ht : TkOk t) (hs : Sep t post) {Q : X → Hp → Prop} (k : Q (dat (tokD t l i)) h) : Call (callF T (d + 2)) 1 [.d (.str text), .d (.int l), .d (.int i)] h Q := by
  have hL : text.length ≤ LIM := by unfold LIM; omega
  refine call_in rfl rfl ?_
  conv => whnf
  cases ht with
  | sym hc =>
    rename_i c
    refine str_at (c := c) (post := post) e hi hL ?_
    conv => whnf
    refine wI_t (any_mem (l := SYM) hc) ?_
    conv => whnf
    refine tok_new ?_
    exact k
  | cell hc =>
    rename_i c
    refine str_at (c := c) (post := post) e hi hL ?_
    conv => whnf
    refine wI_f (any_not (l := SYM) (cel_sym c hc).1) ?_
    conv => whnf
    refine wI_t (any_mem (l := CEL) hc) ?_
    conv => whnf
    refine tok_new ?_
    exact k
  | word h1 h2 h3 h4 =>
    rename_i w
    cases hw : w with
    | nil => exact absurd hw h1
    | cons c w' =>
      have hc := h3 c (by rw [hw]; simp)
      refine str_at (c := c) (post := w' ++ post) (by rw [e]; dsimp only; rw [hw]; rfl) hi hL ?_
      conv => whnf
      refine wI_f (any_not (l := SYM) (low_sym c hc).1) ?_
      conv => whnf
      refine wI_f (any_not (l := CEL) (low_sym c hc).2.1) ?_
      conv => whnf
      refine wI_t (any_mem (l := LOW) hc) ?_
      conv => whnf
      refine runlen_ok (cs := LOW) e hi hl (by decide) h3 (fun x hx => (hs x hx).1 c (by dsimp only; rw [hw]; simp) hc) fun n hn => ?_
      conv => whnf
      refine sl_str e hi hn hL ?_
      conv => whnf
      refine len_str (text := w) (by unfold LIM; omega) fun N hN => ?_
      conv => whnf
      refine wI_dec (fun q => by exfalso; omega) (fun _ => ?_)
      conv => whnf
      refine in_tup (l := KWS) rfl ?_
      conv => whnf
      refine wI_f (decide_eq_false h4) ?_
      conv => whnf
      refine tok_new ?_
      exact k
  | key h0 =>
    obtain ⟨h3, h1, h2⟩ := kws_low _ h0
    rename_i w
    cases hw : w with
    | nil => exact absurd hw h1
    | cons c w' =>
      have hc := h3 c (by rw [hw]; simp)
      refine str_at (c := c) (post := w' ++ post) (by rw [e]; dsimp only; rw [hw]; rfl) hi hL ?_
      conv => whnf
      refine wI_f (any_not (l := SYM) (low_sym c hc).1) ?_
      conv => whnf
      refine wI_f (any_not (l := CEL) (low_sym c hc).2.1) ?_
      conv => whnf
      refine wI_t (any_mem (l := LOW) hc) ?_
      conv => whnf
      refine runlen_ok (cs := LOW) e hi hl (by decide) h3 (fun x hx => (hs x hx).1 c (by dsimp only; rw [hw]; simp) hc) fun n hn => ?_
      conv => whnf
      refine sl_str e hi hn hL ?_
      conv => whnf
      refine len_str (text := w) (by unfold LIM; omega) fun N hN => ?_
      conv => whnf
      refine wI_dec (fun q => by exfalso; omega) (fun _ => ?_)
      conv => whnf
      refine in_tup (l := KWS) rfl ?_
      conv => whnf
      refine wI_t (decide_eq_true h0) ?_
      conv => whnf
      refine tok_new ?_
      exact k
  | num h1 h2 h3 h4 =>
    rename_i w
    cases hw : w with
    | nil => exact absurd hw h1
    | cons c w' =>
      have hc := h3 c (by rw [hw]; simp)
      refine str_at (c := c) (post := w' ++ post) (by rw [e]; dsimp only; rw [hw]; rfl) hi hL ?_
      conv => whnf
      refine wI_f (any_not (l := SYM) (dig_sym c hc).1) ?_
      conv => whnf
      refine wI_f (any_not (l := CEL) (dig_sym c hc).2.1) ?_
      conv => whnf
      refine wI_f (any_not (l := LOW) (dig_sym c hc).2.2.1) ?_
      conv => whnf
      refine wI_not (wI_t (any_mem (l := DIG) hc) ?_)
      conv => whnf
      refine runlen_ok (cs := DIG) e hi hl (by decide) h3 (fun x hx => (hs x hx).2 c (by dsimp only; rw [hw]; simp) hc) fun n hn => ?_
      conv => whnf
      refine sl_str e hi hn hL ?_
      conv => whnf
      refine len_str (text := w) (by unfold LIM; omega) fun N hN => ?_
      conv => whnf
      refine wI_dec (fun q => by exfalso; omega) (fun _ => ?_)
      conv => whnf
      refine len_str (text := w) (by unfold LIM; omega) fun N hN => ?_
      conv => whnf
      refine wI_dec (fun q => ?_) (fun _ => ?_)
      · conv => whnf
        refine wI_f (by
          have := h4 (by omega)
          rw [hw] at this
          simpa using this) ?_
        conv => whnf
        refine tok_new ?_
        exact k
      · conv => whnf
        refine tok_new ?_
        exact k
theorem ren_cons (k : Nat) (t : TK) (r : List Itm) : ren ((k, t) :: r) = List.replicate k 32 ++ (t.text ++ ren r) := rfl
/-- one line's tokens, behind those there are -/
structure LnI (text : List Nat) (its : List TK) (ts : List D) (li : Int) (a0 a1 : Option SV) (h : Hp) (m : Nat) (σ : St) (h' : Hp) : Prop where
  p : ∃ (pre : List Nat) (rest : List Itm) (tr' : Nat) (nw : List D) (dn : List TK) (ci : Int), text = pre ++ (ren rest ++ List.replicate tr' 32) ∧ ci = pre.length ∧ (ren rest ++ List.replicate tr' 32).length ≤ m ∧ ItOk tr' rest ∧ TokL nw dn ∧ its = dn ++ rest.map (·.2) ∧ nw.length ≤ pre.length ∧
    σ = [a0, a1, some (.ol (ts ++ nw)), some (.v (.d (.int li))), some (.v (.d (.str text))), some (.v (.d (.int ci)))] ∧ h' = h
theorem ix_last {σ : Option SV} {xs : List D} {x : D} {K : D → Prop} (k : K x) : wL (ixOwn (some (.ol (xs ++ [x]))) (dat (.int (-1)))) K := by
  refine wL_of (a := x) ?_ k
  show ixD (.lst (xs ++ [x])) (.int (-1)) = _
  show (ixN (xs ++ [x]).length (-1)).bind _ = _
  rw [ixN_neg1 (by simp)]
  simp
theorem line_ok {d : Nat} {text : List Nat} {its : List Itm} {tr : Nat} {ts : List D} {li : Int} {a0 a1 a5 : Option SV} {h : Hp} {Q : QS} {ss : Ss} (e : text = ren its ++ List.replicate tr 32) (ok : ItOk tr its) (hl : text.length ≤ 900000) (hts : ts.length ≤ 1000000)
    (k : ∀ nw ci, TokL nw (its.map (·.2)) → nw.length ≤ text.length → wSs T (callF T (d + 2)) ss [a0, a1, some (.ol (ts ++ nw)), some (.v (.d (.int li))), some (.v (.d (.str text))), some (.v (.d (.int ci)))] h Q) :
    wSs T (callF T (d + 2)) (.cons ((f_tokenize.body.at' 1).bd.at' 0) (.cons ((f_tokenize.body.at' 1).bd.at' 1) ss)) [a0, a1, some (.ol ts), some (.v (.d (.int li))), some (.v (.d (.str text))), a5] h Q := by
  have hL : text.length ≤ LIM := by unfold LIM; omega
  refine seq_cut (fun σ h' => σ = [a0, a1, some (.ol ts), some (.v (.d (.int li))), some (.v (.d (.str text))), some (.v (.d (.int 0)))] ∧ h = h') ⟨rfl, rfl⟩ ?_
  rintro _ _ ⟨rfl, rfl⟩
  refine seq_cut (fun σ h' => ∃ nw ci, TokL nw (its.map (·.2)) ∧ nw.length ≤ text.length ∧ σ = [a0, a1, some (.ol (ts ++ nw)), some (.v (.d (.int li))), some (.v (.d (.str text))), some (.v (.d (.int ci)))] ∧ h' = h) ?_ ?_
  rotate_left
  · rintro _ _ ⟨nw, ci, q1, q2, rfl, rfl⟩
    exact k nw ci q1 q2
  refine whl_inv (LnI text (its.map (·.2)) ts li a0 a1 h) (fun m σ h' I => ?_) text.length 1000000 (by omega) ⟨⟨[], its, tr, [], [], 0, e, rfl, by rw [e]; exact Nat.le_refl _, ok, trivial, rfl, by simp, by simp, rfl⟩⟩
  obtain ⟨pre, rest, tr', nw, dn, ci, e1, hci, hm, ok', htk, hmap, hnw, rfl, rfl⟩ := I
  have hpl : pre.length ≤ text.length := by rw [e1, List.length_append]; omega
  conv => whnf
  refine len_str hL fun N hN => ?_
  conv => whnf
  have sp : ∀ (rest' : List Itm) (tr'' : Nat), ren rest ++ List.replicate tr' 32 = 32 :: (ren rest' ++ List.replicate tr'' 32) → ItOk tr'' rest' → rest'.map (·.2) = rest.map (·.2) → wI (decide (ci < N)) (∃ m', m = m' + 1 ∧ wSs T (callF T (d + 2)) ((f_tokenize.body.at' 1).bd.at' 1).bd [a0, a1, some (.ol (ts ++ nw)), some (.v (.d (.int li))), some (.v (.d (.str text))), some (.v (.d (.int ci)))] h' (QT (LnI text (its.map (·.2)) ts li a0 a1 h' m') fun σ f h_1 => match f with
      | Fl.nx => ∃ nw ci, TokL nw (its.map (·.2)) ∧ nw.length ≤ text.length ∧ σ = [a0, a1, some (.ol (ts ++ nw)), some (.v (.d (.int li))), some (.v (.d (.str text))), some (.v (.d (.int ci)))] ∧ h_1 = h'
      | f => Q σ f h_1)) (∃ nw' ci', TokL nw' (its.map (·.2)) ∧ nw'.length ≤ text.length ∧ [a0, a1, some (.ol (ts ++ nw)), some (.v (.d (.int li))), some (.v (.d (.str text))), some (.v (.d (.int ci)))] = [a0, a1, some (.ol (ts ++ nw')), some (.v (.d (.int li))), some (.v (.d (.str text))), some (.v (.d (.int ci')))] ∧ h' = h') := by
    intro rest' tr'' q1 q2 q3
    have hlt : ci < N := by rw [hci, hN, e1, q1]; simp; omega
    refine wI_t (decide_eq_true hlt) ?_
    rw [q1] at hm
    refine ⟨m - 1, by simp at hm; omega, ?_⟩
    conv => whnf
    refine str_at (pre := pre) (c := 32) (post := ren rest' ++ List.replicate tr'' 32) (by rw [e1, q1]) hci hL ?_
    conv => whnf
    exact ⟨⟨pre ++ [32], rest', tr'', nw, dn, ci + 1, by rw [e1, q1]; simp, by rw [List.length_append, hci]; rfl, by simp at hm ⊢; omega, q2, htk, by rw [q3]; exact hmap, by rw [List.length_append]; omega, rfl, rfl⟩⟩
  cases rest with
  | nil =>
    cases tr' with
    | zero =>
      have hge : ¬ ci < N := by rw [hci, hN, e1]; simp [ren]
      refine wI_f (decide_eq_false hge) ?_
      exact ⟨nw, ci, by rw [hmap]; simpa using htk, by omega, rfl, rfl⟩
    | succ n => exact sp [] n rfl .nil rfl
  | cons it r =>
    obtain ⟨j, t⟩ := it
    cases ok' with
    | cons o1 o2 o3 =>
      cases j with
      | succ j => exact sp ((j, t) :: r) tr' (by rw [ren_cons, ren_cons]; simp [List.replicate_succ]) (.cons o1 o2 o3) rfl
      | zero =>
        clear sp
        cases hw : t.text with
        | nil => exact absurd hw o1.ne
        | cons c w =>
          have e2 : text = pre ++ (t.text ++ (ren r ++ List.replicate tr' 32)) := by rw [e1, ren_cons]; simp
          have hlt : ci < N := by rw [hci, hN, e2, hw]; simp; omega
          refine wI_t (decide_eq_true hlt) ?_
          have hm2 : (t.text ++ (ren r ++ List.replicate tr' 32)).length ≤ m := by rw [ren_cons] at hm; simpa using hm
          have htl : t.text.length = w.length + 1 := by rw [hw]; rfl
          rw [List.length_append] at hm2
          refine ⟨m - 1, by omega, ?_⟩
          conv => whnf
          refine str_at (pre := pre) (c := c) (post := w ++ (ren r ++ List.replicate tr' 32)) (by rw [e2, hw]; rfl) hci hL ?_
          conv => whnf
          have hc32 : c ≠ 32 := (o1.no c (by rw [hw]; simp)).1
          refine wI_f (by simpa using hc32) ?_
          conv => whnf
          refine scan_ok e2 hci hl o1 o2 ?_
          refine wL_app (xs := ts ++ nw) (by rw [List.length_append]; unfold LIM; omega) ?_
          conv => whnf
          refine ix_last (σ := none) ?_
          conv => whnf
          have htx : t.text.length ≤ text.length := by rw [e2]; simp; omega
          refine len_str (text := t.text) (by omega) fun N2 hN2 => ?_
          refine ⟨⟨pre ++ t.text, r, tr', nw ++ [tokD t li ci], dn ++ [t], ci + N2, by rw [e2]; simp, by rw [List.length_append, hci, hN2]; push_cast; rfl, by omega, o3, TokL.append htk ⟨⟨li, ci, rfl⟩, trivial⟩, by rw [hmap]; simp, by rw [List.length_append, List.length_append]; simp; omega, by rw [← List.append_assoc], rfl⟩⟩
/-! ### all lines -/
abbrev Ln := List Itm × Nat
def lnT (l : Ln) : List Nat := ren l.1 ++ List.replicate l.2 32
def lnK (l : Ln) : List TK := l.1.map (·.2)
structure LsOk (ls : List Ln) : Prop where
  ne : ls ≠ []
  ok : ∀ l ∈ ls, ItOk l.2 l.1
  size : ((ls.map lnT).map List.length).sum + ls.length ≤ 800000
def enD (kE : TK) (n : Int) : D := tokD kE n 0
theorem tokenize_ok {d : Nat} {h : Hp} {ls : List Ln} (hls : LsOk ls) {Q : X → Hp → Prop} (k : ∀ ts, TokL ts (ls.flatMap lnK ++ [⟨kE, []⟩]) → ts.length ≤ 1000000 → Q (.fl ts) h) : Call (callF T (d + 3)) 2 [.d (.str (joinS [10] (ls.map lnT)))] h Q := by
  have hsz : (joinS [10] (ls.map lnT)).length ≤ 800000 := by
    have h1 := joinS_len [10] (ls.map lnT)
    have h3 := hls.size
    simp only [List.length_map, List.length_cons, List.length_nil] at h1
    omega
  have hone : ∀ l ∈ ls, (lnT l).length ≤ 800000 := fun l hl => by
    have := le_sum (List.mem_map.mpr ⟨lnT l, List.mem_map_of_mem hl, rfl⟩ : (lnT l).length ∈ (ls.map lnT).map List.length)
    have := hls.size
    omega
  have hsp : splitC 10 (joinS [10] (ls.map lnT)) = ls.map lnT := splitC_join (by simpa using hls.ne) fun w hw x hx => by
    obtain ⟨l, hl, rfl⟩ := List.mem_map.mp hw
    exact (hls.ok l hl).no10 x hx
  refine call_in rfl rfl ?_
  refine seq_cut (fun σ h' => ∃ a0, σ = [a0, some (.v (.d (.lst ((ls.map lnT).map .str)))), some (.ol []), none, none, none] ∧ h = h') ?_ ?_
  · refine wL_of (a := .fl ((ls.map lnT).map .str)) ?_ ⟨_, rfl, rfl⟩
    show (if _ then _ else _) = _
    rw [if_pos (by rw [decide_eq_true (by unfold LIM; omega)]; rfl), hsp]
  rintro _ _ ⟨a0, rfl, rfl⟩
  conv => whnf
  have hen : ∀ (l : List (List Nat)) (n : Nat), enumF n (l.map .str) = (l.zipIdx n).map fun p => .tup [.int p.2, .str p.1] := by
    intro l
    induction l with
    | nil => intro n; rfl
    | cons x l ih => intro n; rw [List.map_cons]; unfold enumF; rw [ih]; rfl
  refine for_data (fun rest σ h' => ∃ (dn tl : List Ln) (ts : List D) (a3 a4 a5 : Option SV), ls = dn ++ tl ∧ rest = enumF dn.length ((tl.map lnT).map .str) ∧ TokL ts (dn.flatMap lnK) ∧ ts.length ≤ ((dn.map lnT).map List.length).sum ∧ σ = [a0, some (.v (.d (.lst ((ls.map lnT).map .str)))), some (.ol ts), a3, a4, a5] ∧ h' = h) (fun x rest σ h' I => ?_) (fun σ h' I => ?_) _ ⟨[], ls, [], none, none, none, rfl, rfl, trivial, by simp, rfl, rfl⟩
  · obtain ⟨dn, tl, ts, a3, a4, a5, e1, e2, htk, hlen, rfl, rfl⟩ := I
    cases tl with
    | nil => cases e2
    | cons l tl =>
      rw [List.map_cons, List.map_cons] at e2
      unfold enumF at e2
      cases e2
      have hl : l ∈ ls := by rw [e1]; simp
      have hsum : ((dn.map lnT).map List.length).sum + (lnT l).length ≤ 800000 := by
        have := hls.size
        rw [e1] at this
        simp only [List.map_append, List.map_cons, List.sum_append, List.sum_cons] at this
        omega
      obtain ⟨li, hli⟩ : ∃ li : Int, li = dn.length := ⟨_, rfl⟩
      refine ⟨[a0, some (.v (.d (.lst ((ls.map lnT).map .str)))), some (.ol ts), some (.v (.d (.int li))), some (.v (.d (.str (lnT l)))), a5], by rw [hli]; rfl, ?_⟩
      refine line_ok (ss := .nil) rfl (hls.ok l hl) (by have := hone l hl; omega) (by omega) fun nw ci q1 q2 => ?_
      exact ⟨dn ++ [l], tl, ts ++ nw, _, _, _, by rw [e1]; simp, by rw [List.length_append]; rfl, by rw [List.flatMap_append, List.flatMap_cons, List.flatMap_nil, List.append_nil]; exact TokL.append htk q1, by rw [List.map_append, List.map_append, List.sum_append, List.length_append]; simp only [List.map_cons, List.map_nil, List.sum_cons, List.sum_nil]; omega, rfl, rfl⟩
  · obtain ⟨dn, tl, ts, a3, a4, a5, e1, e2, htk, hlen, rfl, rfl⟩ := I
    cases tl with
    | cons l tl => rw [List.map_cons, List.map_cons] at e2; unfold enumF at e2; cases e2
    | nil =>
      rw [List.append_nil] at e1
      subst e1
      have := hls.size
      conv => whnf
      refine tok_new ?_
      refine wL_app (xs := ts) (by unfold LIM; omega) ?_
      exact k _ (TokL.append htk ⟨⟨_, _, rfl⟩, trivial⟩) (by rw [List.length_append]; simp; omega)
end PF
set_option linter.all false
set_option maxRecDepth 100000
namespace PF
open K
def ph (ts : List D) (p : Int) : Hp := [.ins 5 [.d (.lst ts), .d (.int p)]]
/-- what is left of the tokens -/
structure Rem (ts : List D) (p : Int) (r : List TK) : Prop where
  p : ∃ n : Nat, p = n ∧ TokL (ts.drop n) r
theorem Rem.at_ {ts : List D} {p : Int} {t : TK} {r : List TK} (h : Rem ts p (t :: r)) : ∃ (n : Nat) (l c : Int), p = n ∧ ts[n]? = some (tokD t l c) ∧ Rem ts (p + 1) r := by
  obtain ⟨n, hp, ht⟩ := h
  cases q : ts.drop n with
  | nil => rw [q] at ht; exact ht.elim
  | cons d ds =>
    rw [q] at ht
    obtain ⟨⟨l, c, rfl⟩, h2⟩ := ht
    have hn : n < ts.length := by
      rcases Nat.lt_or_ge n ts.length with z | z
      · exact z
      · rw [List.drop_eq_nil_of_le z] at q; cases q
    rw [List.drop_eq_getElem_cons hn] at q
    have q1 := (List.cons.inj q).1
    have q2 := (List.cons.inj q).2
    refine ⟨n, l, c, hp, by rw [List.getElem?_eq_getElem hn, q1], ⟨n + 1, by rw [hp]; rfl, by rw [q2]; exact h2⟩⟩
theorem ix_tok {ts : List D} {p : Int} {n : Nat} {x : D} {h : Hp} {K : V → Prop} (hp : p = n) (hx : ts[n]? = some x) (k : K (.d x)) : wL (ixV (.d (.lst ts)) (.d (.int p)) h) K := by
  subst hp
  refine wL_of (a := .d x) ?_ k
  show (ixD _ _).map _ = _
  rw [ixD_lst hx]; rfl
section
variable {d : Nat} {ts : List D} {p : Int} {t : TK} {r : List TK} {Q : X → Hp → Prop}
theorem peek_ok (h : Rem ts p (t :: r)) (k : ∀ l c, Q (dat (tokD t l c)) (ph ts p)) : Call (callF T (d + 1)) 27 [.ref 0] (ph ts p) Q := by
  obtain ⟨n, l, c, hp, hx, h1⟩ := h.at_
  refine call_in rfl rfl ?_
  conv => whnf
  refine ix_tok hp hx ?_
  exact k l c
theorem adv_ok (h : Rem ts p (t :: r)) (k : ∀ l c p', Rem ts p' r → Q (dat (tokD t l c)) (ph ts p')) : Call (callF T (d + 1)) 28 [.ref 0] (ph ts p) Q := by
  obtain ⟨n, l, c, hp, hx, h1⟩ := h.at_
  refine call_in rfl rfl ?_
  conv => whnf
  refine ix_tok (n := n) (by omega) hx ?_
  exact k l c (p + 1) h1
theorem str_ne {s u : List Nat} {A B : Prop} (h : s = u) (b : B) : wI (!(s == u)) A B := by
  subst h
  exact wI_f (by simp) b
theorem acc_yes {x : List Nat} (h : Rem ts p (t :: r)) (hx : t.text = x) (k : ∀ p', Rem ts p' r → Q (dat (.bl true)) (ph ts p')) : Call (callF T (d + 2)) 30 [.ref 0, .d (.str x)] (ph ts p) Q := by
  obtain ⟨n, l, c, hp, _, h1⟩ := h.at_
  refine call_in rfl rfl ?_
  conv => whnf
  refine peek_ok h fun l c => ?_
  conv => whnf
  refine str_ne hx ?_
  exact k (p + 1) h1
theorem acc_no {x : List Nat} (h : Rem ts p (t :: r)) (hx : t.text ≠ x) (k : Q (dat (.bl false)) (ph ts p)) : Call (callF T (d + 2)) 30 [.ref 0, .d (.str x)] (ph ts p) Q := by
  refine call_in rfl rfl ?_
  conv => whnf
  refine peek_ok h fun l c => ?_
  conv => whnf
  refine wI_not (wI_f (by simpa using hx) ?_)
  exact k
theorem exp_ok {x : List Nat} (h : Rem ts p (t :: r)) (hx : t.text = x) (k : ∀ l c p', Rem ts p' r → Q (dat (tokD t l c)) (ph ts p')) : Call (callF T (d + 2)) 31 [.ref 0, .d (.str x)] (ph ts p) Q := by
  refine call_in rfl rfl ?_
  conv => whnf
  refine peek_ok h fun l c => ?_
  conv => whnf
  refine str_ne hx ?_
  conv => whnf
  exact adv_ok h k
theorem kin_ok {x : List Nat} (h : Rem ts p (t :: r)) (hx : t.kind = x) (k : ∀ l c p', Rem ts p' r → Q (dat (tokD t l c)) (ph ts p')) : Call (callF T (d + 2)) 32 [.ref 0, .d (.str x)] (ph ts p) Q := by
  refine call_in rfl rfl ?_
  conv => whnf
  refine peek_ok h fun l c => ?_
  conv => whnf
  refine str_ne hx ?_
  conv => whnf
  exact adv_ok h k
theorem term_kind (tm : Tm) : (tkT tm).kind ∈ [kW, kC, kN] := by cases tm <;> simp [tkT, nu, wd]
theorem term_ok {tm : Tm} (h : Rem ts p (tkT tm :: r)) (k : ∀ x p', IsTok x (tkT tm) → Rem ts p' r → Q (dat x) (ph ts p')) : Call (callF T (d + 2)) 41 [.ref 0] (ph ts p) Q := by
  refine call_in rfl rfl ?_
  conv => whnf
  refine peek_ok h fun l c => ?_
  refine in_tup (l := [kW, kC, kN]) rfl ?_
  rw [decide_eq_true (term_kind tm)]
  conv => whnf
  exact adv_ok h fun l c p' q => k _ p' ⟨l, c, rfl⟩ q
end
def OPX : List (List Nat) := [[43], [45], [42]]
theorem expr_parse {d : Nat} {ts : List D} {p : Int} {g : Ex} {t : TK} {r : List TK} {Q : X → Hp → Prop} (hv : ExV g) (h : Rem ts p (exK g ++ t :: r)) (ht : t.text ∉ OPX) (k : ∀ ds p', RelT ds g → Rem ts p' (t :: r) → Q (.fl ds) (ph ts p')) : Call (callF T (d + 3)) 40 [.ref 0] (ph ts p) Q := by
  obtain ⟨h0, h1, h2, h3, h4⟩ := hv
  cases g with
  | nil => simp at h0
  | cons q g =>
    obtain ⟨o, tm⟩ := q
    have ho : o = 43 := h2 (o, tm) rfl
    subst ho
    refine call_in rfl rfl ?_
    conv => whnf
    refine term_ok h fun x p' hx h => ?_
    conv => whnf
    refine whl_inv (fun m σ h' => ∃ (dn tl : Ex) (ds : List D) (p' : Int) (a2 : Option SV), (43, tm) :: g = dn ++ tl ∧ m = tl.length ∧ RelT ds dn ∧ Rem ts p' ((tl.flatMap fun q => [sy q.1, tkT q.2]) ++ t :: r) ∧ σ = [some (.v (.ref 0)), some (.ol ds), a2] ∧ h' = ph ts p') (fun m σ h' I => ?_) g.length 1000000 (by simp at h1; omega) ⟨[(43, tm)], g, _, p', none, rfl, rfl, .cons hx .nil, h, rfl, rfl⟩
    obtain ⟨dn, tl, ds, p', a2, e1, rfl, hr, h, rfl, rfl⟩ := I
    cases tl with
    | nil =>
      conv => whnf
      refine peek_ok h fun l c => ?_
      refine in_tup (l := OPX) rfl ?_
      rw [decide_eq_false ht]
      conv => whnf
      rw [List.append_nil] at e1
      rw [← e1] at hr
      exact k ds p' hr h
    | cons q tl =>
      obtain ⟨o, tm2⟩ := q
      have hop : OpOk o := h3 (o, tm2) (by rw [e1]; simp)
      conv => whnf
      refine peek_ok h fun l c => ?_
      conv => whnf
      refine wI_t (by rcases hop with rfl | rfl | rfl <;> rfl) ?_
      refine ⟨tl.length, rfl, ?_⟩
      conv => whnf
      refine adv_ok h fun l c p' h => ?_
      conv => whnf
      refine term_ok h fun x p' hx h => ?_
      have hdl : ds.length < LIM := by
        have := congrArg List.length e1
        rw [hr.len]
        simp at this h1
        unfold LIM; omega
      refine wL_app (xs := ds) hdl ?_
      exact ⟨dn ++ [(o, tm2)], tl, ds ++ [.tup [.str [o], x]], p', _, by rw [e1]; simp, rfl, hr.snoc hx, h, rfl, rfl⟩
end PF
set_option linter.all false
set_option maxRecDepth 100000
namespace PF
open K
theorem arK_cons (a : Ex) : ∀ tl : List Ex, arK (a :: tl) = exK a ++ tl.flatMap fun a => sy 44 :: exK a
  | [] => by simp [arK]
  | b :: tl => by
    rw [show arK (a :: b :: tl) = exK a ++ sy 44 :: arK (b :: tl) from rfl, arK_cons b tl, List.flatMap_cons]
    rfl
theorem TkOk.nsym {t : TK} (h : TkOk t) (hk : t.kind ≠ kS) {c : Nat} (hc : c ∈ SYM) : t.text ≠ [c] := by
  intro e
  cases h with
  | sym h => exact hk rfl
  | cell h => have e : [_] = [c] := e; cases e; exact (cel_sym _ h).1 hc
  | word _ _ h _ => dsimp only at e; exact (low_sym c (h c (by rw [e]; simp))).1 hc
  | key h => dsimp only at e; exact (low_sym c ((kws_low _ h).1 c (by rw [e]; simp))).1 hc
  | num _ _ h _ => dsimp only at e; exact (dig_sym c (h c (by rw [e]; simp))).1 hc
theorem term_nsym {tm : Tm} (h : TkOk (tkT tm)) {c : Nat} (hc : c ∈ SYM) : (tkT tm).text ≠ [c] := h.nsym (by cases tm <;> simp [tkT, nu, wd, kN, kW, kC, kS]) hc
theorem exK_head {g : Ex} (hv : ExV g) : ∃ tm r, exK g = tkT tm :: r ∧ TkOk (tkT tm) := by
  obtain ⟨h0, h1, h2, h3, h4⟩ := hv
  cases g with
  | nil => simp at h0
  | cons q g => exact ⟨q.2, _, rfl, h4 q (by simp)⟩
section
variable {d : Nat} {ts : List D} {p : Int}
theorem pcall_ok {t : TK} {r : List TK} {x f : Nm} {as : List Ex} {i j : Nat} {e : Ex} {tk : D} {Q : X → Hp → Prop} (hv : SmV (.call x f as i j e))
    (h : Rem ts p (wd x :: sy 61 :: wd f :: sy 40 :: (arK as ++ sy 41 :: kw [115, 104, 97, 114, 101] :: nu i :: sy 47 :: nu j :: kw [101, 108, 115, 101] :: (exK e ++ t :: r)))) (ht : t.text ∉ OPX)
    (k : ∀ x' p', RelS x' (.call x f as i j e) → Rem ts p' (t :: r) → Q (dat x') (ph ts p')) : Call (callF T (d + 4)) 38 [.ref 0, .d tk] (ph ts p) Q := by
  unfold SmV at hv
  obtain ⟨v1, v2, v3, v4, v5, v6, v7⟩ := hv
  refine call_in rfl rfl ?_
  refine seq_cut (fun σ h' => ∃ p' dx, IsTok dx (wd x) ∧ Rem ts p' (sy 61 :: wd f :: sy 40 :: (arK as ++ sy 41 :: kw [115, 104, 97, 114, 101] :: nu i :: sy 47 :: nu j :: kw [101, 108, 115, 101] :: (exK e ++ t :: r))) ∧ σ = [some (.v (.ref 0)), some (.v (.d tk)), some (.v (.d dx)), none, none, none, none] ∧ h' = ph ts p') ?_ ?_
  · conv => whnf
    refine kin_ok h rfl fun l c p' h => ?_
    exact ⟨p', _, ⟨l, c, rfl⟩, h, rfl, rfl⟩
  rintro _ _ ⟨p, dx, hdx, h, rfl, rfl⟩
  refine seq_cut (fun σ h' => ∃ p', Rem ts p' (wd f :: sy 40 :: (arK as ++ sy 41 :: kw [115, 104, 97, 114, 101] :: nu i :: sy 47 :: nu j :: kw [101, 108, 115, 101] :: (exK e ++ t :: r))) ∧ σ = [some (.v (.ref 0)), some (.v (.d tk)), some (.v (.d dx)), none, none, none, none] ∧ h' = ph ts p') ?_ ?_
  · conv => whnf
    refine exp_ok h rfl fun l c p' h => ?_
    exact ⟨p', h, rfl, rfl⟩
  rintro _ _ ⟨p, h, rfl, rfl⟩
  refine seq_cut (fun σ h' => ∃ p' df, IsTok df (wd f) ∧ Rem ts p' (sy 40 :: (arK as ++ sy 41 :: kw [115, 104, 97, 114, 101] :: nu i :: sy 47 :: nu j :: kw [101, 108, 115, 101] :: (exK e ++ t :: r))) ∧ σ = [some (.v (.ref 0)), some (.v (.d tk)), some (.v (.d dx)), some (.v (.d df)), some (.ol []), none, none] ∧ h' = ph ts p') ?_ ?_
  · conv => whnf
    refine kin_ok h rfl fun l c p' h => ?_
    exact ⟨p', _, ⟨l, c, rfl⟩, h, rfl, rfl⟩
  rintro _ _ ⟨p, df, hdf, h, rfl, rfl⟩
  refine seq_cut (fun σ h' => ∃ p', Rem ts p' (arK as ++ sy 41 :: kw [115, 104, 97, 114, 101] :: nu i :: sy 47 :: nu j :: kw [101, 108, 115, 101] :: (exK e ++ t :: r)) ∧ σ = [some (.v (.ref 0)), some (.v (.d tk)), some (.v (.d dx)), some (.v (.d df)), some (.ol []), none, none] ∧ h' = ph ts p') ?_ ?_
  · conv => whnf
    refine exp_ok h rfl fun l c p' h => ?_
    exact ⟨p', h, rfl, rfl⟩
  rintro _ _ ⟨p, h, rfl, rfl⟩
  -- the arguments
  generalize hR : kw [115, 104, 97, 114, 101] :: nu i :: sy 47 :: nu j :: kw [101, 108, 115, 101] :: (exK e ++ t :: r) = R at h
  refine seq_cut (fun σ h' => ∃ p' ds, RelEs ds as ∧ Rem ts p' R ∧ σ = [some (.v (.ref 0)), some (.v (.d tk)), some (.v (.d dx)), some (.v (.d df)), some (.ol ds), none, none] ∧ h' = ph ts p') ?_ ?_
  · cases as with
    | nil =>
      conv => whnf
      refine acc_yes h rfl fun p' h => ?_
      exact ⟨p', [], .nil, h, rfl, rfl⟩
    | cons a as =>
      have va := v3 a (by simp)
      obtain ⟨tm, rr, e1, hok⟩ := exK_head va
      rw [arK_cons] at h
      conv => whnf
      refine acc_no (by rw [e1] at h; exact h) (term_nsym hok (by decide)) ?_
      have nxt : ∀ (tl : List Ex), ∃ t0 r0, (tl.flatMap fun a => sy 44 :: exK a) ++ sy 41 :: R = t0 :: r0 ∧ t0.text ∉ OPX := by
        intro tl
        cases tl with
        | nil => exact ⟨sy 41, R, rfl, by decide⟩
        | cons b tl => exact ⟨sy 44, _, rfl, by decide⟩
      conv => whnf
      obtain ⟨t0, r0, e2, hn⟩ := nxt as
      rw [List.append_assoc, e2] at h
      refine expr_parse va h hn fun ds p' hr h => ?_
      rw [← e2] at h
      conv => whnf
      refine whl_inv (fun m σ h' => ∃ (dn tl : List Ex) (es : List D) (p' : Int), a :: as = dn ++ tl ∧ m = tl.length ∧ RelEs es dn ∧ Rem ts p' ((tl.flatMap fun a => sy 44 :: exK a) ++ sy 41 :: R) ∧ σ = [some (.v (.ref 0)), some (.v (.d tk)), some (.v (.d dx)), some (.v (.d df)), some (.ol es), none, none] ∧ h' = ph ts p') (fun m σ h' I => ?_) as.length 1000000 (by simp at v4; omega) ⟨[a], as, [.lst ds], p', rfl, rfl, .cons ⟨ds, rfl, hr⟩ .nil, h, rfl, rfl⟩
      obtain ⟨dn, tl, es, p', e3, rfl, hr, h, rfl, rfl⟩ := I
      cases tl with
      | nil =>
        conv => whnf
        refine acc_no h (by decide) ?_
        conv => whnf
        refine exp_ok h rfl fun l c p' h => ?_
        rw [List.append_nil] at e3
        exact ⟨p', es, by rw [e3]; exact hr, h, rfl, rfl⟩
      | cons b tl =>
        conv => whnf
        refine acc_yes h rfl fun p' h => ?_
        conv => whnf
        refine ⟨tl.length, rfl, ?_⟩
        conv => whnf
        obtain ⟨t0, r0, e2, hn⟩ := nxt tl
        have h2 : Rem ts p' (exK b ++ t0 :: r0) := by rw [← e2, ← List.append_assoc]; exact h
        refine expr_parse (v3 b (by rw [e3]; simp)) h2 hn fun ds p' hd h => ?_
        rw [← e2] at h
        have hel : es.length < LIM := by
          have := congrArg List.length e3
          rw [hr.len]
          simp at this v4
          unfold LIM; omega
        refine wL_app (xs := es) hel ?_
        exact ⟨dn ++ [b], tl, es ++ [.lst ds], p', by rw [e3]; simp, rfl, hr.snoc ⟨ds, rfl, hd⟩, h, rfl, rfl⟩
  rintro _ _ ⟨p, as', has, h, rfl, rfl⟩
  subst hR
  conv => whnf
  refine exp_ok h rfl fun l c p h => ?_
  conv => whnf
  refine kin_ok h rfl fun l1 c1 p h => ?_
  conv => whnf
  refine exp_ok h rfl fun l c p h => ?_
  conv => whnf
  refine kin_ok h rfl fun l2 c2 p h => ?_
  conv => whnf
  refine exp_ok h rfl fun l c p h => ?_
  conv => whnf
  refine expr_parse v7 h ht fun ds p hd h => ?_
  exact k _ p (.call hdx hdf has ⟨l1, c1, rfl⟩ ⟨l2, c2, rfl⟩ ⟨ds, rfl, hd⟩) h
end
structure StmP (n d : Nat) : Prop where
  p : ∀ {ts : List D} {p : Int} {t : TK} {r : List TK} {Q : X → Hp → Prop} (s : Sm), SmV s → dpt s ≤ n → Rem ts p (stK s ++ t :: r) → t.text ≠ [101, 108, 115, 101] → (∀ x p', RelS x s → Rem ts p' (t :: r) → Q (dat x) (ph ts p')) → Call (callF T d) 36 [.ref 0] (ph ts p) Q
structure BlkP (n d : Nat) : Prop where
  p : ∀ {ts : List D} {p : Int} {r : List TK} {Q : X → Hp → Prop} (ss : List Sm), SmsV ss → dpts ss ≤ n → ss.length ≤ 1000 → Rem ts p (sy 123 :: (stKs ss ++ sy 125 :: r)) → (∀ ds p', RelSs ds ss → Rem ts p' r → Q (.fl ds) (ph ts p')) → Call (callF T d) 35 [.ref 0] (ph ts p) Q
def STW : List (List Nat) := [[115, 101, 116], [112, 117, 116], [101, 109, 105, 116], [114, 101, 116, 117, 114, 110], [105, 102], [108, 111, 111, 112], [99, 97, 108, 108]]
theorem stK_head (s : Sm) : ∃ w r, stK s = kw w :: r ∧ w ∈ STW := by
  cases s <;> simp only [stK] <;> exact ⟨_, _, rfl, by decide⟩
theorem stKs_cons (s : Sm) (ss : List Sm) : stKs (s :: ss) = stK s ++ stKs ss := by simp only [stKs]
theorem stKs_head (ss : List Sm) (r : List TK) : ∃ t r', stKs ss ++ sy 125 :: r = t :: r' ∧ t.text ≠ [101, 108, 115, 101] := by
  cases ss with
  | nil => exact ⟨sy 125, r, by simp [stKs], by decide⟩
  | cons s ss =>
    obtain ⟨w, r', e, hw⟩ := stK_head s
    refine ⟨kw w, r' ++ (stKs ss ++ sy 125 :: r), by rw [stKs_cons, e]; simp, ?_⟩
    intro q
    have q : w = [101, 108, 115, 101] := q
    rw [q] at hw
    exact absurd hw (by decide)
theorem pblk_of {n d : Nat} (st : StmP n (d + 2)) : BlkP n (d + 3) := by
  constructor
  intro ts p r Q ss hv hd hl h k
  refine call_in rfl rfl ?_
  conv => whnf
  refine exp_ok h rfl fun l c p' h => ?_
  conv => whnf
  refine whl_inv (fun m σ h' => ∃ (dn tl : List Sm) (ds : List D) (p' : Int), ss = dn ++ tl ∧ m = tl.length ∧ RelSs ds dn ∧ Rem ts p' (stKs tl ++ sy 125 :: r) ∧ σ = [some (.v (.ref 0)), some (.ol ds)] ∧ h' = ph ts p') (fun m σ h' I => ?_) ss.length 1000000 (by omega) ⟨[], ss, [], p', rfl, rfl, .nil, h, rfl, rfl⟩
  obtain ⟨dn, tl, ds, p', e1, rfl, hr, h, rfl, rfl⟩ := I
  cases tl with
  | nil =>
    conv => whnf
    refine acc_yes h rfl fun p' h => ?_
    rw [List.append_nil] at e1
    conv => whnf
    exact k ds p' (by rw [e1]; exact hr) h
  | cons s tl =>
    obtain ⟨w, r', e, hw⟩ := stK_head s
    have h0 : Rem ts p' (kw w :: (r' ++ (stKs tl ++ sy 125 :: r))) := by rw [stKs_cons, e] at h; simpa using h
    conv => whnf
    refine acc_no h0 (fun q => by
      have q : w = [125] := q
      rw [q] at hw
      exact absurd hw (by decide)) ?_
    conv => whnf
    refine ⟨tl.length, rfl, ?_⟩
    conv => whnf
    obtain ⟨t0, r0, e2, hn⟩ := stKs_head tl r
    have h1 : Rem ts p' (stK s ++ t0 :: r0) := by rw [← e2]; rw [stKs_cons, List.append_assoc] at h; exact h
    have hs : SmV s := SmsV_iff.mp hv s (by rw [e1]; simp)
    have hds : dpt s ≤ n := by
      have : ∀ (a : List Sm) (b : List Sm), dpts (a ++ s :: b) ≤ n → dpt s ≤ n := by
        intro a
        induction a with
        | nil => intro b q; rw [List.nil_append, dpts_cons] at q; omega
        | cons x a ih => intro b q; rw [List.cons_append, dpts_cons] at q; exact ih b (by omega)
      exact this dn tl (by rw [← e1]; exact hd)
    refine st.p s hs hds h1 hn fun x p' hx h => ?_
    rw [← e2] at h
    have hdl : ds.length < LIM := by
      have := congrArg List.length e1
      rw [hr.len]
      rw [List.length_append] at this
      unfold LIM; omega
    refine wL_app (xs := ds) hdl ?_
    exact ⟨dn ++ [s], tl, ds ++ [x], p', by rw [e1]; simp, rfl, hr.snoc hx, h, rfl, rfl⟩
theorem pif_ok {n d : Nat} (bl : BlkP n (d + 3)) {ts : List D} {p : Int} {t : TK} {r : List TK} {Q : X → Hp → Prop} {tk : D} {l : Ex} {o : Nat} {e : Ex} {a b : List Sm} (hv : SmV (.ifs l o e a b)) (hd : dpts a ≤ n ∧ dpts b ≤ n)
    (h : Rem ts p (exK l ++ sy o :: (exK e ++ sy 123 :: (stKs a ++ sy 125 :: ((if b.isEmpty then [] else kw [101, 108, 115, 101] :: sy 123 :: (stKs b ++ [sy 125])) ++ t :: r))))) (ht : t.text ≠ [101, 108, 115, 101])
    (k : ∀ x p', RelS x (.ifs l o e a b) → Rem ts p' (t :: r) → Q (dat x) (ph ts p')) : Call (callF T (d + 4)) 39 [.ref 0, .d tk] (ph ts p) Q := by
  unfold SmV at hv
  obtain ⟨v1, v2, v3, v4, v5, v6, v7⟩ := hv
  have ho : (sy o).text ∉ OPX := by rcases v2 with rfl | rfl | rfl <;> decide
  refine call_in rfl rfl ?_
  conv => whnf
  refine expr_parse v1 h ho fun dl p hl h => ?_
  conv => whnf
  refine peek_ok h fun l1 c1 => ?_
  conv => whnf
  refine wI_f (by rcases v2 with rfl | rfl | rfl <;> rfl) ?_
  conv => whnf
  refine adv_ok h fun l2 c2 p h => ?_
  conv => whnf
  refine expr_parse v3 h (by decide) fun dr p hr h => ?_
  conv => whnf
  refine bl.p a v4 hd.1 v6 h fun da p ha h => ?_
  conv => whnf
  cases b with
  | nil =>
    refine acc_no h ht ?_
    exact k _ p (.ifs ⟨dl, rfl, hl⟩ ⟨dr, rfl, hr⟩ ha .nil) h
  | cons s b =>
    refine acc_yes h rfl fun p h => ?_
    conv => whnf
    refine bl.p (s :: b) v5 hd.2 v7 (r := t :: r) (by simpa using h) fun db p hb h => ?_
    exact k _ p (.ifs ⟨dl, rfl, hl⟩ ⟨dr, rfl, hr⟩ ha hb) h
theorem pstm_of {n d : Nat} (bl : ∀ m, n = m + 1 → BlkP m (d + 4) ∧ BlkP m (d + 5)) : StmP n (d + 6) := by
  constructor
  intro ts p t r Q s hv hd h ht k
  cases s with
  | set x e =>
    have hv' := hv
    unfold SmV at hv
    simp only [stK] at h
    refine call_in rfl rfl ?_
    conv => whnf
    refine peek_ok h fun l c => ?_
    conv => whnf
    refine adv_ok h fun l c p h => ?_
    conv => whnf
    refine call_in rfl rfl ?_
    conv => whnf
    refine kin_ok h rfl fun l1 c1 p h => ?_
    conv => whnf
    refine exp_ok h rfl fun l2 c2 p h => ?_
    conv => whnf
    refine expr_parse hv.2 (t := sy 59) (r := t :: r) (by simpa using h) (by decide) fun ds p hr h => ?_
    conv => whnf
    refine exp_ok h rfl fun l2 c2 p h => ?_
    exact k _ p (.set ⟨l1, c1, rfl⟩ ⟨ds, rfl, hr⟩) h
  | put x e =>
    unfold SmV at hv
    simp only [stK] at h
    refine call_in rfl rfl ?_
    conv => whnf
    refine peek_ok h fun l c => ?_
    conv => whnf
    refine adv_ok h fun l c p h => ?_
    conv => whnf
    refine call_in rfl rfl ?_
    conv => whnf
    refine kin_ok h rfl fun l1 c1 p h => ?_
    conv => whnf
    refine exp_ok h rfl fun l2 c2 p h => ?_
    conv => whnf
    refine expr_parse hv.2 (t := sy 59) (r := t :: r) (by simpa using h) (by decide) fun ds p hr h => ?_
    conv => whnf
    refine exp_ok h rfl fun l2 c2 p h => ?_
    exact k _ p (.put ⟨l1, c1, rfl⟩ ⟨ds, rfl, hr⟩) h
  | emit e =>
    unfold SmV at hv
    simp only [stK] at h
    refine call_in rfl rfl ?_
    conv => whnf
    refine peek_ok h fun l c => ?_
    conv => whnf
    refine adv_ok h fun l c p h => ?_
    conv => whnf
    refine call_in rfl rfl ?_
    conv => whnf
    refine expr_parse hv (t := sy 59) (r := t :: r) (by simpa using h) (by decide) fun ds p hr h => ?_
    conv => whnf
    refine exp_ok h rfl fun l2 c2 p h => ?_
    exact k _ p (.emit ⟨ds, rfl, hr⟩) h
  | ret e =>
    unfold SmV at hv
    simp only [stK] at h
    refine call_in rfl rfl ?_
    conv => whnf
    refine peek_ok h fun l c => ?_
    conv => whnf
    refine adv_ok h fun l c p h => ?_
    conv => whnf
    refine call_in rfl rfl ?_
    conv => whnf
    refine expr_parse hv (t := sy 59) (r := t :: r) (by simpa using h) (by decide) fun ds p hr h => ?_
    conv => whnf
    refine exp_ok h rfl fun l2 c2 p h => ?_
    exact k _ p (.ret ⟨ds, rfl, hr⟩) h
  | call x f as i j e =>
    simp only [stK] at h
    refine call_in rfl rfl ?_
    conv => whnf
    refine peek_ok h fun l c => ?_
    conv => whnf
    refine adv_ok h fun l c p h => ?_
    conv => whnf
    refine call_in rfl rfl ?_
    conv => whnf
    refine pcall_ok hv (t := sy 59) (r := t :: r) (by simpa using h) (by decide) fun x' p hx h => ?_
    conv => whnf
    refine exp_ok h rfl fun l2 c2 p h => ?_
    exact k _ p hx h
  | ifs l o e a b =>
    simp only [dpt] at hd
    obtain ⟨m, rfl⟩ : ∃ m, n = m + 1 := ⟨n - 1, by omega⟩
    simp only [stK] at h
    refine call_in rfl rfl ?_
    conv => whnf
    refine peek_ok h fun l c => ?_
    conv => whnf
    refine acc_yes h rfl fun p h => ?_
    conv => whnf
    exact pif_ok (bl m rfl).1 hv ⟨by omega, by omega⟩ (by simpa using h) ht k
  | loop e b =>
    simp only [dpt] at hd
    obtain ⟨m, rfl⟩ : ∃ m, n = m + 1 := ⟨n - 1, by omega⟩
    unfold SmV at hv
    simp only [stK] at h
    refine call_in rfl rfl ?_
    conv => whnf
    refine peek_ok h fun l c => ?_
    conv => whnf
    refine acc_no h (by decide) ?_
    conv => whnf
    refine acc_yes h rfl fun p h => ?_
    conv => whnf
    refine expr_parse hv.1 (t := sy 123) (r := stKs b ++ sy 125 :: t :: r) (by simpa using h) (by decide) fun ds p hr h => ?_
    conv => whnf
    refine (bl m rfl).2.p b hv.2.1 (by omega) hv.2.2 h fun db p hb h => ?_
    exact k _ p (.loop ⟨ds, rfl, hr⟩ hb) h
theorem pstm_ok (n : Nat) : ∀ d, StmP n (d + 6 + 3 * n) ∧ BlkP n (d + 7 + 3 * n) := by
  induction n with
  | zero => exact fun d => ⟨pstm_of fun m q => (nomatch q), pblk_of (d := d + 4) (pstm_of fun m q => (nomatch q))⟩
  | succ n ih =>
    intro d
    have s : StmP (n + 1) (d + 6 + 3 * (n + 1)) := by
      have := pstm_of (n := n + 1) (d := d + 3 + 3 * n) fun m q => by
        cases q
        have h1 := (ih d).2
        have e : d + 7 + 3 * n = d + 3 + 3 * n + 4 := by omega
        rw [e] at h1
        have h2 := (ih (d + 1)).2
        have e : d + 1 + 7 + 3 * n = d + 3 + 3 * n + 5 := by omega
        rw [e] at h2
        exact ⟨h1, h2⟩
      have e : d + 6 + 3 * (n + 1) = d + 3 + 3 * n + 6 := by omega
      rw [e]
      exact this
    refine ⟨s, ?_⟩
    have e : d + 6 + 3 * (n + 1) = d + 7 + 3 * n + 2 := by omega
    rw [e] at s
    have := pblk_of s
    have e : d + 7 + 3 * (n + 1) = d + 7 + 3 * n + 3 := by omega
    rw [e]
    exact this
end PF
set_option linter.all false
set_option maxRecDepth 100000
namespace PF
open K
structure FxV (n : Nat) (f : Fx) : Prop where
  nm : NmV f.name
  ps : ∀ x ∈ f.ps, NmV x
  pl : f.ps.length ≤ 100
  bd : SmsV f.body
  bl : f.body.length ≤ 1000
  dp : dpts f.body ≤ n
theorem pmK_cons (a : Nm) : ∀ tl : List Nm, pmK (a :: tl) = wd a :: tl.flatMap fun a => [sy 44, wd a]
  | [] => by simp [pmK]
  | b :: tl => by
    rw [show pmK (a :: b :: tl) = wd a :: sy 44 :: pmK (b :: tl) from rfl, pmK_cons b tl, List.flatMap_cons]
    rfl
theorem fun_new {d : Nat} {a b c : D} {Q : List D → Prop} (k : Q [a, b, c]) : Call (callF T (d + 1)) 25 [.ref 0, .d a, .d b, .d c] [.ins 4 []] fun r h2 => wL (recOf 4 r h2) fun ds => Q ds := by
  refine call_in rfl rfl ?_
  exact k
theorem pfun_ok {n d : Nat} {ts : List D} {p : Int} {r : List TK} {f : Fx} {Q : X → Hp → Prop} (hv : FxV n f) (h : Rem ts p (fxK f ++ r)) (k : ∀ x p', RelF x f → Rem ts p' r → Q (dat x) (ph ts p')) : Call (callF T (d + 8 + 3 * n)) 34 [.ref 0] (ph ts p) Q := by
  have bl := (pstm_ok n d).2
  have e8 : d + 8 + 3 * n = (d + 7 + 3 * n) + 1 := by omega
  rw [e8]
  generalize hD : d + 7 + 3 * n = D at bl
  obtain ⟨E, rfl⟩ : ∃ E, D = E + 2 := ⟨D - 2, by omega⟩
  unfold fxK at h
  refine call_in rfl rfl ?_
  conv => whnf
  refine exp_ok h rfl fun l c p h => ?_
  conv => whnf
  refine kin_ok h rfl fun l1 c1 p h => ?_
  conv => whnf
  refine exp_ok h rfl fun l c p h => ?_
  refine if_join (ss := f_Parser_parse_function.body.dr 4) (fun b h' => h' = ph ts p ∧ (b = true ↔ f.ps ≠ [])) (fun σ h' => ∃ ds p', RelP ds f.ps ∧ Rem ts p' (sy 41 :: sy 123 :: (stKs f.body ++ sy 125 :: r)) ∧ σ = [some (.v (.ref 0)), some (.v (.d (tokD (wd f.name) l1 c1))), some (.ol ds)] ∧ h' = ph ts p') ?_ (fun h' e => ?_) (fun h' e => ?_) ?_
  · conv => whnf
    cases hps : f.ps with
    | nil =>
      rw [hps] at h
      refine peek_ok h fun l c => ?_
      exact ⟨rfl, by constructor <;> intro q <;> first | cases q | exact absurd rfl q⟩
    | cons a ps =>
      rw [hps, pmK_cons] at h
      refine peek_ok h fun l c => ?_
      exact ⟨rfl, by constructor <;> intro q <;> first | rfl | simp⟩
  · obtain ⟨rfl, hb⟩ := e
    have hne := hb.mp rfl
    cases hps : f.ps with
    | nil => exact absurd hps hne
    | cons a ps =>
      rw [hps, pmK_cons] at h
      have hpl := hv.pl
      rw [hps] at hpl
      conv => whnf
      refine adv_ok h fun l c p h => ?_
      conv => whnf
      refine whl_inv (fun m σ h' => ∃ (dn tl : List Nm) (ds : List D) (p' : Int), a :: ps = dn ++ tl ∧ m = tl.length ∧ RelP ds dn ∧ Rem ts p' ((tl.flatMap fun a => [sy 44, wd a]) ++ sy 41 :: sy 123 :: (stKs f.body ++ sy 125 :: r)) ∧ σ = [some (.v (.ref 0)), some (.v (.d (tokD (wd f.name) l1 c1))), some (.ol ds)] ∧ h' = ph ts p') (fun m σ h' I => ?_) ps.length 1000000 (by simp at hpl; omega) ⟨[a], ps, _, p, rfl, rfl, .cons ⟨l, c, rfl⟩ .nil, by simpa using h, rfl, rfl⟩
      obtain ⟨dn, tl, ds, p', e3, rfl, hr, h, rfl, rfl⟩ := I
      cases tl with
      | nil =>
        conv => whnf
        refine acc_no h (by decide) ?_
        rw [List.append_nil] at e3
        exact ⟨ds, p', by rw [e3]; exact hr, h, rfl, rfl⟩
      | cons b tl =>
        conv => whnf
        refine acc_yes h rfl fun p' h => ?_
        conv => whnf
        refine ⟨tl.length, rfl, ?_⟩
        conv => whnf
        refine kin_ok h rfl fun l c p' h => ?_
        have hel : ds.length < LIM := by
          have := congrArg List.length e3
          rw [hr.len]
          simp at this hpl
          unfold LIM; omega
        refine wL_app (xs := ds) hel ?_
        exact ⟨dn ++ [b], tl, ds ++ [tokD (wd b) l c], p', by rw [e3]; simp, rfl, hr.snoc ⟨l, c, rfl⟩, h, rfl, rfl⟩
  · obtain ⟨rfl, hb⟩ := e
    have hps : f.ps = [] := by
      cases hps : f.ps with
      | nil => rfl
      | cons a ps => exact absurd (hb.mpr (by rw [hps]; simp)) Bool.false_ne_true
    rw [hps] at h ⊢
    exact ⟨[], p, .nil, by simpa [pmK] using h, rfl, rfl⟩
  rintro _ _ ⟨ds, p, hp, h, rfl, rfl⟩
  conv => whnf
  refine exp_ok h rfl fun l c p h => ?_
  conv => whnf
  refine bl.p f.body hv.bd hv.dp hv.bl h fun db p hb h => ?_
  conv => whnf
  refine fun_new ?_
  exact k _ p (.mk ⟨l1, c1, rfl⟩ hp hb) h
theorem pfuns_ok {n d : Nat} {ts : List D} {pos : Int} {p : List Fx} {Q : X → Hp → Prop} (hne : p ≠ []) (hl : p.length ≤ 1000) (hv : ∀ f ∈ p, FxV n f) (h : Rem ts pos (p.flatMap fxK ++ [⟨kE, []⟩])) (k : ∀ ds p', RelFs ds p → Q (.fl ds) (ph ts p')) : Call (callF T (d + 9 + 3 * n)) 33 [.ref 0] (ph ts pos) Q := by
  have e8 : d + 9 + 3 * n = (d + 8 + 3 * n) + 1 := by omega
  rw [e8]
  cases p with
  | nil => exact absurd rfl hne
  | cons f fs =>
    refine call_in rfl rfl ?_
    conv => whnf
    rw [List.flatMap_cons, List.append_assoc] at h
    refine pfun_ok (hv f (by simp)) h fun x pos hx h => ?_
    generalize hD : d + 8 + 3 * n = D
    obtain ⟨E, rfl⟩ : ∃ E, D = E + 2 := ⟨D - 2, by omega⟩
    conv => whnf
    refine whl_inv (fun m σ h' => ∃ (dn tl : List Fx) (ds : List D) (p' : Int), f :: fs = dn ++ tl ∧ m = tl.length ∧ RelFs ds dn ∧ Rem ts p' (tl.flatMap fxK ++ [⟨kE, []⟩]) ∧ σ = [some (.v (.ref 0)), some (.ol ds)] ∧ h' = ph ts p') (fun m σ h' I => ?_) fs.length 1000000 (by simp at hl; omega) ⟨[f], fs, _, pos, rfl, rfl, .cons hx .nil, h, rfl, rfl⟩
    obtain ⟨dn, tl, ds, p', e3, rfl, hr, h, rfl, rfl⟩ := I
    cases tl with
    | nil =>
      conv => whnf
      refine peek_ok h fun l c => ?_
      conv => whnf
      rw [List.append_nil] at e3
      exact k ds p' (by rw [e3]; exact hr)
    | cons g tl =>
      rw [List.flatMap_cons, List.append_assoc] at h
      have h0 : Rem ts p' (kw [100, 101, 102] :: (wd g.name :: sy 40 :: (pmK g.ps ++ sy 41 :: sy 123 :: (stKs g.body ++ [sy 125])) ++ (tl.flatMap fxK ++ [⟨kE, []⟩]))) := h
      conv => whnf
      refine peek_ok h0 fun l c => ?_
      conv => whnf
      refine ⟨tl.length, rfl, ?_⟩
      conv => whnf
      rw [← hD]
      refine pfun_ok (hv g (by rw [e3]; simp)) h fun x pos hx h => ?_
      have hel : ds.length < LIM := by
        have := congrArg List.length e3
        rw [hr.len]
        simp at this hl
        unfold LIM; omega
      refine wL_app (xs := ds) hel ?_
      exact ⟨dn ++ [g], tl, ds ++ [x], pos, by rw [e3]; simp, rfl, hr.snoc hx, h, rfl, rfl⟩
theorem parse_ok {n d : Nat} {ls : List Ln} {p : List Fx} {Q : X → Hp → Prop} (hls : LsOk ls) (hk : ls.flatMap lnK = p.flatMap fxK) (hne : p ≠ []) (hl : p.length ≤ 1000) (hv : ∀ f ∈ p, FxV n f) (k : ∀ ds h, RelFs ds p → Q (.fl ds) h) : Call (callF T (d + 10 + 3 * n)) 3 [.d (.str (joinS [10] (ls.map lnT)))] [] Q := by
  have e8 : d + 10 + 3 * n = (d + 9 + 3 * n) + 1 := by omega
  rw [e8]
  refine call_in rfl rfl ?_
  conv => whnf
  have ini : ∀ {Q : X → Hp → Prop}, (∀ ts, TokL ts (ls.flatMap lnK ++ [⟨kE, []⟩]) → Q (dat .non) (ph ts 0)) → Call (callF T (d + 9 + 3 * n)) 26 [.ref 0, .d (.str (joinS [10] (ls.map lnT)))] [.ins 5 []] Q := by
    intro Q k
    have e8 : d + 9 + 3 * n = (d + 5 + 3 * n + 3) + 1 := by omega
    rw [e8]
    refine call_in rfl rfl ?_
    conv => whnf
    refine tokenize_ok hls fun ts ht _ => ?_
    exact k ts ht
  refine ini fun ts ht => ?_
  conv => whnf
  rw [hk] at ht
  exact pfuns_ok hne hl hv ⟨0, rfl, ht⟩ fun ds p' hr => k ds _ hr
end PF
set_option linter.all false
set_option maxRecDepth 100000
namespace PF
open K
theorem RelSs.append : ∀ {a b : List D} {x y : List Sm}, RelSs a x → RelSs b y → RelSs (a ++ b) (x ++ y)
  | _, _, _, _, .nil, h => h
  | _, _, _, _, .cons r g, h => .cons r (RelSs.append g h)
theorem dpt_mem {s : Sm} : ∀ {ss : List Sm}, s ∈ ss → dpt s ≤ dpts ss
  | x :: ss, h => by
    rw [dpts_cons]
    rcases List.mem_cons.mp h with rfl | h
    · omega
    · have := dpt_mem h; omega
theorem stmts_ok (n : Nat) : ∀ (ss : List Sm) (ds : List D) {d : Nat} {h : Hp} {Q : X → Hp → Prop}, RelSs ds ss → dpts ss ≤ n → tots ss ≤ 1000 → (∀ ds', RelSs ds' (allSs ss) → Q (.fl ds') h) → Call (callF T (d + 1 + n)) 5 [.d (.lst ds)] h Q := by
  induction n with
  | zero => ?_
  | succ n ih => ?_
  all_goals
    intro ss ds d h Q hr hd ht k
    refine call_in rfl rfl ?_
    conv => whnf
    refine for_list (fun rest σ h' => ∃ (dn tl : List Sm) (acc : List D) (a2 : Option SV), ss = dn ++ tl ∧ RelSs rest tl ∧ RelSs acc (allSs dn) ∧ σ = [some (.v (.d (.lst ds))), some (.ol acc), a2] ∧ h' = h) (fun x rest σ h' I => ?_) (fun σ h' I => ?_) _ ⟨[], ss, [], none, rfl, hr, by rw [allSs_nil]; exact .nil, rfl, rfl⟩
    rotate_left
    · obtain ⟨dn, tl, acc, a2, e1, hr, ha, rfl, rfl⟩ := I
      cases hr
      rw [List.append_nil] at e1
      subst e1
      exact k acc ha
    obtain ⟨dn, tl, acc, a2, e1, hr, ha, rfl, rfl⟩ := I
    cases hr with
    | cons hs hr =>
      rename_i s tl
      have htt : tots dn + (tot s + tots tl) = tots ss := by rw [e1, tots_append, tots_cons]
      have hal : acc.length = tots dn := by rw [ha.len, allSs_len]
      have hdd : dpt s ≤ dpts ss := dpt_mem (by rw [e1]; simp)
      have fin : ∀ {L : List D} {a2 : Option SV}, RelSs L (allSs dn ++ allS s) → ∃ (dn' tl' : List Sm) (acc' : List D) (b2 : Option SV), ss = dn' ++ tl' ∧ RelSs rest tl' ∧ RelSs acc' (allSs dn') ∧ [some (SV.v (V.d (.lst ds))), some (.ol L), a2] = [some (.v (.d (.lst ds))), some (.ol acc'), b2] ∧ h' = h' := fun {L a2} q =>
        ⟨dn ++ [s], tl, L, a2, by rw [e1]; simp, hr, by rw [allSs_append, allSs_cons, allSs_nil, List.append_nil]; exact q, rfl, rfl⟩
      have one : flat1 s = true → x = x → RelSs (acc ++ [x]) (allSs dn ++ allS s) := fun q _ => by rw [allS_flat q]; exact ha.snoc hs
      have happ : acc.length < LIM := by unfold LIM; omega
      have hs2 := hs
      cases hs with
      | set h1 h2 =>
        conv => whnf
        refine wL_app (xs := acc) happ ?_
        exact fin (one rfl rfl)
      | put h1 h2 =>
        conv => whnf
        refine wL_app (xs := acc) happ ?_
        exact fin (one rfl rfl)
      | emit h1 =>
        conv => whnf
        refine wL_app (xs := acc) happ ?_
        exact fin (one rfl rfl)
      | ret h1 =>
        conv => whnf
        refine wL_app (xs := acc) happ ?_
        exact fin (one rfl rfl)
      | call h1 h2 h3 h4 h5 h6 =>
        conv => whnf
        refine wL_app (xs := acc) happ ?_
        exact fin (one rfl rfl)
      | ifs h1 h2 h3 h4 =>
        simp only [dpt] at hdd
        rw [tot_ifs] at htt
        first
          | (exfalso; omega)
          | (rw [allS_ifs] at fin
             conv => whnf
             refine wL_app (xs := acc) happ ?_
             conv => whnf
             refine ih _ _ h3 (by omega) (by omega) fun da qa => ?_
             conv => whnf
             refine ih _ _ h4 (by omega) (by omega) fun db qb => ?_
             have la := qa.len
             have lb := qb.len
             rw [allSs_len] at la lb
             refine wL_addL (xs := da) (ys := db) rfl rfl (by unfold LIM; omega) ?_
             refine wL_ext (xs := acc ++ [_]) (ys := da ++ db) (by rw [List.length_append, List.length_append]; simp; unfold LIM; omega) ?_
             refine fin ?_
             rw [List.append_assoc]
             exact ha.append (.cons hs2 (qa.append qb)))
      | loop h1 h3 =>
        simp only [dpt] at hdd
        rw [tot_loop] at htt
        first
          | (exfalso; omega)
          | (rw [allS_loop] at fin
             conv => whnf
             refine wL_app (xs := acc) happ ?_
             conv => whnf
             refine ih _ _ h3 (by omega) (by omega) fun da qa => ?_
             have la := qa.len
             rw [allSs_len] at la
             refine wL_ext (xs := acc ++ [_]) (ys := da) (by rw [List.length_append]; simp; unfold LIM; omega) ?_
             refine fin ?_
             rw [List.append_assoc]
             exact ha.append (.cons hs2 qa))
theorem RelEs.append : ∀ {a b : List D} {x y : List Ex}, RelEs a x → RelEs b y → RelEs (a ++ b) (x ++ y)
  | _, _, _, _, .nil, h => h
  | _, _, _, _, .cons r g, h => .cons r (RelEs.append g h)
theorem exprs_ok {d : Nat} {h : Hp} {x : D} {s : Sm} {Q : X → Hp → Prop} (hr : RelS x s) (hl : (exs s).length ≤ 1000) (k : ∀ ds, RelEs ds (exs s) → Q (.fl ds) h) : Call (callF T (d + 1)) 6 [.d x] h Q := by
  refine call_in rfl rfl ?_
  cases hr with
  | set h1 h2 => exact k _ (.cons h2 .nil)
  | put h1 h2 => exact k _ (.cons h2 .nil)
  | emit h1 => exact k _ (.cons h1 .nil)
  | ret h1 => exact k _ (.cons h1 .nil)
  | ifs h1 h2 h3 h4 => exact k _ (.cons h1 (.cons h2 .nil))
  | loop h1 h3 => exact k _ (.cons h1 .nil)
  | call h1 h2 h3 h4 h5 h6 =>
    have l3 := h3.len
    conv => whnf
    refine wL_addL rfl rfl (by simp [exs] at hl; simp; unfold LIM; omega) ?_
    exact k _ (h3.append (.cons h6 .nil))
/-! ### dicts of names -/
theorem anyE (x : Nm) (ks : List Nm) : ((ks.map D.str).any fun y => eqb y (.str x)) = decide (x ∈ ks) := any_str x ks
theorem dicRep_true {k : D} : ∀ (ks : List D) (n : Nat), ks.length = n → dicRep k (.bl true) ks (List.replicate n (.bl true)) = List.replicate n (D.bl true)
  | [], n, h => by simp at h; subst h; rfl
  | x :: ks, 0, h => by simp at h
  | x :: ks, n + 1, h => by
    rw [List.replicate_succ]
    unfold dicRep
    rw [dicRep_true ks n (by simpa using h)]
    split <;> rfl
theorem dicPut_nm (x : Nm) (ks : List Nm) : dicPut (.str x) (.bl true) (ks.map .str) (List.replicate ks.length (.bl true)) = ((addN ks x).map .str, List.replicate (addN ks x).length (.bl true)) := by
  unfold dicPut dicPutA addN
  rw [anyE]
  by_cases h : x ∈ ks
  · rw [if_pos (decide_eq_true h), if_pos h, dicRep_true _ _ (List.length_map ..)]
  · rw [if_neg (by rw [decide_eq_false h]; exact Bool.false_ne_true), if_neg h]
    rw [List.map_append, List.length_append, List.replicate_append_replicate.symm]
    rfl
theorem addN_len (ks : List Nm) (x : Nm) : (addN ks x).length ≤ ks.length + 1 := by
  unfold addN; split <;> simp
theorem tgF_len (ks : List Nm) (s : Sm) : (tgF ks s).length ≤ ks.length + 1 := by
  unfold tgF
  split
  · exact addN_len ..
  · omega
theorem targets_ok {n : Nat} {ss : List Sm} {ds : List D} {d : Nat} {h : Hp} {Q : X → Hp → Prop} (hr : RelSs ds ss) (hd : dpts ss ≤ n) (ht : tots ss ≤ 1000) (k : Q (.fd ((tgts ss).map .str) (List.replicate (tgts ss).length (.bl true))) h) : Call (callF T (d + 2 + n)) 7 [.d (.lst ds)] h Q := by
  have e8 : d + 2 + n = (d + 1 + n) + 1 := by omega
  rw [e8]
  refine call_in rfl rfl ?_
  conv => whnf
  refine stmts_ok n ss ds hr hd ht fun ds' hr' => ?_
  refine for_list (fun rest σ h' => ∃ (dn tl : List Sm) (a2 : Option SV), allSs ss = dn ++ tl ∧ RelSs rest tl ∧ (dn.foldl tgF []).length ≤ dn.length ∧ σ = [some (.v (.d (.lst ds))), some (.od ((dn.foldl tgF []).map .str) (List.replicate (dn.foldl tgF []).length (.bl true))), a2] ∧ h' = h) (fun x rest σ h' I => ?_) (fun σ h' I => ?_) _ ⟨[], allSs ss, none, rfl, hr', by simp, rfl, rfl⟩
  · obtain ⟨dn, tl, a2, e1, hr, hl, rfl, rfl⟩ := I
    cases hr with
    | cons hs hr =>
      rename_i s tl
      have hdl : dn.length ≤ 1000 := by have := congrArg List.length e1; rw [allSs_len, List.length_append] at this; omega
      have fin : ∀ {ks vs : List D} {a2 : Option SV}, ks = (tgF (dn.foldl tgF []) s).map .str → vs = List.replicate (tgF (dn.foldl tgF []) s).length (.bl true) → ∃ (dn' tl' : List Sm) (b2 : Option SV), allSs ss = dn' ++ tl' ∧ RelSs rest tl' ∧ (dn'.foldl tgF []).length ≤ dn'.length ∧ [some (SV.v (V.d (.lst ds))), some (.od ks vs), a2] = [some (.v (.d (.lst ds))), some (.od ((dn'.foldl tgF []).map .str) (List.replicate (dn'.foldl tgF []).length (.bl true))), b2] ∧ h' = h' := fun {ks vs a2} q1 q2 =>
        ⟨dn ++ [s], tl, a2, by rw [e1]; simp, hr, by
          rw [List.foldl_append, List.length_append]
          have := tgF_len (dn.foldl tgF []) s
          show (tgF (dn.foldl tgF []) s).length ≤ _
          simp; omega, by rw [List.foldl_append, q1, q2]; rfl, rfl⟩
      generalize hK : dn.foldl tgF [] = ks at hl fin ⊢
      have put : ∀ x, wL (putOwn (some (.od (ks.map .str) (List.replicate ks.length (.bl true)))) (dat (.str x)) (.d (.bl true))) fun sv => sv = .od ((addN ks x).map .str) (List.replicate (addN ks x).length (.bl true)) := fun x => by
        refine wL_of (a := .od ((addN ks x).map .str) (List.replicate (addN ks x).length (.bl true))) ?_ rfl
        show (if _ then _ else _) = _
        rw [if_pos (by rw [decide_eq_true (by rw [List.length_map]; unfold LIM; omega)]; rfl), dicPut_nm]
      cases hs with
      | set h1 h2 =>
        obtain ⟨l, c, rfl⟩ := h1
        conv => whnf
        refine wL_mono (fun sv q => ?_) (put _)
        subst q
        exact fin rfl rfl
      | put h1 h2 => exact fin rfl rfl
      | emit h1 => exact fin rfl rfl
      | ret h1 => exact fin rfl rfl
      | call h1 h2 h3 h4 h5 h6 =>
        obtain ⟨l, c, rfl⟩ := h1
        conv => whnf
        refine wL_mono (fun sv q => ?_) (put _)
        subst q
        exact fin rfl rfl
      | ifs h1 h2 h3 h4 => exact fin rfl rfl
      | loop h1 h3 => exact fin rfl rfl
  · obtain ⟨dn, tl, a2, e1, hr, hl, rfl, rfl⟩ := I
    cases hr
    rw [List.append_nil] at e1
    subst e1
    exact k
end PF
set_option linter.all false
set_option maxRecDepth 100000
namespace PF
open K
def ckH (F : D) (tot : Int) (kn : Nat) (tl : Hp) : Hp := .ins 6 [.d F, .ref 1, .d (.int tot), .ref kn] :: tl
/-- the names known are the keys of the dict at kn -/
def KnAt (h : Hp) (kn : Nat) (ks : List Nm) : Prop := ∃ (ls : List Nm) (vs : List V), h[kn]? = some (.dic (ls.map .str) vs) ∧ ∀ x, x ∈ ls ↔ x ∈ ks
theorem in_dic {h : Hp} {kn : Nat} {ks : List Nm} {x : Nm} {K : Bool → Prop} (hk : KnAt h kn ks) (hx : x ∈ ks) (k : K true) : wL (inV (.d (.str x)) (.ref kn) h) K := by
  obtain ⟨ls, vs, h1, h2⟩ := hk
  refine wL_of (a := true) ?_ k
  unfold inV
  dsimp only
  rw [h1]
  dsimp only
  rw [if_pos (show isKey (.str x) = true from rfl), anyE, decide_eq_true ((h2 x).mpr hx)]
theorem ckx_ok {d : Nat} {F : D} {tot : Int} {kn : Nat} {tl : Hp} {ks : List Nm} {x : D} {g : Ex} (hk : ∀ tot, KnAt (ckH F tot kn tl) kn ks) (hr : RelE x g) (hg : ExC ks g) {Q : X → Hp → Prop} (k : Q (dat .non) (ckH F tot kn tl)) : Call (callF T (d + 1)) 47 [.ref 0, .d x] (ckH F tot kn tl) Q := by
  obtain ⟨ds, rfl, hr⟩ := hr
  refine call_in rfl rfl ?_
  conv => whnf
  refine for_data (fun rest σ h' => ∃ (g' : Ex) (a2 a3 : Option SV), RelT rest g' ∧ ExC ks g' ∧ σ = [some (.v (.ref 0)), some (.v (.d (.lst ds))), a2, a3] ∧ h' = ckH F tot kn tl) (fun y rest σ h' I => ?_) (fun σ h' I => ?_) _ ⟨g, none, none, hr, hg, rfl, rfl⟩
  · obtain ⟨g', a2, a3, hr, hg, rfl, rfl⟩ := I
    cases hr with
    | cons ht hr =>
      rename_i o tm t g'
      obtain ⟨l, c, rfl⟩ := ht
      have hg2 : ExC ks g' := fun p hp => hg p (by simp [hp])
      have h1 := hg (o, tm) (by simp)
      refine ⟨[some (.v (.ref 0)), some (.v (.d (.lst ds))), some (.v (.d (.str [o]))), some (.v (.d (tokD (tkT tm) l c)))], rfl, ?_⟩
      cases tm with
      | n kk => exact ⟨g', _, _, hr, hg2, rfl, rfl⟩
      | c i => exact ⟨g', _, _, hr, hg2, rfl, rfl⟩
      | l xx =>
        conv => whnf
        refine in_dic (hk tot) h1 ?_
        exact ⟨g', _, _, hr, hg2, rfl, rfl⟩
  · obtain ⟨g', a2, a3, hr, hg, rfl, rfl⟩ := I
    exact k
/-- the dict of arities -/
def ArAt (tl : Hp) (hs : List (Nm × Nat)) : Prop := ∃ tl', tl = .dic (hs.map fun p => .str p.1) (hs.map fun p => .d (.int p.2)) :: tl'
theorem ar_in {hs : List (Nm × Nat)} {f : Nm} : ((hs.map fun p => D.str p.1).any fun y => eqb y (.str f)) = decide (f ∈ hs.map Prod.fst) := by
  have := anyE f (hs.map Prod.fst)
  rw [List.map_map] at this
  exact this
theorem ar_get {f : Nm} {n : Nat} : ∀ {hs : List (Nm × Nat)}, (hs.map Prod.fst).Nodup → (f, n) ∈ hs → dicGetV (.str f) (hs.map fun p => .str p.1) (hs.map fun p => .d (.int p.2)) = some (.d (.int n))
  | p :: hs, nd, h => by
    rw [List.map_cons, List.nodup_cons] at nd
    rw [List.map_cons, List.map_cons]
    unfold dicGetV
    have e : eqb (.str p.1) (.str f) = decide (p.1 = f) := by rw [Bool.eq_iff_iff]; simp [eqb]
    rw [e]
    by_cases q : p.1 = f
    · rw [if_pos (decide_eq_true q)]
      rcases List.mem_cons.mp h with rfl | h
      · rfl
      · exact absurd (List.mem_map.mpr ⟨(f, n), h, q.symm⟩) nd.1
    · rw [if_neg (by rw [decide_eq_false q]; exact Bool.false_ne_true)]
      rcases List.mem_cons.mp h with rfl | h
      · exact absurd rfl q
      · exact ar_get nd.2 h
theorem int_digs {i : Nat} {h : Hp} {K : X → Prop} (hi : i < 1000000) (k : ∀ n : Int, n = i → K (dat (.int n))) : wL (biV .int [.d (.str (natDigs i))] h) K := by
  refine wL_of (a := dat (.int i)) ?_ (k _ rfl)
  show (if _ then _ else _) = _
  have h1 : (natDigs i).all isDig = true := List.all_eq_true.mpr fun c hc => by
    have := digs_dig i c hc
    unfold isDig
    rw [decide_eq_true this.1, decide_eq_true this.2]; rfl
  have h2 : (natDigs i).isEmpty = false := by
    cases q : natDigs i with
    | nil => exact absurd q (digs_ne i)
    | cons a l => rfl
  have h3 := digs_len 5 i hi
  rw [if_pos (by rw [h1, h2, decide_eq_true (by omega)]; rfl), digVal_digs]
theorem ckc_ok {d : Nat} {F : D} {tt : Int} {kn : Nat} {tl : Hp} {hs : List (Nm × Nat)} {y x f p q e : D} {t : D} {as : List D} {m : Nm} {gs : List Ex} {i j : Nat} (ha : ArAt tl hs) (nd : (hs.map Prod.fst).Nodup) (hf : IsTok f (wd m)) (has : RelEs as gs) (hp : IsTok p (nu i)) (hq : IsTok q (nu j)) (hm : (m, gs.length) ∈ hs) (h1 : 1 ≤ i) (h2 : i ≤ j) (h3 : j ≤ 9) {Q : X → Hp → Prop} (k : Q (dat .non) (ckH F tt kn tl)) :
    Call (callF T (d + 1)) 46 [.ref 0, .d (.tup [.str [99, 97, 108, 108], t, x, f, .lst as, p, q, e])] (ckH F tt kn tl) Q := by
  obtain ⟨tl', rfl⟩ := ha
  obtain ⟨l1, c1, rfl⟩ := hf
  obtain ⟨l2, c2, rfl⟩ := hp
  obtain ⟨l3, c3, rfl⟩ := hq
  refine call_in rfl rfl ?_
  conv => whnf
  refine wI_not (wI_t (by rw [ar_in]; exact decide_eq_true (List.mem_map.mpr ⟨_, hm, rfl⟩)) ?_)
  conv => whnf
  obtain ⟨ni, hni⟩ : ∃ ni : Int, ni = gs.length := ⟨_, rfl⟩
  refine wL_of (a := .d (.int ni)) (by rw [hni]; exact ar_get nd hm) ?_
  conv => whnf
  refine wI_not (wI_t (by rw [hni, ← has.len]; simp [eqb]) ?_)
  conv => whnf
  refine int_digs (by omega) fun pi hpi => ?_
  conv => whnf
  refine int_digs (by omega) fun qi hqi => ?_
  conv => whnf
  refine wI_t (decide_eq_true (by omega)) ?_
  conv => whnf
  refine wI_t (decide_eq_true (by omega)) ?_
  conv => whnf
  refine wI_not (wI_t (decide_eq_true (by omega)) ?_)
  exact k
structure CkP (n d : Nat) : Prop where
  p : ∀ {F : D} {tt : Int} {kn : Nat} {tl : Hp} {hs : List (Nm × Nat)} {ks : List Nm} (ss : List Sm) (ds : List D) {dp : Int} {Q : X → Hp → Prop}, RelSs ds ss → ArAt tl hs → (hs.map Prod.fst).Nodup → (∀ tot, KnAt (ckH F tot kn tl) kn ks) → dpts ss ≤ n → tt + tots ss ≤ 60 → dp + dpts ss ≤ 8 → (∀ s ∈ allSs ss, SmC hs ks s ∧ (exs s).length ≤ 1000) →
    (∀ tt', tt' = tt + tots ss → Q (dat .non) (ckH F tt' kn tl)) → Call (callF T d) 45 [.ref 0, .d (.lst ds), .d (.int dp)] (ckH F tt kn tl) Q
theorem ckb_of {n d : Nat} (ih : ∀ m, n = m + 1 → CkP m (d + 1)) : CkP n (d + 2) := by
  constructor
  intro F tt kn tl hs ks ss ds dp Q hr ha nd hk hd htt hdp hc k
  refine call_in rfl rfl ?_
  conv => whnf
  refine for_list (fun rest σ h' => ∃ (dn ts : List Sm) (t : Int) (a3 a4 : Option SV), ss = dn ++ ts ∧ RelSs rest ts ∧ t = tt + tots dn ∧ σ = [some (.v (.ref 0)), some (.v (.d (.lst ds))), some (.v (.d (.int dp))), a3, a4] ∧ h' = ckH F t kn tl) (fun x rest σ h' I => ?_) (fun σ h' I => ?_) _ ⟨[], ss, tt, none, none, rfl, hr, by rw [tots_nil]; omega, rfl, rfl⟩
  rotate_left
  · obtain ⟨dn, ts, t, a3, a4, e1, hr, ht, rfl, rfl⟩ := I
    cases hr
    rw [List.append_nil] at e1
    subst e1
    exact k t ht
  obtain ⟨dn, ts, t, a3, a4, e1, hr, ht, rfl, rfl⟩ := I
  cases hr with
  | cons hs' hr =>
    rename_i s ts
    have hst : tots dn + (tot s + tots ts) = tots ss := by rw [e1, tots_append, tots_cons]
    have hds : dpt s ≤ dpts ss := dpt_mem (by rw [e1]; simp)
    have hpos : 1 ≤ tot s := by cases s <;> simp only [tot] <;> omega
    have hmem : ∀ u ∈ allS s, u ∈ allSs ss := fun u hu => by rw [e1, allSs_append, allSs_cons]; simp [hu]
    have hself : s ∈ allS s := by cases s <;> simp [allS]
    obtain ⟨⟨hce, hcc⟩, hex⟩ := hc s (hmem s hself)
    have fin : ∀ {t' : Int} {a3 a4 : Option SV}, t' = t + tot s → ∃ (dn' ts' : List Sm) (t'' : Int) (b3 b4 : Option SV), ss = dn' ++ ts' ∧ RelSs rest ts' ∧ t'' = tt + tots dn' ∧ [some (SV.v (V.ref 0)), some (.v (.d (.lst ds))), some (.v (.d (.int dp))), a3, a4] = [some (.v (.ref 0)), some (.v (.d (.lst ds))), some (.v (.d (.int dp))), b3, b4] ∧ ckH F t' kn tl = ckH F t'' kn tl := fun {t' a3 a4} q =>
      ⟨dn ++ [s], ts, t', a3, a4, by rw [e1]; simp, hr, by rw [tots_append, tots_cons, tots_nil]; omega, rfl, rfl⟩
    have step : ∀ {a4 : Option SV}, True := by intros; trivial
    -- the total and the depth
    refine seq_cut (fun σ h' => σ = [some (.v (.ref 0)), some (.v (.d (.lst ds))), some (.v (.d (.int dp))), some (.v (.d x)), a4] ∧ h' = ckH F (t + 1) kn tl) ?_ ?_
    · conv => whnf
      exact ⟨rfl, rfl⟩
    rintro _ _ ⟨rfl, rfl⟩
    refine seq_cut (fun σ h' => σ = [some (.v (.ref 0)), some (.v (.d (.lst ds))), some (.v (.d (.int dp))), some (.v (.d x)), a4] ∧ h' = ckH F (t + 1) kn tl) ?_ ?_
    · conv => whnf
      refine wI_f (decide_eq_false (by omega)) ?_
      exact ⟨rfl, rfl⟩
    rintro _ _ ⟨rfl, rfl⟩
    refine seq_cut (fun σ h' => σ = [some (.v (.ref 0)), some (.v (.d (.lst ds))), some (.v (.d (.int dp))), some (.v (.d x)), a4] ∧ h' = ckH F (t + 1) kn tl) ?_ ?_
    · conv => whnf
      refine wI_f (decide_eq_false (by omega)) ?_
      exact ⟨rfl, rfl⟩
    rintro _ _ ⟨rfl, rfl⟩
    -- a call
    refine seq_cut (fun σ h' => σ = [some (.v (.ref 0)), some (.v (.d (.lst ds))), some (.v (.d (.int dp))), some (.v (.d x)), a4] ∧ h' = ckH F (t + 1) kn tl) ?_ ?_
    · cases hs' with
      | call h1 h2 h3 h4 h5 h6 =>
        conv => whnf
        refine ckc_ok (y := .non) ha nd h2 h3 h4 h5 hcc.1 hcc.2.1 hcc.2.2.1 hcc.2.2.2 ?_
        exact ⟨rfl, rfl⟩
      | set h1 h2 => exact ⟨rfl, rfl⟩
      | put h1 h2 => exact ⟨rfl, rfl⟩
      | emit h1 => exact ⟨rfl, rfl⟩
      | ret h1 => exact ⟨rfl, rfl⟩
      | ifs h1 h2 h3 h4 => exact ⟨rfl, rfl⟩
      | loop h1 h3 => exact ⟨rfl, rfl⟩
    rintro _ _ ⟨rfl, rfl⟩
    -- the expressions
    refine seq_cut (fun σ h' => ∃ a4, σ = [some (.v (.ref 0)), some (.v (.d (.lst ds))), some (.v (.d (.int dp))), some (.v (.d x)), a4] ∧ h' = ckH F (t + 1) kn tl) ?_ ?_
    · conv => whnf
      refine exprs_ok hs' hex fun es hes => ?_
      refine for_list (fun rest σ h' => ∃ (gs : List Ex) (a4 : Option SV), RelEs rest gs ∧ (∀ g ∈ gs, ExC ks g) ∧ σ = [some (.v (.ref 0)), some (.v (.d (.lst ds))), some (.v (.d (.int dp))), some (.v (.d x)), a4] ∧ h' = ckH F (t + 1) kn tl) (fun y rest σ h' I => ?_) (fun σ h' I => ?_) _ ⟨exs s, a4, hes, hce, rfl, rfl⟩
      · obtain ⟨gs, a4, hr, hg, rfl, rfl⟩ := I
        cases hr with
        | cons h1 h2 =>
          rename_i g gs
          conv => whnf
          refine ckx_ok hk h1 (hg g (by simp)) ?_
          exact ⟨gs, _, h2, fun u hu => hg u (by simp [hu]), rfl, rfl⟩
      · obtain ⟨gs, a4, hr, hg, rfl, rfl⟩ := I
        exact ⟨a4, rfl, rfl⟩
    rintro _ _ ⟨a4, rfl, rfl⟩
    -- the blocks
    cases hs' with
    | set h1 h2 => exact fin (by simp only [tot]; rfl)
    | put h1 h2 => exact fin (by simp only [tot]; rfl)
    | emit h1 => exact fin (by simp only [tot]; rfl)
    | ret h1 => exact fin (by simp only [tot]; rfl)
    | call h1 h2 h3 h4 h5 h6 => exact fin (by simp only [tot]; rfl)
    | ifs h1 h2 h3 h4 =>
      simp only [dpt] at hds
      rw [tot_ifs] at hst fin
      rw [allS_ifs] at hmem
      obtain ⟨m, rfl⟩ : ∃ m, n = m + 1 := ⟨n - 1, by omega⟩
      conv => whnf
      refine (ih m rfl).p _ _ h3 ha nd hk (by omega) (by omega) (by omega) (fun u hu => hc u (hmem u (by simp [hu]))) fun t1 ht1 => ?_
      conv => whnf
      refine (ih m rfl).p _ _ h4 ha nd hk (by omega) (by omega) (by omega) (fun u hu => hc u (hmem u (by simp [hu]))) fun t2 ht2 => ?_
      exact fin (by push_cast; omega)
    | loop h1 h3 =>
      simp only [dpt] at hds
      rw [tot_loop] at hst fin
      rw [allS_loop] at hmem
      obtain ⟨m, rfl⟩ : ∃ m, n = m + 1 := ⟨n - 1, by omega⟩
      conv => whnf
      refine (ih m rfl).p _ _ h3 ha nd hk (by omega) (by omega) (by omega) (fun u hu => hc u (hmem u (by simp [hu]))) fun t1 ht1 => ?_
      exact fin (by push_cast; omega)
theorem ckb_ok (n : Nat) : ∀ d, CkP n (d + 2 + n) := by
  induction n with
  | zero => exact fun d => ckb_of fun m q => (nomatch q)
  | succ n ih =>
    intro d
    have := ckb_of (n := n + 1) (d := d + 1 + n) fun m q => by
      cases q
      have := ih d
      have e : d + 2 + n = d + 1 + n + 1 := by omega
      rw [e] at this
      exact this
    have e : d + 2 + (n + 1) = d + 1 + n + 2 := by omega
    rw [e]
    exact this
end PF
set_option linter.all false
set_option maxRecDepth 100000
namespace PF
open K
def arD (hs : List (Nm × Nat)) : O := .dic (hs.map fun p => .str p.1) (hs.map fun p => .d (.int p.2))
theorem dicPutV_new {k : D} {v : V} {ks : List D} {vs : List V} (h : (ks.any fun y => eqb y k) = false) : dicPutV k v ks vs = (ks ++ [k], vs ++ [v]) := by
  unfold dicPutV dicPutA
  rw [if_neg (by rw [h]; exact Bool.false_ne_true)]
theorem inD_lst {w : List Nat} {ys : List D} (hf : ys.all flat = true) : inD (.str w) (.lst ys) = some (ys.any fun y => eqb y (.str w)) := by
  have : inD (.str w) (.lst ys) = if flat (.str w) && ys.all flat then some (ys.any fun y => eqb y (.str w)) else none := by
    rcases w with _ | ⟨a, _ | ⟨b, w⟩⟩ <;> rfl
  rw [this, hf]
  rfl
theorem in_own {w : Nm} {l : List Nm} {K : Bool → Prop} (k : K (decide (w ∈ l))) : wL (inOwn (some (.ol (l.map .str))) (dat (.str w))) K := by
  refine wL_of (a := decide (w ∈ l)) ?_ k
  show inD (.str w) (.lst (l.map .str)) = _
  rw [inD_lst (by simp [flat]), anyE]
theorem params_ok {d : Nat} {h : Hp} {x : D} {ji : Int} {a4 : Option SV} {ds : List D} {xs : List Nm} (hr : RelP ds xs) (hl : xs.length ≤ 4) (nd : xs.Nodup) {Q : QS} (k : ∀ a3 a4, Q [some (.v (.ref 0)), some (.v (.d (.int ji))), some (.v (.d x)), a3, a4] .nx h) : LFor T (callF T d) ((f_Checker_check_headers.body.at' 0).bd.at' 4).bd (.n 4) (ds.map .d) [some (.v (.ref 0)), some (.v (.d (.int ji))), some (.v (.d x)), some (.ol []), a4] h Q := by
  refine for_list (fun rest σ h' => ∃ (dn tl : List Nm) (a4 : Option SV), xs = dn ++ tl ∧ RelP rest tl ∧ σ = [some (.v (.ref 0)), some (.v (.d (.int ji))), some (.v (.d x)), some (.ol (dn.map .str)), a4] ∧ h' = h) (fun y rest σ h' I => ?_) (fun σ h' I => ?_) _ ⟨[], xs, a4, rfl, hr, rfl, rfl⟩
  · obtain ⟨dn, tl, a4, e1, hr, rfl, rfl⟩ := I
    cases hr with
    | cons h1 h2 =>
      rename_i y tl
      obtain ⟨l, c, rfl⟩ := h1
      have hdn : dn.length < 4 := by have := congrArg List.length e1; rw [List.length_append, List.length_cons] at this; omega
      have hni : y ∉ dn := fun q => by
        rw [e1, List.nodup_append] at nd
        exact nd.2.2 y q y (by simp) rfl
      conv => whnf
      refine wI_f (by
        have : ¬ (((dn.map D.str).length : Int) = 4) := by rw [List.length_map]; omega
        simpa [eqb] using this) ?_
      conv => whnf
      refine in_own (w := y) (l := dn) ?_
      rw [decide_eq_false hni]
      conv => whnf
      refine wL_app (xs := dn.map .str) (by rw [List.length_map]; unfold LIM; omega) ?_
      exact ⟨dn ++ [y], tl, some (.v (.d (tokD (wd y) l c))), by rw [e1]; simp, h2, by rw [List.map_append]; rfl, rfl⟩
  · obtain ⟨dn, tl, a4, e1, hr, rfl, rfl⟩ := I
    exact k _ _
theorem heads_ok {d : Nat} {ds : List D} {p : List Fx} {tt : Int} {kn : Nat} {tl : Hp} (hr : RelFs ds p) (hl : p.length ≤ 12) (nd : (p.map Fx.name).Nodup) (hp : ∀ f ∈ p, f.ps.length ≤ 4 ∧ f.ps.Nodup) {Q : X → Hp → Prop} (k : Q (dat .non) (ckH (.lst ds) tt kn (arD (p.map hdr) :: tl))) : Call (callF T (d + 1)) 43 [.ref 0] (ckH (.lst ds) tt kn (arD [] :: tl)) Q := by
  refine call_in rfl rfl ?_
  conv => whnf
  refine for_data (fun rest σ h' => ∃ (dn fs : List Fx) (es : List D) (a1 a2 a3 a4 : Option SV), p = dn ++ fs ∧ rest = enumF dn.length es ∧ RelFs es fs ∧ σ = [some (.v (.ref 0)), a1, a2, a3, a4] ∧ h' = ckH (.lst ds) tt kn (arD (dn.map hdr) :: tl)) (fun y rest σ h' I => ?_) (fun σ h' I => ?_) _ ⟨[], p, ds, none, none, none, none, rfl, rfl, hr, rfl, rfl⟩
  · obtain ⟨dn, fs, es, a1, a2, a3, a4, e1, e2, hr, rfl, rfl⟩ := I
    cases hr with
    | nil => cases e2
    | cons h1 h2 =>
      rename_i x f es fs
      unfold enumF at e2
      cases e2
      have hdn : dn.length < 12 := by have := congrArg List.length e1; rw [List.length_append, List.length_cons] at this; omega
      have hni : f.name ∉ dn.map Fx.name := fun q => by
        rw [e1, List.map_append, List.nodup_append] at nd
        exact nd.2.2 f.name q f.name (by simp) rfl
      obtain ⟨hp1, hp2⟩ := hp f (by rw [e1]; simp)
      cases h1 with
      | mk g1 g2 g3 =>
        rename_i n ps b
        obtain ⟨l, c, rfl⟩ := g1
        obtain ⟨ji, hji⟩ : ∃ ji : Int, ji = dn.length := ⟨_, rfl⟩
        refine ⟨[some (.v (.ref 0)), some (.v (.d (.int ji))), some (.v (.d (.ins 4 [tokD (wd f.name) l c, .lst ps, .lst b]))), a3, a4], by rw [hji]; rfl, ?_⟩
        have hany : (((dn.map hdr).map fun p => D.str p.1).any fun y => eqb y (.str f.name)) = false := by
          rw [ar_in, List.map_map]
          exact decide_eq_false hni
        conv => whnf
        refine wI_eq (fun q => by exfalso; omega) (fun _ => ?_)
        conv => whnf
        refine wI_f hany ?_
        conv => whnf
        refine wL_of (a := ckH (.lst ds) tt kn (arD ((dn ++ [f]).map hdr) :: tl)) (by
          show (if _ then _ else _) = _
          rw [if_pos (by rw [decide_eq_true (by simp; unfold LIM; omega)]; rfl), show (wd f.name).text = f.name from rfl, dicPutV_new hany]
          unfold ckH arD
          rw [List.map_append, List.map_append, List.map_append, g2.len]
          rfl) ?_
        conv => whnf
        refine params_ok g2 hp1 hp2 fun a3 a4 => ?_
        exact ⟨dn ++ [f], fs, es, _, _, _, _, by rw [e1]; simp, by rw [List.length_append]; rfl, h2, rfl, rfl⟩
  · obtain ⟨dn, fs, es, a1, a2, a3, a4, e1, e2, hr, rfl, rfl⟩ := I
    cases hr with
    | cons h1 h2 => unfold enumF at e2; cases e2
    | nil =>
      rw [List.append_nil] at e1
      subst e1
      exact k
theorem dicPutV_key (x : Nm) (v : V) (ks : List Nm) (vs : List V) : (dicPutV (.str x) v (ks.map .str) vs).1 = (addN ks x).map .str := by
  unfold dicPutV dicPutA addN
  rw [anyE]
  by_cases h : x ∈ ks
  · rw [if_pos (decide_eq_true h), if_pos h]
  · rw [if_neg (by rw [decide_eq_false h]; exact Bool.false_ne_true), if_neg h, List.map_append]
    rfl
theorem dicPuts_key : ∀ (ls : List Nm) (ws : List D) (ks : List Nm) (vs : List V), ls.length ≤ ws.length → (dicPuts (ls.map .str) ws (ks.map .str) vs).1 = (ls.foldl addN ks).map .str
  | [], ws, ks, vs, h => by unfold dicPuts; rfl
  | x :: ls, [], ks, vs, h => by simp at h
  | x :: ls, w :: ws, ks, vs, h => by
    rw [List.map_cons]
    unfold dicPuts
    rw [dicPutV_key, dicPuts_key ls ws _ _ (by simpa using h)]
    rfl
theorem mem_foldN {y : Nm} : ∀ {l ks : List Nm}, y ∈ l.foldl addN ks ↔ y ∈ ks ∨ y ∈ l
  | [], ks => by simp
  | x :: l, ks => by
    rw [List.foldl_cons, mem_foldN, mem_addN, List.mem_cons]
    constructor
    · rintro ((q | q) | q)
      · exact .inl q
      · exact .inr (.inl q)
      · exact .inr (.inr q)
    · rintro (q | q | q)
      · exact .inl (.inl q)
      · exact .inl (.inr q)
      · exact .inr q
theorem foldN_len : ∀ {l ks : List Nm}, (l.foldl addN ks).length ≤ ks.length + l.length
  | [], ks => by simp
  | x :: l, ks => by
    have := foldN_len (l := l) (ks := addN ks x)
    have := addN_len ks x
    rw [List.foldl_cons, List.length_cons]
    omega
theorem foldT_len : ∀ {l : List Sm} {ks : List Nm}, (l.foldl tgF ks).length ≤ ks.length + l.length
  | [], ks => by simp
  | x :: l, ks => by
    have := foldT_len (l := l) (ks := tgF ks x)
    have := tgF_len ks x
    rw [List.foldl_cons, List.length_cons]
    omega
theorem tgts_len (ss : List Sm) : (tgts ss).length ≤ tots ss := by
  have := foldT_len (l := allSs ss) (ks := [])
  rw [allSs_len] at this
  simpa [tgts] using this
theorem pdict_ok {d : Nat} {h : Hp} {a0 a1 a2 : Option SV} {ds : List D} {xs : List Nm} (hr : RelP ds xs) (hl : xs.length ≤ 1000) {Q : List D × List D → Hp → Prop} (k : Q ((xs.foldl addN []).map .str, List.replicate (xs.foldl addN []).length (.bl true)) h) :
    LDc (fun σ h => evAn T (callF T d) .nil σ h) (fun σ h => (ev T (callF T d) (.fd (.v 2) 0) σ h).bind xD) (fun σ h => (ev T (callF T d) (.k (.bl true)) σ h).bind xD) (.n 2) [a0, a1, a2] (ds.map .d) [] [] h Q := by
  refine dc_inv (fun rest ks vs h' => ∃ (dn tl : List Nm) (es : List D), xs = dn ++ tl ∧ rest = es.map .d ∧ RelP es tl ∧ ks = (dn.foldl addN []).map .str ∧ vs = List.replicate (dn.foldl addN []).length (.bl true) ∧ h' = h) (fun y rest ks vs h' I => ?_) (fun ks vs h' I => ?_) _ ⟨[], xs, ds, rfl, rfl, hr, rfl, rfl, rfl⟩
  · obtain ⟨dn, tl, es, e1, e2, hr, rfl, rfl, rfl⟩ := I
    cases hr with
    | nil => cases e2
    | cons h1 h2 =>
      rename_i y es tl
      cases e2
      obtain ⟨l, c, rfl⟩ := h1
      have hdn : dn.length ≤ 1000 := by have := congrArg List.length e1; rw [List.length_append] at this; omega
      have := foldN_len (l := dn) (ks := [])
      conv => whnf
      refine ⟨⟨rfl, by rw [List.length_map]; simp at this; unfold LIM; omega⟩, dn ++ [y], tl, es, by rw [e1]; simp, rfl, h2, ?_, ?_, rfl⟩
      · show (dicPut (.str y) (.bl true) _ _).1 = _
        rw [dicPut_nm, List.foldl_append]; rfl
      · show (dicPut (.str y) (.bl true) _ _).2 = _
        rw [dicPut_nm, List.foldl_append]; rfl
  · obtain ⟨dn, tl, es, e1, e2, hr, rfl, rfl, rfl⟩ := I
    cases hr with
    | cons h1 h2 => cases e2
    | nil =>
      rw [List.append_nil] at e1
      subst e1
      exact k
theorem all_ok {n d : Nat} {ds : List D} {p : List Fx} (hr : RelFs ds p) (ck : CkOk p) (hd : ∀ f ∈ p, dpts f.body ≤ n) (hx : ∀ f ∈ p, ∀ s ∈ allSs f.body, (exs s).length ≤ 1000) {Q : X → Hp → Prop} (k : ∀ h, Q (dat .non) h) : Call (callF T (d + 3 + n)) 44 [.ref 0] (ckH (.lst ds) 0 2 [arD [], .dic [] []]) Q := by
  have e8 : d + 3 + n = (d + 2 + n) + 1 := by omega
  rw [e8]
  refine call_in rfl rfl ?_
  have hds : ds.length ≤ 12 := by rw [hr.len]; exact ck.few
  refine seq_cut (fun σ h' => σ = [some (.v (.ref 0)), none, none] ∧ h' = ckH (.lst ds) 0 2 (arD (p.map hdr) :: [.dic [] []])) ?_ ?_
  · have e9 : d + 2 + n = (d + 1 + n) + 1 := by omega
    rw [e9]
    conv => whnf
    refine heads_ok hr ck.few ck.nd (fun f hf => ⟨(ck.fx f hf).ps, (ck.fx f hf).nd⟩) ?_
    exact ⟨rfl, rfl⟩
  rintro _ _ ⟨rfl, rfl⟩
  conv => whnf
  refine for_list (fun rest σ h' => ∃ (dn fs : List Fx) (tt : Int) (kn : Nat) (tl : Hp) (a1 a2 : Option SV), p = dn ++ fs ∧ RelFs rest fs ∧ tt = tsum dn ∧ σ = [some (.v (.ref 0)), a1, a2] ∧ h' = ckH (.lst ds) tt kn (arD (p.map hdr) :: tl)) (fun x rest σ h' I => ?_) (fun σ h' I => ?_) _ ⟨[], p, 0, 2, [.dic [] []], none, none, rfl, hr, rfl, rfl, rfl⟩
  · obtain ⟨dn, fs, tt, kn, tl, a1, a2, e1, hr, htt, rfl, rfl⟩ := I
    cases hr with
    | cons h1 h2 =>
      rename_i f fs
      have hf : f ∈ p := by rw [e1]; simp
      have cf := ck.fx f hf
      have hts : tsum dn + (tots f.body + tsum fs) = tsum p := by rw [e1]; unfold tsum; simp
      have h60 := ck.tt
      cases h1 with
      | mk g1 g2 g3 =>
        rename_i nn ps b
        -- the targets
        refine seq_cut (fun σ h' => σ = [some (.v (.ref 0)), some (.v (.d (.ins 4 [nn, .lst ps, .lst b]))), a2] ∧ h' = ckH (.lst ds) tt (tl.length + 2) (arD (p.map hdr) :: (tl ++ [.dic ((tgts f.body).map .str) ((List.replicate (tgts f.body).length (D.bl true)).map .d)]))) ?_ ?_
        · conv => whnf
          refine targets_ok g3 (hd f hf) (by omega) ?_
          exact ⟨rfl, rfl⟩
        rintro _ _ ⟨rfl, rfl⟩
        -- the parameters
        generalize hvs : (List.replicate (tgts f.body).length (D.bl true)).map V.d = vs
        refine seq_cut (fun σ h' => ∃ tl', (∀ tot, KnAt (ckH (.lst ds) tot (tl.length + 2) (arD (p.map hdr) :: tl')) (tl.length + 2) (tgts f.body ++ f.ps)) ∧ σ = [some (.v (.ref 0)), some (.v (.d (.ins 4 [nn, .lst ps, .lst b]))), a2] ∧ h' = ckH (.lst ds) tt (tl.length + 2) (arD (p.map hdr) :: tl')) ?_ ?_
        · have hat : ∀ tot, (ckH (.lst ds) tot (tl.length + 2) (arD (p.map hdr) :: (tl ++ [.dic ((tgts f.body).map .str) vs])))[tl.length + 2]? = some (.dic ((tgts f.body).map .str) vs) := fun tot => by
            unfold ckH
            rw [List.getElem?_cons_succ, List.getElem?_cons_succ]
            simp
          conv => whnf
          refine wL_of (a := tl.length + 2) (by
            show (match (ckH (.lst ds) tt (tl.length + 2) (arD (p.map hdr) :: (tl ++ [.dic ((tgts f.body).map .str) vs])))[tl.length + 2]? with
              | some (.dic _ _) => some (tl.length + 2)
              | _ => none) = _
            rw [hat]) ?_
          conv => whnf
          refine pdict_ok g2 (by have := cf.ps; omega) ?_
          have hl1 := foldN_len (l := f.ps) (ks := [])
          have hl2 := tgts_len f.body
          have hl3 := cf.ps
          refine wL_of (a := ckH (.lst ds) tt (tl.length + 2) (arD (p.map hdr) :: (tl ++ [O.dic ((tgts f.body).map .str) vs]).set tl.length (.dic (dicPuts ((f.ps.foldl addN []).map .str) (List.replicate (f.ps.foldl addN []).length (.bl true)) ((tgts f.body).map .str) vs).1 (dicPuts ((f.ps.foldl addN []).map .str) (List.replicate (f.ps.foldl addN []).length (.bl true)) ((tgts f.body).map .str) vs).2))) (by
            show (match (ckH (.lst ds) tt (tl.length + 2) (arD (p.map hdr) :: (tl ++ [.dic ((tgts f.body).map .str) vs])))[tl.length + 2]?, V.d (.dic ((f.ps.foldl addN []).map .str) (List.replicate (f.ps.foldl addN []).length (.bl true))) with
              | some (.dic ks vs), .d (.dic ls ws) => if decide (ks.length + ls.length ≤ LIM) then some ((ckH (.lst ds) tt (tl.length + 2) (arD (p.map hdr) :: (tl ++ [O.dic ((tgts f.body).map .str) _]))).set (tl.length + 2) (.dic (dicPuts ls ws ks vs).1 (dicPuts ls ws ks vs).2)) else none
              | _, _ => none) = _
            rw [hat]
            dsimp only
            rw [if_pos (decide_eq_true (by simp only [List.length_map]; simp at hl1; unfold LIM; omega))]
            rfl) ?_
          refine ⟨_, fun tot => ⟨f.ps.foldl addN [] |>.foldl addN (tgts f.body), (dicPuts ((f.ps.foldl addN []).map .str) (List.replicate (f.ps.foldl addN []).length (.bl true)) ((tgts f.body).map .str) vs).2, ?_, fun x => ?_⟩, rfl, rfl⟩
          · unfold ckH
            rw [List.getElem?_cons_succ, List.getElem?_cons_succ, List.getElem?_set_self (by simp), dicPuts_key _ _ _ _ (by simp)]
          · rw [mem_foldN, mem_foldN, List.mem_append]
            simp
        rintro _ _ ⟨tl', hkn, rfl, rfl⟩
        conv => whnf
        refine (ckb_ok n d).p f.body b g3 ⟨tl', rfl⟩ (by rw [List.map_map]; exact ck.nd) hkn (hd f hf) (by omega) (by have := cf.dp; omega) (fun s hs => ⟨cf.st s hs, hx f hf s hs⟩) fun t' ht' => ?_
        exact ⟨dn ++ [f], fs, t', tl.length + 2, tl', _, _, by rw [e1]; simp, h2, by rw [ht', htt]; unfold tsum; simp, rfl, rfl⟩
  · obtain ⟨dn, fs, tt, kn, tl, a1, a2, e1, hr, htt, rfl, rfl⟩ := I
    exact k _
theorem load_ok {n d : Nat} {ls : List Ln} {p : List Fx} {Q : X → Hp → Prop} (hls : LsOk ls) (hk : ls.flatMap lnK = p.flatMap fxK) (hne : p ≠ []) (hl : p.length ≤ 1000) (hv : ∀ f ∈ p, FxV n f) (ck : CkOk p) (hx : ∀ f ∈ p, ∀ s ∈ allSs f.body, (exs s).length ≤ 1000) (k : ∀ ds h, RelFs ds p → Q (dat (.lst ds)) h) : Call (callF T (d + 11 + 3 * n)) 8 [.d (.str (joinS [10] (ls.map lnT)))] [] Q := by
  have e8 : d + 11 + 3 * n = (d + 10 + 3 * n) + 1 := by omega
  rw [e8]
  refine call_in rfl rfl ?_
  conv => whnf
  refine parse_ok hls hk hne hl hv fun ds h hr => ?_
  have e9 : d + 10 + 3 * n = (d + 7 + 2 * n) + 3 + n := by omega
  rw [e9]
  conv => whnf
  have ini : ∀ {D : Nat} {Q : X → Hp → Prop}, Q (dat .non) (ckH (.lst ds) 0 2 [arD [], .dic [] []]) → Call (callF T (D + 1)) 42 [.ref 0, .d (.lst ds)] [.ins 6 []] Q := by
    intro D Q k
    refine call_in rfl rfl ?_
    exact k
  have e10 : d + 7 + 2 * n + 3 + n = (d + 9 + 3 * n) + 1 := by omega
  rw [e10]
  refine ini ?_
  rw [← e10]
  conv => whnf
  refine all_ok hr ck (fun f hf => (hv f hf).dp) hx fun h => ?_
  exact k ds h hr
end PF
set_option linter.all false
set_option maxRecDepth 100000
namespace PF
open K
theorem nmv_of {x : Nm} (h1 : x ≠ []) (h2 : x.length ≤ 8) (h3 : ∀ c ∈ x, c ∈ LOW) (h4 : x ∉ KWS) : NmV x := .word h1 h2 h3 h4
theorem NM_v : ∀ x ∈ NM, NmV x := by
  intro x hx
  have : ∀ x ∈ NM, x ≠ [] ∧ x.length ≤ 8 ∧ (∀ c ∈ x, c ∈ LOW) ∧ x ∉ KWS := by decide
  obtain ⟨h1, h2, h3, h4⟩ := this x hx
  exact nmv_of h1 h2 h3 h4
theorem PA_v : ∀ x ∈ PA, NmV x := by
  intro x hx
  have : ∀ x ∈ PA, x ≠ [] ∧ x.length ≤ 8 ∧ (∀ c ∈ x, c ∈ LOW) ∧ x ∉ KWS := by decide
  obtain ⟨h1, h2, h3, h4⟩ := this x hx
  exact nmv_of h1 h2 h3 h4
theorem XY_v : ∀ x ∈ XY, NmV x := by
  intro x hx
  have : ∀ x ∈ XY, x ≠ [] ∧ x.length ≤ 8 ∧ (∀ c ∈ x, c ∈ LOW) ∧ x ∉ KWS := by decide
  obtain ⟨h1, h2, h3, h4⟩ := this x hx
  exact nmv_of h1 h2 h3 h4
mutual
theorem SmOk.all {z : Spc} : ∀ (s : Sm) (n : Nat), SmOk z n s → ∀ u ∈ allS s, ∃ m, SmOk z m u
  | .ifs l o r a b, n, h, u, hu => by
    rw [allS_ifs] at hu
    rcases List.mem_cons.mp hu with rfl | hu
    · exact ⟨n, h⟩
    · unfold SmOk at h
      rcases List.mem_append.mp hu with hu | hu
      · exact SmsOk.all a _ h.2.2.2.2.1 u hu
      · exact SmsOk.all b _ h.2.2.2.2.2.1 u hu
  | .loop e b, n, h, u, hu => by
    rw [allS_loop] at hu
    rcases List.mem_cons.mp hu with rfl | hu
    · exact ⟨n, h⟩
    · unfold SmOk at h
      exact SmsOk.all b _ h.2.2.1 u hu
  | .set x e, n, h, u, hu => by rw [allS_flat rfl] at hu; simp at hu; subst hu; exact ⟨n, h⟩
  | .put x e, n, h, u, hu => by rw [allS_flat rfl] at hu; simp at hu; subst hu; exact ⟨n, h⟩
  | .emit e, n, h, u, hu => by rw [allS_flat rfl] at hu; simp at hu; subst hu; exact ⟨n, h⟩
  | .ret e, n, h, u, hu => by rw [allS_flat rfl] at hu; simp at hu; subst hu; exact ⟨n, h⟩
  | .call x f as p q e, n, h, u, hu => by rw [allS_flat rfl] at hu; simp at hu; subst hu; exact ⟨n, h⟩
theorem SmsOk.all {z : Spc} : ∀ (ss : List Sm) (n : Nat), SmsOk z n ss → ∀ u ∈ allSs ss, ∃ m, SmOk z m u
  | [], n, h, u, hu => by rw [allSs_nil] at hu; cases hu
  | s :: ss, n, h, u, hu => by
    unfold SmsOk at h
    rw [allSs_cons] at hu
    rcases List.mem_append.mp hu with hu | hu
    · exact SmOk.all s n h.1 u hu
    · exact SmsOk.all ss n h.2 u hu
end
theorem self_all (s : Sm) : s ∈ allS s := by cases s <;> simp [allS]
theorem mem_all {s : Sm} : ∀ {ss : List Sm}, s ∈ ss → s ∈ allSs ss
  | x :: ss, h => by
    rw [allSs_cons]
    rcases List.mem_cons.mp h with rfl | h
    · exact List.mem_append_left _ (self_all _)
    · exact List.mem_append_right _ (mem_all h)
section
variable {b : Bool} {p : List Fx}
theorem ProgOk.vnm (hp : ProgOk b p) {f : Fx} (hf : f ∈ p) : NmV f.name := by
  obtain ⟨n, hn⟩ := hp.nm
  exact NM_v _ (List.mem_of_mem_take (i := n) (by rw [← hn]; exact List.mem_map_of_mem hf))
theorem ProgOk.full (hp : ProgOk b p) {f : Fx} (hf : f ∈ p) : ∃ k i j, p[k]? = some f ∧ f.ps = PA.take i ∧ SmsOk ⟨f.ps ++ XY.take j, f.ps ++ XY.take j, (p.map hdr).drop (if b then k + 1 else 0)⟩ 2 f.body ∧ (∀ x ∈ XY.take j, ∃ e, Sm.set x e ∈ f.body) ∧ f.body.length ≤ 6 := by
  obtain ⟨k, hk, rfl⟩ := List.getElem_of_mem hf
  have q := hp.fx k _ (List.getElem?_eq_getElem hk)
  obtain ⟨i, hi⟩ := q.ps
  obtain ⟨j, ok, hs⟩ := q.body
  exact ⟨k, i, j, List.getElem?_eq_getElem hk, hi, ok, hs, q.few⟩
theorem ProgOk.zv (hp : ProgOk b p) {f : Fx} {i j k : Nat} (hi : f.ps = PA.take i) : ZV ⟨f.ps ++ XY.take j, f.ps ++ XY.take j, (p.map hdr).drop k⟩ := by
  have hn : ∀ x ∈ f.ps ++ XY.take j, NmV x := fun x hx => by
    rcases List.mem_append.mp hx with hx | hx
    · rw [hi] at hx; exact PA_v x (List.mem_of_mem_take hx)
    · exact XY_v x (List.mem_of_mem_take hx)
  refine ⟨hn, hn, fun c hc => ?_⟩
  have hc2 := List.mem_of_mem_drop hc
  obtain ⟨g, hg, rfl⟩ := List.mem_map.mp hc2
  exact ⟨hp.vnm hg, (hp.hdr_ok _ hc2).2⟩
theorem ProgOk.fxv (hp : ProgOk b p) : ∀ f ∈ p, FxV 2 f := by
  intro f hf
  obtain ⟨k, i, j, hk, hi, ok, hs, hl⟩ := hp.full hf
  refine ⟨hp.vnm hf, fun x hx => ?_, by rw [hi]; simp [PA]; omega, SmsOk.v (hp.zv hi) _ _ ok, by omega, ok.dpts⟩
  rw [hi] at hx; exact PA_v x (List.mem_of_mem_take hx)
theorem ExOk.c {ns kn : List Nm} (h : ∀ x ∈ ns, x ∈ kn) {e : Ex} (he : ExOk ns e) : ExC kn e := by
  intro q hq
  have := he.tms q hq
  revert this
  cases q.2 with
  | n k => exact fun _ => trivial
  | l x => exact fun q => h x q
  | c i => exact fun _ => trivial
theorem SmOk.c {z : Spc} {hs : List (Nm × Nat)} {kn : List Nm} (h1 : ∀ x ∈ z.names, x ∈ kn) (h2 : ∀ c ∈ z.callees, c ∈ hs ∧ c.2 ≤ 4) {m : Nat} {s : Sm} (h : SmOk z m s) : SmC hs kn s ∧ (exs s).length ≤ 1000 := by
  cases s with
  | set x e => unfold SmOk at h; exact ⟨⟨by simp [exs]; exact h.2.c h1, trivial⟩, by simp [exs]⟩
  | put x e => unfold SmOk at h; exact ⟨⟨by simp [exs]; exact h.2.c h1, trivial⟩, by simp [exs]⟩
  | emit e => unfold SmOk at h; exact ⟨⟨by simp [exs]; exact h.c h1, trivial⟩, by simp [exs]⟩
  | ret e => unfold SmOk at h; exact ⟨⟨by simp [exs]; exact h.c h1, trivial⟩, by simp [exs]⟩
  | ifs l o r a b => unfold SmOk at h; exact ⟨⟨by simp [exs]; exact ⟨h.1.c h1, h.2.2.1.c h1⟩, trivial⟩, by simp [exs]⟩
  | loop e b => unfold SmOk at h; exact ⟨⟨by simp [exs]; exact h.1.c h1, trivial⟩, by simp [exs]⟩
  | call x f as p q e =>
    unfold SmOk at h
    obtain ⟨hx, hf, has, hpq, he⟩ := h
    obtain ⟨g1, g2⟩ := h2 _ hf
    dsimp only at g2
    have hp : 1 ≤ p ∧ p ≤ q ∧ q ≤ 9 := by
      unfold ShOk at hpq
      simp at hpq
      omega
    refine ⟨⟨fun g hg => ?_, g1, hp⟩, by simp [exs]; omega⟩
    simp [exs] at hg
    rcases hg with hg | rfl
    · exact (has g hg).c h1
    · exact he.c h1
theorem ProgOk.ck (hp : ProgOk b p) : CkOk p ∧ ∀ f ∈ p, ∀ s ∈ allSs f.body, (exs s).length ≤ 1000 := by
  have main : ∀ f ∈ p, ∀ s ∈ allSs f.body, SmC (p.map hdr) (tgts f.body ++ f.ps) s ∧ (exs s).length ≤ 1000 := by
    intro f hf s hs
    obtain ⟨k, i, j, hk, hi, ok, hset, hl⟩ := hp.full hf
    obtain ⟨m, hm⟩ := SmsOk.all _ _ ok s hs
    refine hm.c (fun x hx => ?_) fun c hc => ⟨List.mem_of_mem_drop hc, (hp.hdr_ok c (List.mem_of_mem_drop hc)).2⟩
    rcases List.mem_append.mp hx with hx | hx
    · exact List.mem_append_right _ hx
    · obtain ⟨e, he⟩ := hset x hx
      exact List.mem_append_left _ (mem_tgts.mpr ⟨_, mem_all he, rfl⟩)
  refine ⟨⟨by have := hp.len; omega, ?_, by have := hp.few; omega, fun f hf => ?_⟩, fun f hf s hs => (main f hf s hs).2⟩
  · obtain ⟨n, hn⟩ := hp.nm
    rw [hn]
    exact (show NM.Nodup by decide).sublist (List.take_sublist ..)
  · obtain ⟨k, i, j, hk, hi, ok, hset, hl⟩ := hp.full hf
    refine ⟨by rw [hi]; simp [PA]; omega, by rw [hi]; exact (show PA.Nodup by decide).sublist (List.take_sublist ..), by have := ok.dpts; omega, fun s hs => (main f hf s hs).1⟩
def srcLn (p : List Fx) : List Ln := (srcIt p).map fun its => (its, 0)
theorem srcLn_text (hv : ∀ f ∈ p, SmsV f.body) : (srcLn p).map lnT = srcL p := by
  unfold srcLn
  rw [List.map_map, ← srcIt_text hv]
  apply List.map_congr_left
  intro its _
  show ren its ++ List.replicate 0 32 = _
  simp
theorem ProgOk.ls (hp : ProgOk b p) : LsOk (srcLn p) := by
  have hv : ∀ f ∈ p, SmsV f.body := fun f hf => (hp.fxv f hf).bd
  have ht := srcLn_text hv
  obtain ⟨s1, s2⟩ := hp.size
  have hlen : (srcLn p).length = (srcL p).length := by rw [← ht, List.length_map]
  refine ⟨fun q => ?_, fun l hl => ?_, ?_⟩
  · rw [q] at hlen
    have h0 := hp.ne
    cases hpp : p with
    | nil => rw [hpp] at h0; simp at h0
    | cons f fs => rw [hpp] at hlen; simp [srcL, fxL] at hlen
  · unfold srcLn at hl
    obtain ⟨its, hi, rfl⟩ := List.mem_map.mp hl
    exact srcIt_ok (fun f hf => ⟨(hp.fxv f hf).nm, (hp.fxv f hf).ps, hv f hf⟩) its hi
  · rw [ht, hlen]; omega
/-- any text whose tokens are the program's loads as it -/
theorem load_any {d : Nat} {Q : X → Hp → Prop} (hp : ProgOk b p) {ls : List Ln} (hls : LsOk ls) (hk : ls.flatMap lnK = p.flatMap fxK) (k : ∀ ds h, RelFs ds p → Q (dat (.lst ds)) h) : Call (callF T (d + 17)) 8 [.d (.str (joinS [10] (ls.map lnT)))] [] Q :=
  load_ok (n := 2) (d := d) hls hk (fun q => by have := hp.ne; rw [q] at this; simp at this) (by have := hp.len; omega) hp.fxv hp.ck.1 hp.ck.2 k
theorem load_src {d : Nat} {Q : X → Hp → Prop} (hp : ProgOk b p) (k : ∀ ds h, RelFs ds p → Q (dat (.lst ds)) h) : Call (callF T (d + 17)) 8 [.d (.str (srcS p))] [] Q := by
  have hv : ∀ f ∈ p, SmsV f.body := fun f hf => (hp.fxv f hf).bd
  have e : srcS p = joinS [10] ((srcLn p).map lnT) := by unfold srcS; rw [srcLn_text hv]
  rw [e]
  have hk : (srcLn p).flatMap lnK = p.flatMap fxK := by
    rw [← srcIt_tok]
    unfold srcLn itK
    rw [List.flatMap_map]
    rfl
  exact load_ok (n := 2) (d := d) hp.ls hk (fun q => by have := hp.ne; rw [q] at this; simp at this) (by have := hp.len; omega) hp.fxv hp.ck.1 hp.ck.2 k
end
end PF
set_option linter.all false
set_option maxRecDepth 100000
namespace PF
open K
/-! ### equal(x, x) -/
mutual
def okD : D → Bool
  | .tup xs => decide (xs.length ≤ 100000) && okDs xs
  | .lst xs => decide (xs.length ≤ 100000) && okDs xs
  | .dic _ _ => false
  | .ins _ _ => false
  | _ => true
def okDs : List D → Bool
  | [] => true
  | x :: r => okD x && okDs r
end
theorem okDs_mem {x : D} : ∀ {xs : List D}, okDs xs = true → x ∈ xs → okD x = true
  | y :: xs, h, hx => by
    unfold okDs at h
    rw [Bool.and_eq_true] at h
    rcases List.mem_cons.mp hx with rfl | hx
    · exact h.1
    · exact okDs_mem h.2 hx
theorem deeps_mem {x : D} : ∀ {xs : List D}, x ∈ xs → deep x ≤ deeps xs
  | y :: xs, hx => by
    unfold deeps
    rcases List.mem_cons.mp hx with rfl | hx
    · omega
    · have := deeps_mem hx; omega
theorem blsOf_true : ∀ n : Nat, blsOf (List.replicate n (D.bl true)) = some (List.replicate n true)
  | 0 => rfl
  | n + 1 => by rw [List.replicate_succ, List.replicate_succ]; unfold blsOf; rw [blsOf_true n]; rfl
theorem all_true (n : Nat) : (List.replicate n true).all id = true := by
  induction n with
  | zero => rfl
  | succ n ih => rw [List.replicate_succ, List.all_cons, ih]; rfl
theorem len_seq {x : D} {xs : List D} {h : Hp} {K : X → Prop} (hx : x = .tup xs ∨ x = .lst xs) (k : K (dat (.int xs.length))) : wL (biV .len [.d x] h) K := by
  rcases hx with rfl | rfl <;> exact k
theorem ix_seq {x : D} {xs : List D} {h : Hp} {i : Int} {n : Nat} {y : D} {K : V → Prop} (hx : x = .tup xs ∨ x = .lst xs) (hi : i = n) (hy : xs[n]? = some y) (k : K (.d y)) : wL (ixV (.d x) (.d (.int i)) h) K := by
  subst hi
  refine wL_of (a := .d y) ?_ k
  rcases hx with rfl | rfl
  · show (ixD _ _).map _ = _
    rw [ixD_tup hy]; rfl
  · show (ixD _ _).map _ = _
    rw [ixD_lst hy]; rfl
theorem eq_last {d : Nat} {x : D} {xs : List D} {h : Hp} {Q : X → Hp → Prop} (hx : x = .tup xs ∨ x = .lst xs) (hl : xs.length ≤ 100000) (hc : ∀ y ∈ xs, ∀ Q : X → Hp → Prop, Q (dat (.bl true)) h → Call (callF T d) 22 [.d y, .d y] h Q) (k : Q (dat (.bl true)) h) :
    wSs T (callF T d) (f_law_equal.body.dr 7) [some (.v (.d x)), some (.v (.d x)), none] h (QF Q) := by
  have e : f_law_equal.body.dr 7 = .cons (.ret (.bi .all (.cons (.lc [2] (.cl 22 (.cons (.ix (.v 0) (.v 2)) (.cons (.ix (.v 1) (.v 2)) .nil))) (.n 2) (.rng (.k (.int 0)) (.bi .len (.cons (.v 1) .nil))) .nil) .nil))) .nil := rfl
  rw [e]
  unfold wSs wS wE wEs wE wIt wE wE wEs wE wEs
  refine wL_of (a := .d x) rfl ?_
  refine len_seq hx ?_
  refine rng_ok (by omega) (by omega) (by omega) (by omega) ?_
  refine lc_range (fun j acc h' => acc = List.replicate j (.bl true) ∧ h' = h) (fun j ji acc h' hji hj I => ?_) (fun acc h' I => ?_) ⟨rfl, rfl⟩
  · obtain ⟨rfl, rfl⟩ := I
    have hy := List.getElem?_eq_getElem hj
    conv => whnf
    refine ix_seq hx hji hy ?_
    conv => whnf
    refine ix_seq hx hji hy ?_
    conv => whnf
    refine hc _ (List.getElem_mem hj) _ ?_
    refine ⟨by rw [List.length_replicate]; unfold LIM; omega, ?_, rfl⟩
    rw [show [D.bl true] = List.replicate 1 (D.bl true) from rfl, List.replicate_append_replicate]
  · obtain ⟨rfl, rfl⟩ := I
    refine wL_of (a := dat (.bl true)) ?_ k
    show (blsOf _).map _ = _
    rw [blsOf_true, Option.map_some, all_true]
theorem equal_ok (n : Nat) : ∀ (x : D) {d : Nat} {h : Hp} {Q : X → Hp → Prop}, okD x = true → deep x ≤ n → Q (dat (.bl true)) h → Call (callF T (d + 1 + n)) 22 [.d x, .d x] h Q := by
  induction n with
  | zero => ?_
  | succ n ih => ?_
  all_goals
    intro x d h Q hok hd k
    refine call_in rfl rfl ?_
    cases x with
    | non => exact k
    | bl b => cases b <;> exact k
    | int i =>
      conv => whnf
      refine wI_t (by simp [eqb]) ?_
      exact k
    | str s =>
      conv => whnf
      refine wI_t (by simp) ?_
      exact k
    | dic ks vs => cases hok
    | ins c vs => cases hok
    | tup xs =>
      unfold okD at hok
      rw [Bool.and_eq_true, decide_eq_true_eq] at hok
      unfold deep at hd
      first
        | (exfalso; omega)
        | (refine norm_eq.mpr ?_
           refine if_ret (fun b h' => b = false ∧ h' = h) ⟨rfl, rfl⟩ (fun h' e => nomatch e.1) (fun h' e => ?_)
           obtain ⟨-, rfl⟩ := e
           refine if_ret (fun b h'' => b = false ∧ h'' = h') ⟨rfl, rfl⟩ (fun h' e => nomatch e.1) (fun h' e => ?_)
           obtain ⟨-, rfl⟩ := e
           refine if_ret (fun b h'' => b = false ∧ h'' = h') ⟨rfl, rfl⟩ (fun h' e => nomatch e.1) (fun h' e => ?_)
           obtain ⟨-, rfl⟩ := e
           refine if_ret (fun b h'' => b = false ∧ h'' = h') ⟨rfl, rfl⟩ (fun h' e => nomatch e.1) (fun h' e => ?_)
           obtain ⟨-, rfl⟩ := e
           refine if_ret (fun b h'' => b = false ∧ h'' = h') ⟨rfl, rfl⟩ (fun h' e => nomatch e.1) (fun h' e => ?_)
           obtain ⟨-, rfl⟩ := e
           refine if_ret (fun b h'' => b = false ∧ h'' = h') ⟨rfl, rfl⟩ (fun h' e => nomatch e.1) (fun h' e => ?_)
           obtain ⟨-, rfl⟩ := e
           refine if_ret (fun b h'' => b = false ∧ h'' = h') ⟨by simp [eqb], rfl⟩ (fun h' e => nomatch e.1) (fun h' e => ?_)
           obtain ⟨-, rfl⟩ := e
           exact eq_last (.inl rfl) hok.1 (fun y hy Q k => ih y (okDs_mem hok.2 hy) (by have := deeps_mem hy; omega) k) k)
    | lst xs =>
      unfold okD at hok
      rw [Bool.and_eq_true, decide_eq_true_eq] at hok
      unfold deep at hd
      first
        | (exfalso; omega)
        | (refine norm_eq.mpr ?_
           refine if_ret (fun b h' => b = false ∧ h' = h) ⟨rfl, rfl⟩ (fun h' e => nomatch e.1) (fun h' e => ?_)
           obtain ⟨-, rfl⟩ := e
           refine if_ret (fun b h'' => b = false ∧ h'' = h') ⟨rfl, rfl⟩ (fun h' e => nomatch e.1) (fun h' e => ?_)
           obtain ⟨-, rfl⟩ := e
           refine if_ret (fun b h'' => b = false ∧ h'' = h') ⟨rfl, rfl⟩ (fun h' e => nomatch e.1) (fun h' e => ?_)
           obtain ⟨-, rfl⟩ := e
           refine if_ret (fun b h'' => b = false ∧ h'' = h') ⟨rfl, rfl⟩ (fun h' e => nomatch e.1) (fun h' e => ?_)
           obtain ⟨-, rfl⟩ := e
           refine if_ret (fun b h'' => b = false ∧ h'' = h') ⟨rfl, rfl⟩ (fun h' e => nomatch e.1) (fun h' e => ?_)
           obtain ⟨-, rfl⟩ := e
           refine if_ret (fun b h'' => b = false ∧ h'' = h') ⟨rfl, rfl⟩ (fun h' e => nomatch e.1) (fun h' e => ?_)
           obtain ⟨-, rfl⟩ := e
           refine if_ret (fun b h'' => b = false ∧ h'' = h') ⟨by simp [eqb], rfl⟩ (fun h' e => nomatch e.1) (fun h' e => ?_)
           obtain ⟨-, rfl⟩ := e
           exact eq_last (.inr rfl) hok.1 (fun y hy Q k => ih y (okDs_mem hok.2 hy) (by have := deeps_mem hy; omega) k) k)
/-! ### random -/
theorem random_ok {d : Nat} {ns : List Int} {sl : Int} {h : Hp} (h0 : 0 ≤ sl) (hl : ns.length ≤ 1000) {Q : X → Hp → Prop} (k : ∀ s r, RndOk s 0 r → Q (.fl (.int s :: .int 0 :: r.map .int)) h) : Call (callF T (d + 1)) 10 [.scr ns, .d (.int sl)] h Q := by
  refine call_in rfl rfl ?_
  conv => whnf
  refine for_inv (fun xs σ h' => ∃ (ms : List Int) (s : Int) (a3 : Option SV), xs = ms.map (fun n => .d (.int n)) ∧ 0 ≤ s ∧ σ = [some (.v (.scr ns)), some (.v (.d (.int sl))), some (.v (.d (.int s))), a3] ∧ h' = h) (fun x rest σ h' I => ?_) (fun σ h' I => ?_) _ ⟨ns, sl, none, rfl, h0, rfl, rfl⟩
  · obtain ⟨ms, s, a3, e, hs, rfl, rfl⟩ := I
    cases ms with
    | nil => cases e
    | cons m ms =>
      cases e
      refine wL_of rfl ?_
      conv => whnf
      refine wL_mul rfl ?_
      conv => whnf
      exact ⟨ms, _, _, rfl, Int.emod_nonneg _ (by omega), rfl, rfl⟩
  · obtain ⟨ms, s, a3, e, hs, rfl, rfl⟩ := I
    conv => whnf
    refine lc_inv (fun xs acc h'' => ∃ (ms : List Int) (r : List Int), xs = ms.map (fun n => .d (.int n)) ∧ acc = r.map .int ∧ (∀ i ∈ r, 0 ≤ i) ∧ r.length + ms.length ≤ 1000 ∧ h'' = h') (fun x rest acc h'' I => ?_) (fun acc h'' I => ?_) _ ⟨ns, [], rfl, rfl, by simp, by simpa using hl, rfl⟩
    · obtain ⟨ms, r, e, rfl, hr, hrl, rfl⟩ := I
      cases ms with
      | nil => cases e
      | cons m ms =>
        cases e
        simp at hrl
        refine wL_of rfl ?_
        conv => whnf
        refine wI_dec (fun q => ?_) (fun q => ?_)
        · conv => whnf
          refine ⟨by rw [List.length_map]; unfold LIM; omega, ms, r ++ [m], rfl, by simp, fun i hi => ?_, by simp; omega, rfl⟩
          rcases List.mem_append.mp hi with hi | hi
          · exact hr i hi
          · simp at hi; subst hi
            have h18 : (0 : Int) ≤ 10 ^ (18 : Int).toNat := by decide
            exact Int.le_trans h18 q
        · exact ⟨ms, r, rfl, rfl, hr, by omega, rfl⟩
    · obtain ⟨ms, r, e, rfl, hr, hrl, rfl⟩ := I
      cases ms with
      | cons m ms => cases e
      | nil =>
        refine wL_addL (xs := [.int s, .int 0]) (ys := r.map .int) rfl rfl (by simp at hrl ⊢; unfold LIM; omega) ?_
        exact k s r ⟨hs, by omega, hr⟩
end PF
set_option linter.all false
set_option maxRecDepth 100000
namespace PF
open K
theorem ix_seq0 {x : D} {xs : List D} {h : Hp} {K : V → Prop} (k : K (.d x)) : wL (ixV (.d (.lst (x :: xs))) (.d (.int 0)) h) K := by
  refine wL_of (a := .d x) ?_ k
  show (ixD _ _).map _ = _
  rw [show (0 : Int) = ((0 : Nat) : Int) from rfl, ixD_lst (x := x) rfl]; rfl
theorem fexp_ok {d : Nat} {h : Hp} {ns : List Nm} (hn : NsOk ns) {x : D} {g : Ex} (hr : RelE x g) (he : ExOk ns g) {Q : X → Hp → Prop} (k : Q (dat (.str (exS g))) h) : Call (callF T (d + 1)) 48 [.d x] h Q := by
  obtain ⟨ds, rfl, hr⟩ := hr
  have hw := exW_drop hn he
  cases hr with
  | nil => have := he.ne; simp at this
  | cons h1 h2 =>
    rename_i o tm t ds g
    obtain ⟨l, c, rfl⟩ := h1
    refine call_in rfl rfl ?_
    conv => whnf
    refine ix_seq0 ?_
    conv => whnf
    have e : cut (D.tup [.str [o], tokD (tkT tm) l c] :: ds) (some 1) none = ds := by rw [cut_drop (by omega)]; rfl
    refine (show ∀ L : List D, L = _ → LFor T (callF T d) (f_format_expression.body.at' 1).bd (.t [2, 3]) (L.map .d) _ _ _ from fun L eL => ?_) _ e
    rw [eL]
    refine for_data (fun rest σ h' => ∃ (dn tl : Ex) (a2 a3 : Option SV), g = dn ++ tl ∧ RelT rest tl ∧ σ = [some (.v (.d (.lst (.tup [.str [o], tokD (tkT tm) l c] :: ds)))), some (.ol ((tmS tm :: exW dn).map .str)), a2, a3] ∧ h' = h) (fun y rest σ h' I => ?_) (fun σ h' I => ?_) _ ⟨[], g, none, none, rfl, h2, by rw [← tkT_text]; rfl, rfl⟩
    · obtain ⟨dn, tl, a2, a3, e1, hr, rfl, rfl⟩ := I
      cases hr with
      | cons h1 h2 =>
        rename_i o2 tm2 t2 tl
        obtain ⟨l2, c2, rfl⟩ := h1
        refine ⟨[some (.v (.d (.lst (.tup [.str [o], tokD (tkT tm) l c] :: ds)))), some (.ol ((tmS tm :: exW dn).map .str)), some (.v (.d (.str [o2]))), some (.v (.d (tokD (tkT tm2) l2 c2)))], rfl, ?_⟩
        have hwl : (exW dn).length ≤ 100 := by
          have hx := (exW_sum dn fun p hp => tmS_len hn (he.tms p (by rw [e1]; simp [hp]))).2
          have := he.few
          have := congrArg List.length e1
          rw [List.length_append] at this
          simp at *
          omega
        conv => whnf
        refine wL_ext (xs := (tmS tm :: exW dn).map .str) (ys := [.str [o2], .str (tkT tm2).text]) (by rw [List.length_map]; simp; unfold LIM; omega) ?_
        refine ⟨dn ++ [(o2, tm2)], tl, some (.v (.d (.str [o2]))), some (.v (.d (tokD (tkT tm2) l2 c2))), by rw [e1]; simp, h2, ?_, rfl⟩
        rw [tkT_text]
        unfold exW
        simp
    · obtain ⟨dn, tl, a2, a3, e1, hr, rfl, rfl⟩ := I
      cases hr
      rw [List.append_nil] at e1
      subst e1
      conv => whnf
      have e2 : (exW ((o, tm) :: g)).drop 1 = tmS tm :: exW g := by unfold exW; rfl
      rw [e2] at hw
      refine join_ok (ws := tmS tm :: exW g) rfl (by simp only [List.length_cons, List.length_nil] at hw ⊢; unfold LIM; omega) ?_
      have e3 : exS ((o, tm) :: g) = joinS [32] (tmS tm :: exW g) := by unfold exS; rw [e2]
      rw [← e3]
      exact k
theorem fcall_ok {d : Nat} {h : Hp} {z : Spc} (hz : NzOk z) {n : Nat} {x : D} {v f : Nm} {as : List Ex} {p q : Nat} {e : Ex} (hr : RelS x (.call v f as p q e)) (hs : SmOk z n (.call v f as p q e)) {Q : X → Hp → Prop} (k : Q (dat (.str (lnS (.call v f as p q e)))) h) : Call (callF T (d + 2)) 49 [.d x] h Q := by
  unfold SmOk at hs
  obtain ⟨hx, hf, has, hpq, he⟩ := hs
  have l1 := hz.t v hx
  have l2 := exS_len hz.n he
  obtain ⟨l3, l4⟩ := hz.c _ hf
  dsimp only at l3 l4
  have hp : p < 10 ∧ q < 10 := by
    unfold ShOk at hpq
    simp at hpq
    omega
  have lp : (natDigs p).length = 1 := by rw [digs_lt hp.1]; rfl
  have lq : (natDigs q).length = 1 := by rw [digs_lt hp.2]; rfl
  have lin : ∀ as : List Ex, (∀ a ∈ as, ExOk z.names a) → ((as.map exS).map List.length).sum ≤ 60 * as.length := by
    intro as
    induction as with
    | nil => simp
    | cons a as ih =>
      intro h
      have h1 := exS_len hz.n (h a List.mem_cons_self)
      have h2 := ih fun b hb => h b (List.mem_cons_of_mem _ hb)
      simp only [List.map_cons, List.sum_cons, List.length_cons]
      omega
  have l5 := lin as has
  have l6 := joinS_len [44, 32] (as.map exS)
  simp only [List.length_cons, List.length_nil, List.length_map] at l6
  cases hr with
  | call h1 h2 h3 h4 h5 h6 =>
    obtain ⟨c1, c2, rfl⟩ := h1
    obtain ⟨c3, c4, rfl⟩ := h2
    obtain ⟨c5, c6, rfl⟩ := h4
    obtain ⟨c7, c8, rfl⟩ := h5
    rename_i ds
    refine call_in rfl rfl ?_
    conv => whnf
    refine lc_data (fun rest acc h' => ∃ dn tl : List Ex, as = dn ++ tl ∧ RelEs rest tl ∧ acc = (dn.map exS).map .str ∧ h' = h) (fun y rest acc h' I => ?_) (fun acc h' I => ?_) _ ⟨[], as, rfl, h3, rfl, rfl⟩
    · obtain ⟨dn, tl, e1, hr, rfl, rfl⟩ := I
      cases hr with
      | cons g1 g2 =>
        rename_i a tl
        conv => whnf
        refine fexp_ok hz.n g1 (has a (by rw [e1]; simp)) ?_
        have : dn.length ≤ 4 := by have := congrArg List.length e1; rw [List.length_append] at this; omega
        exact ⟨by rw [List.length_map, List.length_map]; unfold LIM; omega, dn ++ [a], tl, by rw [e1]; simp, g2, by simp, rfl⟩
    · obtain ⟨dn, tl, e1, hr, rfl, rfl⟩ := I
      cases hr
      rw [List.append_nil] at e1
      subst e1
      conv => whnf
      refine join_ok (ws := as.map exS) rfl (by simp only [List.length_cons, List.length_nil, List.length_map]; unfold LIM; omega) ?_
      generalize hJ : joinS [44, 32] (as.map exS) = J at l6
      conv => whnf
      refine wL_addS (s := natDigs p) (t := [47]) (by simp; unfold LIM; omega) ?_
      conv => whnf
      refine wL_addS (s := natDigs p ++ [47]) (t := natDigs q) (by simp; unfold LIM; omega) ?_
      conv => whnf
      refine wL_addS (s := [99, 97, 108, 108, 32]) (t := v) (by simp; unfold LIM; omega) ?_
      conv => whnf
      refine wL_addS (by simp; unfold LIM; omega) ?_
      conv => whnf
      refine wL_addS (s := [99, 97, 108, 108, 32] ++ v ++ [32, 61, 32]) (t := f) (by simp; unfold LIM; omega) ?_
      conv => whnf
      refine wL_addS (by simp; unfold LIM; omega) ?_
      conv => whnf
      refine wL_addS (by simp; unfold LIM; omega) ?_
      conv => whnf
      refine wL_addS (by simp; unfold LIM; omega) ?_
      conv => whnf
      refine wL_addS (by simp; unfold LIM; omega) ?_
      conv => whnf
      refine wL_addS (by simp; unfold LIM; omega) ?_
      conv => whnf
      refine wL_addS (by simp; unfold LIM; omega) ?_
      conv => whnf
      refine fexp_ok hz.n h6 he ?_
      refine wL_addS (by simp; unfold LIM; omega) ?_
      conv => whnf
      refine wL_addS (by simp; unfold LIM; omega) ?_
      have e9 : lnS (.call v f as p q e) = [99, 97, 108, 108, 32] ++ v ++ [32, 61, 32] ++ f ++ [40] ++ J ++ [41] ++ [32, 115, 104, 97, 114, 101, 32] ++ (natDigs p ++ [47] ++ natDigs q) ++ [32, 101, 108, 115, 101, 32] ++ exS e ++ [59] := by
        simp [lnS, joinS, hJ]
      rw [e9] at k
      exact k
theorem fsimp_ok {d : Nat} {h : Hp} {z : Spc} (hz : NzOk z) {n : Nat} {x : D} {s : Sm} (hr : RelS x s) (hs : SmOk z n s) (hf : flat1 s = true) {Q : X → Hp → Prop} (k : Q (dat (.str (lnS s))) h) : Call (callF T (d + 3)) 50 [.d x] h Q := by
  have hr0 := hr
  have hs0 := hs
  cases hr with
  | ifs h1 h2 h3 h4 => cases hf
  | loop h1 h2 => cases hf
  | call h1 h2 h3 h4 h5 h6 =>
    refine call_in rfl rfl ?_
    conv => whnf
    exact fcall_ok hz hr0 hs0 k
  | emit h1 =>
    unfold SmOk at hs
    have l2 := exS_len hz.n hs
    refine call_in rfl rfl ?_
    conv => whnf
    refine fexp_ok hz.n h1 hs ?_
    refine wL_addS (by simp; unfold LIM; omega) ?_
    conv => whnf
    refine wL_addS (by simp; unfold LIM; omega) ?_
    exact k
  | ret h1 =>
    unfold SmOk at hs
    have l2 := exS_len hz.n hs
    refine call_in rfl rfl ?_
    conv => whnf
    refine fexp_ok hz.n h1 hs ?_
    refine wL_addS (by simp; unfold LIM; omega) ?_
    conv => whnf
    refine wL_addS (by simp; unfold LIM; omega) ?_
    exact k
  | set h1 h2 =>
    rename_i t x2 e2 v g
    unfold SmOk at hs
    have l1 := hz.t v hs.1
    have l2 := exS_len hz.n hs.2
    obtain ⟨c1, c2, rfl⟩ := h1
    refine call_in rfl rfl ?_
    conv => whnf
    refine wL_addS (s := [115, 101, 116, 32]) (t := v) (by simp; unfold LIM; omega) ?_
    conv => whnf
    refine wL_addS (by simp; unfold LIM; omega) ?_
    conv => whnf
    refine fexp_ok hz.n h2 hs.2 ?_
    refine wL_addS (by simp; unfold LIM; omega) ?_
    conv => whnf
    refine wL_addS (by simp; unfold LIM; omega) ?_
    exact k
  | put h1 h2 =>
    rename_i t x2 e2 i g
    unfold SmOk at hs
    have l2 := exS_len hz.n hs.2
    obtain ⟨c1, c2, rfl⟩ := h1
    refine call_in rfl rfl ?_
    conv => whnf
    refine fexp_ok hz.n h2 hs.2 ?_
    refine wL_addS (by simp; unfold LIM; omega) ?_
    conv => whnf
    refine wL_addS (by simp; unfold LIM; omega) ?_
    exact k
end PF
set_option linter.all false
set_option maxRecDepth 100000
namespace PF
open K
structure FbP (z : Spc) (n d : Nat) : Prop where
  p : ∀ (ss : List Sm) (ds : List D) (i : List Nat) {h : Hp} {Q : X → Hp → Prop}, RelSs ds ss → SmsOk z n ss → tots ss ≤ 100 → i.length + 2 * n ≤ 100 → Q (.fl ((lnss i ss).map .str)) h → Call (callF T d) 51 [.d (.lst ds), .d (.str i)] h Q
theorem fbody_of {z : Spc} (hz : NzOk z) {n d : Nat} (ih : ∀ m, n = m + 1 → FbP z m (d + 3)) : FbP z n (d + 4) := by
  constructor
  intro ss ds i h Q hrel hok htt hil k
  refine call_in rfl rfl ?_
  conv => whnf
  refine for_list (fun rest σ h' => ∃ (dn tl : List Sm) (a3 a4 a5 : Option SV), ss = dn ++ tl ∧ RelSs rest tl ∧ σ = [some (.v (.d (.lst ds))), some (.v (.d (.str i))), some (.ol ((lnss i dn).map .str)), a3, a4, a5] ∧ h' = h) (fun x rest σ h' I => ?_) (fun σ h' I => ?_) _ ⟨[], ss, none, none, none, rfl, hrel, by rw [lnss_nil]; rfl, rfl⟩
  rotate_left
  · obtain ⟨dn, tl, a3, a4, a5, e1, hr, rfl, rfl⟩ := I
    cases hr
    rw [List.append_nil] at e1
    subst e1
    exact k
  obtain ⟨dn, tl, a3, a4, a5, e1, hr, rfl, rfl⟩ := I
  cases hr with
  | cons hrs hr =>
    rename_i s tl
    have hs : SmOk z n s := SmsOk_iff.mp hok s (by rw [e1]; simp)
    have htd : tots dn + (tot s + tots tl) = tots ss := by rw [e1, tots_append, tots_cons]
    have hln := lnss_len dn i
    have hlenL : ((lnss i dn).map D.str).length ≤ 300 := by rw [List.length_map]; omega
    have fin : ∀ {L : List D} {a3 a4 a5 : Option SV}, L = (lnss i (dn ++ [s])).map .str → ∃ (dn' tl' : List Sm) (b3 b4 b5 : Option SV), ss = dn' ++ tl' ∧ RelSs rest tl' ∧ [some (SV.v (V.d (.lst ds))), some (.v (.d (.str i))), some (.ol L), a3, a4, a5] = [some (.v (.d (.lst ds))), some (.v (.d (.str i))), some (.ol ((lnss i dn').map .str)), b3, b4, b5] ∧ h' = h' := fun {L a3 a4 a5} q =>
      ⟨dn ++ [s], tl, a3, a4, a5, by rw [e1]; simp, hr, by rw [q], rfl⟩
    have hsn : lnss i (dn ++ [s]) = lnss i dn ++ lns i s := by rw [lnss_append, lnss_cons, lnss_nil, List.append_nil]
    rw [hsn, List.map_append] at fin
    generalize hL : (lnss i dn).map D.str = L at hlenL fin ⊢
    have hsl := lnS_len hz hs
    have flt : flat1 s = true → ∀ a3 a4 a5, wL (opX .add (dat (.str i)) (dat (.str (lnS s)))) fun r => wL (appOwn (some (.ol L)) r.toV) fun sv => ∃ (dn' tl' : List Sm) (b3 b4 b5 : Option SV), ss = dn' ++ tl' ∧ RelSs rest tl' ∧ [some (SV.v (V.d (.lst ds))), some (.v (.d (.str i))), some sv, a3, a4, a5] = [some (.v (.d (.lst ds))), some (.v (.d (.str i))), some (.ol ((lnss i dn').map .str)), b3, b4, b5] ∧ h' = h' := by
      intro q a3 a4 a5
      refine wL_addS (by unfold LIM; omega) ?_
      refine wL_app (by unfold LIM; omega) ?_
      refine fin ?_
      rw [lns_flat i q]
      rfl
    have hrs0 := hrs
    cases hrs with
    | set h1 h2 =>
      conv => whnf
      exact fsimp_ok hz hrs0 hs rfl (flt rfl _ _ _)
    | put h1 h2 =>
      conv => whnf
      exact fsimp_ok hz hrs0 hs rfl (flt rfl _ _ _)
    | emit h1 =>
      conv => whnf
      exact fsimp_ok hz hrs0 hs rfl (flt rfl _ _ _)
    | ret h1 =>
      conv => whnf
      exact fsimp_ok hz hrs0 hs rfl (flt rfl _ _ _)
    | call h1 h2 h3 h4 h5 h6 =>
      conv => whnf
      exact fsimp_ok hz hrs0 hs rfl (flt rfl _ _ _)
    | loop h1 h2 =>
      rename_i t ed b e gb
      clear flt
      unfold SmOk at hs
      obtain ⟨he, hn0, hb, hlb⟩ := hs
      obtain ⟨m, rfl⟩ : ∃ m, n = m + 1 := ⟨n - 1, by omega⟩
      have l2 := exS_len hz.n he
      rw [tot_loop] at htd
      rw [lns_loop] at fin
      have lb := lnss_len gb (i ++ [32, 32])
      conv => whnf
      refine wL_addS (by simp; unfold LIM; omega) ?_
      conv => whnf
      refine fexp_ok hz.n h1 he ?_
      refine wL_addS (by simp; unfold LIM; omega) ?_
      conv => whnf
      refine wL_addS (by simp; unfold LIM; omega) ?_
      refine wL_app (xs := L) (by unfold LIM; omega) ?_
      conv => whnf
      refine wL_addS (by simp; unfold LIM; omega) ?_
      refine (ih m rfl).p gb b (i ++ [32, 32]) h2 hb (by omega) (by simp; omega) ?_
      refine wL_ext (xs := L ++ [.str (i ++ [108, 111, 111, 112, 32] ++ exS e ++ [32, 123])]) (ys := (lnss (i ++ [32, 32]) gb).map .str) (by simp; unfold LIM; omega) ?_
      conv => whnf
      refine wL_addS (by simp; unfold LIM; omega) ?_
      refine wL_app (xs := L ++ [.str (i ++ [108, 111, 111, 112, 32] ++ exS e ++ [32, 123])] ++ (lnss (i ++ [32, 32]) gb).map .str) (by simp; unfold LIM; omega) ?_
      refine fin ?_
      simp
    | ifs h1 h2 h3 h4 =>
      rename_i t ld rd a b o l r ga gb
      clear flt
      unfold SmOk at hs
      obtain ⟨he1, ho, he2, hn0, ha, hb, hla, hlb⟩ := hs
      obtain ⟨m, rfl⟩ : ∃ m, n = m + 1 := ⟨n - 1, by omega⟩
      have l1 := exS_len hz.n he1
      have l2 := exS_len hz.n he2
      rw [tot_ifs] at htd
      rw [lns_ifs] at fin
      have la := lnss_len ga (i ++ [32, 32])
      have lb := lnss_len gb (i ++ [32, 32])
      conv => whnf
      refine fexp_ok hz.n h1 he1 ?_
      conv => whnf
      refine fexp_ok hz.n h2 he2 ?_
      conv => whnf
      refine wL_addS (by simp; unfold LIM; omega) ?_
      conv => whnf
      refine wL_addS (by simp; unfold LIM; omega) ?_
      conv => whnf
      refine wL_addS (by simp; unfold LIM; omega) ?_
      conv => whnf
      refine wL_addS (by simp; unfold LIM; omega) ?_
      conv => whnf
      refine wL_addS (by simp; unfold LIM; omega) ?_
      conv => whnf
      refine wL_addS (by simp; unfold LIM; omega) ?_
      conv => whnf
      refine wL_addS (by simp; unfold LIM; omega) ?_
      have hJ : i ++ [105, 102, 32] ++ exS l ++ [32] ++ [o] ++ [32] ++ exS r ++ [32, 123] = i ++ joinS [32] [[105, 102], exS l, [o], exS r, [123]] := by simp [joinS]
      have hJl : (i ++ [105, 102, 32] ++ exS l ++ [32] ++ [o] ++ [32] ++ exS r ++ [32, 123]).length ≤ 1000 := by simp; omega
      rw [← hJ] at fin
      generalize i ++ [105, 102, 32] ++ exS l ++ [32] ++ [o] ++ [32] ++ exS r ++ [32, 123] = J at fin hJl ⊢
      refine wL_app (xs := L) (by unfold LIM; omega) ?_
      conv => whnf
      refine wL_addS (by simp; unfold LIM; omega) ?_
      refine (ih m rfl).p ga a (i ++ [32, 32]) h3 ha (by omega) (by simp; omega) ?_
      refine wL_ext (xs := L ++ [.str J]) (ys := (lnss (i ++ [32, 32]) ga).map .str) (by simp; unfold LIM; omega) ?_
      conv => whnf
      cases h4 with
      | nil =>
        refine wL_addS (by simp; unfold LIM; omega) ?_
        refine wL_app (xs := L ++ [.str J] ++ (lnss (i ++ [32, 32]) ga).map .str) (by simp; unfold LIM; omega) ?_
        refine fin ?_
        simp
      | cons g1 g2 =>
        rename_i bd s2 bds ss2
        refine wL_addS (by simp; unfold LIM; omega) ?_
        refine wL_app (xs := L ++ [.str J] ++ (lnss (i ++ [32, 32]) ga).map .str) (by simp; unfold LIM; omega) ?_
        conv => whnf
        refine wL_addS (by simp; unfold LIM; omega) ?_
        refine (ih m rfl).p _ _ (i ++ [32, 32]) (.cons g1 g2) hb (by omega) (by simp; omega) ?_
        refine wL_ext (xs := L ++ [.str J] ++ (lnss (i ++ [32, 32]) ga).map .str ++ [.str (i ++ [125, 32, 101, 108, 115, 101, 32, 123])]) (ys := (lnss (i ++ [32, 32]) (s2 :: ss2)).map .str) (by simp only [List.length_append, List.length_map, List.length_cons, List.length_nil]; unfold LIM; omega) ?_
        conv => whnf
        refine wL_addS (by simp; unfold LIM; omega) ?_
        refine wL_app (xs := L ++ [.str J] ++ (lnss (i ++ [32, 32]) ga).map .str ++ [.str (i ++ [125, 32, 101, 108, 115, 101, 32, 123])] ++ (lnss (i ++ [32, 32]) (s2 :: ss2)).map .str) (by simp only [List.length_append, List.length_map, List.length_cons, List.length_nil]; unfold LIM; omega) ?_
        refine fin ?_
        simp
theorem fbody_ok {z : Spc} (hz : NzOk z) (n : Nat) : ∀ d, FbP z n (d + 4 + n) := by
  induction n with
  | zero => exact fun d => fbody_of hz fun m q => (nomatch q)
  | succ n ih =>
    intro d
    have := fbody_of (n := n + 1) (d := d + n + 1) hz fun m q => by
      cases q
      have := ih d
      have e : d + 4 + n = d + n + 1 + 3 := by omega
      rw [e] at this
      exact this
    have e : d + 4 + (n + 1) = d + n + 1 + 4 := by omega
    rw [e]
    exact this
theorem ffuns_ok {d : Nat} {h : Hp} {b : Bool} {p : List Fx} (hp : ProgOk b p) {ds : List D} (hr : RelFs ds p) {Q : X → Hp → Prop} (k : Q (dat (.str (srcS p))) h) : Call (callF T (d + 7)) 52 [.d (.lst ds)] h Q := by
  obtain ⟨sz1, sz2⟩ := hp.size
  refine call_in rfl rfl ?_
  conv => whnf
  refine for_list (fun rest σ h' => ∃ (dn tl : List Fx) (a2 a3 a4 : Option SV), p = dn ++ tl ∧ RelFs rest tl ∧ σ = [some (.v (.d (.lst ds))), some (.ol ((srcL dn).map .str)), a2, a3, a4] ∧ h' = h) (fun x rest σ h' I => ?_) (fun σ h' I => ?_) _ ⟨[], p, none, none, none, rfl, hr, rfl, rfl⟩
  · obtain ⟨dn, tl, a2, a3, a4, e1, hr, rfl, rfl⟩ := I
    cases hr with
    | cons h1 h2 =>
      rename_i f tl
      have hf : f ∈ p := by rw [e1]; simp
      obtain ⟨z, hz, ok, ht, hn, i, hi⟩ := hp.body hf
      have hpj := ps_join (i := i)
      rw [← hi] at hpj
      have hps : (f.ps.map List.length).sum + f.ps.length * 2 ≤ 100 := by
        rw [hi]
        rcases i with _ | _ | _ | i <;> simp [PA]
      have hpl : f.ps.length ≤ 2 := by rw [hi]; simp [PA]; omega
      have hln := lnss_len f.body [32, 32]
      have hdn : (srcL dn).length ≤ 83 := by
        have : (srcL p).length = (srcL dn).length + (srcL (f :: tl)).length := by rw [e1]; unfold srcL; simp
        omega
      have fin : ∀ {L : List D} {a2 a3 a4 : Option SV}, L = (srcL dn).map .str ++ (fxL f).map .str → ∃ (dn' tl' : List Fx) (b2 b3 b4 : Option SV), p = dn' ++ tl' ∧ RelFs rest tl' ∧ [some (SV.v (V.d (.lst ds))), some (.ol L), a2, a3, a4] = [some (.v (.d (.lst ds))), some (.ol ((srcL dn').map .str)), b2, b3, b4] ∧ h' = h' := fun {L a2 a3 a4} q =>
        ⟨dn ++ [f], tl, a2, a3, a4, by rw [e1]; simp, h2, by rw [q]; unfold srcL; simp, rfl⟩
      generalize hL : (srcL dn).map D.str = L at fin ⊢
      have hlL : L.length ≤ 83 := by rw [← hL, List.length_map]; exact hdn
      cases h1 with
      | mk g1 g2 g3 =>
        rename_i nn pds bds
        obtain ⟨c1, c2, rfl⟩ := g1
        conv => whnf
        refine lc_data (fun rest acc h'' => ∃ dn tl : List Nm, f.ps = dn ++ tl ∧ RelP rest tl ∧ acc = dn.map .str ∧ h'' = h') (fun y rest acc h'' I => ?_) (fun acc h'' I => ?_) _ ⟨[], f.ps, rfl, g2, rfl, rfl⟩
        · obtain ⟨dn', tl', e2, hr, rfl, rfl⟩ := I
          cases hr with
          | cons q1 q2 =>
            rename_i y tl'
            obtain ⟨l, c, rfl⟩ := q1
            conv => whnf
            have : dn'.length ≤ 4 := by have := congrArg List.length e2; rw [List.length_append] at this; omega
            exact ⟨by rw [List.length_map]; unfold LIM; omega, dn' ++ [y], tl', by rw [e2]; simp, q2, by simp [wd], rfl⟩
        · obtain ⟨dn', tl', e2, hr, rfl, rfl⟩ := I
          cases hr
          rw [List.append_nil] at e2
          subst e2
          conv => whnf
          refine join_ok (ws := f.ps) rfl (by simp only [List.length_cons, List.length_nil]; unfold LIM; omega) ?_
          conv => whnf
          refine wL_addS (s := [100, 101, 102, 32]) (t := f.name) (by simp; unfold LIM; omega) ?_
          conv => whnf
          refine wL_addS (by simp; unfold LIM; omega) ?_
          conv => whnf
          refine wL_addS (by simp; unfold LIM; omega) ?_
          conv => whnf
          refine wL_addS (by simp; unfold LIM; omega) ?_
          refine wL_app (xs := L) (by unfold LIM; omega) ?_
          conv => whnf
          refine (fbody_ok hz 2 d).p f.body bds [32, 32] g3 ok (by omega) (by simp) ?_
          refine wL_ext (xs := L ++ [.str ([100, 101, 102, 32] ++ f.name ++ [40] ++ joinS [44, 32] f.ps ++ [41, 32, 123])]) (ys := (lnss [32, 32] f.body).map .str) (by simp; unfold LIM; omega) ?_
          conv => whnf
          refine wL_app (xs := L ++ [.str ([100, 101, 102, 32] ++ f.name ++ [40] ++ joinS [44, 32] f.ps ++ [41, 32, 123])] ++ (lnss [32, 32] f.body).map .str) (by simp; unfold LIM; omega) ?_
          refine fin ?_
          unfold fxL
          simp
  · obtain ⟨dn, tl, a2, a3, a4, e1, hr, rfl, rfl⟩ := I
    cases hr
    rw [List.append_nil] at e1
    subst e1
    conv => whnf
    refine join_ok (ws := srcL p) rfl (by simp only [List.length_cons, List.length_nil]; unfold LIM; omega) ?_
    exact k
/-- format_source of a text that loads as p -/
theorem fsrc_ok {d : Nat} {b : Bool} {p : List Fx} (hp : ProgOk b p) {src : List Nat} {h : Hp} {Q : X → Hp → Prop} (hl : ∀ {Q : X → Hp → Prop}, (∀ ds h, RelFs ds p → Q (dat (.lst ds)) h) → Call (callF T (d + 17)) 8 [.d (.str src)] [] Q) (k : ∀ h, Q (dat (.str (srcS p))) h) : Call (callF T (d + 18)) 53 [.d (.str src)] h Q := by
  refine call_in rfl rfl ?_
  conv => whnf
  refine hl fun ds h hr => ?_
  conv => whnf
  refine ffuns_ok hp hr ?_
  exact k _
end PF
set_option linter.all false
set_option maxRecDepth 100000
namespace PF
def ALN : List Nat := [97, 98, 99, 100, 101, 102, 103, 104, 105, 106, 107, 108, 109, 110, 111, 112, 113, 114, 115, 116, 117, 118, 119, 120, 121, 122, 48, 49, 50, 51, 52, 53, 54, 55, 56, 57]
def SEPS : List (List Nat) := [[], [32], [10]]
def flt2 (cur : List Nat) (c : Nat) : List (List Nat) := [cur, [c]].filter fun w => !decide (w ∈ SEPS)
def spStep (s : List (List Nat) × List Nat) (c : Nat) : List (List Nat) × List Nat := if c ∈ ALN then (s.1, s.2 ++ [c]) else (s.1 ++ flt2 s.2 c, [])
def flT (s : List (List Nat) × List Nat) : List (List Nat) := if s.2 = [] then s.1 else s.1 ++ [s.2]
def AlnW (w : List Nat) : Prop := w ≠ [] ∧ ∀ c ∈ w, c ∈ ALN
theorem low_aln : ∀ c ∈ LOW, c ∈ ALN := by decide
theorem dig_aln : ∀ c ∈ DIG, c ∈ ALN := by decide
theorem sym_aln : ∀ c ∈ SYM, c ∉ ALN ∧ [c] ∉ SEPS := by decide
theorem cel_aln : ∀ c ∈ CEL, c ∉ ALN ∧ [c] ∉ SEPS := by decide
theorem aln_sep : ∀ c ∈ ALN, c ≠ 32 ∧ c ≠ 10 := by decide
/-- a token is of letters and figures, or one sign -/
theorem tk_two {t : TK} (h : TkOk t) : (AlnW t.text ∧ ¬ isS t) ∨ ∃ c, t.text = [c] ∧ c ∉ ALN ∧ [c] ∉ SEPS := by
  cases h with
  | sym h => exact .inr ⟨_, rfl, sym_aln _ h⟩
  | cell h => exact .inr ⟨_, rfl, cel_aln _ h⟩
  | word h1 _ h3 _ => exact .inl ⟨⟨h1, fun c hc => low_aln c (h3 c hc)⟩, by show ¬ kW = kS; decide⟩
  | key h => exact .inl ⟨⟨(kws_low _ h).2.1, fun c hc => low_aln c ((kws_low _ h).1 c hc)⟩, by show ¬ kK = kS; decide⟩
  | num h1 _ h3 _ => exact .inl ⟨⟨h1, fun c hc => dig_aln c (h3 c hc)⟩, by show ¬ kN = kS; decide⟩
theorem alnW_sep {w : List Nat} (h : AlnW w) : w ∉ SEPS := by
  intro q
  simp [SEPS] at q
  rcases q with rfl | rfl | rfl
  · exact h.1 rfl
  · exact (aln_sep 32 (h.2 32 (by simp))).1 rfl
  · exact (aln_sep 10 (h.2 10 (by simp))).2 rfl
/-- what may be pending: nothing or a word -/
def Pend (s : List (List Nat) × List Nat) : Prop := s.2 = [] ∨ AlnW s.2
theorem step_gap {s : List (List Nat) × List Nat} {c : Nat} (h : Pend s) (hc : c = 32 ∨ c = 10) : spStep s c = (flT s, []) := by
  have h1 : c ∉ ALN := by rcases hc with rfl | rfl <;> decide
  have h2 : [c] ∈ SEPS := by rcases hc with rfl | rfl <;> decide
  unfold spStep flT flt2
  rw [if_neg h1]
  rcases h with h | h
  · rw [h]; simp [h2]; decide
  · rw [if_neg h.1]
    simp [h2, alnW_sep h]
theorem step_sign {s : List (List Nat) × List Nat} {c : Nat} (h : Pend s) (h1 : c ∉ ALN) (h2 : [c] ∉ SEPS) : spStep s c = (flT s ++ [[c]], []) := by
  have h0 : [] ∈ SEPS := by decide
  unfold spStep flT flt2
  rw [if_neg h1]
  rcases h with h | h
  · rw [h]; simp [h2, h0]
  · rw [if_neg h.1]
    simp [h2, alnW_sep h]
theorem fold_word : ∀ {w : List Nat} {s : List (List Nat) × List Nat}, (∀ c ∈ w, c ∈ ALN) → w.foldl spStep s = (s.1, s.2 ++ w)
  | [], s, _ => by simp
  | c :: w, s, h => by
    rw [List.foldl_cons, fold_word fun x hx => h x (by simp [hx])]
    unfold spStep
    rw [if_pos (h c (by simp))]
    simp
theorem fold_gaps {s : List (List Nat) × List Nat} (h : Pend s) : ∀ k : Nat, (List.replicate (k + 1) 32).foldl spStep s = (flT s, [])
  | 0 => by simp [step_gap h (.inl rfl)]
  | k + 1 => by
    rw [List.replicate_succ, List.foldl_cons, step_gap h (.inl rfl), fold_gaps (s := (flT s, [])) (.inl rfl) k]
    simp [flT]
theorem fold_items : ∀ {its : List Itm} {b : Prop} {s : List (List Nat) × List Nat}, (∀ it ∈ its, TkOk it.2) → Adj b its → Pend s → (b → s.2 = []) → Pend ((ren its).foldl spStep s) ∧ flT ((ren its).foldl spStep s) = flT s ++ its.map (·.2.text)
  | [], b, s, _, _, h, _ => ⟨h, by simp [ren]⟩
  | (k, t) :: r, b, s, ht, ha, h, hb => by
    have ok := ht (k, t) (by simp)
    have ok2 : ∀ it ∈ r, TkOk it.2 := fun it hi => ht it (by simp [hi])
    show Pend ((List.replicate k 32 ++ (t.text ++ ren r)).foldl spStep s) ∧ _
    rw [show ren ((k, t) :: r) = List.replicate k 32 ++ (t.text ++ ren r) from rfl, List.foldl_append, List.foldl_append]
    -- behind the gap
    have gap : ∃ s1, (List.replicate k 32).foldl spStep s = s1 ∧ Pend s1 ∧ flT s1 = flT s ∧ (AlnW t.text → ¬ isS t → s1.2 = []) := by
      cases k with
      | zero => exact ⟨s, rfl, h, rfl, fun _ hs => by
          rcases ha.1 with q | q | q
          · exact hb q
          · omega
          · exact absurd q hs⟩
      | succ k => exact ⟨_, fold_gaps h k, .inl rfl, by simp [flT], fun _ _ => rfl⟩
    obtain ⟨s1, e1, p1, f1, g1⟩ := gap
    rw [e1]
    rcases tk_two ok with ⟨hw, hs⟩ | ⟨c, ec, c1, c2⟩
    · have hn := g1 hw hs
      rw [fold_word hw.2]
      have hp : Pend (s1.1, s1.2 ++ t.text) := by rw [hn]; exact .inr hw
      obtain ⟨q1, q2⟩ := fold_items ok2 ha.2 hp (fun q => absurd q hs)
      refine ⟨q1, ?_⟩
      rw [q2, ← f1]
      have : flT (s1.1, s1.2 ++ t.text) = flT s1 ++ [t.text] := by
        unfold flT
        rw [hn]
        simp [hw.1]
      rw [this]
      simp
    · rw [ec]
      show Pend ((ren r).foldl spStep (spStep s1 c)) ∧ _
      rw [List.foldl_cons, List.foldl_nil, step_sign p1 c1 c2]
      obtain ⟨q1, q2⟩ := fold_items (s := (flT s1 ++ [[c]], [])) ok2 ha.2 (.inl rfl) (fun _ => rfl)
      refine ⟨q1, ?_⟩
      rw [q2, ← f1]
      have ec2 : t.text = [c] := ec
      simp [flT, ec2]
theorem fold_lines : ∀ {ls : List (List Itm)} {T : List (List Nat)}, (∀ its ∈ ls, (∀ it ∈ its, TkOk it.2) ∧ Adj True its) → ((ls.map ren).flatMap fun v => v ++ [10]).foldl spStep (T, []) = (T ++ (itK ls).map TK.text, [])
  | [], T, _ => by simp [itK]
  | its :: ls, T, h => by
    obtain ⟨h1, h2⟩ := h its (by simp)
    obtain ⟨p1, p2⟩ := fold_items (s := (T, [])) h1 h2 (.inl rfl) (fun _ => rfl)
    rw [List.map_cons, List.flatMap_cons, List.foldl_append, List.foldl_append, List.foldl_cons, List.foldl_nil, step_gap p1 (.inr rfl), p2, fold_lines fun x hx => h x (by simp [hx])]
    simp [itK, flT]
theorem join_flat : ∀ {ls : List (List Nat)}, ls ≠ [] → joinS [10] ls ++ [10] = ls.flatMap fun v => v ++ [10]
  | [], h => absurd rfl h
  | [w], _ => by simp [joinS]
  | w :: v :: r, _ => by
    rw [show joinS [10] (w :: v :: r) = w ++ [10] ++ joinS [10] (v :: r) from rfl, List.flatMap_cons, ← join_flat (by simp)]
    simp
/-- the tokens of a source, by the law's own split -/
theorem split_src {ls : List (List Itm)} (hne : ls ≠ []) (h : ∀ its ∈ ls, (∀ it ∈ its, TkOk it.2) ∧ Adj True its) : ((joinS [10] (ls.map ren) ++ [32]).foldl spStep ([], [])).1 = (itK ls).map TK.text := by
  have e := fold_lines (T := []) h
  rw [← join_flat (by simpa using hne), List.foldl_append, List.foldl_cons, List.foldl_nil] at e
  rw [List.foldl_append, List.foldl_cons, List.foldl_nil]
  have key : ∀ s : List (List Nat) × List Nat, spStep s 32 = spStep s 10 := by
    intro s
    unfold spStep flt2
    rw [if_neg (by decide), if_neg (by decide)]
    congr 2
  rw [key, e]
  rfl
end PF
set_option linter.all false
set_option maxRecDepth 100000
namespace PF
/-- two tokens may stand side by side -/
def Pr (t : TK) (k : Nat) (u : TK) : Prop := 1 ≤ k ∨ ∀ c, u.text[0]? = some c → (∀ x ∈ t.text, x ∈ LOW → c ∉ LOW) ∧ (∀ x ∈ t.text, x ∈ DIG → c ∉ DIG)
def Chain : List Itm → Prop
  | [] => True
  | [it] => TkOk it.2
  | it :: jt :: r => TkOk it.2 ∧ Pr it.2 jt.1 jt.2 ∧ Chain (jt :: r)
theorem Chain.ok (tr : Nat) : ∀ {its : List Itm}, Chain its → ItOk tr its
  | [], _ => .nil
  | [(k, t)], h => .cons h (fun c hc => by
      have : c = 32 := by
        cases tr with
        | zero => simp [ren] at hc
        | succ n => simpa [ren, List.replicate_succ] using hc.symm
      subst this
      exact ⟨fun _ _ _ => by decide, fun _ _ _ => by decide⟩) .nil
  | (k, t) :: (j, u) :: r, h => .cons h.1 (fun c hc => by
      have hu : TkOk u := by
        have := h.2.2
        cases r with
        | nil => exact this
        | cons it r => exact this.1
      rcases h.2.1 with q | q
      · obtain ⟨m, rfl⟩ : ∃ m, j = m + 1 := ⟨j - 1, by dsimp only at q; omega⟩
        have : c = 32 := by simpa [ren, List.replicate_succ] using hc.symm
        subst this
        exact ⟨fun _ _ _ => by decide, fun _ _ _ => by decide⟩
      · cases j with
        | succ m =>
          have : c = 32 := by simpa [ren, List.replicate_succ] using hc.symm
          subst this
          exact ⟨fun _ _ _ => by decide, fun _ _ _ => by decide⟩
        | zero =>
          refine q c ?_
          cases hx : u.text with
          | nil => exact absurd hx hu.ne
          | cons a l =>
            rw [ren_cons', hx] at hc
            simpa using hc) (Chain.ok tr h.2.2)
theorem Chain.snoc {k : Nat} {t : TK} (ht : TkOk t) : ∀ {its : List Itm}, Chain its → (∀ it, its.getLast? = some it → Pr it.2 k t) → Chain (its ++ [(k, t)])
  | [], _, _ => ht
  | [it], h, hl => ⟨h, hl it rfl, ht⟩
  | it :: jt :: r, h, hl => ⟨h.1, h.2.1, Chain.snoc ht h.2.2 (fun x hx => hl x (by simpa using hx))⟩
/-- the text of some lines and a last one -/
def txt (ini : List Ln) (l : Ln) : List Nat := (ini.flatMap fun m => lnT m ++ [10]) ++ lnT l
theorem txt_join (l : Ln) : ∀ ini : List Ln, joinS [10] ((ini ++ [l]).map lnT) = txt ini l
  | [] => by simp [txt, joinS]
  | [m] => by simp [txt, joinS]
  | m :: n :: ini => by
    have := txt_join l (n :: ini)
    rw [List.cons_append, List.map_cons]
    rw [show joinS [10] (lnT m :: ((n :: ini ++ [l]).map lnT)) = lnT m ++ [10] ++ joinS [10] ((n :: ini ++ [l]).map lnT) from rfl, this]
    unfold txt
    simp
theorem txt_sum (ini : List Ln) (l : Ln) : (((ini ++ [l]).map lnT).map List.length).sum + (ini ++ [l]).length = (txt ini l).length + 1 := by
  unfold txt
  induction ini with
  | nil => simp
  | cons m ini ih =>
    rw [List.cons_append, List.map_cons, List.map_cons, List.sum_cons, List.length_cons, List.flatMap_cons]
    simp only [List.length_append, List.length_cons, List.length_nil] at ih ⊢
    omega
theorem ren_last {its : List Itm} {k : Nat} {t : TK} : ren (its ++ [(k, t)]) = ren its ++ (List.replicate k 32 ++ t.text) := by
  rw [ren_append]; simp [ren]
/-- the last sign of the text, where no space stands behind the last token -/
theorem pair_of {t u : TK} (ht : TkOk t) (hu : TkOk u) {c e : Nat} (hc : t.text.getLast? = some c) (he : u.text[0]? = some e) (h : ¬ (c ∈ ALN ∧ e ∈ ALN)) : Pr t 0 u := by
  right
  intro e' he'
  rw [he] at he'
  cases he'
  rcases tk_two ht with ⟨hw, _⟩ | ⟨x, ex, h1, h2⟩
  · have hca : c ∈ ALN := hw.2 c (List.mem_of_getLast? hc)
    have hne : e ∉ ALN := fun q => h ⟨hca, q⟩
    exact ⟨fun _ _ _ q => hne (low_aln e q), fun _ _ _ q => hne (dig_aln e q)⟩
  · rw [ex]
    refine ⟨fun y hy hl => ?_, fun y hy hl => ?_⟩
    · simp at hy; subst hy; exact absurd (low_aln _ hl) h1
    · simp at hy; subst hy; exact absurd (dig_aln _ hl) h1
end PF
set_option linter.all false
set_option maxRecDepth 100000
namespace PF
open K
theorem in_lst {w : List Nat} {l : List (List Nat)} {ds : List D} {h : Hp} {K : Bool → Prop} (e : ds = l.map .str) (k : K (decide (w ∈ l))) : wL (inV (.d (.str w)) (.d (.lst ds)) h) K := by
  subst e
  refine wL_of (a := decide (w ∈ l)) ?_ k
  show inD _ _ = _
  rw [inD_lst (by simp [flat]), any_str]
def spSt (s : List Nat) : List (List Nat) × List Nat := s.foldl spStep ([], [])
theorem flt2_len (w : List Nat) (c : Nat) : (flt2 w c).length ≤ 2 := List.length_filter_le ..
theorem spSt_len (s : List Nat) : (spSt s).1.length ≤ 2 * s.length ∧ (spSt s).2.length ≤ s.length := by
  have : ∀ (s : List Nat) (a : List (List Nat) × List Nat), (s.foldl spStep a).1.length ≤ a.1.length + 2 * s.length ∧ (s.foldl spStep a).2.length ≤ a.2.length + s.length := by
    intro s
    induction s with
    | nil => intro a; simp
    | cons c s ih =>
      intro a
      have h := ih (spStep a c)
      have h2 := flt2_len a.2 c
      rw [List.foldl_cons]
      unfold spStep at h ⊢
      split at h <;> rename_i q
      · simp only [q, if_true] at h ⊢
        simp at h ⊢
        omega
      · simp only [q, if_false] at h ⊢
        simp at h ⊢
        omega
  have := this s ([], [])
  simpa [spSt] using this
theorem split_ok {d : Nat} {h : Hp} {text : List Nat} (hl : text.length ≤ 800000) {Q : X → Hp → Prop} (k : Q (dat (.lst ((spSt (text ++ [32])).1.map .str))) h) : Call (callF T (d + 1)) 55 [.d (.str text)] h Q := by
  refine call_in rfl rfl ?_
  refine seq_cut (fun σ h' => σ = [some (.v (.d (.str text))), some (.v (.d (.lst []))), some (.v (.d (.str []))), none, none] ∧ h = h') ⟨rfl, rfl⟩ ?_
  rintro _ _ ⟨rfl, rfl⟩
  conv => whnf
  refine wL_addS (by simp; unfold LIM; omega) ?_
  refine for_inv (fun xs σ h' => ∃ (x y : List Nat) (a3 a4 : Option SV), text ++ [32] = x ++ y ∧ xs = y.map (fun c => .d (.str [c])) ∧ σ = [some (.v (.d (.str text))), some (.v (.d (.lst ((spSt x).1.map .str)))), some (.v (.d (.str (spSt x).2))), a3, a4] ∧ h' = h) (fun v r σ h' I => ?_) (fun σ h' I => ?_) _ ⟨[], text ++ [32], none, none, rfl, rfl, rfl, rfl⟩
  · obtain ⟨x, y, a3, a4, e1, e2, rfl, rfl⟩ := I
    cases y with
    | nil => cases e2
    | cons c y =>
      cases e2
      have hx : x.length ≤ 800001 := by have := congrArg List.length e1; simp at this; omega
      obtain ⟨l1, l2⟩ := spSt_len x
      have e3 : spSt (x ++ [c]) = spStep (spSt x) c := by unfold spSt; rw [List.foldl_append]; rfl
      refine wL_of rfl ?_
      conv => whnf
      by_cases hc : c ∈ ALN
      · refine wI_t (any_mem (l := ALN) hc) ?_
        conv => whnf
        refine wL_addS (by simp; unfold LIM; omega) ?_
        refine ⟨x ++ [c], y, some (.v (.d (.str [c]))), a4, by rw [e1]; simp, rfl, ?_, rfl⟩
        rw [e3]
        unfold spStep
        rw [if_pos hc]
      · refine wI_f (any_not (l := ALN) hc) ?_
        refine seq_cut (fun σ h'' => σ = [some (.v (.d (.str text))), some (.v (.d (.lst ((spSt x).1.map .str ++ (flt2 (spSt x).2 c).map .str)))), some (.v (.d (.str (spSt x).2))), some (.v (.d (.str [c]))), a4] ∧ h'' = h') ?_ ?_
        · conv => whnf
          refine lc_inv (fun xs acc h'' => ∃ (u v : List (List Nat)), [(spSt x).2, [c]] = u ++ v ∧ xs = v.map (fun w => .d (.str w)) ∧ acc = (u.filter fun w => !decide (w ∈ SEPS)).map .str ∧ h'' = h') (fun w r acc h'' I => ?_) (fun acc h'' I => ?_) _ ⟨[], [(spSt x).2, [c]], rfl, rfl, rfl, rfl⟩
          · obtain ⟨u, v, q1, q2, rfl, rfl⟩ := I
            cases v with
            | nil => cases q2
            | cons w v =>
              cases q2
              have hul : (u.filter fun w => !decide (w ∈ SEPS)).length ≤ 2 := by
                have := List.length_filter_le (fun w => !decide (w ∈ SEPS)) u
                have := congrArg List.length q1
                simp at this
                omega
              refine wL_of rfl ?_
              conv => whnf
              refine in_lst (l := SEPS) rfl ?_
              by_cases hw : w ∈ SEPS
              · rw [decide_eq_true hw]
                conv => whnf
                exact ⟨u ++ [w], v, by rw [q1]; simp, rfl, by rw [List.filter_append]; simp [hw], rfl⟩
              · rw [decide_eq_false hw]
                conv => whnf
                exact ⟨by rw [List.length_map]; unfold LIM; omega, u ++ [w], v, by rw [q1]; simp, rfl, by rw [List.filter_append]; simp [hw], rfl⟩
          · obtain ⟨u, v, q1, q2, rfl, rfl⟩ := I
            cases v with
            | cons w v => cases q2
            | nil =>
              rw [List.append_nil] at q1
              have hf := flt2_len (spSt x).2 c
              refine wL_addL (xs := (spSt x).1.map .str) (ys := (flt2 (spSt x).2 c).map .str) rfl (by rw [← q1]; rfl) (by simp only [List.length_map]; unfold LIM; omega) ?_
              exact ⟨rfl, rfl⟩
        rintro _ _ ⟨rfl, rfl⟩
        refine ⟨x ++ [c], y, some (.v (.d (.str [c]))), a4, by rw [e1]; simp, rfl, ?_, rfl⟩
        rw [e3]
        unfold spStep
        rw [if_neg hc, List.map_append]
  · obtain ⟨x, y, a3, a4, e1, e2, rfl, rfl⟩ := I
    cases y with
    | cons c y => cases e2
    | nil =>
      rw [List.append_nil] at e1
      rw [← e1]
      exact k
end PF
set_option linter.all false
set_option maxRecDepth 100000
namespace PF
open K
theorem str_last {r pre : List Nat} {c : Nat} {h : Hp} {K : V → Prop} (e : r = pre ++ [c]) (hl : r.length ≤ LIM) (k : K (.d (.str [c]))) : wL (ixV (.d (.str r)) (.d (.int (-1))) h) K := by
  refine wL_of (a := .d (.str [c])) ?_ k
  show (ixD _ _).map _ = _
  unfold ixD
  dsimp only
  rw [if_pos (decide_eq_true hl), ixN_neg1 (by rw [e]; simp)]
  subst e
  simp
/-- what there is of a spaced text -/
structure Spd (dn : List TK) (r : List Nat) : Prop where
  p : ∃ (ini : List Ln) (its : List Itm), r = txt ini (its, 0) ∧ (∀ l ∈ ini, Chain l.1) ∧ Chain its ∧ ini.flatMap lnK ++ its.map (·.2) = dn
def GAP : List (List Nat) := [[], [32], [32, 32], [10], [32, 10, 10, 32]]
theorem Spd.add {dn : List TK} {r g : List Nat} {t : TK} (h : Spd dn r) (ht : TkOk t) (hg : g ∈ GAP) (hp : g = [] → ∀ c e, r.getLast? = some c → t.text[0]? = some e → ¬ (c ∈ ALN ∧ e ∈ ALN)) : Spd (dn ++ [t]) (r ++ g ++ t.text) := by
  obtain ⟨ini, its, rfl, h1, h2, h3⟩ := h
  have same : ∀ k, (∀ it, its.getLast? = some it → Pr it.2 k t) → Spd (dn ++ [t]) (txt ini (its, 0) ++ List.replicate k 32 ++ t.text) := fun k hk =>
    ⟨ini, its ++ [(k, t)], by unfold txt lnT; simp [ren_last], h1, h2.snoc ht hk, by rw [← h3]; simp⟩
  simp [GAP] at hg
  rcases hg with rfl | rfl | rfl | rfl | rfl
  · refine same 0 fun it hit => ?_
    obtain ⟨k, u⟩ := it
    obtain ⟨its', rfl⟩ : ∃ its', its = its' ++ [(k, u)] := by
      have := List.getLast?_eq_some_iff.mp hit
      exact this
    have hu : TkOk u := by
      have := (h2.ok 0)
      have q : ∀ {a : List Itm}, ItOk 0 a → ∀ it ∈ a, TkOk it.2 := by
        intro a ha
        induction ha with
        | nil => intro it h; cases h
        | cons h1 _ _ ih => intro it h; rcases List.mem_cons.mp h with rfl | h; exact h1; exact ih it h
      exact q this (k, u) (by simp)
    cases hx : t.text with
    | nil => exact absurd hx ht.ne
    | cons e l =>
      cases hc : u.text.getLast? with
      | none => exact absurd (List.getLast?_eq_none_iff.mp hc) hu.ne
      | some c =>
        refine pair_of hu ht hc (e := e) (by rw [hx]; rfl) (hp rfl c e ?_ (by rw [hx]; rfl))
        unfold txt lnT
        rw [ren_last]
        simp [hc]
  · exact same 1 fun it _ => .inl (by omega)
  · exact same 2 fun it _ => .inl (by omega)
  · refine ⟨ini ++ [(its, 0)], [(0, t)], by unfold txt lnT; simp [ren], fun l hl => ?_, ht, by rw [← h3]; simp [lnK]⟩
    rcases List.mem_append.mp hl with hl | hl
    · exact h1 l hl
    · simp at hl; subst hl; exact h2
  · refine ⟨ini ++ [(its, 1), ([], 0)], [(1, t)], by unfold txt lnT; simp [ren], fun l hl => ?_, ht, by rw [← h3]; simp [lnK]⟩
    rcases List.mem_append.mp hl with hl | hl
    · exact h1 l hl
    · simp at hl; rcases hl with rfl | rfl
      · exact h2
      · exact trivial
theorem Spd.fin {dn : List TK} {r g : List Nat} (h : Spd dn r) (hg : g ∈ [[], [32], [10]]) (hl : r.length ≤ 700000) : ∃ ls, LsOk ls ∧ ls.flatMap lnK = dn ∧ r ++ g = joinS [10] (ls.map lnT) := by
  obtain ⟨ini, its, rfl, h1, h2, h3⟩ := h
  have main : ∀ (ini' : List Ln) (l : Ln), (∀ m ∈ ini', Chain m.1) → Chain l.1 → (txt ini' l).length ≤ 700001 → LsOk (ini' ++ [l]) := fun ini' l q1 q2 q3 =>
    ⟨by simp, fun m hm => by
      rcases List.mem_append.mp hm with hm | hm
      · exact (q1 m hm).ok _
      · simp at hm; subst hm; exact q2.ok _, by rw [txt_sum]; omega⟩
  simp at hg
  rcases hg with rfl | rfl | rfl
  · exact ⟨ini ++ [(its, 0)], main _ _ h1 h2 (by omega), by rw [← h3]; simp [lnK], by rw [txt_join, List.append_nil]⟩
  · have e : txt ini (its, 0) ++ [32] = txt ini (its, 1) := by unfold txt lnT; simp
    refine ⟨ini ++ [(its, 1)], main _ _ h1 h2 ?_, by rw [← h3]; simp [lnK], by rw [txt_join, e]⟩
    rw [← e]; simp; omega
  · have e : txt ini (its, 0) ++ [10] = txt (ini ++ [(its, 0)]) ([], 0) := by unfold txt lnT; simp [ren]
    refine ⟨(ini ++ [(its, 0)]) ++ [([], 0)], main _ _ (fun m hm => ?_) trivial ?_, by rw [← h3]; simp [lnK], by rw [txt_join, e]⟩
    · rcases List.mem_append.mp hm with hm | hm
      · exact h1 m hm
      · simp at hm; subst hm; exact h2
    · rw [← e]; simp; omega
theorem spaced_ok {d : Nat} {s c : Int} {r : List Int} {h : Hp} (hr : RndOk s c r) {tks : List TK} (hok : ∀ t ∈ tks, TkOk t) (hl : tks.length ≤ 58100) {Q : X → Hp → Prop} (k : ∀ ls s' c' r', LsOk ls → ls.flatMap lnK = tks → RndOk s' c' r' → Q (dat (.str (joinS [10] (ls.map lnT)))) (rnd s' c' r' :: h)) : Call (callF T (d + 2)) 54 [.ref 0, .d (.lst ((tks.map TK.text).map .str))] (rnd s c r :: h) Q := by
  refine call_in rfl rfl ?_
  refine seq_cut (fun σ h' => σ = [some (.v (.ref 0)), some (.v (.d (.lst ((tks.map TK.text).map .str)))), some (.v (.d (.str []))), some (.v (.d (.str ALN))), none, none] ∧ h' = rnd s c r :: h) ⟨rfl, rfl⟩ ?_
  rintro _ _ ⟨rfl, rfl⟩
  have tlen : ∀ {t : TK}, TkOk t → t.text.length ≤ 8 := fun {t} ht => by
    cases ht with
    | sym h => simp
    | cell h => simp
    | word _ h _ _ => exact h
    | key h => exact (kws_low _ h).2.2
    | num _ h _ _ => dsimp only; omega
  conv => whnf
  refine for_list (fun rest σ h' => ∃ (dn tl : List TK) (w : List Nat) (s c : Int) (r : List Int) (a4 a5 : Option SV), tks = dn ++ tl ∧ rest = (tl.map TK.text).map .str ∧ Spd dn w ∧ w.length ≤ 12 * dn.length ∧ RndOk s c r ∧ σ = [some (.v (.ref 0)), some (.v (.d (.lst ((tks.map TK.text).map .str)))), some (.v (.d (.str w))), some (.v (.d (.str ALN))), a4, a5] ∧ h' = rnd s c r :: h) (fun x rest σ h' I => ?_) (fun σ h' I => ?_) _ ⟨[], tks, [], s, c, r, none, none, rfl, rfl, ⟨[], [], rfl, by simp, trivial, rfl⟩, by simp, hr, rfl, rfl⟩
  · obtain ⟨dn, tl, w, s, c, r, a4, a5, e1, e2, hsp, hwl, hr, rfl, rfl⟩ := I
    cases tl with
    | nil => cases e2
    | cons t tl =>
      cases e2
      have ht := hok t (by rw [e1]; simp)
      have htl := tlen ht
      have hdn : dn.length ≤ 58100 := by have := congrArg List.length e1; rw [List.length_append] at this; omega
      -- the gap
      refine seq_cut (fun σ h' => ∃ g s c r, g ∈ GAP ∧ RndOk s c r ∧ σ = [some (.v (.ref 0)), some (.v (.d (.lst ((tks.map TK.text).map .str)))), some (.v (.d (.str w))), some (.v (.d (.str ALN))), some (.v (.d (.str t.text))), some (.v (.d (.str g)))] ∧ h' = rnd s c r :: h) ?_ ?_
      · conv => whnf
        refine below_ok hr (by omega) (by omega) fun m s c r h0 h1 hr => ?_
        conv => whnf
        refine ix_any h0 h1 fun x hx => ?_
        obtain ⟨g, hg, rfl⟩ : ∃ g, g ∈ GAP ∧ x = .str g := by
          simp [dat, X.toV, V.toD] at hx
          rcases hx with rfl | rfl | rfl | rfl | rfl
          · exact ⟨_, by decide, rfl⟩
          · exact ⟨_, by decide, rfl⟩
          · exact ⟨_, by decide, rfl⟩
          · exact ⟨_, by decide, rfl⟩
          · exact ⟨_, by decide, rfl⟩
        exact ⟨g, s, c, r, hg, hr, rfl, rfl⟩
      rintro _ _ ⟨g, s, c, r, hg, hr, rfl, rfl⟩
      have fin : ∀ g', g' ∈ GAP → (g' = [] → ∀ c e, w.getLast? = some c → t.text[0]? = some e → ¬ (c ∈ ALN ∧ e ∈ ALN)) → wSs T (callF T (d + 1)) ((f_law_spaced.body.at' 1).bd.dr 2) [some (.v (.ref 0)), some (.v (.d (.lst ((tks.map TK.text).map .str)))), some (.v (.d (.str w))), some (.v (.d (.str ALN))), some (.v (.d (.str t.text))), some (.v (.d (.str g')))] (rnd s c r :: h) (QT (fun σ h' => ∃ (dn tl' : List TK) (w : List Nat) (s c : Int) (r : List Int) (a4 a5 : Option SV), tks = dn ++ tl' ∧ (tl.map TK.text).map D.str = (tl'.map TK.text).map .str ∧ Spd dn w ∧ w.length ≤ 12 * dn.length ∧ RndOk s c r ∧ σ = [some (.v (.ref 0)), some (.v (.d (.lst ((tks.map TK.text).map .str)))), some (.v (.d (.str w))), some (.v (.d (.str ALN))), a4, a5] ∧ h' = rnd s c r :: h) (fun σ1 f h1 => match f with
          | Fl.nx => norm σ1 fun σ1 => wSs T (callF T (d + 1)) (f_law_spaced.body.dr 2) σ1 h1 (QF Q)
          | Fl.rt x => QF Q σ1 (Fl.rt x) h1
          | Fl.bk => QF Q σ1 Fl.bk h1
          | Fl.ct => QF Q σ1 Fl.ct h1)) := by
        intro g' hg' hp
        have hgl : g'.length ≤ 4 := by
          have : ∀ g ∈ GAP, g.length ≤ 4 := by decide
          exact this g' hg'
        conv => whnf
        refine wL_addS (by unfold LIM; omega) ?_
        refine wL_addS (by rw [List.length_append]; unfold LIM; omega) ?_
        exact ⟨dn ++ [t], tl, w ++ g' ++ t.text, s, c, r, _, _, by rw [e1]; simp, rfl, hsp.add ht hg' hp, by simp only [List.length_append, List.length_singleton]; omega, hr, rfl, rfl⟩
      refine if_ret (fun b h' => h' = rnd s c r :: h ∧ (b = false → g = [] → ∀ c e, w.getLast? = some c → t.text[0]? = some e → ¬ (c ∈ ALN ∧ e ∈ ALN))) ?_ (fun h' e => ?_) (fun h' e => ?_)
      · by_cases hg0 : g = []
        · subst hg0
          conv => whnf
          cases hlw : w.getLast? with
          | none =>
            have hw : w = [] := List.getLast?_eq_none_iff.mp hlw
            subst hw
            exact ⟨rfl, fun _ _ c e q => nomatch q⟩
          | some c0 =>
            obtain ⟨w', hw'⟩ : ∃ w', w = w' ++ [c0] := List.getLast?_eq_some_iff.mp hlw
            refine wI_not (wI_f (by rw [hw']; simp) ?_)
            conv => whnf
            refine str_last hw' (by unfold LIM; omega) ?_
            conv => whnf
            by_cases hc0 : c0 ∈ ALN
            · refine wI_t (any_mem (l := ALN) hc0) ?_
              conv => whnf
              cases hx : t.text with
              | nil => exact absurd hx ht.ne
              | cons e0 l0 =>
                refine str_at (pre := []) (c := e0) (post := l0) rfl rfl (by rw [hx] at htl; unfold LIM; omega) ?_
                conv => whnf
                by_cases he0 : e0 ∈ ALN
                · refine wI_t (any_mem (l := ALN) he0) ?_
                  exact ⟨rfl, fun q => nomatch q⟩
                · refine wI_f (any_not (l := ALN) he0) ?_
                  refine ⟨rfl, fun _ _ c e q1 q2 q3 => ?_⟩
                  simp at q2; subst q2
                  exact he0 q3.2
            · refine wI_f (any_not (l := ALN) hc0) ?_
              refine ⟨rfl, fun _ _ c e q1 q2 q3 => ?_⟩
              cases q1
              exact hc0 q3.1
        · conv => whnf
          refine wI_f (by simpa using hg0) ?_
          exact ⟨rfl, fun _ q => absurd q hg0⟩
      · obtain ⟨rfl, -⟩ := e
        exact fin [32] (by decide) (fun q => nomatch q)
      · obtain ⟨rfl, hb⟩ := e
        exact fin g hg (hb rfl)
  · obtain ⟨dn, tl, w, s, c, r, a4, a5, e1, e2, hsp, hwl, hr, rfl, rfl⟩ := I
    cases tl with
    | cons t tl => cases e2
    | nil =>
      rw [List.append_nil] at e1
      subst e1
      conv => whnf
      refine below_ok hr (by omega) (by omega) fun m s c r h0 h1 hr => ?_
      conv => whnf
      refine ix_any h0 h1 fun x hx => ?_
      obtain ⟨g, hg, rfl⟩ : ∃ g, g ∈ ([[], [32], [10]] : List (List Nat)) ∧ x = .str g := by
        simp [dat, X.toV, V.toD] at hx
        rcases hx with rfl | rfl | rfl
        · exact ⟨_, by decide, rfl⟩
        · exact ⟨_, by decide, rfl⟩
        · exact ⟨_, by decide, rfl⟩
      have hgl : g.length ≤ 1 := by simp at hg; rcases hg with rfl | rfl | rfl <;> simp
      obtain ⟨ls, q1, q2, q3⟩ := hsp.fin hg (by omega)
      refine wL_addS (by unfold LIM; omega) ?_
      rw [q3]
      exact k ls s c r q1 q2 hr
end PF
set_option linter.all false
set_option maxRecDepth 100000
namespace PF
open K
theorem its_len {its : List Itm} (h : ∀ it ∈ its, TkOk it.2) : its.length ≤ (ren its).length := by
  induction its with
  | nil => simp
  | cons it its ih =>
    obtain ⟨k, t⟩ := it
    have h1 := (h (k, t) (by simp)).ne
    have h2 := ih fun x hx => h x (by simp [hx])
    have h3 : 0 < t.text.length := List.length_pos_iff.mpr h1
    rw [ren_cons']
    simp
    omega
section
variable {b : Bool} {p : List Fx}
theorem ProgOk.its (hp : ProgOk b p) : ∀ its ∈ srcIt p, (∀ it ∈ its, TkOk it.2) ∧ Adj True its := by
  intro its hi
  unfold srcIt at hi
  obtain ⟨f, hf, hi⟩ := List.mem_flatMap.mp hi
  have fv := hp.fxv f hf
  refine ⟨fun it hit => ?_, adj_fx fv.bd its hi⟩
  refine fxK_ok fv.nm fv.ps fv.bd it.2 ?_
  rw [← fxIt_tok]
  exact List.mem_flatMap.mpr ⟨its, hi, List.mem_map.mpr ⟨it, hit, rfl⟩⟩
theorem ProgOk.src_len (hp : ProgOk b p) : (srcS p).length ≤ 100000 := by
  obtain ⟨s1, s2⟩ := hp.size
  have := joinS_len [10] (srcL p)
  unfold srcS
  simp only [List.length_cons, List.length_nil] at this
  omega
theorem ProgOk.spl (hp : ProgOk b p) : (spSt (srcS p ++ [32])).1 = (p.flatMap fxK).map TK.text ∧ (∀ t ∈ p.flatMap fxK, TkOk t) ∧ (p.flatMap fxK).length ≤ 58100 := by
  have hv : ∀ f ∈ p, SmsV f.body := fun f hf => (hp.fxv f hf).bd
  have ht := srcIt_text hv
  have hne : srcIt p ≠ [] := by
    intro q
    rw [q] at ht
    have h0 := hp.ne
    cases hpp : p with
    | nil => rw [hpp] at h0; simp at h0
    | cons f fs => rw [hpp] at ht; simp [srcL, fxL] at ht
  refine ⟨?_, fun t h => ?_, ?_⟩
  · have := split_src hne hp.its
    rw [ht, srcIt_tok] at this
    exact this
  · obtain ⟨f, hf, hi⟩ := List.mem_flatMap.mp h
    have fv := hp.fxv f hf
    exact fxK_ok fv.nm fv.ps fv.bd t hi
  · rw [← srcIt_tok]
    have main : ∀ ls : List (List Itm), (∀ its ∈ ls, ∀ it ∈ its, TkOk it.2) → (itK ls).length ≤ ((ls.map ren).map List.length).sum := by
      intro ls
      induction ls with
      | nil => intro _; simp [itK]
      | cons its ls ih =>
        intro h
        have h1 := its_len (h its (by simp))
        have h2 := ih fun x hx => h x (by simp [hx])
        unfold itK at h2 ⊢
        rw [List.flatMap_cons, List.length_append, List.length_map, List.map_cons, List.map_cons, List.sum_cons]
        omega
    have h1 := main (srcIt p) fun its hi => (hp.its its hi).1
    rw [ht] at h1
    have h4 : ((srcL p).map List.length).sum ≤ 700 * ((srcL p).map List.length).length := sum_le_mul fun a ha => by
      obtain ⟨ln, hl, rfl⟩ := List.mem_map.mp ha
      exact hp.wide ln hl
    rw [List.length_map] at h4
    have := hp.size.1
    omega
end
def lwI (ns : List Int) (j : Nat) (σ : St) (h' : Hp) : Prop := ∃ (s c : Int) (r : List Int) (a2 a3 a4 : Option SV), RndOk s c r ∧ σ = [some (.v (.scr ns)), some (.v (.ref 0)), a2, a3, a4] ∧ h' = [rnd s c r]
theorem law_ok {d : Nat} {ns : List Int} (hl : ns.length ≤ 63) : Call (callF T (d + 30)) 23 [.scr ns] [] fun x _ => x = dat (.bl true) := by
  refine call_in rfl rfl (norm_eq.mpr ?_)
  refine seq_cut (lwI ns 0) ?_ ?_
  · conv => whnf
    refine random_ok (by omega) (by omega) fun s r hr => ?_
    refine ⟨s, 0, r, none, none, none, hr, rfl, ?_⟩
    show [O.lst ((D.int s :: D.int 0 :: r.map .int).map .d)] = _
    rw [List.map_cons, List.map_cons, List.map_map]
    rfl
  rintro σ h' ⟨s, c, r, a2, a3, a4, hr, rfl, rfl⟩
  refine seq_cut (lwI ns 3) ?_ (fun σ h' I => by obtain ⟨s, c, r, a2, a3, a4, hr, rfl, rfl⟩ := I; rfl)
  conv => whnf
  refine rng_ok (by omega) (by omega) (by omega) (by omega) ?_
  refine for_range (n := 3) (lwI ns) (fun j ji σ h' hji hj I => ?_) (fun σ h' I => I) ⟨s, c, r, a2, a3, a4, hr, rfl, rfl⟩
  obtain ⟨s, c, r, a2, a3, a4, hr, rfl, rfl⟩ := I
  refine seq_cut (fun σ h' => ∃ p s c r, ProgOk false p ∧ RndOk s c r ∧ σ = [some (.v (.scr ns)), some (.v (.ref 0)), some (.v (.d (.int ji))), some (.v (.d (.lst (p.map encF)))), a4] ∧ h' = [rnd s c r]) ?_ ?_
  · conv => whnf
    refine prog_ok hr fun p x s c r hp hx hr => ?_
    rcases hx with rfl | rfl
    · exact ⟨p, s, c, r, hp, hr, rfl, rfl⟩
    · exact ⟨p, s, c, r, hp, hr, rfl, rfl⟩
  rintro _ _ ⟨p, s, c, r, hp, hr, rfl, rfl⟩
  refine seq_cut (fun σ h' => σ = [some (.v (.scr ns)), some (.v (.ref 0)), some (.v (.d (.int ji))), some (.v (.d (.lst (p.map encF)))), some (.v (.d (.str (srcS p))))] ∧ h' = [rnd s c r]) ?_ ?_
  · conv => whnf
    refine source_ok hp ?_
    exact ⟨rfl, rfl⟩
  rintro _ _ ⟨rfl, rfl⟩
  refine if_ret (fun b h' => b = false ∧ h' = [rnd s c r]) ?_ (fun h' e => nomatch e.1) (fun h' e => ?_)
  · conv => whnf
    refine fsrc_ok hp (fun k => load_src hp k) fun h => ?_
    conv => whnf
    refine equal_ok 0 _ (d := d + 28) rfl (by simp [deep]) ?_
    exact ⟨rfl, rfl⟩
  obtain ⟨-, rfl⟩ := e
  obtain ⟨e1, e2, e3⟩ := hp.spl
  refine if_ret (fun b h' => b = false ∧ ∃ s c r, RndOk s c r ∧ h' = [rnd s c r]) ?_ (fun h' e => nomatch e.1) (fun h' e => ?_)
  · conv => whnf
    refine split_ok (by have := hp.src_len; omega) ?_
    rw [e1]
    conv => whnf
    refine spaced_ok hr e2 e3 fun ls s c r q1 q2 hr => ?_
    conv => whnf
    refine fsrc_ok hp (fun k => load_any hp q1 q2 k) fun h => ?_
    conv => whnf
    refine equal_ok 0 _ (d := d + 28) rfl (by simp [deep]) ?_
    exact ⟨rfl, s, c, r, hr, rfl⟩
  obtain ⟨-, s, c, r, hr, rfl⟩ := e
  exact ⟨s, c, r, _, _, _, hr, rfl, rfl⟩
theorem law_pure (ns : List Int) (hl : ns.length ≤ 63) : ∃ h1, callF T 100 23 [.scr ns] [] = .ok (dat (.bl true)) h1 := by
  obtain ⟨a, h, e, q⟩ := (law_ok (d := 70) hl).s.ex
  subst q
  exact ⟨h, e⟩
end PF
set_option Elab.async false
set_option linter.all false
set_option maxRecDepth 100000
set_option maxHeartbeats 4000000
namespace Br
open PySem PySem.Spec PyProof.Rows
abbrev Hp := L2.Hp
/-- the names of a row -/
structure Gm where
  fN : Nat → Str
  mN : Nat → Str
  cN : Nat → Str
  aN : Nat → Str
  gT : Nat → Str
  gC : Str → Option PF.D
/-- a row's places -/
structure Z where
  P : Program
  w : World
  K : PySem.W.Frag
  mg : Str → Option Value
  T : PF.Tab
  G : Gm
  κ : Nat → Addr
  φ : Nat → Addr
  fd : Nat → FuncData
  ps : Nat → List Str
  γ : Nat → Addr
def sOf (s : List Nat) : Str := ⟨s.toArray⟩
/-- a tuple of the written part -/
def KTup (K : PySem.W.Frag) (a : Addr) (xs : List L2.V) : Prop := ∃ (o : Obj) (its : Array Value) (n : Nat), K.lookup a = some o ∧ o.cls = .type "tuple" ∧ o.data = .seq its n ∧ its.size ≤ sizeLine ∧ L2.Vals xs its.toList
/-- a list of the written part -/
def KLst (K : PySem.W.Frag) (a : Addr) (xs : List L2.V) : Prop := ∃ (o : Obj) (its : Array Value) (n : Nat), K.lookup a = some o ∧ o.cls = .type "list" ∧ o.dict = none ∧ o.data = .seq its n ∧ its.size ≤ sizeLine ∧ L2.Vals xs its.toList
variable (z : Z)
def fnames (c k : Nat) : List Str := match z.T.cls c with
  | some C => (C.flds.take k).map z.G.aN
  | none => []
def keyR : PF.D → L2.Key → Prop
  | .int i, k => k = Sum.inl i
  | .str s, k => k = Sum.inr (sOf s)
  | _, _ => False
inductive KsR : List PF.D → List L2.Key → Prop
  | nil : KsR [] []
  | cons {d k ds ks} : keyR d k → KsR ds ks → KsR (d :: ds) (k :: ks)
mutual
inductive RD (M : Addr → Prop) (H : Hp) : PF.D → L2.V → Prop
  | non : RD M H .non .non
  | bl (b : Bool) : RD M H (.bl b) (.bl b)
  | int (i : Int) : RD M H (.int i) (.int i)
  | str (s : List Nat) : RD M H (.str s) (.str (sOf s))
  | tup {xs ys b} : (H b = some (.tup ys) ∧ ¬ M b) ∨ KTup z.K b ys → RDs M H xs ys → RD M H (.tup xs) (.ref b)
  | lst {xs ys b} : H b = some (.lst ys) → ¬ M b → RDs M H xs ys → RD M H (.lst xs) (.ref b)
  | dic {ks vs ys b} : H b = some (.dK ys) → ¬ M b → KsR ks (ys.map (·.1)) → RDs M H vs (ys.map (·.2)) → RD M H (.dic ks vs) (.ref b)
  | ins {c vs fs dx b} : H b = some (.ins (z.κ c) dx fs) → ¬ M b → fs.map (·.1) = fnames z c vs.length → RDs M H vs (fs.map (·.2)) → RD M H (.ins c vs) (.ref b)
inductive RDs (M : Addr → Prop) (H : Hp) : List PF.D → List L2.V → Prop
  | nil : RDs M H [] []
  | cons {x y xs ys} : RD M H x y → RDs M H xs ys → RDs M H (x :: xs) (y :: ys)
end
/-- what is kept: whatever is not mutable -/
def Kp (M : Addr → Prop) (H : Hp) (M' : Addr → Prop) (H' : Hp) : Prop := ∀ b o, H b = some o → ¬ M b → H' b = some o ∧ ¬ M' b
variable {z} {M M' M'' : Addr → Prop} {H H' H'' : Hp}
theorem Kp.refl : Kp M H M H := fun _ _ e n => ⟨e, n⟩
theorem Kp.trans (a : Kp M H M' H') (b : Kp M' H' M'' H'') : Kp M H M'' H'' := fun c o e n => let ⟨e1, n1⟩ := a c o e n; b c o e1 n1
mutual
theorem RD.kp (k : Kp M H M' H') : ∀ {x : PF.D} {y : L2.V}, RD z M H x y → RD z M' H' x y
  | _, _, .non => .non
  | _, _, .bl b => .bl b
  | _, _, .int i => .int i
  | _, _, .str s => .str s
  | _, _, .tup h r => .tup (h.elim (fun ⟨e, n⟩ => .inl (k _ _ e n)) .inr) (RDs.kp k r)
  | _, _, .lst e n r => .lst (k _ _ e n).1 (k _ _ e n).2 (RDs.kp k r)
  | _, _, .dic e n q r => .dic (k _ _ e n).1 (k _ _ e n).2 q (RDs.kp k r)
  | _, _, .ins e n q r => .ins (k _ _ e n).1 (k _ _ e n).2 q (RDs.kp k r)
theorem RDs.kp (k : Kp M H M' H') : ∀ {xs : List PF.D} {ys : List L2.V}, RDs z M H xs ys → RDs z M' H' xs ys
  | _, _, .nil => .nil
  | _, _, .cons a r => .cons (RD.kp k a) (RDs.kp k r)
end
theorem RDs.length : ∀ {xs : List PF.D} {ys : List L2.V}, RDs z M H xs ys → xs.length = ys.length
  | _, _, .nil => rfl
  | _, _, .cons _ r => by rw [List.length_cons, List.length_cons, RDs.length r]
theorem RDs.get : ∀ {xs : List PF.D} {ys : List L2.V} {i : Nat} {x : PF.D}, RDs z M H xs ys → xs[i]? = some x → ∃ y, ys[i]? = some y ∧ RD z M H x y
  | _, _, _, _, .nil, e => by simp at e
  | _, _, 0, _, .cons a _, e => by simp at e; subst e; exact ⟨_, rfl, a⟩
  | _, _, i + 1, _, .cons _ r, e => by
    obtain ⟨y, h1, h2⟩ := RDs.get (i := i) r (by simpa using e)
    exact ⟨y, by simpa using h1, h2⟩
theorem RDs.append : ∀ {xs xs' : List PF.D} {ys ys' : List L2.V}, RDs z M H xs ys → RDs z M H xs' ys' → RDs z M H (xs ++ xs') (ys ++ ys')
  | _, _, _, _, .nil, r => r
  | _, _, _, _, .cons a r, q => .cons a (RDs.append r q)
theorem RDs.take : ∀ {xs : List PF.D} {ys : List L2.V} (n : Nat), RDs z M H xs ys → RDs z M H (xs.take n) (ys.take n)
  | _, _, 0, _ => .nil
  | _, _, _ + 1, .nil => .nil
  | _, _, n + 1, .cons a r => .cons a (RDs.take n r)
theorem RDs.drop : ∀ {xs : List PF.D} {ys : List L2.V} (n : Nat), RDs z M H xs ys → RDs z M H (xs.drop n) (ys.drop n)
  | _, _, 0, r => r
  | _, _, _ + 1, .nil => .nil
  | _, _, n + 1, .cons _ r => RDs.drop n r
theorem RDs.set {x : PF.D} {y : L2.V} (q : RD z M H x y) : ∀ {xs : List PF.D} {ys : List L2.V} (n : Nat), RDs z M H xs ys → RDs z M H (xs.set n x) (ys.set n y)
  | _, _, _, .nil => .nil
  | _, _, 0, .cons _ r => .cons q r
  | _, _, n + 1, .cons a r => .cons a (RDs.set q n r)

/-- values -/
inductive RV (z : Z) (ρ : List Addr) (M : Addr → Prop) (H : Hp) : PF.V → L2.V → Prop
  | d {x y} : RD z M H x y → RV z ρ M H (.d x) y
  | ref {a b} : ρ[a]? = some b → RV z ρ M H (.ref a) (.ref b)
  | scr {ns b} : (∃ o, H b = some (.frz o (.lst (ns.map L2.V.int))) ∧ ¬ M b) ∨ KLst z.K b (ns.map L2.V.int) → RV z ρ M H (.scr ns) (.ref b)
inductive RVs (z : Z) (ρ : List Addr) (M : Addr → Prop) (H : Hp) : List PF.V → List L2.V → Prop
  | nil : RVs z ρ M H [] []
  | cons {x y xs ys} : RV z ρ M H x y → RVs z ρ M H xs ys → RVs z ρ M H (x :: xs) (y :: ys)
/-- a mutable object -/
inductive RO (z : Z) (ρ : List Addr) (M : Addr → Prop) (H : Hp) (b : Addr) : PF.O → Prop
  | lst {xs ys} : H b = some (.lst ys) → RVs z ρ M H xs ys → RO z ρ M H b (.lst xs)
  | dic {ks vs ys} : H b = some (.dK ys) → KsR ks (ys.map (·.1)) → RVs z ρ M H vs (ys.map (·.2)) → RO z ρ M H b (.dic ks vs)
  | ins {c vs fs dx} : H b = some (.ins (z.κ c) dx fs) → fs.map (·.1) = fnames z c vs.length → RVs z ρ M H vs (fs.map (·.2)) → RO z ρ M H b (.ins c vs)
abbrev Om := Nat → Option Addr
def Ext (ρ ρ' : List Addr) : Prop := ∀ (a : Nat) (b : Addr), ρ[a]? = some b → ρ'[a]? = some b
theorem Ext.refl {ρ : List Addr} : Ext ρ ρ := fun _ _ h => h
theorem Ext.trans {a b c : List Addr} (h : Ext a b) (g : Ext b c) : Ext a c := fun i x e => g i x (h i x e)
theorem RV.kp {ρ ρ' : List Addr} (e : Ext ρ ρ') (k : Kp M H M' H') {x : PF.V} {y : L2.V} : RV z ρ M H x y → RV z ρ' M' H' x y
  | .d r => .d (r.kp k)
  | .ref h => .ref (e _ _ h)
  | .scr (.inl ⟨o, h, n⟩) => .scr (.inl ⟨o, (k _ _ h n).1, (k _ _ h n).2⟩)
  | .scr (.inr g) => .scr (.inr g)
theorem RVs.kp {ρ ρ' : List Addr} (e : Ext ρ ρ') (k : Kp M H M' H') : ∀ {xs : List PF.V} {ys : List L2.V}, RVs z ρ M H xs ys → RVs z ρ' M' H' xs ys
  | _, _, .nil => .nil
  | _, _, .cons a r => .cons (a.kp e k) (RVs.kp e k r)
theorem RVs.length {ρ : List Addr} : ∀ {xs : List PF.V} {ys : List L2.V}, RVs z ρ M H xs ys → xs.length = ys.length
  | _, _, .nil => rfl
  | _, _, .cons _ r => by rw [List.length_cons, List.length_cons, RVs.length r]
theorem RVs.get {ρ : List Addr} : ∀ {xs : List PF.V} {ys : List L2.V} {i : Nat} {x : PF.V}, RVs z ρ M H xs ys → xs[i]? = some x → ∃ y, ys[i]? = some y ∧ RV z ρ M H x y
  | _, _, _, _, .nil, e => by simp at e
  | _, _, 0, _, .cons a _, e => by simp at e; subst e; exact ⟨_, rfl, a⟩
  | _, _, i + 1, _, .cons _ r, e => by
    obtain ⟨y, h1, h2⟩ := RVs.get (i := i) r (by simpa using e)
    exact ⟨y, by simpa using h1, h2⟩
theorem RVs.append {ρ : List Addr} : ∀ {xs xs' : List PF.V} {ys ys' : List L2.V}, RVs z ρ M H xs ys → RVs z ρ M H xs' ys' → RVs z ρ M H (xs ++ xs') (ys ++ ys')
  | _, _, _, _, .nil, r => r
  | _, _, _, _, .cons a r, q => .cons a (RVs.append r q)
theorem RVs.set {ρ : List Addr} {x : PF.V} {y : L2.V} (q : RV z ρ M H x y) : ∀ {xs : List PF.V} {ys : List L2.V} (n : Nat), RVs z ρ M H xs ys → RVs z ρ M H (xs.set n x) (ys.set n y)
  | _, _, _, .nil => .nil
  | _, _, 0, .cons _ r => .cons q r
  | _, _, n + 1, .cons a r => .cons a (RVs.set q n r)
theorem RVs.ofD {ρ : List Addr} : ∀ {xs : List PF.D} {ys : List L2.V}, RDs z M H xs ys → RVs z ρ M H (xs.map .d) ys
  | _, _, .nil => .nil
  | _, _, .cons a r => .cons (.d a) (RVs.ofD r)
theorem RVs.allD {ρ : List Addr} : ∀ {xs : List PF.V} {ys : List L2.V} {ds : List PF.D}, RVs z ρ M H xs ys → PF.allD xs = some ds → RDs z M H ds ys
  | _, _, _, .nil, e => by cases e; exact .nil
  | .d x :: r, _, _, .cons (.d a) q, e => by
    simp only [PF.allD, Option.map_eq_some_iff] at e
    obtain ⟨ds, e1, rfl⟩ := e
    exact .cons a (RVs.allD q e1)
  | .ref _ :: _, _, _, .cons _ _, e => by simp [PF.allD] at e
  | .scr _ :: _, _, _, .cons _ _, e => by simp [PF.allD] at e
/-- the heap -/
structure HR (z : Z) (ρ : List Addr) (M : Addr → Prop) (h : PF.Hp) (H : Hp) : Prop where
  len : ρ.length = h.length
  nd : ρ.Nodup
  mu : ∀ b ∈ ρ, M b
  obj : ∀ (a : Nat) (o : PF.O) (b : Addr), h[a]? = some o → ρ[a]? = some b → RO z ρ M H b o
/-- slots -/
inductive RS (z : Z) (ρ : List Addr) (M : Addr → Prop) (H : Hp) (ω : Option Addr) : PF.SV → L2.V → Prop
  | v {x y} : RV z ρ M H x y → RS z ρ M H ω (.v x) y
  | ol {xs ys b} : ω = some b → H b = some (.lst ys) → RDs z M H xs ys → RS z ρ M H ω (.ol xs) (.ref b)
  | od {ks vs ys b} : ω = some b → H b = some (.dK ys) → KsR ks (ys.map (·.1)) → RDs z M H vs (ys.map (·.2)) → RS z ρ M H ω (.od ks vs) (.ref b)
structure SR (z : Z) (ρ : List Addr) (ω : Om) (M : Addr → Prop) (σ : PF.St) (h : PF.Hp) (σ' : L2.St) (H : Hp) : Prop where
  hr : HR z ρ M h H
  slot : ∀ (i : Nat) (s : PF.SV), σ[i]? = some (some s) → ∃ v, σ'[i]? = some (some v) ∧ RS z ρ M H (ω i) s v
  olen : σ.length = σ'.length
  om : ∀ i b, ω i = some b → M b ∧ b ∉ ρ ∧ ∃ o, H b = some o
  oinj : ∀ i j b, ω i = some b → ω j = some b → i = j
/-- a value that may be fresh -/
inductive RX (z : Z) (ρ : List Addr) (ω : Om) (M : Addr → Prop) (H : Hp) : PF.X → L2.V → Prop
  | v {x y} : RV z ρ M H x y → RX z ρ ω M H (.v x) y
  | fl {xs ys b} : H b = some (.lst ys) → M b → b ∉ ρ → (∀ i, ω i ≠ some b) → RDs z M H xs ys → RX z ρ ω M H (.fl xs) (.ref b)
  | fd {ks vs ys b} : H b = some (.dK ys) → M b → b ∉ ρ → (∀ i, ω i ≠ some b) → KsR ks (ys.map (·.1)) → RDs z M H vs (ys.map (·.2)) → RX z ρ ω M H (.fd ks vs) (.ref b)

/-- the frame: all that is not among the heap's mutable objects is kept, and stays mutable or not -/
def Fm (ρ : List Addr) (M : Addr → Prop) (H : Hp) (ρ' : List Addr) (M' : Addr → Prop) (H' : Hp) : Prop := ∀ b o, H b = some o → b ∉ ρ → H' b = some o ∧ b ∉ ρ' ∧ (M' b ↔ M b)
theorem Fm.refl {ρ : List Addr} : Fm ρ M H ρ M H := fun _ _ e n => ⟨e, n, Iff.rfl⟩
theorem Fm.trans {ρ ρ' ρ'' : List Addr} (a : Fm ρ M H ρ' M' H') (b : Fm ρ' M' H' ρ'' M'' H'') : Fm ρ M H ρ'' M'' H'' := fun c o e n =>
  let ⟨e1, n1, i1⟩ := a c o e n
  let ⟨e2, n2, i2⟩ := b c o e1 n1
  ⟨e2, n2, i2.trans i1⟩
theorem Fm.kp {ρ ρ' : List Addr} (f : Fm ρ M H ρ' M' H') (hm : ∀ b ∈ ρ, M b) : Kp M H M' H' := fun b o e n =>
  let ⟨e1, _, i1⟩ := f b o e fun q => n (hm b q)
  ⟨e1, fun q => n (i1.mp q)⟩
/-- a fresh object is new against the heap H0 -/
def Nw (H0 : Hp) : PF.X → L2.V → Prop
  | .v _, _ => True
  | _, v => ∀ b, v = .ref b → H0 b = none
theorem RO.kp {ρ ρ' : List Addr} (e : Ext ρ ρ') (k : Kp M H M' H') {b : Addr} {o : PF.O} (hb : H' b = H b) : RO z ρ M H b o → RO z ρ' M' H' b o
  | .lst h r => .lst (hb.trans h) (r.kp e k)
  | .dic h q r => .dic (hb.trans h) q (r.kp e k)
  | .ins h q r => .ins (hb.trans h) q (r.kp e k)
theorem RO.some {ρ : List Addr} {b : Addr} {o : PF.O} : RO z ρ M H b o → ∃ u, H b = some u
  | .lst h _ => ⟨_, h⟩
  | .dic h _ _ => ⟨_, h⟩
  | .ins h _ _ => ⟨_, h⟩
theorem HR.lt {ρ : List Addr} {h : PF.Hp} (r : HR z ρ M h H) {a : Nat} {o : PF.O} (e : h[a]? = some o) : ∃ b, ρ[a]? = some b ∧ RO z ρ M H b o := by
  have : a < ρ.length := by
    rw [r.len]
    exact (List.getElem?_eq_some_iff.mp e).1
  exact ⟨ρ[a], by simp [this], r.obj a o _ e (by simp [this])⟩
theorem HR.alive {ρ : List Addr} {h : PF.Hp} (r : HR z ρ M h H) {b : Addr} (hb : b ∈ ρ) : ∃ u, H b = some u := by
  obtain ⟨a, ha, e⟩ := List.getElem_of_mem hb
  have : a < h.length := by rw [← r.len]; exact ha
  exact (r.obj a h[a] b (by simp [this]) (by simp [ha, e])).some
/-- the heap kept by a step that leaves the mutable objects as they are -/
theorem HR.kp {ρ : List Addr} {h : PF.Hp} (r : HR z ρ M h H) (k : Kp M H M' H') (hm : ∀ b ∈ ρ, M' b ∧ H' b = H b) : HR z ρ M' h H' :=
  ⟨r.len, r.nd, fun b q => (hm b q).1, fun a o b e1 e2 => (r.obj a o b e1 e2).kp Ext.refl k (hm b (List.mem_of_getElem? e2)).2⟩
theorem RS.kp {ρ ρ' : List Addr} {ω : Option Addr} (e : Ext ρ ρ') (k : Kp M H M' H') (hw : ∀ b, ω = some b → H' b = H b) {s : PF.SV} {v : L2.V} : RS z ρ M H ω s v → RS z ρ' M' H' ω s v
  | .v r => .v (r.kp e k)
  | .ol a b r => .ol a ((hw _ a).trans b) (r.kp k)
  | .od a b q r => .od a ((hw _ a).trans b) q (r.kp k)
/-- the state kept by a step of an expression -/
theorem SR.fm {ρ ρ' : List Addr} {ω : Om} {σ : PF.St} {h h' : PF.Hp} {σ' : L2.St} (r : SR z ρ ω M σ h σ' H) (f : Fm ρ M H ρ' M' H') (e : Ext ρ ρ') (hr : HR z ρ' M' h' H') : SR z ρ' ω M' σ h' σ' H' := by
  have k := f.kp r.hr.mu
  have al : ∀ i b, ω i = some b → ∀ o, H b = some o → H' b = some o ∧ b ∉ ρ' ∧ (M' b ↔ M b) := fun i b q o ho => f b o ho (r.om i b q).2.1
  refine ⟨hr, fun i s q => ?_, r.olen, fun i b q => ?_, r.oinj⟩
  · obtain ⟨v, h1, h2⟩ := r.slot i s q
    refine ⟨v, h1, ?_⟩
    cases h2 with
    | v a => exact .v (a.kp e k)
    | ol a b c => exact .ol a (al i _ a _ b).1 (c.kp k)
    | od a b q' c => exact .od a (al i _ a _ b).1 q' (c.kp k)
  · obtain ⟨m, n, o, ho⟩ := r.om i b q
    obtain ⟨h1, h2, h3⟩ := f b o ho n
    exact ⟨h3.mpr m, h2, o, h1⟩
/-- a new object laid: M' says what it is -/
theorem upd_new {p : Addr} {o : L2.HO} (hp : H p = none) : ∀ b u, H b = some u → L2.upd H p o b = some u := fun b u e => by
  rw [L2.upd_ne (L2.ne_of_none e hp)]
  exact e
theorem Fm.new {ρ : List Addr} {p : Addr} {o : L2.HO} (hp : H p = none) (hm : ∀ c, c ≠ p → (M' c ↔ M c)) : Fm ρ M H ρ M' (L2.upd H p o) := fun b u e n => ⟨upd_new hp b u e, n, hm b (L2.ne_of_none e hp)⟩
theorem HR.new {ρ : List Addr} {h : PF.Hp} {p : Addr} {o : L2.HO} (r : HR z ρ M h H) (hp : H p = none) (hm : ∀ c, c ≠ p → (M' c ↔ M c)) : HR z ρ M' h (L2.upd H p o) := by
  have f : Fm ρ M H ρ M' (L2.upd H p o) := Fm.new hp hm
  refine r.kp (f.kp r.mu) fun b hb => ?_
  obtain ⟨u, hu⟩ := r.alive hb
  have ne := L2.ne_of_none hu hp
  exact ⟨(hm b ne).mpr (r.mu b hb), L2.upd_ne ne⟩
theorem SR.new {ρ : List Addr} {ω : Om} {σ : PF.St} {h : PF.Hp} {σ' : L2.St} {p : Addr} {o : L2.HO} (r : SR z ρ ω M σ h σ' H) (hp : H p = none) (hm : ∀ c, c ≠ p → (M' c ↔ M c)) : SR z ρ ω M' σ h σ' (L2.upd H p o) :=
  r.fm (Fm.new hp hm) Ext.refl (r.hr.new hp hm)
/-- ownership given up -/
theorem forget {ρ ρ0 : List Addr} {ω : Om} {σ : PF.St} {h : PF.Hp} {σ' : L2.St} {M0 : Addr → Prop} {H0 : Hp} {x : PF.X} {v : L2.V} (r : SR z ρ ω M σ h σ' H) (q : RX z ρ ω M H x v) (n : Nw H0 x v) (f : Fm ρ0 M0 H0 ρ M H) :
    ∃ M2, SR z ρ ω M2 σ h σ' H ∧ RV z ρ M2 H x.toV v ∧ Fm ρ0 M0 H0 ρ M2 H := by
  have main : ∀ b, H0 b = none → b ∉ ρ → (∀ i, ω i ≠ some b) → SR z ρ ω (fun c => M c ∧ c ≠ b) σ h σ' H ∧ Kp M H (fun c => M c ∧ c ≠ b) H ∧ Fm ρ0 M0 H0 ρ (fun c => M c ∧ c ≠ b) H := fun b n0 nb nw => by
    have k : Kp M H (fun c => M c ∧ c ≠ b) H := fun c o e m => ⟨e, fun q => m q.1⟩
    have ne : ∀ c ∈ ρ, c ≠ b := fun c hc e => nb (e ▸ hc)
    refine ⟨⟨r.hr.kp k fun c hc => ⟨⟨r.hr.mu c hc, ne c hc⟩, rfl⟩, fun i s e => ?_, r.olen, fun i c e => ?_, r.oinj⟩, k, fun c o e m => ?_⟩
    · obtain ⟨v, h1, h2⟩ := r.slot i s e
      exact ⟨v, h1, h2.kp Ext.refl k fun _ _ => rfl⟩
    · obtain ⟨m, n, o⟩ := r.om i c e
      exact ⟨⟨m, fun q => nw i (q ▸ e)⟩, n, o⟩
    · obtain ⟨h1, h2, h3⟩ := f c o e m
      have : c ≠ b := L2.ne_of_none e n0
      exact ⟨h1, h2, ⟨fun q => h3.mp q.1, fun q => ⟨h3.mpr q, this⟩⟩⟩
  cases q with
  | v a => exact ⟨M, r, a, f⟩
  | fl e m nb nw a =>
    obtain ⟨r2, k, f2⟩ := main _ (n _ rfl) nb nw
    exact ⟨_, r2, .d (.lst e (fun q => q.2 rfl) (a.kp k)), f2⟩
  | fd e m nb nw c a =>
    obtain ⟨r2, k, f2⟩ := main _ (n _ rfl) nb nw
    exact ⟨_, r2, .d (.dic e (fun q => q.2 rfl) c (a.kp k)), f2⟩

/-! ### the judgement -/
section
variable (X : L2.Cx)
def WE (e : Expr) (σ' : L2.St) (H : Hp) (Q : L2.VK) : Prop := ∀ (pins : List (Addr × Obj)) (s : Shared), L2.Inv X pins σ' H s → wpAny (model X.prog X.w) X.A (eval e X.env) (L2.EP X pins σ' Q) X.xe s
def WT (e : Expr) (σ' : L2.St) (H : Hp) (Q : Bool → Hp → Prop) : Prop := ∀ (pins : List (Addr × Obj)) (s : Shared), L2.Inv X pins σ' H s → wpAny (model X.prog X.w) X.A (isTrue e X.env (eval e X.env)) (L2.TP X pins σ' Q) X.xe s
theorem pe_we (e : Expr) : L2.PE X e (WE X e) := ⟨fun pins s σ H Q I h => h pins s I⟩
theorem pt_wt (e : Expr) : L2.PT X e (WT X e) := ⟨fun pins s σ H Q I h => h pins s I⟩
variable {X}
theorem we_pe {e : Expr} {t : L2.TE} (h : L2.PE X e t) {σ' : L2.St} {H : Hp} {Q : L2.VK} (q : t σ' H Q) : WE X e σ' H Q := fun pins s I => h.run pins s σ' H Q I q
theorem wt_pt {e : Expr} {t : L2.TT} (h : L2.PT X e t) {σ' : L2.St} {H : Hp} {Q : Bool → Hp → Prop} (q : t σ' H Q) : WT X e σ' H Q := fun pins s I => h.run pins s σ' H Q I q
end
/-- an expression does what the evaluator says -/
def EvOk (z : Z) (X : L2.Cx) (e : Expr) (r : PF.St → PF.Hp → PF.R PF.X) : Prop := ∀ σ h x h1, r σ h = .ok x h1 → ∀ ρ ω M σ' H, SR z ρ ω M σ h σ' H → ∀ Q : L2.VK,
  (∀ ρ1 M1 H1 v, Ext ρ ρ1 → Fm ρ M H ρ1 M1 H1 → SR z ρ1 ω M1 σ h1 σ' H1 → RX z ρ1 ω M1 H1 x v → Nw H x v → Q v H1) → WE X e σ' H Q
theorem EvOk.v {X : L2.Cx} {e : Expr} {r : PF.St → PF.Hp → PF.R PF.X} (k : EvOk z X e r) {σ : PF.St} {h h1 : PF.Hp} {x : PF.X} (he : r σ h = .ok x h1) {ρ : List Addr} {ω : Om} {σ' : L2.St} (sr : SR z ρ ω M σ h σ' H) {Q : L2.VK}
    (q : ∀ ρ1 M1 H1 v, Ext ρ ρ1 → Fm ρ M H ρ1 M1 H1 → SR z ρ1 ω M1 σ h1 σ' H1 → RV z ρ1 M1 H1 x.toV v → Q v H1) : WE X e σ' H Q :=
  k σ h x h1 he ρ ω M σ' H sr Q fun ρ1 M1 H1 v e1 f1 sr1 rx nw => by
    obtain ⟨M2, sr2, rv, f2⟩ := forget sr1 rx nw f1
    exact q ρ1 M2 H1 v e1 f2 sr2 rv
def TeOk (z : Z) (X : L2.Cx) (e : Expr) (r : PF.St → PF.Hp → PF.R Bool) : Prop := ∀ σ h x h1, r σ h = .ok x h1 → ∀ ρ ω M σ' H, SR z ρ ω M σ h σ' H → ∀ Q : Bool → Hp → Prop,
  (∀ ρ1 M1 H1, Ext ρ ρ1 → Fm ρ M H ρ1 M1 H1 → SR z ρ1 ω M1 σ h1 σ' H1 → Q x H1) → WT X e σ' H Q
theorem bind_ok {α β : Type} {r : PF.R α} {f : α → PF.Hp → PF.R β} {b : β} {h1 : PF.Hp} (e : r.bind f = .ok b h1) : ∃ a h0, r = .ok a h0 ∧ f a h0 = .ok b h1 := by
  cases r with
  | ok a h => exact ⟨a, h, rfl, e⟩
  | exc x h => simp [PF.R.bind] at e
  | err => simp [PF.R.bind] at e
theorem lift_ok {α : Type} {o : Option α} {h h1 : PF.Hp} {a : α} (e : PF.lift o h = .ok a h1) : o = some a ∧ h1 = h := by
  cases o with
  | none => cases e
  | some b => cases e; exact ⟨rfl, rfl⟩
theorem xD_ok {x : PF.X} {h h1 : PF.Hp} {d : PF.D} (e : PF.xD x h = .ok d h1) : x.toV = .d d ∧ h1 = h := by
  obtain ⟨e1, e2⟩ := lift_ok e
  refine ⟨?_, e2⟩
  cases q : x.toV with
  | d y => rw [q] at e1; cases e1; rfl
  | ref a => rw [q] at e1; cases e1
  | scr a => rw [q] at e1; cases e1
theorem xB_ok {x : PF.X} {h h1 : PF.Hp} {b : Bool} (e : PF.xB x h = .ok b h1) : x = PF.dat (.bl b) ∧ h1 = h := by
  cases x with
  | v y => cases y with
    | d y => cases y <;> first | (cases e; exact ⟨rfl, rfl⟩) | cases e
    | ref a => cases e
    | scr a => cases e
  | fl _ => cases e
  | fd _ _ => cases e
/-- two operands -/
theorem two {X : L2.Cx} {a b : Expr} {ra rb : PF.St → PF.Hp → PF.R PF.X} (ka : EvOk z X a ra) (kb : EvOk z X b rb) {σ : PF.St} {h ha hb : PF.Hp} {xa xb : PF.X} (ea : ra σ h = .ok xa ha) (eb : rb σ ha = .ok xb hb) {ρ : List Addr} {ω : Om} {σ' : L2.St} (sr : SR z ρ ω M σ h σ' H)
    {R : L2.V → L2.V → Hp → Prop} (q : ∀ ρ1 M1 H1 v u, Ext ρ ρ1 → Fm ρ M H ρ1 M1 H1 → SR z ρ1 ω M1 σ hb σ' H1 → RV z ρ1 M1 H1 xa.toV v → RV z ρ1 M1 H1 xb.toV u → R v u H1) :
    WE X a σ' H fun v H1 => WE X b σ' H1 fun u H2 => R v u H2 :=
  ka.v ea sr fun ρ1 M1 H1 v e1 f1 sr1 rv1 => kb.v eb sr1 fun ρ2 M2 H2 u e2 f2 sr2 rv2 => q ρ2 M2 H2 v u (e1.trans e2) (f1.trans f2) sr2 (rv1.kp e2 (f2.kp sr1.hr.mu)) rv2
end Br
set_option Elab.async false
set_option linter.all false
set_option maxRecDepth 100000
set_option maxHeartbeats 4000000
namespace Br
open PySem PySem.Spec PyProof.Rows
variable {z : Z} {M M' : Addr → Prop} {H H' : Hp} {X : L2.Cx}
structure GX (z : Z) (k : Nat) (X : L2.Cx) : Prop where
  P : X.prog = z.P
  w : X.w = z.w
  K : X.K = z.K
  mg : X.mg = z.mg
  calm : X.calm = true
  room : L2.Room k X.A
  nd : X.N.Nodup
def opO : PF.Op → Operator
  | .add => .Add | .sub => .Sub | .mul => .Mult | .div => .FloorDiv | .mod => .Mod | .pow => .Pow
theorem LIM_eq : PF.LIM = sizeLine := by rw [sizeLine_eq]; rfl
theorem sOf_len (s : List Nat) : (sOf s).length = s.length := by simp [sOf, Str.length]
theorem sOf_app (s t : List Nat) : sOf s ++ sOf t = sOf (s ++ t) := by
  show Str.append (sOf s) (sOf t) = sOf (s ++ t)
  simp [Str.append, sOf]
theorem sOf_inj {s t : List Nat} (h : sOf s = sOf t) : s = t := by
  have := congrArg (fun x : Str => x.cps.toList) h
  simpa [sOf] using this
theorem RD.int_inv {i : Int} {v : L2.V} (r : RD z M H (.int i) v) : v = .int i := by cases r; rfl
theorem RD.str_inv {s : List Nat} {v : L2.V} (r : RD z M H (.str s) v) : v = .str (sOf s) := by cases r; rfl
theorem RD.bl_inv {b : Bool} {v : L2.V} (r : RD z M H (.bl b) v) : v = .bl b := by cases r; rfl
theorem RD.non_inv {v : L2.V} (r : RD z M H .non v) : v = .non := by cases r; rfl
theorem RD.lst_inv {xs : List PF.D} {v : L2.V} (r : RD z M H (.lst xs) v) : ∃ b ys, v = .ref b ∧ H b = some (.lst ys) ∧ ¬ M b ∧ RDs z M H xs ys := by
  cases r with
  | lst a b c => exact ⟨_, _, rfl, a, b, c⟩
theorem RD.dic_inv {ks vs : List PF.D} {v : L2.V} (r : RD z M H (.dic ks vs) v) : ∃ b ys, v = .ref b ∧ H b = some (.dK ys) ∧ ¬ M b ∧ KsR ks (ys.map (·.1)) ∧ RDs z M H vs (ys.map (·.2)) := by
  cases r with
  | dic a b c d => exact ⟨_, _, rfl, a, b, c, d⟩
theorem RD.tup_inv {xs : List PF.D} {v : L2.V} (r : RD z M H (.tup xs) v) : ∃ b ys, v = .ref b ∧ L2.SqT z.K H b ys ∧ ((H b = some (.tup ys) ∧ ¬ M b) ∨ KTup z.K b ys) ∧ RDs z M H xs ys := by
  cases r with
  | tup a c =>
    refine ⟨_, _, rfl, ?_, a, c⟩
    rcases a with ⟨a, _⟩ | a
    · exact L2.SqT.of a
    · exact .inr a
/-- what an operation hands on: the state, the value -/
def Cont (z : Z) (ρ : List Addr) (ω : Om) (M : Addr → Prop) (σ : PF.St) (h : PF.Hp) (σ' : L2.St) (H : Hp) (x : PF.X) (Q : L2.VK) : Prop :=
  ∀ M1 H1 v, Fm ρ M H ρ M1 H1 → SR z ρ ω M1 σ h σ' H1 → RX z ρ ω M1 H1 x v → Nw H x v → Q v H1
section
variable {ρ : List Addr} {ω : Om} {σ : PF.St} {h : PF.Hp} {σ' : L2.St} {Q : L2.VK}
theorem Cont.here {x : PF.V} {v : L2.V} (c : Cont z ρ ω M σ h σ' H (.v x) Q) (sr : SR z ρ ω M σ h σ' H) (r : RV z ρ M H x v) : Q v H := c M H v Fm.refl sr (.v r) True.intro
theorem Cont.int {i : Int} (c : Cont z ρ ω M σ h σ' H (PF.dat (.int i)) Q) (sr : SR z ρ ω M σ h σ' H) : Q (.int i) H := c.here sr (.d (.int i))
theorem Cont.bl {b : Bool} (c : Cont z ρ ω M σ h σ' H (PF.dat (.bl b)) Q) (sr : SR z ρ ω M σ h σ' H) : Q (.bl b) H := c.here sr (.d (.bl b))
theorem Cont.str {s : List Nat} (c : Cont z ρ ω M σ h σ' H (PF.dat (.str s)) Q) (sr : SR z ρ ω M σ h σ' H) : Q (.str (sOf s)) H := c.here sr (.d (.str s))
/-- a fresh list -/
theorem Cont.fresh {xs : List PF.D} {ys : List L2.V} (c : Cont z ρ ω M σ h σ' H (.fl xs) Q) (sr : SR z ρ ω M σ h σ' H) (r : RDs z M H xs ys) : ∀ p, H p = none → Q (.ref p) (L2.upd H p (.lst ys)) := fun p hp => by
  have hm : ∀ q, q ≠ p → ((M q ∨ q = p) ↔ M q) := fun q n => ⟨fun e => e.elim id fun e => absurd e n, .inl⟩
  have f : Fm ρ M H ρ (fun q => M q ∨ q = p) (L2.upd H p (.lst ys)) := Fm.new hp hm
  refine c _ _ _ f (sr.new hp hm) (.fl L2.upd_same (.inr rfl) (fun q => ?_) (fun i q => ?_) (r.kp (f.kp sr.hr.mu))) fun b e => by cases e; exact hp
  · obtain ⟨u, hu⟩ := sr.hr.alive q
    rw [hp] at hu; cases hu
  · obtain ⟨_, _, u, hu⟩ := sr.om i p q
    rw [hp] at hu; cases hu
theorem Cont.freshD {ks vs : List PF.D} {ys : List (L2.Key × L2.V)} (c : Cont z ρ ω M σ h σ' H (.fd ks vs) Q) (sr : SR z ρ ω M σ h σ' H) (rk : KsR ks (ys.map (·.1))) (r : RDs z M H vs (ys.map (·.2))) : ∀ p, H p = none → Q (.ref p) (L2.upd H p (.dK ys)) := fun p hp => by
  have hm : ∀ q, q ≠ p → ((M q ∨ q = p) ↔ M q) := fun q n => ⟨fun e => e.elim id fun e => absurd e n, .inl⟩
  have f : Fm ρ M H ρ (fun q => M q ∨ q = p) (L2.upd H p (.dK ys)) := Fm.new hp hm
  refine c _ _ _ f (sr.new hp hm) (.fd L2.upd_same (.inr rfl) (fun q => ?_) (fun i q => ?_) rk (r.kp (f.kp sr.hr.mu))) fun b e => by cases e; exact hp
  · obtain ⟨u, hu⟩ := sr.hr.alive q
    rw [hp] at hu; cases hu
  · obtain ⟨_, _, u, hu⟩ := sr.om i p q
    rw [hp] at hu; cases hu
/-- a new tuple -/
theorem Cont.tuple {xs : List PF.D} {ys : List L2.V} (c : Cont z ρ ω M σ h σ' H (PF.dat (.tup xs)) Q) (sr : SR z ρ ω M σ h σ' H) (r : RDs z M H xs ys) : ∀ p, H p = none → Q (.ref p) (L2.upd H p (.tup ys)) := fun p hp => by
  have hm : ∀ q, q ≠ p → ((M q ∧ q ≠ p) ↔ M q) := fun q n => ⟨fun e => e.1, fun e => ⟨e, n⟩⟩
  have f : Fm ρ M H ρ (fun q => M q ∧ q ≠ p) (L2.upd H p (.tup ys)) := Fm.new hp hm
  exact c _ _ _ f (sr.new hp hm) (.v (.d (.tup (.inl ⟨L2.upd_same, fun q => q.2 rfl⟩) (r.kp (f.kp sr.hr.mu))))) True.intro
end
theorem small_cmul {i j : Int} (h : (PF.small64 i || PF.small64 j) = true) : L2.CMul i j := by
  unfold PF.small64 at h
  unfold L2.CMul
  simp only [Bool.or_eq_true, decide_eq_true_eq] at h
  omega
theorem flat_rep {xs : List PF.D} {ys : List L2.V} (r : RDs z M H xs ys) : ∀ n : Nat, RDs z M H (List.replicate n xs).flatten (List.replicate n ys).flatten
  | 0 => .nil
  | n + 1 => by
    rw [List.replicate_succ, List.replicate_succ, List.flatten_cons, List.flatten_cons]
    exact r.append (flat_rep r n)
/-- an operator on data -/
theorem op_ok {o : PF.Op} {dx dy : PF.D} {x : PF.X} (gK : X.K = z.K) (e : PF.opD o dx dy = some x) : ∃ r : L2.R2, L2.OpR X (binaryOp (opO o)) r ∧
    ∀ {ρ : List Addr} {ω : Om} {M : Addr → Prop} {σ : PF.St} {h : PF.Hp} {σ' : L2.St} {H : Hp} {v u : L2.V} {Q : L2.VK}, SR z ρ ω M σ h σ' H → RD z M H dx v → RD z M H dy u → Cont z ρ ω M σ h σ' H x Q → r v u H Q := by
  unfold PF.opD at e
  split at e
  · cases e
    exact ⟨_, L2.op_add, fun sr rv ru c => ⟨_, _, rv.int_inv, ru.int_inv, c.int sr⟩⟩
  · cases e
    exact ⟨_, L2.op_sub, fun sr rv ru c => ⟨_, _, rv.int_inv, ru.int_inv, c.int sr⟩⟩
  · split at e
    · rename_i i j hs
      cases e
      exact ⟨_, L2.op_mul, fun sr rv ru c => ⟨_, _, rv.int_inv, ru.int_inv, small_cmul hs, c.int sr⟩⟩
    · cases e
  · split at e
    · rename_i i j hs
      cases e
      simp only [Bool.and_eq_true, decide_eq_true_eq] at hs
      exact ⟨_, L2.op_fdiv, fun sr rv ru c => ⟨_, _, rv.int_inv, ru.int_inv, hs, c.int sr⟩⟩
    · cases e
  · split at e
    · rename_i i j hs
      cases e
      simp only [decide_eq_true_eq] at hs
      exact ⟨_, L2.op_mod, fun sr rv ru c => ⟨_, _, rv.int_inv, ru.int_inv, hs, c.int sr⟩⟩
    · cases e
  · split at e
    · rename_i i j hs
      cases e
      simp only [Bool.and_eq_true, decide_eq_true_eq, PF.small64] at hs
      exact ⟨_, L2.op_pow, fun sr rv ru c => ⟨_, _, rv.int_inv, ru.int_inv, ⟨hs.1.1, by omega, by omega⟩, c.int sr⟩⟩
    · cases e
  · split at e
    · rename_i s t hs
      cases e
      simp only [decide_eq_true_eq] at hs
      refine ⟨_, L2.op_add_str, fun sr rv ru c => ⟨_, _, rv.str_inv, ru.str_inv, by rw [sOf_len, sOf_len, ← LIM_eq]; exact hs, ?_⟩⟩
      rw [sOf_app]
      exact c.str sr
    · cases e
  · split at e
    · rename_i xs ys hs
      cases e
      simp only [decide_eq_true_eq] at hs
      refine ⟨_, L2.op_cat, fun {ρ ω M σ h σ' H v u Q} sr rv ru c => ?_⟩
      obtain ⟨b, us, rfl, h1, n1, r1⟩ := rv.lst_inv
      obtain ⟨b2, us2, rfl, h2, n2, r2⟩ := ru.lst_inv
      exact ⟨b, b2, us, us2, rfl, rfl, h1, h2, by rw [← r1.length, ← r2.length, ← LIM_eq]; exact hs, c.fresh sr (r1.append r2)⟩
    · cases e
  · split at e
    · rename_i xs ys hs
      cases e
      simp only [decide_eq_true_eq] at hs
      refine ⟨_, L2.op_catA, fun {ρ ω M σ h σ' H v u Q} sr rv ru c => ?_⟩
      obtain ⟨b, us, rfl, h1, n1, r1⟩ := rv.tup_inv
      obtain ⟨b2, us2, rfl, h2, n2, r2⟩ := ru.tup_inv
      refine ⟨b, b2, us, us2, rfl, rfl, by rw [gK]; exact h1, by rw [gK]; exact h2, by rw [← r1.length, ← r2.length, ← LIM_eq]; exact hs, fun q => ?_, fun _ q => ?_, fun _ _ => c.tuple sr (r1.append r2)⟩
      · subst q
        cases r1
        exact c.here sr (.d ru)
      · subst q
        cases r2
        rw [List.append_nil] at c
        exact c.here sr (.d rv)
    · cases e
  · split at e
    · rename_i xs k hs
      cases e
      simp only [Bool.and_eq_true, decide_eq_true_eq] at hs
      refine ⟨_, L2.op_rep, fun {ρ ω M σ h σ' H v u Q} sr rv ru c => ?_⟩
      obtain ⟨b, us, rfl, h1, n1, r1⟩ := rv.lst_inv
      exact ⟨b, k, us, rfl, ru.int_inv, h1, Int.le_trans (by decide) hs.1.1, Int.lt_of_lt_of_le hs.1.2 (by decide), by rw [← r1.length, ← LIM_eq]; exact hs.2, c.fresh sr (flat_rep r1 _)⟩
    · cases e
  · cases e
end Br
set_option Elab.async false
set_option linter.all false
set_option maxRecDepth 100000
set_option maxHeartbeats 4000000
namespace Br
open PySem PySem.Spec PyProof.Rows PySem.SeqAt
section
open AutoSeq1 (wpAny_loadPart')
open MeetsSeq MeetsSeq2 MeetsSeq3 SeqRoads2
variable {prog : Program} {w : World}
theorem list_eq_sz (l b : Addr) (items items2 : Array Value) (n n2 : Nat) (dd dd2 : Option Addr) (sl sl2 : Array (Option Value)) (hsz : items.size ≠ items2.size) :
    MeetsIn prog w (Builtin.«list.__eq__» ⟨[.ref l, .ref b], []⟩)
      (fun A R s => s.heap.get? l = some { cls := .type "list", dict := dd, data := .seq items n, slots := sl } ∧ s.heap.get? b = some { cls := .type "list", dict := dd2, data := .seq items2 n2, slots := sl2 } ∧
        R (.ok (.ret (.bool false))) s) := by
  intro A R s h
  obtain ⟨hp, g, d, tk, os⟩ := s; obtain ⟨hl, hb, h⟩ := h
  have f3 := AutoSeq1.sub_list_list
  have hne : (items.size != items2.size) = true := by simp [hsz]
  wp_walk using wpAny_loadPart' hl, wpAny_loadPart' hb
  exact h
theorem list_ne_sz (l b : Addr) (items items2 : Array Value) (n n2 : Nat) (dd dd2 : Option Addr) (sl sl2 : Array (Option Value)) (hsz : items.size ≠ items2.size) :
    MeetsIn prog w (Builtin.«list.__ne__» ⟨[.ref l, .ref b], []⟩)
      (fun A R s => s.heap.get? l = some { cls := .type "list", dict := dd, data := .seq items n, slots := sl } ∧ s.heap.get? b = some { cls := .type "list", dict := dd2, data := .seq items2 n2, slots := sl2 } ∧
        R (.ok (.ret (.bool true))) s) := by
  intro A R s h
  obtain ⟨hp, g, d, tk, os⟩ := s; obtain ⟨hl, hb, h⟩ := h
  have f3 := AutoSeq1.sub_list_list
  have hne : (items.size != items2.size) = true := by simp [hsz]
  wp_walk using wpAny_loadPart' hl, wpAny_loadPart' hb
  exact h
end
variable {z : Z} {M M' : Addr → Prop} {H H' : Hp} {X : L2.Cx}
/-- two lists of different lengths -/
def rSz (K : PySem.W.Frag) (k : Bool) : L2.R2 := fun x y H Q => ∃ a b xs ys, x = .ref a ∧ y = .ref b ∧ L2.SqL K H a xs ∧ L2.SqL K H b ys ∧ xs.length ≠ ys.length ∧ Q (.bl k) H
theorem op_eqSz (hu : X.A.units < cLine) : L2.OpR X (compareOp .Eq) (rSz X.K false) := by
  intro pins s σ H x y v u Q I rx ry h
  obtain ⟨a, b, xs, ys, rfl, rfl, ha, hb, hn, q⟩ := h
  cases rx
  cases ry
  obtain ⟨its, r1, ⟨o1, n1, e1, c1, d1, t1⟩, _⟩ := I.list ha
  obtain ⟨its2, r2, ⟨o2, n2, e2, c2, d2, t2⟩, _⟩ := I.list hb
  obtain ⟨cls, dd, data, sl⟩ := o1
  obtain ⟨cls2, dd2, data2, sl2⟩ := o2
  simp only at c1 d1 t1 c2 d2 t2
  subst c1 d1 t1 c2 d2 t2
  have ta : s.TypeIs (.ref a) "list" := ⟨_, e1, rfl⟩
  have tb : s.TypeIs (.ref b) "list" := ⟨_, e2, rfl⟩
  have hsz : its.toArray.size ≠ its2.toArray.size := by
    rw [List.size_toArray, List.size_toArray, ← r1.length, ← r2.length]
    exact hn
  show wpAny _ _ (richCompare .Eq (.ref a) (.ref b)) _ _ _
  exact wpAny_richCompare_same_room (op := .Eq) ta tb F.slot_list_eq (call_meetsIn F.slot_list_eq ta F.entry_list_eq (F.args_list_eq_2 _ _) (list_eq_sz a b _ _ _ _ _ _ _ _ hsz)
    ⟨e1, e2, (fun x => nomatch x), ⟨.bl false, H, I, rfl, q⟩⟩) hu
theorem op_neSz (hu : X.A.units < cLine) : L2.OpR X (compareOp .NotEq) (rSz X.K true) := by
  intro pins s σ H x y v u Q I rx ry h
  obtain ⟨a, b, xs, ys, rfl, rfl, ha, hb, hn, q⟩ := h
  cases rx
  cases ry
  obtain ⟨its, r1, ⟨o1, n1, e1, c1, d1, t1⟩, _⟩ := I.list ha
  obtain ⟨its2, r2, ⟨o2, n2, e2, c2, d2, t2⟩, _⟩ := I.list hb
  obtain ⟨cls, dd, data, sl⟩ := o1
  obtain ⟨cls2, dd2, data2, sl2⟩ := o2
  simp only at c1 d1 t1 c2 d2 t2
  subst c1 d1 t1 c2 d2 t2
  have ta : s.TypeIs (.ref a) "list" := ⟨_, e1, rfl⟩
  have tb : s.TypeIs (.ref b) "list" := ⟨_, e2, rfl⟩
  have hsz : its.toArray.size ≠ its2.toArray.size := by
    rw [List.size_toArray, List.size_toArray, ← r1.length, ← r2.length]
    exact hn
  show wpAny _ _ (richCompare .NotEq (.ref a) (.ref b)) _ _ _
  exact wpAny_richCompare_same_room (op := .NotEq) ta tb F.slot_list_ne (call_meetsIn F.slot_list_ne ta F.entry_list_ne (F.args_list_ne_2 _ _) (list_ne_sz a b _ _ _ _ _ _ _ _ hsz)
    ⟨e1, e2, (fun x => nomatch x), ⟨.bl true, H, I, rfl, q⟩⟩) hu
/-! data as the library's data -/
mutual
def dP : PF.D → PyData
  | .non => .none
  | .bl b => .bool b
  | .int i => .int i
  | .str s => .str (sOf s)
  | .tup xs => .tuple (dPs xs)
  | .lst xs => .list (dPs xs)
  | .dic _ _ => .none
  | .ins _ _ => .none
def dPs : List PF.D → List PyData
  | [] => []
  | x :: r => dP x :: dPs r
end
mutual
theorem dp_of (x : PF.D) {v : L2.V} (p : PF.plain x = true) (r : RD z M H x v) : L2.Dp z.K H v (dP x) := by
  cases x with
  | non => cases r; exact .non
  | bl b => cases r; exact .bl b
  | int i => cases r; exact .int i
  | str s => cases r; exact .str _
  | tup xs =>
    obtain ⟨b, ys, rfl, h1, _, h2⟩ := r.tup_inv
    exact .tup h1 (dps_of xs (by simpa [PF.plain] using p) h2)
  | lst xs =>
    obtain ⟨b, ys, rfl, h1, _, h2⟩ := r.lst_inv
    exact .lst (L2.SqL.of h1) (dps_of xs (by simpa [PF.plain] using p) h2)
  | dic ks vs => simp [PF.plain] at p
  | ins c vs => simp [PF.plain] at p
theorem dps_of (xs : List PF.D) {vs : List L2.V} (p : PF.plains xs = true) (r : RDs z M H xs vs) : L2.DpAll z.K H vs (dPs xs) := by
  cases xs with
  | nil => cases r; exact .nil
  | cons x xs =>
    simp only [PF.plains, Bool.and_eq_true] at p
    cases r with
    | cons a b => exact .cons (dp_of x p.1 a) (dps_of xs p.2 b)
end
theorem strOk_of (s : List Nat) : PyData.canLay0 (.str (sOf s)) = s.all fun c => decide (c < 1114112) := by
  simp [PyData.canLay0, PyData.strOk, sOf]
mutual
theorem lay_of (x : PF.D) (p : PF.plain x = true) : PyData.canLay0 (dP x) = true := by
  cases x with
  | non => rfl
  | bl b => rfl
  | int i => rfl
  | str s =>
    show PyData.canLay0 (.str (sOf s)) = true
    rw [strOk_of]
    simpa [PF.plain] using p
  | tup xs => exact lays_of xs (by simpa [PF.plain] using p)
  | lst xs => exact lays_of xs (by simpa [PF.plain] using p)
  | dic ks vs => simp [PF.plain] at p
  | ins c vs => simp [PF.plain] at p
theorem lays_of (xs : List PF.D) (p : PF.plains xs = true) : PyData.canLayAll0 (dPs xs) = true := by
  cases xs with
  | nil => rfl
  | cons x xs =>
    simp only [PF.plains, Bool.and_eq_true] at p
    simp only [dPs, PyData.canLayAll0, Bool.and_eq_true]
    exact ⟨lay_of x p.1, lays_of xs p.2⟩
end
mutual
theorem deep_of (x : PF.D) : (dP x).depth = PF.deep x := by
  cases x with
  | tup xs => simp only [dP, PyData.depth, PF.deep, deeps_of xs]
  | lst xs => simp only [dP, PyData.depth, PF.deep, deeps_of xs]
  | _ => rfl
theorem deeps_of (xs : List PF.D) : PyData.depthAll (dPs xs) = PF.deeps xs := by
  cases xs with
  | nil => rfl
  | cons x xs => simp only [dPs, PyData.depthAll, PF.deeps, deep_of x, deeps_of xs]
end
theorem str_beq (s t : List Nat) : (sOf s == sOf t) = (s == t) := by
  rw [Bool.eq_iff_iff]
  simp only [beq_iff_eq]
  exact ⟨sOf_inj, fun e => by rw [e]⟩
mutual
theorem eqv_of (x y : PF.D) (p : PF.plain x = true) (q : PF.plain y = true) : PyData.eqv (dP x) (dP y) = PF.eqb x y := by
  cases x with
  | dic ks vs => simp [PF.plain] at p
  | ins c vs => simp [PF.plain] at p
  | str s =>
    cases y with
    | str t => simp only [dP, PyData.eqv, PF.eqb, str_beq]
    | dic ks vs => simp [PF.plain] at q
    | ins c vs => simp [PF.plain] at q
    | _ => rfl
  | tup xs =>
    cases y with
    | tup ys => simp only [dP, PyData.eqv, PF.eqb]; exact eqvs_of xs ys (by simpa [PF.plain] using p) (by simpa [PF.plain] using q)
    | dic ks vs => simp [PF.plain] at q
    | ins c vs => simp [PF.plain] at q
    | _ => rfl
  | lst xs =>
    cases y with
    | lst ys => simp only [dP, PyData.eqv, PF.eqb]; exact eqvs_of xs ys (by simpa [PF.plain] using p) (by simpa [PF.plain] using q)
    | dic ks vs => simp [PF.plain] at q
    | ins c vs => simp [PF.plain] at q
    | _ => rfl
  | _ =>
    cases y with
    | dic ks vs => simp [PF.plain] at q
    | ins c vs => simp [PF.plain] at q
    | _ => rfl
theorem eqvs_of (xs ys : List PF.D) (p : PF.plains xs = true) (q : PF.plains ys = true) : PyData.eqvAll (dPs xs) (dPs ys) = PF.eqbs xs ys := by
  cases xs with
  | nil => cases ys <;> rfl
  | cons x xs =>
    cases ys with
    | nil => rfl
    | cons y ys =>
      simp only [PF.plains, Bool.and_eq_true] at p q
      simp only [dPs, PyData.eqvAll, PF.eqbs, eqv_of x y p.1 q.1, eqvs_of xs ys p.2 q.2]
end
theorem shaped_of {x : PF.D} (p : PF.plain x = true) (d : PF.deep x ≤ 60) : SeqAt.shaped (dP x) = true := by
  unfold SeqAt.shaped
  rw [lay_of x p, deep_of, Bool.true_and, decide_eq_true_eq]
  omega
def cpO : PF.Cp → CmpOp
  | .eq => .Eq | .ne => .NotEq | .lt => .Lt | .le => .LtE | .gt => .Gt | .ge => .GtE
/-- a test's value, the heap as it is -/
def CpOk (z : Z) (X : L2.Cx) (f : Value → Value → Sem Value) (x y : PF.V) (h : PF.Hp) (b : Bool) : Prop := ∃ r : L2.R2, L2.OpR X f r ∧
  ∀ {ρ : List Addr} {ω : Om} {M : Addr → Prop} {σ : PF.St} {σ' : L2.St} {H : Hp} {v u : L2.V} {Q : L2.VK}, SR z ρ ω M σ h σ' H → RV z ρ M H x v → RV z ρ M H y u → Q (.bl b) H → r v u H Q
theorem RV.d_inv {ρ : List Addr} {x : PF.D} {v : L2.V} (r : RV z ρ M H (.d x) v) : RD z M H x v := by cases r; assumption
theorem RV.ref_inv {ρ : List Addr} {a : Nat} {v : L2.V} (r : RV z ρ M H (.ref a) v) : ∃ b, ρ[a]? = some b ∧ v = .ref b := by cases r with | ref h => exact ⟨_, h, rfl⟩
theorem eqD_ok {a b : PF.D} {k : Bool} {h : PF.Hp} (gK : X.K = z.K) (hu : X.A.units + 64 < cLine) (e : PF.eqD a b = some k) : CpOk z X (compareOp .Eq) (.d a) (.d b) h k ∧ CpOk z X (compareOp .NotEq) (.d a) (.d b) h (!k) := by
  unfold PF.eqD at e
  split at e
  · rename_i xs
    cases e
    cases xs with
    | nil =>
      constructor
      · refine ⟨_, L2.op_eqD hu, fun {ρ ω M σ σ' H v u Q} sr rv ru q => ⟨_, _, ?_, ?_, shaped_of (x := .lst []) rfl (by decide), shaped_of (x := .lst []) rfl (by decide), q⟩⟩
        · rw [gK]; exact dp_of (.lst []) rfl rv.d_inv
        · rw [gK]; exact dp_of (.lst []) rfl ru.d_inv
      · refine ⟨_, L2.op_neD hu, fun {ρ ω M σ σ' H v u Q} sr rv ru q => ⟨_, _, ?_, ?_, shaped_of (x := .lst []) rfl (by decide), shaped_of (x := .lst []) rfl (by decide), q⟩⟩
        · rw [gK]; exact dp_of (.lst []) rfl rv.d_inv
        · rw [gK]; exact dp_of (.lst []) rfl ru.d_inv
    | cons x xs =>
      constructor
      · refine ⟨_, op_eqSz (by omega), fun {ρ ω M σ σ' H v u Q} sr rv ru q => ?_⟩
        obtain ⟨b1, y1, rfl, h1, _, r1⟩ := rv.d_inv.lst_inv
        obtain ⟨b2, y2, rfl, h2, _, r2⟩ := ru.d_inv.lst_inv
        refine ⟨b1, b2, y1, y2, rfl, rfl, L2.SqL.of h1, L2.SqL.of h2, ?_, q⟩
        rw [← r1.length, ← r2.length]
        simp
      · refine ⟨_, op_neSz (by omega), fun {ρ ω M σ σ' H v u Q} sr rv ru q => ?_⟩
        obtain ⟨b1, y1, rfl, h1, _, r1⟩ := rv.d_inv.lst_inv
        obtain ⟨b2, y2, rfl, h2, _, r2⟩ := ru.d_inv.lst_inv
        refine ⟨b1, b2, y1, y2, rfl, rfl, L2.SqL.of h1, L2.SqL.of h2, ?_, q⟩
        rw [← r1.length, ← r2.length]
        simp
  · rename_i s t
    cases e
    have ed : decide (L2.V.str (sOf s) = L2.V.str (sOf t)) = (s == t) := by rw [L2.dec_str, str_beq]
    constructor
    · refine ⟨_, L2.op_eq, fun {ρ ω M σ σ' H v u Q} sr rv ru q => ?_⟩
      rw [rv.d_inv.str_inv, ru.d_inv.str_inv]
      exact ⟨rfl, by rw [ed]; exact q⟩
    · refine ⟨_, L2.op_ne, fun {ρ ω M σ σ' H v u Q} sr rv ru q => ?_⟩
      rw [rv.d_inv.str_inv, ru.d_inv.str_inv]
      exact ⟨rfl, by rw [ed]; exact q⟩
  · split at e
    · rename_i hc
      cases e
      simp only [Bool.and_eq_true, decide_eq_true_eq] at hc
      obtain ⟨⟨⟨p1, p2⟩, d1⟩, d2⟩ := hc
      constructor
      · refine ⟨_, L2.op_eqD hu, fun {ρ ω M σ σ' H v u Q} sr rv ru q => ⟨_, _, ?_, ?_, shaped_of p1 d1, shaped_of p2 d2, ?_⟩⟩
        · rw [gK]; exact dp_of _ p1 rv.d_inv
        · rw [gK]; exact dp_of _ p2 ru.d_inv
        · rw [eqv_of _ _ p1 p2]; exact q
      · refine ⟨_, L2.op_neD hu, fun {ρ ω M σ σ' H v u Q} sr rv ru q => ⟨_, _, ?_, ?_, shaped_of p1 d1, shaped_of p2 d2, ?_⟩⟩
        · rw [gK]; exact dp_of _ p1 rv.d_inv
        · rw [gK]; exact dp_of _ p2 ru.d_inv
        · rw [eqv_of _ _ p1 p2]; exact q
    · cases e
theorem refnil_ok {a : Nat} {h : PF.Hp} {xs : List PF.V} (gK : X.K = z.K) (hu : X.A.units + 64 < cLine) (e : h[a]? = some (.lst xs)) : CpOk z X (compareOp .Eq) (.ref a) (.d (.lst [])) h xs.isEmpty ∧ CpOk z X (compareOp .NotEq) (.ref a) (.d (.lst [])) h (!xs.isEmpty) := by
  have main : ∀ {ρ : List Addr} {ω : Om} {M : Addr → Prop} {σ : PF.St} {σ' : L2.St} {H : Hp} {v u : L2.V}, SR z ρ ω M σ h σ' H → RV z ρ M H (.ref a) v → RV z ρ M H (.d (.lst [])) u → ∃ b c ys, v = .ref b ∧ u = .ref c ∧ H b = some (.lst ys) ∧ H c = some (.lst []) ∧ xs.length = ys.length := by
    intro ρ ω M σ σ' H v u sr rv ru
    obtain ⟨b, hb, rfl⟩ := rv.ref_inv
    obtain ⟨c, zs, rfl, hc, _, r2⟩ := ru.d_inv.lst_inv
    cases r2
    cases sr.hr.obj a _ b e hb with
    | lst h1 r1 => exact ⟨b, c, _, rfl, rfl, h1, hc, r1.length⟩
  cases xs with
  | nil =>
    constructor
    · refine ⟨_, L2.op_eqD hu, fun {ρ ω M σ σ' H v u Q} sr rv ru q => ?_⟩
      obtain ⟨b, c, ys, rfl, rfl, h1, h2, hl⟩ := main sr rv ru
      have : ys = [] := List.length_eq_zero_iff.mp hl.symm
      subst this
      exact ⟨.list [], .list [], .lst (L2.SqL.of h1) .nil, .lst (L2.SqL.of h2) .nil, rfl, rfl, q⟩
    · refine ⟨_, L2.op_neD hu, fun {ρ ω M σ σ' H v u Q} sr rv ru q => ?_⟩
      obtain ⟨b, c, ys, rfl, rfl, h1, h2, hl⟩ := main sr rv ru
      have : ys = [] := List.length_eq_zero_iff.mp hl.symm
      subst this
      exact ⟨.list [], .list [], .lst (L2.SqL.of h1) .nil, .lst (L2.SqL.of h2) .nil, rfl, rfl, q⟩
  | cons x xs =>
    constructor
    · refine ⟨_, op_eqSz (by omega), fun {ρ ω M σ σ' H v u Q} sr rv ru q => ?_⟩
      obtain ⟨b, c, ys, rfl, rfl, h1, h2, hl⟩ := main sr rv ru
      exact ⟨b, c, ys, [], rfl, rfl, L2.SqL.of h1, L2.SqL.of h2, by rw [← hl]; simp, q⟩
    · refine ⟨_, op_neSz (by omega), fun {ρ ω M σ σ' H v u Q} sr rv ru q => ?_⟩
      obtain ⟨b, c, ys, rfl, rfl, h1, h2, hl⟩ := main sr rv ru
      exact ⟨b, c, ys, [], rfl, rfl, L2.SqL.of h1, L2.SqL.of h2, by rw [← hl]; simp, q⟩
theorem cp_ok {o : PF.Cp} {x y : PF.V} {h : PF.Hp} {b : Bool} (gK : X.K = z.K) (hu : X.A.units + 64 < cLine) (e : PF.cpV o x y h = some b) : CpOk z X (compareOp (cpO o)) x y h b := by
  unfold PF.cpV at e
  split at e
  · rename_i a c
    unfold PF.cpD at e
    cases o with
    | eq => exact (eqD_ok gK hu e).1
    | ne =>
      simp only [Option.map_eq_some_iff] at e
      obtain ⟨k, e1, rfl⟩ := e
      exact (eqD_ok gK hu e1).2
    | lt =>
      simp only at e
      split at e
      · cases e
        exact ⟨_, L2.op_lt, fun sr rv ru q => ⟨_, _, rv.d_inv.int_inv, ru.d_inv.int_inv, q⟩⟩
      · cases e
    | le =>
      simp only at e
      split at e
      · cases e
        exact ⟨_, L2.op_le, fun sr rv ru q => ⟨_, _, rv.d_inv.int_inv, ru.d_inv.int_inv, q⟩⟩
      · cases e
    | gt =>
      simp only at e
      split at e
      · cases e
        exact ⟨_, L2.op_gt, fun sr rv ru q => ⟨_, _, rv.d_inv.int_inv, ru.d_inv.int_inv, q⟩⟩
      · cases e
    | ge =>
      simp only at e
      split at e
      · cases e
        exact ⟨_, L2.op_ge, fun sr rv ru q => ⟨_, _, rv.d_inv.int_inv, ru.d_inv.int_inv, q⟩⟩
      · cases e
  · split at e
    · rename_i q
      cases e
      exact (refnil_ok gK hu q).1
    · rename_i q
      cases e
      exact (refnil_ok gK hu q).2
    · cases e
  · cases e
end Br
set_option Elab.async false
set_option linter.all false
set_option maxRecDepth 100000
set_option maxHeartbeats 4000000
namespace Br
open PySem PySem.Spec PyProof.Rows PySem.SeqAt
variable {z : Z} {M M' : Addr → Prop} {H H' : Hp} {X : L2.Cx}
/-! keys -/
theorem keyR_kV {d : PF.D} {k : L2.Key} (h : keyR d k) {v : L2.V} (r : RD z M H d v) : v = L2.kV k := by
  cases d with
  | int i => cases r; cases h; rfl
  | str s => cases r; cases h; rfl
  | _ => cases h
theorem key_of_isKey {d : PF.D} (h : PF.isKey d = true) : ∃ k, keyR d k := by
  cases d with
  | int i => exact ⟨_, rfl⟩
  | str s => exact ⟨_, rfl⟩
  | _ => cases h
theorem keyR_eq {a b : PF.D} {j k : L2.Key} (ha : keyR a j) (hb : keyR b k) : PF.eqb a b = decide (j = k) := by
  cases a with
  | int i =>
    cases b with
    | int i' => cases ha; cases hb; rw [L2.key_ll]; rfl
    | str s => cases ha; cases hb; rw [L2.key_lr]; rfl
    | _ => cases hb
  | str s =>
    cases b with
    | int i' => cases ha; cases hb; rw [L2.key_rl]; rfl
    | str t =>
      cases ha; cases hb
      rw [L2.key_rr]
      show (s == t) = decide (sOf s = sOf t)
      rw [← str_beq, Bool.eq_iff_iff]
      simp
    | _ => cases hb
  | _ => cases ha
theorem KsR.any {k : PF.D} {j : L2.Key} (hk : keyR k j) : ∀ {ks : List PF.D} {ys : List (L2.Key × L2.V)}, KsR ks (ys.map (·.1)) → (ks.any fun y => PF.eqb y k) = (L2.valV ys j).isSome
  | [], [], _ => rfl
  | _ :: _, (j', v) :: ys, .cons h r => by
    rw [List.any_cons, KsR.any hk r, keyR_eq h hk]
    by_cases e : j' = j
    · rw [L2.valV_pos (p := (j', v)) e]; simp [e]
    · rw [L2.valV_neg (p := (j', v)) e]; simp [e]
  | [], _ :: _, h => by cases h
  | _ :: _, [], h => by cases h
theorem KsR.get {ρ : List Addr} {k : PF.D} {j : L2.Key} (hk : keyR k j) : ∀ {ks : List PF.D} {vs : List PF.V} {ys : List (L2.Key × L2.V)} {x : PF.V}, KsR ks (ys.map (·.1)) → RVs z ρ M H vs (ys.map (·.2)) → PF.dicGetV k ks vs = some x → ∃ y, L2.valV ys j = some y ∧ RV z ρ M H x y
  | [], _, _, _, _, _, e => by simp [PF.dicGetV] at e
  | _ :: _, [], _, _, _, _, e => by simp [PF.dicGetV] at e
  | a :: ks, b :: vs, (j', v) :: ys, x, .cons h r, .cons q r2, e => by
    simp only [PF.dicGetV] at e
    rw [keyR_eq h hk] at e
    by_cases c : j' = j
    · rw [if_pos (by simp [c])] at e
      cases e
      exact ⟨v, L2.valV_pos (p := (j', v)) c, q⟩
    · rw [if_neg (by simp [c])] at e
      obtain ⟨y, e1, e2⟩ := KsR.get hk r r2 e
      exact ⟨y, by rw [L2.valV_neg (p := (j', v)) c]; exact e1, e2⟩
theorem KsR.getD {k : PF.D} {j : L2.Key} (hk : keyR k j) : ∀ {ks vs : List PF.D} {ys : List (L2.Key × L2.V)} {x : PF.D}, KsR ks (ys.map (·.1)) → RDs z M H vs (ys.map (·.2)) → PF.dicGet k ks vs = some x → ∃ y, L2.valV ys j = some y ∧ RD z M H x y
  | [], _, _, _, _, _, e => by simp [PF.dicGet] at e
  | _ :: _, [], _, _, _, _, e => by simp [PF.dicGet] at e
  | a :: ks, b :: vs, (j', v) :: ys, x, .cons h r, .cons q r2, e => by
    simp only [PF.dicGet] at e
    rw [keyR_eq h hk] at e
    by_cases c : j' = j
    · rw [if_pos (by simp [c])] at e
      cases e
      exact ⟨v, L2.valV_pos (p := (j', v)) c, q⟩
    · rw [if_neg (by simp [c])] at e
      obtain ⟨y, e1, e2⟩ := KsR.getD hk r r2 e
      exact ⟨y, by rw [L2.valV_neg (p := (j', v)) c]; exact e1, e2⟩
/-! in -/
theorem op_din (hu : X.A.units + 1 < cLine) : L2.OpR X (compareOp .In) (fun x y H Q => ∃ a o, y = .ref a ∧ L2.DGet H a x o ∧ Q (.bl o.isSome) H) := by
  intro pins s σ H x y v u Q I rx ry h
  obtain ⟨a, o, rfl, g, q⟩ := h
  cases ry
  exact L2.d_in hu I g rx fun s' I' => ⟨.bl o.isSome, H, I', rfl, q⟩
theorem op_dnotin (hu : X.A.units + 1 < cLine) : L2.OpR X (compareOp .NotIn) (fun x y H Q => ∃ a o, y = .ref a ∧ L2.DGet H a x o ∧ Q (.bl (!o.isSome)) H) := by
  intro pins s σ H x y v u Q I rx ry h
  obtain ⟨a, o, rfl, g, q⟩ := h
  cases ry
  exact L2.d_notIn hu I g rx fun s' I' => ⟨.bl (!o.isSome), H, I', rfl, q⟩
theorem flat_of {x : PF.D} {v : L2.V} (f : PF.flat x = true) (r : RD z M H x v) : L2.flatV v = true := by
  cases x with
  | non => cases r; rfl
  | bl b => cases r; rfl
  | int b => cases r; rfl
  | str b => cases r; rfl
  | _ => cases f
theorem flats_of : ∀ {xs : List PF.D} {vs : List L2.V}, xs.all PF.flat = true → RDs z M H xs vs → vs.all L2.flatV = true
  | _, _, _, .nil => rfl
  | _, _, f, .cons a r => by
    simp only [List.all_cons, Bool.and_eq_true] at f ⊢
    exact ⟨flat_of f.1 a, flats_of f.2 r⟩
theorem eqV_of {x y : PF.D} {v u : L2.V} (fx : PF.flat x = true) (fy : PF.flat y = true) (rx : RD z M H x v) (ry : RD z M H y u) : L2.eqV v u = PF.eqb x y := by
  cases x <;> first
    | (cases fx; done)
    | (cases y <;> first
      | (cases fy; done)
      | (cases rx; cases ry; first | rfl | exact str_beq _ _))
theorem anyV_of {x : PF.D} {u : L2.V} (fx : PF.flat x = true) (rx : RD z M H x u) : ∀ {xs : List PF.D} {vs : List L2.V}, xs.all PF.flat = true → RDs z M H xs vs → L2.inV u vs = xs.any fun y => PF.eqb y x
  | _, _, _, .nil => rfl
  | _, _, f, .cons a r => by
    simp only [List.all_cons, Bool.and_eq_true] at f
    have ih := anyV_of fx rx f.2 r
    unfold L2.inV at ih ⊢
    rw [List.any_cons, List.any_cons, ih, eqV_of f.1 fx a rx]
def inO : Bool → CmpOp
  | true => .NotIn
  | false => .In
theorem in_ok {n : Bool} {x y : PF.V} {h : PF.Hp} {b : Bool} (gK : X.K = z.K) (hu : X.A.units + 64 < cLine) (e : PF.inV x y h = some b) : CpOk z X (compareOp (inO n)) x y h (if n then !b else b) := by
  unfold PF.inV at e
  split at e
  · rename_i a c
    unfold PF.inD at e
    split at e
    · rename_i ch s
      split at e
      · cases e
        have hd : (s.any fun x => x == ch) = decide (ch ∈ (sOf s).cps.toList) := by
          rw [Bool.eq_iff_iff, decide_eq_true_iff]
          simp [sOf]
        cases n with
        | false =>
          refine ⟨_, L2.op_in_sign, fun {ρ ω M σ σ' H v u Q} sr rv ru q => ⟨ch, sOf s, rv.d_inv.str_inv, ru.d_inv.str_inv, ?_⟩⟩
          rw [← hd]; exact q
        | true =>
          refine ⟨_, L2.op_notIn_sign, fun {ρ ω M σ σ' H v u Q} sr rv ru q => ⟨ch, sOf s, rv.d_inv.str_inv, ru.d_inv.str_inv, ?_⟩⟩
          rw [← hd]; exact q
      · cases e
    · split at e
      · rename_i hf
        cases e
        simp only [Bool.and_eq_true] at hf
        cases n with
        | false =>
          refine ⟨_, L2.op_in_seq, fun {ρ ω M σ σ' H v u Q} sr rv ru q => ?_⟩
          obtain ⟨p, ys, rfl, h1, _, r1⟩ := ru.d_inv.tup_inv
          refine ⟨p, ys, rfl, .inr (by rw [gK]; exact h1), flat_of hf.1 rv.d_inv, flats_of hf.2 r1, ?_⟩
          rw [anyV_of hf.1 rv.d_inv hf.2 r1]; exact q
        | true =>
          refine ⟨_, L2.op_notIn_seq, fun {ρ ω M σ σ' H v u Q} sr rv ru q => ?_⟩
          obtain ⟨p, ys, rfl, h1, _, r1⟩ := ru.d_inv.tup_inv
          refine ⟨p, ys, rfl, .inr (by rw [gK]; exact h1), flat_of hf.1 rv.d_inv, flats_of hf.2 r1, ?_⟩
          rw [anyV_of hf.1 rv.d_inv hf.2 r1]; exact q
      · cases e
    · split at e
      · rename_i hf
        cases e
        simp only [Bool.and_eq_true] at hf
        cases n with
        | false =>
          refine ⟨_, L2.op_in_seq, fun {ρ ω M σ σ' H v u Q} sr rv ru q => ?_⟩
          obtain ⟨p, ys, rfl, h1, _, r1⟩ := ru.d_inv.lst_inv
          refine ⟨p, ys, rfl, .inl (L2.SqL.of h1), flat_of hf.1 rv.d_inv, flats_of hf.2 r1, ?_⟩
          rw [anyV_of hf.1 rv.d_inv hf.2 r1]; exact q
        | true =>
          refine ⟨_, L2.op_notIn_seq, fun {ρ ω M σ σ' H v u Q} sr rv ru q => ?_⟩
          obtain ⟨p, ys, rfl, h1, _, r1⟩ := ru.d_inv.lst_inv
          refine ⟨p, ys, rfl, .inl (L2.SqL.of h1), flat_of hf.1 rv.d_inv, flats_of hf.2 r1, ?_⟩
          rw [anyV_of hf.1 rv.d_inv hf.2 r1]; exact q
      · cases e
    · split at e
      · rename_i hf
        cases e
        obtain ⟨k, hk⟩ := key_of_isKey hf
        cases n with
        | false =>
          refine ⟨_, op_din (by omega), fun {ρ ω M σ σ' H v u Q} sr rv ru q => ?_⟩
          obtain ⟨p, ys, rfl, h1, _, r1, _⟩ := ru.d_inv.dic_inv
          refine ⟨p, L2.valV ys k, rfl, ?_, by rw [← KsR.any hk r1]; exact q⟩
          rw [keyR_kV hk rv.d_inv]
          exact L2.DGet.k h1
        | true =>
          refine ⟨_, op_dnotin (by omega), fun {ρ ω M σ σ' H v u Q} sr rv ru q => ?_⟩
          obtain ⟨p, ys, rfl, h1, _, r1, _⟩ := ru.d_inv.dic_inv
          refine ⟨p, L2.valV ys k, rfl, ?_, by rw [← KsR.any hk r1]; exact q⟩
          rw [keyR_kV hk rv.d_inv]
          exact L2.DGet.k h1
      · cases e
    · cases e
  · rename_i a p
    split at e
    · rename_i ks vs hp
      split at e
      · rename_i hf
        cases e
        obtain ⟨k, hk⟩ := key_of_isKey hf
        cases n with
        | false =>
          refine ⟨_, op_din (by omega), fun {ρ ω M σ σ' H v u Q} sr rv ru q => ?_⟩
          obtain ⟨b, hb, rfl⟩ := ru.ref_inv
          cases sr.hr.obj p _ b hp hb with
          | dic h1 r1 r2 =>
            refine ⟨b, _, rfl, ?_, by rw [← KsR.any hk r1]; exact q⟩
            rw [keyR_kV hk rv.d_inv]
            exact L2.DGet.k h1
        | true =>
          refine ⟨_, op_dnotin (by omega), fun {ρ ω M σ σ' H v u Q} sr rv ru q => ?_⟩
          obtain ⟨b, hb, rfl⟩ := ru.ref_inv
          cases sr.hr.obj p _ b hp hb with
          | dic h1 r1 r2 =>
            refine ⟨b, _, rfl, ?_, by rw [← KsR.any hk r1]; exact q⟩
            rw [keyR_kV hk rv.d_inv]
            exact L2.DGet.k h1
      · cases e
    · cases e
  · cases e
/-! subscripts -/
theorem ixN_eq (n : Nat) (i : Int) : L2.ixN n i = PF.ixN n i := rfl
theorem ix_dict (hu : X.A.units + 1 < cLine) : L2.IxR X (fun x y H Q => ∃ a v, x = .ref a ∧ L2.DGet H a y (some v) ∧ Q v H) := by
  intro value slice pins s σ H x y v u Q I rx ry h hs
  obtain ⟨a, w', rfl, g, q⟩ := h
  cases rx
  have hT := L2.dict_typeIs I g
  unfold subscriptTail
  refine wpAny_bind ?_
  rw [getitemInPython_of_ne hT.not_modules]
  refine wpAny_bind (wpAny_specialOf hT PySem.F.slot_dict_getitem.lookup ?_)
  have h₂ : wpAny (model X.prog X.w) X.A (getItem (.ref a) u) (L2.EP X pins σ Q) X.xe s := L2.d_getItem hu I g ry fun w'' s3 I3 rw' => ⟨w', H, I3, rw', q⟩
  have fin : wpAny (model X.prog X.w) X.A (subscripted slice false (.ref a) u) (fun r s₃ => wpAny (model X.prog X.w) X.A (letTemporaryGo value (.ref a) r >>= fun _ => pure r) (L2.EP X pins σ Q) X.xe s₃) X.xe s := by
    rw [hs]
    exact wpAny_operating (wpAny_mono h₂ (fun r s₃ h₃ => wpAny_bind (wpAny_letTemporaryGo (wpAny_pure h₃))) fun _ _ x => x)
  first
    | exact wpAny_pure (wpAny_bind fin)
    | exact wpAny_bind (wpAny_pure (wpAny_bind fin))
    | exact wpAny_bind fin
theorem atI_of {α : Type} {xs : List α} {i : Int} {j : Nat} {y : α} (e : PF.ixN xs.length i = some j) (h : xs[j]? = some y) : L2.atI xs i = some y := by
  unfold L2.atI
  rw [ixN_eq, e]
  exact h
def IxOk (z : Z) (X : L2.Cx) (x y : PF.V) (h : PF.Hp) (r : PF.V) : Prop := ∃ t : L2.R2, L2.IxR X t ∧
  ∀ {ρ : List Addr} {ω : Om} {M : Addr → Prop} {σ : PF.St} {σ' : L2.St} {H : Hp} {v u : L2.V} {Q : L2.VK}, SR z ρ ω M σ h σ' H → RV z ρ M H x v → RV z ρ M H y u → (∀ w, RV z ρ M H r w → Q w H) → t v u H Q
theorem ixD_ok {x y r : PF.D} {h : PF.Hp} (gK : X.K = z.K) (hu : X.A.units + 64 < cLine) (e : PF.ixD x y = some r) : IxOk z X (.d x) (.d y) h (.d r) := by
  unfold PF.ixD at e
  split at e
  · rename_i xs i
    simp only [Option.bind_eq_some_iff] at e
    obtain ⟨j, e1, e2⟩ := e
    refine ⟨_, L2.ix_list, fun {ρ ω M σ σ' H v u Q} sr rv ru q => ?_⟩
    obtain ⟨p, ys, rfl, h1, _, r1⟩ := rv.d_inv.lst_inv
    obtain ⟨y, g1, g2⟩ := r1.get e2
    exact ⟨p, ys, i, y, rfl, ru.d_inv.int_inv, L2.SqL.of h1, atI_of (by rw [← r1.length]; exact e1) g1, q _ (.d g2)⟩
  · rename_i xs i
    simp only [Option.bind_eq_some_iff] at e
    obtain ⟨j, e1, e2⟩ := e
    refine ⟨_, L2.ix_tup, fun {ρ ω M σ σ' H v u Q} sr rv ru q => ?_⟩
    obtain ⟨p, ys, rfl, h1, _, r1⟩ := rv.d_inv.tup_inv
    obtain ⟨y, g1, g2⟩ := r1.get e2
    exact ⟨p, ys, i, y, rfl, ru.d_inv.int_inv, by rw [gK]; exact h1, atI_of (by rw [← r1.length]; exact e1) g1, q _ (.d g2)⟩
  · rename_i s i
    split at e
    · rename_i hs
      simp only [Option.bind_eq_some_iff, Option.map_eq_some_iff] at e
      obtain ⟨j, e1, c, e2, rfl⟩ := e
      simp only [decide_eq_true_eq] at hs
      refine ⟨_, L2.ix_str, fun {ρ ω M σ σ' H v u Q} sr rv ru q => ?_⟩
      refine ⟨sOf s, i, c, rv.d_inv.str_inv, ru.d_inv.int_inv, by rw [sOf_len, ← LIM_eq]; exact hs, ?_, q _ (.d (.str [c]))⟩
      exact atI_of (xs := (sOf s).cps.toList) e1 e2
    · cases e
  · rename_i ks vs k
    split at e
    · rename_i hf
      obtain ⟨j, hk⟩ := key_of_isKey hf
      refine ⟨_, ix_dict (by omega), fun {ρ ω M σ σ' H v u Q} sr rv ru q => ?_⟩
      obtain ⟨p, ys, rfl, h1, _, r1, r2⟩ := rv.d_inv.dic_inv
      obtain ⟨y, g1, g2⟩ := KsR.getD hk r1 r2 e
      refine ⟨p, y, rfl, ?_, q _ (.d g2)⟩
      rw [keyR_kV hk ru.d_inv, ← g1]
      exact L2.DGet.k h1
    · cases e
  · cases e
theorem ix_ok {x y r : PF.V} {h : PF.Hp} (gK : X.K = z.K) (hu : X.A.units + 64 < cLine) (e : PF.ixV x y h = some r) : IxOk z X x y h r := by
  unfold PF.ixV at e
  split at e
  · simp only [Option.map_eq_some_iff] at e
    obtain ⟨r, e1, rfl⟩ := e
    exact ixD_ok gK hu e1
  · rename_i a k
    split at e
    · rename_i xs hp
      split at e
      · rename_i i
        simp only [Option.bind_eq_some_iff] at e
        obtain ⟨j, e1, e2⟩ := e
        refine ⟨_, L2.ix_list, fun {ρ ω M σ σ' H v u Q} sr rv ru q => ?_⟩
        obtain ⟨b, hb, rfl⟩ := rv.ref_inv
        cases sr.hr.obj a _ b hp hb with
        | lst h1 r1 =>
          obtain ⟨y, g1, g2⟩ := r1.get e2
          exact ⟨b, _, i, y, rfl, ru.d_inv.int_inv, L2.SqL.of h1, atI_of (by rw [← r1.length]; exact e1) g1, q _ g2⟩
      · cases e
    · rename_i ks vs hp
      split at e
      · rename_i hf
        obtain ⟨j, hk⟩ := key_of_isKey hf
        refine ⟨_, ix_dict (by omega), fun {ρ ω M σ σ' H v u Q} sr rv ru q => ?_⟩
        obtain ⟨b, hb, rfl⟩ := rv.ref_inv
        cases sr.hr.obj a _ b hp hb with
        | dic h1 r1 r2 =>
          obtain ⟨y, g1, g2⟩ := KsR.get hk r1 r2 e
          refine ⟨b, y, rfl, ?_, q _ g2⟩
          rw [keyR_kV hk ru.d_inv, ← g1]
          exact L2.DGet.k h1
      · cases e
    · cases e
  · cases e
/-! slices -/
theorem sIx_eq (n d : Nat) (o : Option Int) : HT.sIx n d o = PF.sIx n d o := by cases o <;> rfl
theorem cut_eq (ys : List L2.V) (lo hi : Option Int) : L2.cutV ys lo hi = PF.cut ys lo hi := by
  unfold L2.cutV PF.cut
  rw [sIx_eq, sIx_eq]
theorem cutS_eq (s : List Nat) (lo hi : Option Int) : L2.cutS (sOf s) lo hi = sOf (PF.cut s lo hi) := by
  unfold L2.cutS PF.cut
  rw [sIx_eq, sIx_eq, sOf_len]
  rfl
theorem cutD {xs : List PF.D} {ys : List L2.V} (r : RDs z M H xs ys) (lo hi : Option Int) : RDs z M H (PF.cut xs lo hi) (PF.cut ys lo hi) := by
  unfold PF.cut
  rw [r.length]
  exact (r.drop _).take _
theorem cut_whole {α : Type} {xs : List α} {lo hi : Option Int} (h : PF.sIx xs.length 0 lo = 0 ∧ PF.sIx xs.length xs.length hi = xs.length) : PF.cut xs lo hi = xs := by
  unfold PF.cut
  rw [h.1, h.2]
  simp
theorem sl_ok {x : PF.D} {lo hi : Option Int} {r : PF.X} (gK : X.K = z.K) (e : PF.slD x lo hi = some r) : ∃ t : L2.V → Option Int → Option Int → Hp → L2.VK → Prop, L2.SlR X t ∧
    ∀ {ρ : List Addr} {ω : Om} {M : Addr → Prop} {σ : PF.St} {h : PF.Hp} {σ' : L2.St} {H : Hp} {v : L2.V} {Q : L2.VK}, SR z ρ ω M σ h σ' H → RD z M H x v → Cont z ρ ω M σ h σ' H r Q → t v lo hi H Q := by
  unfold PF.slD at e
  split at e
  · cases e
    refine ⟨_, L2.sl_list, fun {ρ ω M σ h σ' H v Q} sr rv c => ?_⟩
    obtain ⟨p, ys, rfl, h1, _, r1⟩ := rv.lst_inv
    refine ⟨p, ys, rfl, L2.SqL.of h1, ?_⟩
    rw [cut_eq]
    exact c.fresh sr (cutD r1 lo hi)
  · cases e
    refine ⟨_, L2.sl_tupA, fun {ρ ω M σ h σ' H v Q} sr rv c => ?_⟩
    obtain ⟨p, ys, rfl, h1, h2, r1⟩ := rv.tup_inv
    refine ⟨p, ys, rfl, by rw [gK]; exact h1, fun w => ?_, fun _ => ?_⟩
    · rw [sIx_eq, sIx_eq, ← r1.length] at w
      rw [cut_whole w] at c
      exact c.here sr (.d rv)
    · rw [cut_eq]
      exact c.tuple sr (cutD r1 lo hi)
  · rename_i s
    split at e
    · rename_i hs
      cases e
      simp only [decide_eq_true_eq] at hs
      refine ⟨_, L2.sl_str, fun {ρ ω M σ h σ' H v Q} sr rv c => ⟨sOf s, rv.str_inv, by rw [sOf_len, ← LIM_eq]; exact hs, ?_⟩⟩
      rw [cutS_eq]
      exact c.str sr
    · cases e
  · cases e
end Br
set_option Elab.async false
set_option linter.all false
set_option maxRecDepth 100000
set_option maxHeartbeats 4000000
namespace Br
open PySem PySem.Spec PyProof.Rows PySem.SeqAt
variable {z : Z} {M M' : Addr → Prop} {H H' : Hp} {X : L2.Cx}
def biF : PF.Bi → Value
  | .len => .builtin "len" | .abs => .builtin "abs" | .int => .type "int" | .str => .type "str" | .lst => .type "list" | .tup => .type "tuple"
  | .sum => .builtin "sum" | .all => .builtin "all" | .any => .builtin "any" | .max => .builtin "max"
theorem RDs.one {x : PF.D} {vs : List L2.V} (r : RDs z M H [x] vs) : ∃ v, vs = [v] ∧ RD z M H x v := by
  cases r with | cons a b => cases b; exact ⟨_, rfl, a⟩
theorem RDs.two {x y : PF.D} {vs : List L2.V} (r : RDs z M H [x, y] vs) : ∃ v u, vs = [v, u] ∧ RD z M H x v ∧ RD z M H y u := by
  cases r with | cons a b => cases b with | cons c d => cases d; exact ⟨_, _, rfl, a, c⟩
theorem ints_of : ∀ {xs : List PF.D} {ns : List Int} {vs : List L2.V}, PF.intsOf xs = some ns → RDs z M H xs vs → vs = ns.map L2.V.int
  | [], _, _, e, r => by cases e; cases r; rfl
  | .int i :: xs, ns, _, e, .cons a r => by
    simp only [PF.intsOf, Option.map_eq_some_iff] at e
    obtain ⟨ms, e1, rfl⟩ := e
    rw [a.int_inv, ints_of e1 r]
    rfl
  | .non :: _, _, _, e, _ => by simp [PF.intsOf] at e
  | .bl _ :: _, _, _, e, _ => by simp [PF.intsOf] at e
  | .str _ :: _, _, _, e, _ => by simp [PF.intsOf] at e
  | .tup _ :: _, _, _, e, _ => by simp [PF.intsOf] at e
  | .lst _ :: _, _, _, e, _ => by simp [PF.intsOf] at e
  | .dic _ _ :: _, _, _, e, _ => by simp [PF.intsOf] at e
  | .ins _ _ :: _, _, _, e, _ => by simp [PF.intsOf] at e
theorem bls_of : ∀ {xs : List PF.D} {ns : List Bool} {vs : List L2.V}, PF.blsOf xs = some ns → RDs z M H xs vs → vs = ns.map L2.V.bl
  | [], _, _, e, r => by cases e; cases r; rfl
  | .bl i :: xs, ns, _, e, .cons a r => by
    simp only [PF.blsOf, Option.map_eq_some_iff] at e
    obtain ⟨ms, e1, rfl⟩ := e
    rw [a.bl_inv, bls_of e1 r]
    rfl
  | .non :: _, _, _, e, _ => by simp [PF.blsOf] at e
  | .int _ :: _, _, _, e, _ => by simp [PF.blsOf] at e
  | .str _ :: _, _, _, e, _ => by simp [PF.blsOf] at e
  | .tup _ :: _, _, _, e, _ => by simp [PF.blsOf] at e
  | .lst _ :: _, _, _, e, _ => by simp [PF.blsOf] at e
  | .dic _ _ :: _, _, _, e, _ => by simp [PF.blsOf] at e
  | .ins _ _ :: _, _, _, e, _ => by simp [PF.blsOf] at e
theorem strs_of : ∀ {xs : List PF.D} {ns : List (List Nat)} {vs : List L2.V}, PF.strsOf xs = some ns → RDs z M H xs vs → vs = (ns.map sOf).map L2.V.str
  | [], _, _, e, r => by cases e; cases r; rfl
  | .str i :: xs, ns, _, e, .cons a r => by
    simp only [PF.strsOf, Option.map_eq_some_iff] at e
    obtain ⟨ms, e1, rfl⟩ := e
    rw [a.str_inv, strs_of e1 r]
    rfl
  | .non :: _, _, _, e, _ => by simp [PF.strsOf] at e
  | .int _ :: _, _, _, e, _ => by simp [PF.strsOf] at e
  | .bl _ :: _, _, _, e, _ => by simp [PF.strsOf] at e
  | .tup _ :: _, _, _, e, _ => by simp [PF.strsOf] at e
  | .lst _ :: _, _, _, e, _ => by simp [PF.strsOf] at e
  | .dic _ _ :: _, _, _, e, _ => by simp [PF.strsOf] at e
  | .ins _ _ :: _, _, _, e, _ => by simp [PF.strsOf] at e
theorem dig_val (s : List Nat) : PF.digVal s = NumText.digitsVal s := rfl
def BiOk (z : Z) (X : L2.Cx) (f : Value) (xs : List PF.V) (h : PF.Hp) (x : PF.X) : Prop := ∃ r : List L2.V → Hp → L2.VK → Prop, L2.CallR X f r ∧
  ∀ {ρ : List Addr} {ω : Om} {M : Addr → Prop} {σ : PF.St} {σ' : L2.St} {H : Hp} {vs : List L2.V} {Q : L2.VK}, SR z ρ ω M σ h σ' H → RVs z ρ M H xs vs → Cont z ρ ω M σ h σ' H x Q → r vs H Q
theorem biD_ok {b : PF.Bi} {xs : List PF.D} {x : PF.X} (gK : X.K = z.K) (gc : X.calm = true) (e : PF.biD b xs = some x) : ∃ r : List L2.V → Hp → L2.VK → Prop, L2.CallR X (biF b) r ∧
    ∀ {ρ : List Addr} {ω : Om} {M : Addr → Prop} {σ : PF.St} {h : PF.Hp} {σ' : L2.St} {H : Hp} {vs : List L2.V} {Q : L2.VK}, SR z ρ ω M σ h σ' H → RDs z M H xs vs → Cont z ρ ω M σ h σ' H x Q → r vs H Q := by
  unfold PF.biD at e
  split at e
  · cases e
    refine ⟨_, L2.call_len_seq, fun {ρ ω M σ h σ' H vs Q} sr rs c => ?_⟩
    obtain ⟨v, rfl, r1⟩ := rs.one
    obtain ⟨p, ys, rfl, h1, _, r2⟩ := r1.lst_inv
    refine ⟨p, ys, rfl, .inl (L2.SqL.of h1), ?_⟩
    rw [← r2.length]; exact c.int sr
  · cases e
    refine ⟨_, L2.call_len_seq, fun {ρ ω M σ h σ' H vs Q} sr rs c => ?_⟩
    obtain ⟨v, rfl, r1⟩ := rs.one
    obtain ⟨p, ys, rfl, h1, _, r2⟩ := r1.tup_inv
    refine ⟨p, ys, rfl, .inr (by rw [gK]; exact h1), ?_⟩
    rw [← r2.length]; exact c.int sr
  · rename_i s
    split at e
    · rename_i hs
      cases e
      simp only [decide_eq_true_eq] at hs
      refine ⟨_, L2.call_len_str, fun {ρ ω M σ h σ' H vs Q} sr rs c => ?_⟩
      obtain ⟨v, rfl, r1⟩ := rs.one
      refine ⟨sOf s, by rw [r1.str_inv], by rw [sOf_len, ← LIM_eq]; exact hs, ?_⟩
      rw [sOf_len]; exact c.int sr
    · cases e
  · cases e
    refine ⟨_, L2.call_lenD, fun {ρ ω M σ h σ' H vs Q} sr rs c => ?_⟩
    obtain ⟨v, rfl, r1⟩ := rs.one
    obtain ⟨p, ys, rfl, h1, _, r2, r3⟩ := r1.dic_inv
    have : ∀ {ks : List PF.D} {js : List L2.Key}, KsR ks js → ks.length = js.length := by
      intro ks js q
      induction q with
      | nil => rfl
      | cons _ _ ih => simp [ih]
    refine ⟨p, ys, rfl, h1, ?_⟩
    have e2 := this r2
    rw [List.length_map] at e2
    rw [← e2]; exact c.int sr
  · cases e
    refine ⟨_, L2.call_abs, fun {ρ ω M σ h σ' H vs Q} sr rs c => ?_⟩
    obtain ⟨v, rfl, r1⟩ := rs.one
    exact ⟨_, by rw [r1.int_inv], c.int sr⟩
  · cases e
    refine ⟨_, L2.call_int1, fun {ρ ω M σ h σ' H vs Q} sr rs c => ?_⟩
    obtain ⟨v, rfl, r1⟩ := rs.one
    exact .inl ⟨_, by rw [r1.int_inv], c.int sr⟩
  · cases e
    refine ⟨_, L2.call_int1, fun {ρ ω M σ h σ' H vs Q} sr rs c => ?_⟩
    obtain ⟨v, rfl, r1⟩ := rs.one
    exact .inr ⟨_, by rw [r1.bl_inv], c.int sr⟩
  · rename_i s
    split at e
    · rename_i hs
      cases e
      simp only [Bool.and_eq_true, decide_eq_true_eq, Bool.not_eq_true'] at hs
      refine ⟨_, L2.call_int_str, fun {ρ ω M σ h σ' H vs Q} sr rs c => ?_⟩
      obtain ⟨v, rfl, r1⟩ := rs.one
      refine ⟨sOf s, ((NumText.digitsVal s : Nat) : Int), by rw [r1.str_inv], ?_, by rw [sOf_len]; omega, c.int sr⟩
      refine PySem.intText_digits (x := sOf s) (fun c hc => ?_) ?_ (by rw [sOf_len]; omega)
      · have := List.all_eq_true.mp hs.1.1 c (by simpa [sOf] using hc)
        simpa [PF.isDig] using this
      · intro q
        have : s = [] := by simpa [sOf] using q
        rw [this] at hs
        simp at hs
    · cases e
  · rename_i i
    split at e
    · rename_i hs
      cases e
      simp only [Bool.and_eq_true, decide_eq_true_eq] at hs
      refine ⟨_, L2.call_str_int, fun {ρ ω M σ h σ' H vs Q} sr rs c => ?_⟩
      obtain ⟨v, rfl, r1⟩ := rs.one
      refine ⟨i, by rw [r1.int_inv], ?_, ?_⟩
      · by_cases h0 : i.natAbs = 0
        · rw [h0]; decide
        · refine Nat.lt_of_lt_of_le ((Nat.log2_lt h0).mpr (show i.natAbs < 2 ^ 64 by omega)) (by decide)
      · have e2 : (Str.ofString (toString i) : Str) = sOf (PF.natDigs i.toNat) := by
          refine TL.ext_tl ?_
          have := TL.tl_num i.toNat
          rw [Int.toNat_of_nonneg hs.1] at this
          rw [this]
          rfl
        show Q (.str (Str.ofString (toString i))) H
        rw [e2]
        exact c.str sr
    · cases e
  · cases e
    refine ⟨_, SkE.call_str_str, fun {ρ ω M σ h σ' H vs Q} sr rs c => ?_⟩
    obtain ⟨v, rfl, r1⟩ := rs.one
    exact ⟨_, by rw [r1.str_inv], c.str sr⟩
  · cases e
    refine ⟨_, L2.call_list_of, fun {ρ ω M σ h σ' H vs Q} sr rs c => ?_⟩
    obtain ⟨v, rfl, r1⟩ := rs.one
    obtain ⟨p, ys, rfl, h1, _, r2⟩ := r1.lst_inv
    exact ⟨p, ys, rfl, .inl (L2.SqL.of h1), c.fresh sr r2⟩
  · cases e
    refine ⟨_, L2.call_list_of, fun {ρ ω M σ h σ' H vs Q} sr rs c => ?_⟩
    obtain ⟨v, rfl, r1⟩ := rs.one
    obtain ⟨p, ys, rfl, h1, _, r2⟩ := r1.tup_inv
    exact ⟨p, ys, rfl, .inr (by rw [gK]; exact h1), c.fresh sr r2⟩
  · cases e
    refine ⟨_, L2.call_tuple_of, fun {ρ ω M σ h σ' H vs Q} sr rs c => ?_⟩
    obtain ⟨v, rfl, r1⟩ := rs.one
    obtain ⟨p, ys, rfl, h1, _, r2⟩ := r1.lst_inv
    exact ⟨p, ys, rfl, .inl ⟨L2.SqL.of h1, c.tuple sr r2⟩⟩
  · cases e
    refine ⟨_, L2.call_tuple_of, fun {ρ ω M σ h σ' H vs Q} sr rs c => ?_⟩
    obtain ⟨v, rfl, r1⟩ := rs.one
    obtain ⟨p, ys, rfl, h1, _, r2⟩ := r1.tup_inv
    exact ⟨p, ys, rfl, .inr ⟨by rw [gK]; exact h1, c.here sr (.d r1)⟩⟩
  · simp only [Option.map_eq_some_iff] at e
    obtain ⟨ns, e1, rfl⟩ := e
    refine ⟨_, L2.cr_sum gc, fun {ρ ω M σ h σ' H vs Q} sr rs c => ?_⟩
    obtain ⟨v, rfl, r1⟩ := rs.one
    obtain ⟨p, ys, rfl, h1, _, r2⟩ := r1.lst_inv
    exact ⟨p, ns, rfl, L2.SqL.of (by rw [← ints_of e1 r2]; exact h1), c.int sr⟩
  · simp only [Option.map_eq_some_iff] at e
    obtain ⟨ns, e1, rfl⟩ := e
    refine ⟨_, L2.cr_all gc, fun {ρ ω M σ h σ' H vs Q} sr rs c => ?_⟩
    obtain ⟨v, rfl, r1⟩ := rs.one
    obtain ⟨p, ys, rfl, h1, _, r2⟩ := r1.lst_inv
    exact ⟨p, ns, rfl, L2.SqL.of (by rw [← bls_of e1 r2]; exact h1), c.bl sr⟩
  · simp only [Option.map_eq_some_iff] at e
    obtain ⟨ns, e1, rfl⟩ := e
    refine ⟨_, L2.cr_any gc, fun {ρ ω M σ h σ' H vs Q} sr rs c => ?_⟩
    obtain ⟨v, rfl, r1⟩ := rs.one
    obtain ⟨p, ys, rfl, h1, _, r2⟩ := r1.lst_inv
    exact ⟨p, ns, rfl, L2.SqL.of (by rw [← bls_of e1 r2]; exact h1), c.bl sr⟩
  · cases e
    refine ⟨_, L2.call_max2 gc, fun {ρ ω M σ h σ' H vs Q} sr rs c => ?_⟩
    obtain ⟨v, u, rfl, r1, r2⟩ := rs.two
    exact ⟨_, _, by rw [r1.int_inv, r2.int_inv], c.int sr⟩
  · cases e
theorem bi_ok {b : PF.Bi} {xs : List PF.V} {h : PF.Hp} {x : PF.X} (gK : X.K = z.K) (gc : X.calm = true) (e : PF.biV b xs h = some x) : BiOk z X (biF b) xs h x := by
  unfold PF.biV at e
  split at e
  · rename_i a
    split at e
    · rename_i ys hp
      cases e
      refine ⟨_, L2.call_len_seq, fun {ρ ω M σ σ' H vs Q} sr rs c => ?_⟩
      cases rs with
      | cons r1 r2 =>
        cases r2
        obtain ⟨b, hb, rfl⟩ := r1.ref_inv
        cases sr.hr.obj a _ b hp hb with
        | lst h1 r1 =>
          refine ⟨b, _, rfl, .inl (L2.SqL.of h1), ?_⟩
          rw [← r1.length]; exact c.int sr
    · cases e
  · simp only [Option.bind_eq_some_iff] at e
    obtain ⟨ds, e1, e2⟩ := e
    obtain ⟨r, h1, h2⟩ := biD_ok gK gc e2
    exact ⟨r, h1, fun {ρ ω M σ σ' H vs Q} sr rs c => h2 sr (rs.allD e1) c⟩
/-! methods of texts -/
theorem splitC_ne (c : Nat) (s : List Nat) : PF.splitC c s ≠ [] := by
  cases s with
  | nil => simp [PF.splitC]
  | cons x r =>
    unfold PF.splitC
    split
    · simp
    · split <;> simp
theorem spl_eq (c : Nat) : ∀ (s acc : List Nat), TL.spl [c] 0 acc s = match PF.splitC c s with
    | y :: ys => (acc ++ y) :: ys
    | [] => [acc]
  | [], acc => by simp [TL.spl_nil, PF.splitC]
  | x :: r, acc => by
    by_cases h : x = c
    · have hp : TL.pre [c] (x :: r) = true := by simp [TL.pre, h]
      rw [TL.spl_hit hp, TL.spl_pass]
      simp only [PF.splitC, if_pos h, List.length_singleton, Nat.sub_self, List.drop_zero, List.append_nil]
      rw [spl_eq c r []]
      cases e : PF.splitC c r with
      | nil => exact absurd e (splitC_ne c r)
      | cons y ys => simp
    · have hp : TL.pre [c] (x :: r) = false := by simp [TL.pre, h]
      rw [TL.spl_miss hp, spl_eq c r]
      simp only [PF.splitC, if_neg h]
      cases PF.splitC c r <;> simp
theorem split_eq (c : Nat) (hc : c < 256) (s : List Nat) : Txt.split (sOf s) (sOf [c]) = (PF.splitC c s).map sOf := by
  refine TL.map_tl_inj ?_
  rw [TL.split_spl _ _ (by simp [TL.tl, sOf]) (TL.kind_ok (by simp [sOf, hc]))]
  show TL.spl [c] 0 [] s = _
  rw [spl_eq, List.map_map]
  have : (TL.tl ∘ sOf) = id := by funext x; rfl
  rw [this, List.map_id]
  cases e : PF.splitC c s with
  | nil => exact absurd e (splitC_ne c s)
  | cons y ys => simp
theorem joinL_eq (sep : List Nat) : ∀ ss : List (List Nat), TL.joinL sep ss = PF.joinS sep ss
  | [] => rfl
  | [x] => rfl
  | x :: y :: r => by
    have ih := joinL_eq sep (y :: r)
    show x ++ (sep ++ TL.joinL sep (y :: r)) = x ++ sep ++ PF.joinS sep (y :: r)
    rw [ih, List.append_assoc]
theorem join_eq (sep : List Nat) (ss : List (List Nat)) : Txt.join (sOf sep) (ss.map sOf) = sOf (PF.joinS sep ss) := by
  refine TL.ext_tl ?_
  rw [TL.join_eq, TL.tl_join, List.map_map]
  have : (TL.tl ∘ sOf) = id := by funext x; rfl
  rw [this, List.map_id]
  exact joinL_eq sep ss
end Br
set_option Elab.async false
set_option linter.all false
set_option maxRecDepth 100000
set_option maxHeartbeats 4000000
namespace Br
open PySem PySem.Spec PyProof.Rows PySem.SeqAt
variable {z : Z} {M M' : Addr → Prop} {H H' : Hp} {X : L2.Cx} {k : Nat}
/-! facts of plain expressions -/
/-- an expression that is none of: starred, a slice, a set, super() -/
def ord : Expr → Bool
  | .Starred _ _ => false
  | .Slice _ _ _ _ => false
  | .Set _ _ _ => false
  | .Call (.Name x _) [] [] _ => x != "super"
  | _ => true
theorem ord_star {e : Expr} (h : ord e = true) (es : List Expr) (env : Env) : starEach (e :: es) env = (false, eval e env) :: starEach es env := by
  cases e <;> first | rfl | (simp [ord] at h)
theorem ord_ix {e : Expr} (h : ord e = true) : L2.PlainIx e := fun o i => by
  cases e <;> first | rfl | (simp [ord] at h)
theorem ord_mark {e : Expr} (h : ord e = true) (op : CmpOp) : behindInMarks op e = false := by
  cases e <;> first | rfl | (simp [ord] at h)
theorem ord_fold {e : Expr} (h : ord e = true) (env : Env) (x : Value) : foldedSetIterable e env x = pure x := by
  cases e <;> first | rfl | (simp [ord] at h)
theorem ord_base {e : Expr} (h : ord e = true) (f : Str) (env : Env) (w : Sem Value) : attributeBase e f env w = w := by
  unfold attributeBase
  split
  · rename_i id p pos
    have : (id != "super") = true := h
    rw [this]
    simp
  · rfl
theorem stars_any {es : List Expr} (h : es.all ord = true) (pos : Pos) (env : Env) : (backTo pos (starEach es env)).any (·.1) = false := by
  induction es with
  | nil => rfl
  | cons e es ih =>
    simp only [List.all_cons, Bool.and_eq_true] at h
    rw [ord_star h.1]
    have := ih h.2
    simpa [backTo] using this
theorem get_some {σ : PF.St} {i : Nat} {s : PF.SV} (e : PF.get σ i = some s) : σ[i]? = some (some s) := by
  unfold PF.get at e
  cases q : σ[i]? with
  | none => rw [q] at e; cases e
  | some o => rw [q] at e; cases o with
    | none => cases e
    | some t => cases e; rfl
theorem Nw.back {ρ ρ1 : List Addr} {M1 : Addr → Prop} {H1 : Hp} {h1 : PF.Hp} (e : Ext ρ ρ1) (f : Fm ρ M H ρ1 M1 H1) (r : HR z ρ1 M1 h1 H1) {x : PF.X} {w : L2.V} (n : Nw H1 x w) : Nw H x w := by
  have main : ∀ b, H1 b = none → H b = none := fun b hb => by
    cases q : H b with
    | none => rfl
    | some o =>
      by_cases hρ : b ∈ ρ
      · obtain ⟨i, hi, e3⟩ := List.getElem_of_mem hρ
        obtain ⟨u, hu⟩ := r.alive (List.mem_of_getElem? (e i b (by simp [hi, e3])))
        rw [hb] at hu; cases hu
      · rw [(f b o q hρ).1] at hb; cases hb
  cases x with
  | v _ => exact True.intro
  | fl xs => exact fun b hb => main b (n b hb)
  | fd ks vs => exact fun b hb => main b (n b hb)
/-- what is wanted behind an expression -/
abbrev Wnt (z : Z) (ρ : List Addr) (ω : Om) (M : Addr → Prop) (σ : PF.St) (σ' : L2.St) (H : Hp) (x : PF.X) (h1 : PF.Hp) (Q : L2.VK) : Prop :=
  ∀ ρ1 M1 H1 v, Ext ρ ρ1 → Fm ρ M H ρ1 M1 H1 → SR z ρ1 ω M1 σ h1 σ' H1 → RX z ρ1 ω M1 H1 x v → Nw H x v → Q v H1
theorem cont_of {ρ ρ1 : List Addr} {ω : Om} {M1 : Addr → Prop} {σ : PF.St} {h1 : PF.Hp} {σ' : L2.St} {H1 : Hp} {x : PF.X} {Q : L2.VK} (c : Wnt z ρ ω M σ σ' H x h1 Q) (e1 : Ext ρ ρ1) (f1 : Fm ρ M H ρ1 M1 H1) (sr1 : SR z ρ1 ω M1 σ h1 σ' H1) : Cont z ρ1 ω M1 σ h1 σ' H1 x Q :=
  fun M2 H2 w f2 sr2 rx nw => c ρ1 M2 H2 w e1 (f1.trans f2) sr2 rx (nw.back e1 f1 sr1.hr)
theorem Wnt.bl {ρ ρ1 : List Addr} {ω : Om} {M1 : Addr → Prop} {σ : PF.St} {h1 : PF.Hp} {σ' : L2.St} {H1 : Hp} {b : Bool} {Q : L2.VK} (c : Wnt z ρ ω M σ σ' H (PF.dat (.bl b)) h1 Q) (e1 : Ext ρ ρ1) (f1 : Fm ρ M H ρ1 M1 H1) (sr1 : SR z ρ1 ω M1 σ h1 σ' H1) : Q (.bl b) H1 :=
  c ρ1 M1 H1 _ e1 f1 sr1 (.v (.d (.bl b))) True.intro
/-! ### expressions -/
theorem ok_v {T : PF.Tab} {cf : Nat → List PF.V → PF.Hp → PF.R PF.X} {i : Nat} {x : Str} {pos : Pos} (hN : X.N[i]? = some x) (hv : L2.Vis X.env.scope x) (hd : (x == ("__debug__" : Str)) = false) (hc : (x == ("__classdict__" : Str)) = false) : EvOk z X (.Name x pos) (PF.ev T cf (.v i)) := by
  intro σ h y h1 e ρ ω M σ' H sr Q c
  have e : (match PF.get σ i with | some (PF.SV.v x) => PF.R.ok (PF.X.v x) h | _ => PF.R.err) = PF.R.ok y h1 := e
  split at e
  · rename_i x' q
    cases e
    obtain ⟨v, h2, h3⟩ := sr.slot i _ (get_some q)
    cases h3 with
    | v r => exact we_pe (L2.pe_var hN hv hd hc) ⟨v, h2, c ρ M H v Ext.refl Fm.refl sr (.v r) True.intro⟩
  · cases e
theorem ok_const {e : Expr} {d : PF.D} {v : L2.V} {r : PF.St → PF.Hp → PF.R PF.X} (hr : ∀ σ h, r σ h = .ok (PF.dat d) h) (he : L2.PE X e (L2.tC v)) (rv : ∀ M H, RD z M H d v) : EvOk z X e r := by
  intro σ h y h1 e ρ ω M σ' H sr Q c
  rw [hr] at e
  cases e
  exact we_pe he (c ρ M H v Ext.refl Fm.refl sr (.v (.d (rv M H))) True.intro)
theorem ok_op {o : PF.Op} {a b : Expr} {ra rb : PF.St → PF.Hp → PF.R PF.X} {pos : Pos} (gx : GX z k X) (ka : EvOk z X a ra) (kb : EvOk z X b rb) :
    EvOk z X (.BinOp a (opO o) b pos) (fun σ h => (ra σ h).bind fun x h1 => (rb σ h1).bind fun y h2 => (PF.xD x h2).bind fun x _ => (PF.xD y h2).bind fun y _ => PF.lift (PF.opD o x y) h2) := by
  intro σ h y h1 e ρ ω M σ' H sr Q c
  obtain ⟨xa, ha, ea, e⟩ := bind_ok e
  obtain ⟨xb, hb, eb, e⟩ := bind_ok e
  obtain ⟨da, _, ed, e⟩ := bind_ok e
  obtain ⟨db, _, ed2, e⟩ := bind_ok e
  obtain ⟨qa, rfl⟩ := xD_ok ed
  obtain ⟨qb, rfl⟩ := xD_ok ed2
  obtain ⟨eo, rfl⟩ := lift_ok e
  obtain ⟨r, hr, ho⟩ := op_ok gx.K eo
  refine we_pe (L2.pe_op hr (pe_we X a) (pe_we X b)) (two ka kb ea eb sr fun ρ1 M1 H1 v u e1 f1 sr1 rv ru => ?_)
  rw [qa] at rv
  rw [qb] at ru
  exact ho sr1 rv.d_inv ru.d_inv (cont_of c e1 f1 sr1)
theorem ok_neg {a : Expr} {ra : PF.St → PF.Hp → PF.R PF.X} {pos : Pos} (ka : EvOk z X a ra) :
    EvOk z X (.UnaryOp .USub a pos) (fun σ h => (ra σ h).bind fun x h1 => match x with
      | .v (.d (.int i)) => .ok (PF.dat (.int (-i))) h1
      | _ => .err) := by
  intro σ h y h1 e ρ ω M σ' H sr Q c
  obtain ⟨xa, ha, ea, e⟩ := bind_ok e
  split at e
  · cases e
    refine we_pe (L2.pe_un L2.un_neg (pe_we X a)) (ka.v ea sr fun ρ1 M1 H1 v e1 f1 sr1 rv => ?_)
    exact ⟨_, rv.d_inv.int_inv, c ρ1 M1 H1 _ e1 f1 sr1 (.v (.d (.int _))) True.intro⟩
  · cases e
theorem ok_cp {o : PF.Cp} {a b : Expr} {ra rb : PF.St → PF.Hp → PF.R PF.X} {pos : Pos} (gx : GX z k X) (ka : EvOk z X a ra) (kb : EvOk z X b rb) (hm : behindInMarks (cpO o) b = false) :
    EvOk z X (.Compare a [cpO o] [b] pos) (fun σ h => (ra σ h).bind fun x h1 => (rb σ h1).bind fun y h2 => (PF.lift (PF.cpV o x.toV y.toV h2) h2).bind fun r h2 => .ok (PF.dat (.bl r)) h2) := by
  intro σ h y h1 e ρ ω M σ' H sr Q c
  obtain ⟨xa, ha, ea, e⟩ := bind_ok e
  obtain ⟨xb, hb, eb, e⟩ := bind_ok e
  obtain ⟨r, _, er, e9⟩ := bind_ok e
  obtain ⟨er', rfl⟩ := lift_ok er
  cases e9
  obtain ⟨t, ht, ho⟩ := cp_ok gx.K gx.room.units er'
  exact we_pe (L2.pe_cmpR ht (pe_we X a) (pe_we X b) hm) (two ka kb ea eb sr fun ρ1 M1 H1 v u e1 f1 sr1 rv ru => ho sr1 rv ru (Wnt.bl c e1 f1 sr1))
theorem te_cp {o : PF.Cp} {a b : Expr} {ra rb : PF.St → PF.Hp → PF.R PF.X} {pos : Pos} (gx : GX z k X) (ka : EvOk z X a ra) (kb : EvOk z X b rb) (hm : behindInMarks (cpO o) b = false) :
    TeOk z X (.Compare a [cpO o] [b] pos) (fun σ h => ((ra σ h).bind fun x h1 => (rb σ h1).bind fun y h2 => (PF.lift (PF.cpV o x.toV y.toV h2) h2).bind fun r h2 => .ok (PF.dat (.bl r)) h2).bind PF.xB) := by
  intro σ h y h1 e ρ ω M σ' H sr Q c
  obtain ⟨xr, hr, e, er2⟩ := bind_ok e
  obtain ⟨xa, ha, ea, e⟩ := bind_ok e
  obtain ⟨xb, hb, eb, e⟩ := bind_ok e
  obtain ⟨r, _, er, e9⟩ := bind_ok e
  obtain ⟨er', rfl⟩ := lift_ok er
  cases e9
  cases er2
  obtain ⟨t, ht, ho⟩ := cp_ok gx.K gx.room.units er'
  exact wt_pt (L2.pt_cmpR ht (pe_we X a) (pe_we X b) hm) (two ka kb ea eb sr fun ρ1 M1 H1 v u e1 f1 sr1 rv ru => ho sr1 rv ru ⟨_, rfl, c ρ1 M1 H1 e1 f1 sr1⟩)
theorem ok_inn {n : Bool} {a b : Expr} {ra rb : PF.St → PF.Hp → PF.R PF.X} {pos : Pos} (gx : GX z k X) (ka : EvOk z X a ra) (kb : EvOk z X b rb) (hm : behindInMarks (inO n) b = false) :
    EvOk z X (.Compare a [inO n] [b] pos) (fun σ h => (ra σ h).bind fun x h1 => (rb σ h1).bind fun y h2 => (PF.lift (PF.inV x.toV y.toV h2) h2).bind fun r h2 => .ok (PF.dat (.bl (if n then !r else r))) h2) := by
  intro σ h y h1 e ρ ω M σ' H sr Q c
  obtain ⟨xa, ha, ea, e⟩ := bind_ok e
  obtain ⟨xb, hb, eb, e⟩ := bind_ok e
  obtain ⟨r, _, er, e9⟩ := bind_ok e
  obtain ⟨er', rfl⟩ := lift_ok er
  cases e9
  obtain ⟨t, ht, ho⟩ := in_ok (n := n) gx.K gx.room.units er'
  exact we_pe (L2.pe_cmpR ht (pe_we X a) (pe_we X b) hm) (two ka kb ea eb sr fun ρ1 M1 H1 v u e1 f1 sr1 rv ru => ho sr1 rv ru (Wnt.bl c e1 f1 sr1))
theorem te_inn {n : Bool} {a b : Expr} {ra rb : PF.St → PF.Hp → PF.R PF.X} {pos : Pos} (gx : GX z k X) (ka : EvOk z X a ra) (kb : EvOk z X b rb) (hm : behindInMarks (inO n) b = false) :
    TeOk z X (.Compare a [inO n] [b] pos) (fun σ h => ((ra σ h).bind fun x h1 => (rb σ h1).bind fun y h2 => (PF.lift (PF.inV x.toV y.toV h2) h2).bind fun r h2 => .ok (PF.dat (.bl (if n then !r else r))) h2).bind PF.xB) := by
  intro σ h y h1 e ρ ω M σ' H sr Q c
  obtain ⟨xr, hr, e, er2⟩ := bind_ok e
  obtain ⟨xa, ha, ea, e⟩ := bind_ok e
  obtain ⟨xb, hb, eb, e⟩ := bind_ok e
  obtain ⟨r, _, er, e9⟩ := bind_ok e
  obtain ⟨er', rfl⟩ := lift_ok er
  cases e9
  cases er2
  obtain ⟨t, ht, ho⟩ := in_ok (n := n) gx.K gx.room.units er'
  exact wt_pt (L2.pt_cmpR ht (pe_we X a) (pe_we X b) hm) (two ka kb ea eb sr fun ρ1 M1 H1 v u e1 f1 sr1 rv ru => ho sr1 rv ru ⟨_, rfl, c ρ1 M1 H1 e1 f1 sr1⟩)
def isO : Bool → CmpOp
  | true => .IsNot
  | false => .Is
theorem RV.notN {ρ : List Addr} {x : PF.V} {v : L2.V} (r : RV z ρ M H x v) (n : x ≠ .d .non) : v ≠ .non := by
  intro q
  subst q
  cases r with
  | d r => cases r; exact n rfl
theorem isn_eval {n : Bool} {xa : PF.X} {ha h1 : PF.Hp} {y : PF.X} (e : (match xa with | PF.X.v (.d .non) => PF.R.ok (PF.dat (.bl (!n))) ha | _ => PF.R.ok (PF.dat (.bl n)) ha) = PF.R.ok y h1) : h1 = ha ∧ ∃ b : Bool, y = PF.dat (.bl (if n then !b else b)) ∧ (b = true ↔ xa.toV = .d .non) := by
  split at e
  · cases e
    exact ⟨rfl, true, by cases n <;> rfl, ⟨fun _ => rfl, fun _ => rfl⟩⟩
  · rename_i hne
    cases e
    refine ⟨rfl, false, (by cases n <;> rfl), ⟨(fun q => by cases q), fun q => ?_⟩⟩
    cases xa with
    | v x => cases x with
      | d x => exact absurd (by rw [show x = PF.D.non from by cases q; rfl]) hne
      | ref a => cases q
      | scr a => cases q
    | fl xs => cases q
    | fd a b => cases q
theorem ok_isn {n : Bool} {a : Expr} {ra : PF.St → PF.Hp → PF.R PF.X} {pos pos' : Pos} {j : Nat} (ka : EvOk z X a ra) :
    EvOk z X (.Compare a [isO n] [.Constant .none j pos'] pos) (fun σ h => (ra σ h).bind fun x h1 => match x with
      | .v (.d .non) => .ok (PF.dat (.bl (!n))) h1
      | _ => .ok (PF.dat (.bl n)) h1) := by
  intro σ h y h1 e ρ ω M σ' H sr Q c
  obtain ⟨xa, ha, ea, e⟩ := bind_ok e
  obtain ⟨rfl, b, rfl, hb⟩ := isn_eval e
  have key : ∀ {ρ1 M1 H1 v}, RV z ρ1 M1 H1 xa.toV v → decide (v = L2.V.non) = b := fun {ρ1 M1 H1 v} rv => by
    cases b with
    | true => rw [hb.mp rfl] at rv; rw [rv.d_inv.non_inv]; rfl
    | false => exact decide_eq_false (rv.notN fun q => by have := hb.mpr q; cases this)
  cases n with
  | false => exact we_pe (L2.pe_cmp (L2.pc_isN (pe_we X a)) rfl) (ka.v ea sr fun ρ1 M1 H1 v e1 f1 sr1 rv => by
      show Q (.bl (decide (v = L2.V.non))) H1
      rw [key rv]
      exact Wnt.bl (b := _) c e1 f1 sr1)
  | true => exact we_pe (L2.pe_cmp (L2.pc_notN (pe_we X a)) rfl) (ka.v ea sr fun ρ1 M1 H1 v e1 f1 sr1 rv => by
      show Q (.bl (!decide (v = L2.V.non))) H1
      rw [key rv]
      exact Wnt.bl (b := _) c e1 f1 sr1)
theorem te_isn {n : Bool} {a : Expr} {ra : PF.St → PF.Hp → PF.R PF.X} {pos pos' : Pos} {j : Nat} (ka : EvOk z X a ra) :
    TeOk z X (.Compare a [isO n] [.Constant .none j pos'] pos) (fun σ h => ((ra σ h).bind fun x h1 => match x with
      | .v (.d .non) => .ok (PF.dat (.bl (!n))) h1
      | _ => .ok (PF.dat (.bl n)) h1).bind PF.xB) := by
  intro σ h y h1 e ρ ω M σ' H sr Q c
  obtain ⟨xr, hr, e, er2⟩ := bind_ok e
  obtain ⟨xa, ha, ea, e⟩ := bind_ok e
  obtain ⟨rfl, b, rfl, hb⟩ := isn_eval e
  cases er2
  have key : ∀ {ρ1 M1 H1 v}, RV z ρ1 M1 H1 xa.toV v → decide (v = L2.V.non) = b := fun {ρ1 M1 H1 v} rv => by
    cases b with
    | true => rw [hb.mp rfl] at rv; rw [rv.d_inv.non_inv]; rfl
    | false => exact decide_eq_false (rv.notN fun q => by have := hb.mpr q; cases this)
  cases n with
  | false => exact wt_pt (L2.pt_cmp (L2.pc_isN (pe_we X a)) rfl) (ka.v ea sr fun ρ1 M1 H1 v e1 f1 sr1 rv => ⟨b, by show L2.V.bl (decide (v = L2.V.non)) = _; rw [key rv], c ρ1 M1 H1 e1 f1 sr1⟩)
  | true => exact wt_pt (L2.pt_cmp (L2.pc_notN (pe_we X a)) rfl) (ka.v ea sr fun ρ1 M1 H1 v e1 f1 sr1 rv => ⟨!b, by show L2.V.bl (!decide (v = L2.V.non)) = _; rw [key rv], c ρ1 M1 H1 e1 f1 sr1⟩)
end Br
set_option Elab.async false
set_option linter.all false
set_option maxRecDepth 100000
set_option maxHeartbeats 4000000
namespace Br
open PySem PySem.Spec PyProof.Rows PySem.SeqAt
variable {z : Z} {M M' : Addr → Prop} {H H' : Hp} {X : L2.Cx} {k : Nat}
abbrev Rx := PF.St → PF.Hp → PF.R PF.X
/-! chains -/
theorem last2 {a b : Expr} {o p : CmpOp} (ha : ord b = true) : lastMarks [o, p] [a, b] = false := ord_mark ha p
theorem last3 {a b c : Expr} {o p q : CmpOp} (ha : ord c = true) : lastMarks [o, p, q] [a, b, c] = false := ord_mark ha q
/-- a rule that is never asked -/
theorem op_never {f : Value → Value → Sem Value} : L2.OpR X f (fun _ _ _ _ => False) := fun _ _ _ _ _ _ _ _ _ _ _ _ h => h.elim
theorem ok_ch {o p : PF.Cp} {a b c : Expr} {ra rb rc : Rx} {pos : Pos} (gx : GX z k X) (ka : EvOk z X a ra) (kb : EvOk z X b rb) (kc : EvOk z X c rc) (hm : ord c = true) :
    EvOk z X (.Compare a [cpO o, cpO p] [b, c] pos) (fun σ h => (ra σ h).bind fun x h1 => (rb σ h1).bind fun y h2 => (PF.lift (PF.cpV o x.toV y.toV h2) h2).bind fun r h2 =>
      if r then (rc σ h2).bind fun z h3 => (PF.lift (PF.cpV p y.toV z.toV h3) h3).bind fun r h3 => .ok (PF.dat (.bl r)) h3 else .ok (PF.dat (.bl false)) h2) := by
  intro σ h y h1 e ρ ω M σ' H sr Q c
  obtain ⟨xa, ha, ea, e2⟩ := bind_ok e
  obtain ⟨xb, hb, eb, e3⟩ := bind_ok e2
  obtain ⟨r, _, er, e4⟩ := bind_ok e3
  obtain ⟨er', rfl⟩ := lift_ok er
  obtain ⟨t, ht, ho⟩ := cp_ok gx.K gx.room.units er'
  cases r with
  | false =>
    cases e4
    exact we_pe (L2.pe_chain ht op_never (pe_we X a) (pe_we X b) (pe_we X _) (last2 hm)) (two ka kb ea eb sr fun ρ1 M1 H1 v u e1 f1 sr1 rv ru => ho sr1 rv ru ⟨false, rfl, ite_ff (Wnt.bl c e1 f1 sr1)⟩)
  | true =>
    obtain ⟨xc, hc, ec, e5⟩ := bind_ok (show (rc σ _).bind _ = _ from e4)
    obtain ⟨r2, _, er2, e6⟩ := bind_ok e5
    obtain ⟨er2', rfl⟩ := lift_ok er2
    cases e6
    obtain ⟨t2, ht2, ho2⟩ := cp_ok gx.K gx.room.units er2'
    refine we_pe (L2.pe_chain ht ht2 (pe_we X a) (pe_we X b) (pe_we X _) (last2 hm)) (two ka kb ea eb sr fun ρ1 M1 H1 v u e1 f1 sr1 rv ru => ho sr1 rv ru ⟨true, rfl, ite_tt ?_⟩)
    exact kc.v ec sr1 fun ρ2 M2 H2 w e2 f2 sr2 rw' => ho2 sr2 (ru.kp e2 (f2.kp sr1.hr.mu)) rw' (Wnt.bl c (e1.trans e2) (f1.trans f2) sr2)
theorem te_of_ch {o p : PF.Cp} {a b c : Expr} {ra rb rc : Rx} {pos : Pos} (gx : GX z k X) (ka : EvOk z X a ra) (kb : EvOk z X b rb) (kc : EvOk z X c rc) (hm : ord c = true) :
    TeOk z X (.Compare a [cpO o, cpO p] [b, c] pos) (fun σ h => ((ra σ h).bind fun x h1 => (rb σ h1).bind fun y h2 => (PF.lift (PF.cpV o x.toV y.toV h2) h2).bind fun r h2 =>
      if r then (rc σ h2).bind fun z h3 => (PF.lift (PF.cpV p y.toV z.toV h3) h3).bind fun r h3 => .ok (PF.dat (.bl r)) h3 else .ok (PF.dat (.bl false)) h2).bind PF.xB) := by
  intro σ h y h1 e ρ ω M σ' H sr Q c
  obtain ⟨xr, hr, e1, exr⟩ := bind_ok e
  obtain ⟨xa, ha, ea, e2⟩ := bind_ok e1
  obtain ⟨xb, hb, eb, e3⟩ := bind_ok e2
  obtain ⟨r, _, er, e4⟩ := bind_ok e3
  obtain ⟨er', rfl⟩ := lift_ok er
  obtain ⟨t, ht, ho⟩ := cp_ok gx.K gx.room.units er'
  cases r with
  | false =>
    cases e4
    cases exr
    exact wt_pt (L2.pt_chain ht op_never (pe_we X a) (pe_we X b) (pe_we X _) (last2 hm)) (two ka kb ea eb sr fun ρ1 M1 H1 v u e1 f1 sr1 rv ru => ho sr1 rv ru ⟨false, rfl, ite_ff ⟨false, rfl, c ρ1 M1 H1 e1 f1 sr1⟩⟩)
  | true =>
    obtain ⟨xc, hc, ec, e5⟩ := bind_ok (show (rc σ _).bind _ = _ from e4)
    obtain ⟨r2, _, er2, e6⟩ := bind_ok e5
    obtain ⟨er2', rfl⟩ := lift_ok er2
    cases e6
    cases exr
    obtain ⟨t2, ht2, ho2⟩ := cp_ok gx.K gx.room.units er2'
    refine wt_pt (L2.pt_chain ht ht2 (pe_we X a) (pe_we X b) (pe_we X _) (last2 hm)) (two ka kb ea eb sr fun ρ1 M1 H1 v u e1 f1 sr1 rv ru => ho sr1 rv ru ⟨true, rfl, ite_tt ?_⟩)
    exact kc.v ec sr1 fun ρ2 M2 H2 w e2 f2 sr2 rw' => ho2 sr2 (ru.kp e2 (f2.kp sr1.hr.mu)) rw' ⟨_, rfl, c ρ2 M2 H2 (e1.trans e2) (f1.trans f2) sr2⟩
/-- a chain of three comparisons, as a test -/
def tTest3 (r r' r'' : L2.R2) (ta tb tc td : L2.TE) : L2.TT := fun σ H Q => ta σ H fun x H1 => tb σ H1 fun y H2 => r x y H2 fun z H3 => ∃ k, z = .bl k ∧
  (if k = true then tc σ H3 fun w H4 => r' y w H4 fun z H5 => ∃ k, z = .bl k ∧ (if k = true then td σ H5 fun u H6 => r'' w u H6 fun z H7 => ∃ k, z = .bl k ∧ Q k H7 else Q false H5) else Q false H3)
theorem pt_chain3 {op op' op'' : CmpOp} {a b c d : Expr} {r r' r'' : L2.R2} {ta tb tc td : L2.TE} {pos : Pos} (ho : L2.OpR X (compareOp op) r) (ho' : L2.OpR X (compareOp op') r') (ho'' : L2.OpR X (compareOp op'') r'') (ha : L2.PE X a ta) (hb : L2.PE X b tb) (hc : L2.PE X c tc) (hd : L2.PE X d td)
    (hm : lastMarks [op, op', op''] [b, c, d] = false) : L2.PT X (.Compare a [op, op', op''] [b, c, d] pos) (tTest3 r r' r'' ta tb tc td) := by
  refine ⟨fun pins s σ H Q I h => ?_⟩
  refine isTrue_chain (L2.thn (ha.run pins s σ H _ I h) fun v s1 ⟨x, H1, I1, r1, q1⟩ => test_link (L2.thn (hb.run pins s1 σ H1 _ I1 q1) fun u s2 ⟨y, H2, I2, r2, q2⟩ =>
    L2.thn (ho pins s2 σ H2 x y v u _ I2 r1 r2 q2) fun d s3 ⟨z, H3, I3, r3, k, e, q3⟩ => ?_)) hm
  subst e
  cases r3
  refine wpAny_truthy_bool ?_
  cases k with
  | false => exact ite_ff ⟨H3, I3, q3⟩
  | true =>
    refine ite_tt (test_link (L2.thn (hc.run pins s3 σ H3 _ I3 q3) fun w' s4 ⟨z', H4, I4, r4, q4⟩ => L2.thn (ho' pins s4 σ H4 y z' u w' _ I4 r2 r4 q4) fun d' s5 ⟨z2, H5, I5, r5, k2, e2, q5⟩ => ?_))
    subst e2
    cases r5
    refine wpAny_truthy_bool ?_
    cases k2 with
    | false => exact ite_ff ⟨H5, I5, q5⟩
    | true =>
      refine ite_tt (test_last (L2.thn (hd.run pins s5 σ H5 _ I5 q5) fun w3 s6 ⟨z3, H6, I6, r6, q6⟩ => L2.thn (ho'' pins s6 σ H6 z' z3 w' w3 _ I6 r4 r6 q6) fun d' s7 ⟨z4, H7, I7, r7, k3, e3, q7⟩ => ?_))
      subst e3
      cases r7
      exact wpAny_truthy_bool ⟨H7, I7, q7⟩
theorem te_ch3 {o p q : PF.Cp} {a b c d : Expr} {ra rb rc rd : Rx} {pos : Pos} (gx : GX z k X) (ka : EvOk z X a ra) (kb : EvOk z X b rb) (kc : EvOk z X c rc) (kd : EvOk z X d rd) (hm : ord d = true) :
    TeOk z X (.Compare a [cpO o, cpO p, cpO q] [b, c, d] pos) (fun σ h => ((ra σ h).bind fun x h1 => (rb σ h1).bind fun y h2 => (PF.lift (PF.cpV o x.toV y.toV h2) h2).bind fun r h2 =>
      if r then (rc σ h2).bind fun z h3 => (PF.lift (PF.cpV p y.toV z.toV h3) h3).bind fun r h3 =>
        if r then (rd σ h3).bind fun u h4 => (PF.lift (PF.cpV q z.toV u.toV h4) h4).bind fun r h4 => .ok (PF.dat (.bl r)) h4 else .ok (PF.dat (.bl false)) h3 else .ok (PF.dat (.bl false)) h2).bind PF.xB) := by
  intro σ h y h1 e ρ ω M σ' H sr Q c
  obtain ⟨xr, hr, e1, exr⟩ := bind_ok e
  obtain ⟨xa, ha, ea, e2⟩ := bind_ok e1
  obtain ⟨xb, hb, eb, e3⟩ := bind_ok e2
  obtain ⟨r, _, er, e4⟩ := bind_ok e3
  obtain ⟨er', rfl⟩ := lift_ok er
  obtain ⟨t, ht, ho⟩ := cp_ok gx.K gx.room.units er'
  cases r with
  | false =>
    cases e4
    cases exr
    exact wt_pt (pt_chain3 ht op_never op_never (pe_we X a) (pe_we X b) (pe_we X _) (pe_we X _) (last3 hm)) (two ka kb ea eb sr fun ρ1 M1 H1 v u e1 f1 sr1 rv ru => ho sr1 rv ru ⟨false, rfl, ite_ff (c ρ1 M1 H1 e1 f1 sr1)⟩)
  | true =>
    obtain ⟨xc, hc, ec, e5⟩ := bind_ok (show (rc σ _).bind _ = _ from e4)
    obtain ⟨r2, _, er2, e6⟩ := bind_ok e5
    obtain ⟨er2', rfl⟩ := lift_ok er2
    obtain ⟨t2, ht2, ho2⟩ := cp_ok gx.K gx.room.units er2'
    cases r2 with
    | false =>
      cases e6
      cases exr
      refine wt_pt (pt_chain3 ht ht2 op_never (pe_we X a) (pe_we X b) (pe_we X _) (pe_we X _) (last3 hm)) (two ka kb ea eb sr fun ρ1 M1 H1 v u e1 f1 sr1 rv ru => ho sr1 rv ru ⟨true, rfl, ite_tt ?_⟩)
      exact kc.v ec sr1 fun ρ2 M2 H2 w e2 f2 sr2 rw' => ho2 sr2 (ru.kp e2 (f2.kp sr1.hr.mu)) rw' ⟨false, rfl, ite_ff (c ρ2 M2 H2 (e1.trans e2) (f1.trans f2) sr2)⟩
    | true =>
      obtain ⟨xd, hd, ed, e7⟩ := bind_ok (show (rd σ _).bind _ = _ from e6)
      obtain ⟨r3, _, er3, e8⟩ := bind_ok e7
      obtain ⟨er3', rfl⟩ := lift_ok er3
      cases e8
      cases exr
      obtain ⟨t3, ht3, ho3⟩ := cp_ok gx.K gx.room.units er3'
      refine wt_pt (pt_chain3 ht ht2 ht3 (pe_we X a) (pe_we X b) (pe_we X _) (pe_we X _) (last3 hm)) (two ka kb ea eb sr fun ρ1 M1 H1 v u e1 f1 sr1 rv ru => ho sr1 rv ru ⟨true, rfl, ite_tt ?_⟩)
      refine kc.v ec sr1 fun ρ2 M2 H2 w e2 f2 sr2 rw' => ho2 sr2 (ru.kp e2 (f2.kp sr1.hr.mu)) rw' ⟨true, rfl, ite_tt ?_⟩
      exact kd.v ed sr2 fun ρ3 M3 H3 w3 e3 f3 sr3 rw3 => ho3 sr3 (rw'.kp e3 (f3.kp sr2.hr.mu)) rw3 ⟨_, rfl, c ρ3 M3 H3 ((e1.trans e2).trans e3) ((f1.trans f2).trans f3) sr3⟩
/-! and, or, not, if -/
theorem EvOk.b {e : Expr} {r : Rx} (ke : EvOk z X e r) {σ : PF.St} {h h1 : PF.Hp} {b : Bool} (he : (r σ h).bind PF.xB = .ok b h1) {ρ : List Addr} {ω : Om} {σ' : L2.St} (sr : SR z ρ ω M σ h σ' H) {Q : L2.VK}
    (q : ∀ ρ1 M1 H1, Ext ρ ρ1 → Fm ρ M H ρ1 M1 H1 → SR z ρ1 ω M1 σ h1 σ' H1 → Q (.bl b) H1) : WE X e σ' H Q := by
  obtain ⟨x, h0, e1, e2⟩ := bind_ok he
  obtain ⟨rfl, rfl⟩ := xB_ok e2
  exact ke.v e1 sr fun ρ1 M1 H1 v e1 f1 sr1 rv => by
    rw [rv.d_inv.bl_inv]
    exact q ρ1 M1 H1 e1 f1 sr1
theorem ok_nt {a : Expr} {ra : Rx} {pos : Pos} (ka : EvOk z X a ra) : EvOk z X (.UnaryOp .Not a pos) (fun σ h => (ra σ h).bind fun x h1 => (PF.xB x h1).bind fun b h1 => .ok (PF.dat (.bl (!b))) h1) := by
  intro σ h y h1 e ρ ω M σ' H sr Q c
  obtain ⟨xa, ha, ea, e2⟩ := bind_ok e
  obtain ⟨b, hb, eb, e3⟩ := bind_ok e2
  cases e3
  exact we_pe (L2.pe_not (pe_we X a)) (ka.b (b := b) (h1 := h1) (by rw [ea]; exact eb) sr fun ρ1 M1 H1 e1 f1 sr1 => ⟨b, rfl, Wnt.bl c e1 f1 sr1⟩)
theorem te_nt {a : Expr} {ra : Rx} {pos : Pos} (ka : TeOk z X a (fun σ h => (ra σ h).bind PF.xB)) : TeOk z X (.UnaryOp .Not a pos) (fun σ h => ((ra σ h).bind fun x h1 => (PF.xB x h1).bind fun b h1 => .ok (PF.dat (.bl (!b))) h1).bind PF.xB) := by
  intro σ h y h1 e ρ ω M σ' H sr Q c
  obtain ⟨xr, hr, e1, exr⟩ := bind_ok e
  obtain ⟨xa, ha, ea, e2⟩ := bind_ok e1
  obtain ⟨b, hb, eb, e3⟩ := bind_ok e2
  cases e3
  cases exr
  exact wt_pt (L2.pt_not (pt_wt X a)) (ka σ h b h1 (by show (ra σ h).bind PF.xB = _; rw [ea]; exact eb) ρ ω M σ' H sr _ fun ρ1 M1 H1 e1 f1 sr1 => c ρ1 M1 H1 e1 f1 sr1)
theorem te_plain {e : Expr} {r : Rx} (ke : EvOk z X e r) (he : ∀ whole, isTrue e X.env whole = (do let v ← whole; standAt e.pos; holding [v] (truthy v))) : TeOk z X e (fun σ h => (r σ h).bind PF.xB) := by
  intro σ h y h1 e ρ ω M σ' H sr Q c
  exact wt_pt (L2.pt_val (pe_we X _) he) (ke.b e sr fun ρ1 M1 H1 e1 f1 sr1 => ⟨_, rfl, c ρ1 M1 H1 e1 f1 sr1⟩)
theorem ok_ife {t a b : Expr} {rt ra rb : Rx} {pos : Pos} (kt : TeOk z X t (fun σ h => (rt σ h).bind PF.xB)) (ka : EvOk z X a ra) (kb : EvOk z X b rb) :
    EvOk z X (.IfExp t a b pos) (fun σ h => (rt σ h).bind fun x h1 => (PF.xB x h1).bind fun r h1 => if r then ra σ h1 else rb σ h1) := by
  intro σ h y h1 e ρ ω M σ' H sr Q c
  obtain ⟨xa, ha, ea, e2⟩ := bind_ok e
  obtain ⟨b, hb, eb, e3⟩ := bind_ok e2
  refine we_pe (L2.pe_ifExp (pt_wt X t) (pe_we X a) (pe_we X _)) (kt σ h b hb (by show (rt σ h).bind PF.xB = _; rw [ea]; exact eb) ρ ω M σ' H sr _ fun ρ1 M1 H1 e1 f1 sr1 => ?_)
  cases b with
  | true => exact ite_tt (ka σ hb y h1 e3 ρ1 ω M1 σ' H1 sr1 Q fun ρ2 M2 H2 v e2 f2 sr2 rx nw => c ρ2 M2 H2 v (e1.trans e2) (f1.trans f2) sr2 rx (nw.back e1 f1 sr1.hr))
  | false => exact ite_ff (kb σ hb y h1 e3 ρ1 ω M1 σ' H1 sr1 Q fun ρ2 M2 H2 v e2 f2 sr2 rx nw => c ρ2 M2 H2 v (e1.trans e2) (f1.trans f2) sr2 rx (nw.back e1 f1 sr1.hr))
end Br
set_option Elab.async false
set_option linter.all false
set_option maxRecDepth 100000
set_option maxHeartbeats 4000000
namespace Br
open PySem PySem.Spec PyProof.Rows PySem.SeqAt
variable {z : Z} {M M' : Addr → Prop} {H H' : Hp} {X : L2.Cx} {k : Nat}
abbrev Rb := PF.St → PF.Hp → PF.R Bool
def toX (r : Rb) : Rx := fun σ h => (r σ h).bind fun b h1 => .ok (PF.dat (.bl b)) h1
def anStep (ra : Rx) (r : Rb) : Rb := fun σ h => (ra σ h).bind fun x h1 => (PF.xB x h1).bind fun b h1 => if b then r σ h1 else .ok false h1
def orStep (ra : Rx) (r : Rb) : Rb := fun σ h => (ra σ h).bind fun x h1 => (PF.xB x h1).bind fun b h1 => if b then .ok true h1 else r σ h1
theorem step_ok {ra : Rx} {f : Bool → PF.Hp → PF.R Bool} {σ : PF.St} {h h1 : PF.Hp} {b : Bool} (e : ((ra σ h).bind fun x h1 => (PF.xB x h1).bind f) = .ok b h1) : ∃ c hc, (ra σ h).bind PF.xB = .ok c hc ∧ f c hc = .ok b h1 := by
  obtain ⟨x, hx, e1, e2⟩ := bind_ok e
  obtain ⟨c, hc, e3, e4⟩ := bind_ok e2
  exact ⟨c, hc, by rw [e1]; exact e3, e4⟩
theorem toX_ok {r : Rb} {σ : PF.St} {h h1 : PF.Hp} {x : PF.X} (e : toX r σ h = .ok x h1) : ∃ b, r σ h = .ok b h1 ∧ x = PF.dat (.bl b) := by
  obtain ⟨b, h0, e1, e2⟩ := bind_ok e
  cases e2
  exact ⟨b, e1, rfl⟩
theorem an_one {a : Expr} {ra : Rx} {pos : Pos} (ka : EvOk z X a ra) : EvOk z X (.BoolOp .And [a] pos) (toX (anStep ra fun _ h => .ok true h)) := by
  intro σ h y h1 e ρ ω M σ' H sr Q c
  obtain ⟨b, e1, rfl⟩ := toX_ok e
  obtain ⟨d, hd, e2, e3⟩ := step_ok e1
  have : b = d ∧ h1 = hd := by cases d <;> (cases e3; exact ⟨rfl, rfl⟩)
  obtain ⟨rfl, rfl⟩ := this
  exact we_pe (L2.pe_one (pe_we X a)) (ka.b e2 sr fun ρ1 M1 H1 e1 f1 sr1 => Wnt.bl c e1 f1 sr1)
theorem or_one {a : Expr} {ra : Rx} {pos : Pos} (ka : EvOk z X a ra) : EvOk z X (.BoolOp .Or [a] pos) (toX (orStep ra fun _ h => .ok false h)) := by
  intro σ h y h1 e ρ ω M σ' H sr Q c
  obtain ⟨b, e1, rfl⟩ := toX_ok e
  obtain ⟨d, hd, e2, e3⟩ := step_ok e1
  have : b = d ∧ h1 = hd := by cases d <;> (cases e3; exact ⟨rfl, rfl⟩)
  obtain ⟨rfl, rfl⟩ := this
  exact we_pe (L2.pe_one (pe_we X a)) (ka.b e2 sr fun ρ1 M1 H1 e1 f1 sr1 => Wnt.bl c e1 f1 sr1)
theorem an_cons {a b : Expr} {rest : List Expr} {ra : Rx} {r : Rb} {pos : Pos} (ka : EvOk z X a ra) (kb : EvOk z X (.BoolOp .And (b :: rest) pos) (toX r)) : EvOk z X (.BoolOp .And (a :: b :: rest) pos) (toX (anStep ra r)) := by
  intro σ h y h1 e ρ ω M σ' H sr Q c
  obtain ⟨b', e1, rfl⟩ := toX_ok e
  obtain ⟨d, hd, e2, e3⟩ := step_ok e1
  refine we_pe (L2.pe_and (pe_we X a) (pe_we X _)) (ka.b e2 sr fun ρ1 M1 H1 x1 f1 sr1 => ⟨d, rfl, ?_⟩)
  cases d with
  | false => cases e3; exact ite_ff (Wnt.bl c x1 f1 sr1)
  | true => exact ite_tt (kb σ hd (PF.dat (.bl b')) h1 (by unfold toX; rw [show r σ hd = .ok b' h1 from e3]; rfl) ρ1 ω M1 σ' H1 sr1 Q fun ρ2 M2 H2 v e2 f2 sr2 rx nw => c ρ2 M2 H2 v (x1.trans e2) (f1.trans f2) sr2 rx True.intro)
theorem or_cons {a b : Expr} {rest : List Expr} {ra : Rx} {r : Rb} {pos : Pos} (ka : EvOk z X a ra) (kb : EvOk z X (.BoolOp .Or (b :: rest) pos) (toX r)) : EvOk z X (.BoolOp .Or (a :: b :: rest) pos) (toX (orStep ra r)) := by
  intro σ h y h1 e ρ ω M σ' H sr Q c
  obtain ⟨b', e1, rfl⟩ := toX_ok e
  obtain ⟨d, hd, e2, e3⟩ := step_ok e1
  refine we_pe (L2.pe_or (pe_we X a) (pe_we X _)) (ka.b e2 sr fun ρ1 M1 H1 x1 f1 sr1 => ⟨d, rfl, ?_⟩)
  cases d with
  | true => cases e3; exact ite_tt (Wnt.bl c x1 f1 sr1)
  | false => exact ite_ff (kb σ hd (PF.dat (.bl b')) h1 (by unfold toX; rw [show r σ hd = .ok b' h1 from e3]; rfl) ρ1 ω M1 σ' H1 sr1 Q fun ρ2 M2 H2 v e2 f2 sr2 rx nw => c ρ2 M2 H2 v (x1.trans e2) (f1.trans f2) sr2 rx True.intro)
/-! tests: whatever the whole -/
section
variable (X)
def WW (e : Expr) (σ' : L2.St) (H : Hp) (Q : Bool → Hp → Prop) : Prop := ∀ (whole : Sem Value) (pins : List (Addr × Obj)) (s : Shared), L2.Inv X pins σ' H s → wpAny (model X.prog X.w) X.A (isTrue e X.env whole) (L2.TP X pins σ' Q) X.xe s
theorem pw_ww (e : Expr) : L2.PW X e (WW X e) := ⟨fun wh pins s σ H Q I h => h wh pins s I⟩
variable {X}
theorem ww_pw {e : Expr} {t : L2.TT} (h : L2.PW X e t) {σ' : L2.St} {H : Hp} {Q : Bool → Hp → Prop} (q : t σ' H Q) : WW X e σ' H Q := fun wh pins s I => h.run wh pins s σ' H Q I q
end
def TwOk (z : Z) (X : L2.Cx) (e : Expr) (r : Rb) : Prop := ∀ σ h x h1, r σ h = .ok x h1 → ∀ ρ ω M σ' H, SR z ρ ω M σ h σ' H → ∀ Q : Bool → Hp → Prop,
  (∀ ρ1 M1 H1, Ext ρ ρ1 → Fm ρ M H ρ1 M1 H1 → SR z ρ1 ω M1 σ h1 σ' H1 → Q x H1) → WW X e σ' H Q
theorem TwOk.te {e : Expr} {r : Rb} (h : TwOk z X e r) : TeOk z X e (fun σ h => (toX r σ h).bind PF.xB) := by
  intro σ h' x h1 e ρ ω M σ' H sr Q c
  obtain ⟨y, h0, e1, e2⟩ := bind_ok e
  obtain ⟨b, e3, rfl⟩ := toX_ok e1
  cases e2
  exact fun pins s I => h σ h' x h1 e3 ρ ω M σ' H sr Q c _ pins s I
abbrev xb (r : Rx) : Rb := fun σ h => (r σ h).bind PF.xB
theorem tw_an_one {a : Expr} {ra : Rx} {pos : Pos} (ka : TeOk z X a (xb ra)) : TwOk z X (.BoolOp .And [a] pos) (anStep ra fun _ h => .ok true h) := by
  intro σ h y h1 e ρ ω M σ' H sr Q c
  obtain ⟨d, hd, e2, e3⟩ := step_ok e
  have : y = d ∧ h1 = hd := by cases d <;> (cases e3; exact ⟨rfl, rfl⟩)
  obtain ⟨rfl, rfl⟩ := this
  exact ww_pw (L2.pw_and1 (pt_wt X a)) (ka σ h _ _ e2 ρ ω M σ' H sr _ c)
theorem tw_or_one {a : Expr} {ra : Rx} {pos : Pos} (ka : TeOk z X a (xb ra)) : TwOk z X (.BoolOp .Or [a] pos) (orStep ra fun _ h => .ok false h) := by
  intro σ h y h1 e ρ ω M σ' H sr Q c
  obtain ⟨d, hd, e2, e3⟩ := step_ok e
  have : y = d ∧ h1 = hd := by cases d <;> (cases e3; exact ⟨rfl, rfl⟩)
  obtain ⟨rfl, rfl⟩ := this
  exact ww_pw (L2.pw_or1 (pt_wt X a)) (ka σ h _ _ e2 ρ ω M σ' H sr _ c)
theorem tw_an_cons {a b : Expr} {rest : List Expr} {ra : Rx} {r : Rb} {pos : Pos} (ka : TeOk z X a (xb ra)) (kb : TwOk z X (.BoolOp .And (b :: rest) pos) r) : TwOk z X (.BoolOp .And (a :: b :: rest) pos) (anStep ra r) := by
  intro σ h y h1 e ρ ω M σ' H sr Q c
  obtain ⟨d, hd, e2, e3⟩ := step_ok e
  refine ww_pw (L2.pw_and (pt_wt X a) (pw_ww X _)) (ka σ h _ _ e2 ρ ω M σ' H sr _ fun ρ1 M1 H1 e1 f1 sr1 => ?_)
  cases d with
  | false => cases e3; exact ite_ff (c ρ1 M1 H1 e1 f1 sr1)
  | true => exact ite_tt (kb σ hd y h1 e3 ρ1 ω M1 σ' H1 sr1 Q fun ρ2 M2 H2 e2 f2 sr2 => c ρ2 M2 H2 (e1.trans e2) (f1.trans f2) sr2)
theorem tw_or_cons {a b : Expr} {rest : List Expr} {ra : Rx} {r : Rb} {pos : Pos} (ka : TeOk z X a (xb ra)) (kb : TwOk z X (.BoolOp .Or (b :: rest) pos) r) : TwOk z X (.BoolOp .Or (a :: b :: rest) pos) (orStep ra r) := by
  intro σ h y h1 e ρ ω M σ' H sr Q c
  obtain ⟨d, hd, e2, e3⟩ := step_ok e
  refine ww_pw (L2.pw_or (pt_wt X a) (pw_ww X _)) (ka σ h _ _ e2 ρ ω M σ' H sr _ fun ρ1 M1 H1 e1 f1 sr1 => ?_)
  cases d with
  | true => cases e3; exact ite_tt (c ρ1 M1 H1 e1 f1 sr1)
  | false => exact ite_ff (kb σ hd y h1 e3 ρ1 ω M1 σ' H1 sr1 Q fun ρ2 M2 H2 e2 f2 sr2 => c ρ2 M2 H2 (e1.trans e2) (f1.trans f2) sr2)
/-! ### argument lists -/
abbrev Rl := PF.St → PF.Hp → PF.R (List PF.V)
section
variable (X)
def WA (es : List Expr) (σ' : L2.St) (H : Hp) (Q : List L2.V → Hp → Prop) : Prop := ∀ (pos : Pos) (pins : List (Addr × Obj)) (s : Shared), L2.Inv X pins σ' H s → wpAny (model X.prog X.w) X.A (spliced (backTo pos (starEach es X.env))) (L2.AP X pins σ' Q) X.xe s
theorem pa_wa (es : List Expr) : L2.PA X es (WA X es) := ⟨fun pos pins s σ H Q I h => h pos pins s I⟩
variable {X}
theorem wa_pa {es : List Expr} {t : L2.TA} (h : L2.PA X es t) {σ' : L2.St} {H : Hp} {Q : List L2.V → Hp → Prop} (q : t σ' H Q) : WA X es σ' H Q := fun pos pins s I => h.run pos pins s σ' H Q I q
end
def ArOk (z : Z) (X : L2.Cx) (es : List Expr) (r : Rl) : Prop := ∀ σ h xs h1, r σ h = .ok xs h1 → ∀ ρ ω M σ' H, SR z ρ ω M σ h σ' H → ∀ Q : List L2.V → Hp → Prop,
  (∀ ρ1 M1 H1 vs, Ext ρ ρ1 → Fm ρ M H ρ1 M1 H1 → SR z ρ1 ω M1 σ h1 σ' H1 → RVs z ρ1 M1 H1 xs vs → Q vs H1) → WA X es σ' H Q
theorem ar_nil : ArOk z X [] (fun _ h => .ok [] h) := by
  intro σ h y h1 e ρ ω M σ' H sr Q c
  cases e
  exact wa_pa L2.pa_nil (c ρ M H [] Ext.refl Fm.refl sr .nil)
theorem ar_cons {e : Expr} {es : List Expr} {ra : Rx} {r : Rl} (ka : EvOk z X e ra) (kr : ArOk z X es r) (ho : ord e = true) : ArOk z X (e :: es) (fun σ h => (ra σ h).bind fun x h1 => (r σ h1).bind fun xs h2 => .ok (x.toV :: xs) h2) := by
  intro σ h y h1 e ρ ω M σ' H sr Q c
  obtain ⟨x, h2, e1, e2⟩ := bind_ok e
  obtain ⟨xs, h3, e3, e4⟩ := bind_ok e2
  cases e4
  refine wa_pa (L2.pa_cons (pe_we X _) (pa_wa X es) (ord_star ho _ _)) (ka.v e1 sr fun ρ1 M1 H1 v e1 f1 sr1 rv => ?_)
  exact kr σ h2 xs _ e3 ρ1 ω M1 σ' H1 sr1 _ fun ρ2 M2 H2 vs e2 f2 sr2 rvs => c ρ2 M2 H2 (v :: vs) (e1.trans e2) (f1.trans f2) sr2 (.cons (rv.kp e2 (f2.kp sr1.hr.mu)) rvs)
/-! displays -/
theorem ok_lst {es : List Expr} {r : Rl} {pos : Pos} (kr : ArOk z X es r) : EvOk z X (.List es pos) (fun σ h => (r σ h).bind fun xs h1 => match PF.allD xs with
    | some ds => if decide (ds.length ≤ PF.LIM) then .ok (.fl ds) h1 else .err
    | none => .err) := by
  intro σ h y h1 e ρ ω M σ' H sr Q c
  obtain ⟨xs, h2, e1, e2⟩ := bind_ok e
  split at e2
  · rename_i ds hd
    split at e2
    · rename_i hl
      cases e2
      refine we_pe (L2.pe_lst (pa_wa X es)) (kr σ h xs _ e1 ρ ω M σ' H sr _ fun ρ1 M1 H1 vs e1 f1 sr1 rvs => ?_)
      have rd := rvs.allD hd
      exact ⟨by rw [← rd.length, ← LIM_eq]; exact of_decide_eq_true hl, (cont_of c e1 f1 sr1).fresh sr1 rd⟩
    · cases e2
  · cases e2
theorem ok_tup {es : List Expr} {r : Rl} {pos : Pos} {j : Nat} (kr : ArOk z X es r) : EvOk z X (.Tuple es j pos) (fun σ h => (r σ h).bind fun xs h1 => match PF.allD xs with
    | some ds => if decide (ds.length ≤ PF.LIM) then .ok (PF.dat (.tup ds)) h1 else .err
    | none => .err) := by
  intro σ h y h1 e ρ ω M σ' H sr Q c
  obtain ⟨xs, h2, e1, e2⟩ := bind_ok e
  split at e2
  · rename_i ds hd
    split at e2
    · rename_i hl
      cases e2
      refine we_pe (L2.pe_tup (pa_wa X es)) (kr σ h xs _ e1 ρ ω M σ' H sr _ fun ρ1 M1 H1 vs e1 f1 sr1 rvs => ?_)
      have rd := rvs.allD hd
      exact ⟨by rw [← rd.length, ← LIM_eq]; exact of_decide_eq_true hl, (cont_of c e1 f1 sr1).tuple sr1 rd⟩
    · cases e2
  · cases e2
theorem ok_dct {pos : Pos} : EvOk z X (.Dict [] [] pos) (fun _ h => .ok (.fd [] []) h) := by
  intro σ h y h1 e ρ ω M σ' H sr Q c
  cases e
  exact we_pe L2.pe_dnewK ((cont_of c Ext.refl Fm.refl sr).freshD sr .nil .nil)
/-! subscripts, slices -/
theorem ok_ix {a b : Expr} {ra rb : Rx} {pos : Pos} (gx : GX z k X) (ka : EvOk z X a ra) (kb : EvOk z X b rb) (hb : ord b = true) :
    EvOk z X (.Subscript a b pos) (fun σ h => (ra σ h).bind fun x h1 => (rb σ h1).bind fun y h2 => (PF.lift (PF.ixV x.toV y.toV h2) h2).bind fun r h2 => .ok (.v r) h2) := by
  intro σ h y h1 e ρ ω M σ' H sr Q c
  obtain ⟨xa, h2, ea, e2⟩ := bind_ok e
  obtain ⟨xb, h3, eb, e3⟩ := bind_ok e2
  obtain ⟨r, h4, er, e4⟩ := bind_ok e3
  obtain ⟨er', rfl⟩ := lift_ok er
  cases e4
  obtain ⟨t, ht, ho⟩ := ix_ok gx.K gx.room.units er'
  exact we_pe (L2.pe_ix ht (pe_we X a) (pe_we X b) (ord_ix hb)) (two ka kb ea eb sr fun ρ1 M1 H1 v u e1 f1 sr1 rv ru => ho sr1 rv ru fun w rw' => c ρ1 M1 H1 w e1 f1 sr1 (.v rw') True.intro)
/-- an optional part of a slice -/
inductive PtOk (z : Z) (X : L2.Cx) : Option Expr → PF.E → Rx → Prop
  | none : PtOk z X none .no (fun _ h => .ok (PF.dat .non) h)
  | some {e : Expr} {ie : PF.E} {r : Rx} : EvOk z X e r → ie ≠ .no → PtOk z X (some e) ie r
theorem part_run {o : Option Expr} {ie : PF.E} {r : Rx} (p : PtOk z X o ie r) : ∃ t : L2.TO, L2.PO X o t ∧ ∀ {σ : PF.St} {h h1 : PF.Hp} {x : PF.X} {d : PF.D} {i : Option Int} {ρ : List Addr} {ω : Om} {M : Addr → Prop} {σ' : L2.St} {H : Hp} {Q : Option Int → Hp → Prop},
    r σ h = .ok x h1 → x.toV = .d d → PF.optI d = some i → PF.partOk ie d = true → SR z ρ ω M σ h σ' H → (∀ ρ1 M1 H1, Ext ρ ρ1 → Fm ρ M H ρ1 M1 H1 → SR z ρ1 ω M1 σ h1 σ' H1 → Q i H1) → t σ' H Q := by
  cases p with
  | none =>
    refine ⟨_, L2.po_none, fun {σ h h1 x d i ρ ω M σ' H Q} e ed ei _ sr c => ?_⟩
    cases e
    cases ed
    cases ei
    exact c ρ M H Ext.refl Fm.refl sr
  | some ke hne =>
    refine ⟨_, L2.po_some (pe_we X _), fun {σ h h1 x d i ρ ω M σ' H Q} e ed ei hp sr c => ?_⟩
    refine ke.v e sr fun ρ1 M1 H1 v e1 f1 sr1 rv => ?_
    rw [ed] at rv
    cases d with
    | int n => cases ei; exact ⟨n, rv.d_inv.int_inv, c ρ1 M1 H1 e1 f1 sr1⟩
    | non => cases ie <;> first | (exact absurd rfl hne) | cases hp
    | _ => cases ei
theorem ok_sl {a : Expr} {lo hi : Option Expr} {il ih : PF.E} {ra rl rh : Rx} {p2 pos : Pos} (gx : GX z k X) (ka : EvOk z X a ra) (kl : PtOk z X lo il rl) (kh : PtOk z X hi ih rh) :
    EvOk z X (.Subscript a (.Slice lo hi none p2) pos) (fun σ h => (ra σ h).bind fun x h1 => (rl σ h1).bind fun y h2 => (rh σ h2).bind fun z h3 => (PF.xD y h3).bind fun y _ => (PF.xD z h3).bind fun z _ =>
      if PF.partOk il y && PF.partOk ih z then PF.lift (PF.slV x.toV y z h3) h3 else .err) := by
  intro σ h y h1 e ρ ω M σ' H sr Q c
  obtain ⟨xa, h2, ea, e2⟩ := bind_ok e
  obtain ⟨xl, h3, el, e3⟩ := bind_ok e2
  obtain ⟨xh, h4, eh, e4⟩ := bind_ok e3
  obtain ⟨dl, h5, edl, e5⟩ := bind_ok e4
  obtain ⟨dh, h6, edh, e6⟩ := bind_ok e5
  obtain ⟨ql, rfl⟩ := xD_ok edl
  obtain ⟨qh, rfl⟩ := xD_ok edh
  split at e6
  · rename_i hp
    simp only [Bool.and_eq_true] at hp
    obtain ⟨e7, rfl⟩ := lift_ok e6
    unfold PF.slV at e7
    simp only [Option.bind_eq_some_iff] at e7
    obtain ⟨il', ei1, iu', ei2, e8⟩ := e7
    cases q : xa.toV with
    | d da =>
      rw [q] at e8
      obtain ⟨t, ht, ho⟩ := sl_ok gx.K e8
      obtain ⟨tl, htl, hol⟩ := part_run kl
      obtain ⟨th, hth, hoh⟩ := part_run kh
      refine we_pe (L2.pe_slice ht (pe_we X a) htl hth) (ka.v ea sr fun ρ1 M1 H1 v x1 f1 sr1 rv => ?_)
      refine hol el ql ei1 hp.1 sr1 fun ρ2 M2 H2 x2 f2 sr2 => ?_
      refine hoh eh qh ei2 hp.2 sr2 fun ρ3 M3 H3 x3 f3 sr3 => ?_
      rw [q] at rv
      exact ho sr3 ((rv.kp x2 (f2.kp sr1.hr.mu)).kp x3 (f3.kp sr2.hr.mu)).d_inv (cont_of c ((x1.trans x2).trans x3) ((f1.trans f2).trans f3) sr3)
    | ref a => rw [q] at e8; cases e8
    | scr a => rw [q] at e8; cases e8
  · cases e6
end Br
set_option Elab.async false
set_option linter.all false
set_option maxRecDepth 100000
set_option maxHeartbeats 4000000
namespace Br
open PySem PySem.Spec PyProof.Rows PySem.SeqAt
variable {z : Z} {M M' : Addr → Prop} {H H' : Hp} {X : L2.Cx} {k : Nat}
/-! ### built-ins -/
theorem ok_biB {b : PF.Bi} {id : String} {x : Str} {e : Expr} {es : List Expr} {r : Rl} {p pos : Pos} (gx : GX z k X) (hf : biF b = .builtin id) (hg : L2.Gl X x) (hm : z.mg x = none) (hv : bootBuiltins x = some (.builtin id)) (hn : x ≠ "__name__") (hd : (x == ("__debug__" : Str)) = false)
    (kr : ArOk z X (e :: es) r) (ho : (e :: es).all ord = true) : EvOk z X (.Call (.Name x p) (e :: es) [] pos) (fun σ h => (r σ h).bind fun xs h1 => PF.lift (PF.biV b xs h1) h1) := by
  intro σ h y h1 e ρ ω M σ' H sr Q c
  obtain ⟨xs, h2, e1, e2⟩ := bind_ok e
  obtain ⟨e3, rfl⟩ := lift_ok e2
  obtain ⟨t, ht, hc⟩ := bi_ok gx.K gx.calm e3
  rw [hf] at ht
  simp only [List.all_cons, Bool.and_eq_true] at ho
  exact we_pe (L2.pe_callB ht hg (by rw [gx.mg]; exact hm) hv (pa_wa X _) hn hd (ord_star ho.1 _ _) (stars_any ho.2 _ _)) (kr σ h xs _ e1 ρ ω M σ' H sr _ fun ρ1 M1 H1 vs x1 f1 sr1 rvs => hc sr1 rvs (cont_of c x1 f1 sr1))
theorem ok_biT {b : PF.Bi} {id : String} {x : Str} {e : Expr} {es : List Expr} {r : Rl} {p pos : Pos} (gx : GX z k X) (hf : biF b = .type id) (hg : L2.Gl X x) (hm : z.mg x = none) (hv : bootBuiltins x = some (.type id)) (hn : x ≠ "__name__") (hd : (x == ("__debug__" : Str)) = false)
    (kr : ArOk z X (e :: es) r) (ho : (e :: es).all ord = true) : EvOk z X (.Call (.Name x p) (e :: es) [] pos) (fun σ h => (r σ h).bind fun xs h1 => PF.lift (PF.biV b xs h1) h1) := by
  intro σ h y h1 e ρ ω M σ' H sr Q c
  obtain ⟨xs, h2, e1, e2⟩ := bind_ok e
  obtain ⟨e3, rfl⟩ := lift_ok e2
  obtain ⟨t, ht, hc⟩ := bi_ok gx.K gx.calm e3
  rw [hf] at ht
  simp only [List.all_cons, Bool.and_eq_true] at ho
  exact we_pe (L2.pe_callTy ht hg (by rw [gx.mg]; exact hm) hv (pa_wa X _) hn hd (ord_star ho.1 _ _) (stars_any ho.2 _ _)) (kr σ h xs _ e1 ρ ω M σ' H sr _ fun ρ1 M1 H1 vs x1 f1 sr1 rvs => hc sr1 rvs (cont_of c x1 f1 sr1))
/-! join, split -/
theorem ok_join {a b : Expr} {ra rb : Rx} {apos pos : Pos} (gx : GX z k X) (ka : EvOk z X a ra) (kb : EvOk z X b rb) (oa : ord a = true) (ob : ord b = true) (hl : (apos.endLine == pos.line) = true) :
    EvOk z X (.Call (.Attribute a "join" apos) [b] [] pos) (fun σ h => (ra σ h).bind fun x h1 => (rb σ h1).bind fun y h2 => (PF.xD x h2).bind fun x _ => (PF.xD y h2).bind fun y _ => PF.lift (PF.bmD .join x y) h2) := by
  intro σ h y h1 e ρ ω M σ' H sr Q c
  obtain ⟨xa, h2, ea, e2⟩ := bind_ok e
  obtain ⟨xb, h3, eb, e3⟩ := bind_ok e2
  obtain ⟨da, h4, ed, e4⟩ := bind_ok e3
  obtain ⟨db, h5, ed2, e5⟩ := bind_ok e4
  obtain ⟨qa, rfl⟩ := xD_ok ed
  obtain ⟨qb, rfl⟩ := xD_ok ed2
  obtain ⟨e6, rfl⟩ := lift_ok e5
  cases da with
  | str sep =>
    cases db with
    | lst xs =>
      simp only [PF.bmD, Option.bind_eq_some_iff] at e6
      obtain ⟨ss, es, e7⟩ := e6
      split at e7
      · rename_i hsz
        cases e7
        simp only [decide_eq_true_eq] at hsz
        refine we_pe (L2.pe_join (pe_we X a) (pe_we X b) (ord_star ob _ _) (ord_base oa _ _ _) hl) (ka.v ea sr fun ρ1 M1 H1 v x1 f1 sr1 rv => ?_)
        rw [qa] at rv
        refine ⟨⟨_, rv.d_inv.str_inv⟩, kb.v eb sr1 fun ρ2 M2 H2 u x2 f2 sr2 ru => ?_⟩
        rw [qb] at ru
        obtain ⟨p, ys, rfl, g1, _, g2⟩ := ru.d_inv.lst_inv
        refine ⟨sOf sep, p, ss.map sOf, rv.d_inv.str_inv, rfl, .inl (L2.SqL.of (by rw [← strs_of es g2]; exact g1)), ?_, ?_⟩
        · have : (ss.map sOf).map (·.length) = ss.map List.length := by
            rw [List.map_map]
            exact List.map_congr_left fun s _ => sOf_len s
          rw [this, List.length_map, sOf_len]
          exact hsz
        · rw [join_eq]
          exact c ρ2 M2 H2 _ (x1.trans x2) (f1.trans f2) sr2 (.v (.d (.str _))) True.intro
      · cases e7
    | _ => simp [PF.bmD] at e6
  | _ => simp [PF.bmD] at e6
theorem str_map : ∀ (ss : List (List Nat)), RDs z M H (ss.map PF.D.str) ((ss.map sOf).map L2.V.str)
  | [] => .nil
  | s :: r => .cons (.str s) (str_map r)
theorem split_inv {x y : PF.D} {r : PF.X} (e : PF.bmD .split x y = some r) : ∃ s c, x = .str s ∧ y = .str [c] ∧ (s.length + 2 ≤ PF.LIM ∧ c < 256) ∧ r = .fl ((PF.splitC c s).map .str) := by
  cases x with
  | str s =>
    cases y with
    | str t =>
      cases t with
      | nil => simp [PF.bmD] at e
      | cons c t =>
        cases t with
        | nil =>
          simp only [PF.bmD] at e
          split at e
          · rename_i h
            cases e
            simp only [Bool.and_eq_true, decide_eq_true_eq] at h
            exact ⟨s, c, rfl, rfl, h, rfl⟩
          · cases e
        | cons d t => simp [PF.bmD] at e
    | _ => simp [PF.bmD] at e
  | _ => cases y <;> simp [PF.bmD] at e
theorem ok_split {a b : Expr} {ra rb : Rx} {apos pos : Pos} (gx : GX z k X) (ka : EvOk z X a ra) (kb : EvOk z X b rb) (oa : ord a = true) (ob : ord b = true) (hl : (apos.endLine == pos.line) = true) :
    EvOk z X (.Call (.Attribute a "split" apos) [b] [] pos) (fun σ h => (ra σ h).bind fun x h1 => (rb σ h1).bind fun y h2 => (PF.xD x h2).bind fun x _ => (PF.xD y h2).bind fun y _ => PF.lift (PF.bmD .split x y) h2) := by
  intro σ h y h1 e ρ ω M σ' H sr Q c
  obtain ⟨xa, h2, ea, e2⟩ := bind_ok e
  obtain ⟨xb, h3, eb, e3⟩ := bind_ok e2
  obtain ⟨da, h4, ed, e4⟩ := bind_ok e3
  obtain ⟨db, h5, ed2, e5⟩ := bind_ok e4
  obtain ⟨qa, rfl⟩ := xD_ok ed
  obtain ⟨qb, rfl⟩ := xD_ok ed2
  obtain ⟨e6, rfl⟩ := lift_ok e5
  obtain ⟨s, ch, rfl, rfl, hsz, rfl⟩ := split_inv e6
  refine we_pe (L2.pe_split (pe_we X a) (pe_we X b) (ord_star ob _ _) (ord_base oa _ _ _) hl) (ka.v ea sr fun ρ1 M1 H1 v x1 f1 sr1 rv => ?_)
  rw [qa] at rv
  refine ⟨⟨_, rv.d_inv.str_inv⟩, kb.v eb sr1 fun ρ2 M2 H2 u x2 f2 sr2 ru => ?_⟩
  rw [qb] at ru
  refine ⟨sOf s, sOf [ch], rv.d_inv.str_inv, by rw [ru.d_inv.str_inv], rfl, by rw [sOf_len, ← LIM_eq]; exact hsz.1, ?_⟩
  rw [split_eq ch hsz.2]
  exact (cont_of c (x1.trans x2) (f1.trans f2) sr2).fresh sr2 (str_map _)
/-! isinstance -/
def tyN : PF.Ty → String
  | .int => "int" | .bool => "bool" | .str => "str" | .tup => "tuple" | .lst => "list"
theorem ok_isi {a : Expr} {ra : Rx} {t : PF.Ty} {p p2 pos : Pos} {xt : Str} (gx : GX z k X) (ka : EvOk z X a ra) (oa : ord a = true) (hg : L2.Gl X "isinstance") (hm : z.mg "isinstance" = none) (hgt : L2.Gl X xt) (hmt : z.mg xt = none) (hb : bootBuiltins xt = some (.type (tyN t))) (hn : xt ≠ "__name__") (hd : (xt == ("__debug__" : Str)) = false) :
    EvOk z X (.Call (.Name "isinstance" p) [a, .Name xt p2] [] pos) (fun σ h => (ra σ h).bind fun x h1 => (PF.xD x h1).bind fun x _ => (PF.lift (PF.isT x t) h1).bind fun b h1 => .ok (PF.dat (.bl b)) h1) := by
  intro σ h y h1 e ρ ω M σ' H sr Q c
  obtain ⟨xa, h2, ea, e2⟩ := bind_ok e
  obtain ⟨da, h3, ed, e3⟩ := bind_ok e2
  obtain ⟨qa, rfl⟩ := xD_ok ed
  obtain ⟨b, h4, eb, e4⟩ := bind_ok e3
  obtain ⟨eb', rfl⟩ := lift_ok eb
  cases e4
  have pt : L2.PE X (.Name xt p2) (L2.tC (.ty (tyN t))) := L2.pe_bltn hgt (by rw [gx.mg]; exact hmt) hb rfl hn hd
  refine we_pe (L2.pe_callB L2.call_isi hg (by rw [gx.mg]; exact hm) (by decide +kernel) (L2.pa_cons (pe_we X a) (L2.pa_cons pt L2.pa_nil) (ord_star oa _ _)) (by decide) (by decide) (ord_star oa _ _) rfl) ?_
  refine ka.v ea sr fun ρ1 M1 H1 v x1 f1 sr1 rv => ?_
  rw [qa] at rv
  have rd := rv.d_inv
  have fin : ∀ (t' : Value), L2.TyX X.K H1 v t' → PySem.W.kitOne X.K t' (.type (tyN t)) = some b → L2.tCons (L2.tC (.ty (tyN t))) L2.tNil σ' H1 (fun xs H2 => L2.rIsi X.K (v :: xs) H2 Q) := fun t' ty kt =>
    ⟨v, .ty (tyN t), t', .type (tyN t), b, rfl, .ty _, ty, kt, Wnt.bl c x1 f1 sr1⟩
  cases da with
  | non =>
    cases rd
    refine fin (.type "NoneType") (.base .non) ?_
    cases t <;> (cases eb'; exact L2.kit_ty (by decide +kernel))
  | bl q =>
    cases rd
    refine fin (.type "bool") (.base (.bl q)) ?_
    cases t <;> (cases eb'; exact L2.kit_ty (by decide +kernel))
  | int q =>
    cases rd
    refine fin (.type "int") (.base (.int q)) ?_
    cases t <;> (cases eb'; exact L2.kit_ty (by decide +kernel))
  | str q =>
    cases rd
    refine fin (.type "str") (.base (.str _)) ?_
    cases t <;> (cases eb'; exact L2.kit_ty (by decide +kernel))
  | tup q =>
    obtain ⟨b2, ys, rfl, _, g1, _⟩ := rd.tup_inv
    have ty : L2.TyX X.K H1 (.ref b2) (.type "tuple") := by
      rcases g1 with ⟨g1, _⟩ | ⟨o, its, n, g1, g2, _⟩
      · exact .base (.tup g1)
      · exact .kTuple (by rw [gx.K]; exact g1) g2
    refine fin (.type "tuple") ty ?_
    cases t <;> (cases eb'; exact L2.kit_ty (by decide +kernel))
  | lst q =>
    obtain ⟨b2, ys, rfl, g1, _, _⟩ := rd.lst_inv
    refine fin (.type "list") (.base (.lst g1)) ?_
    cases t <;> (cases eb'; exact L2.kit_ty (by decide +kernel))
  | dic a b => cases t <;> cases eb'
  | ins a b => cases t <;> cases eb'
end Br
set_option Elab.async false
set_option linter.all false
set_option maxRecDepth 100000
set_option maxHeartbeats 4000000
namespace Br
open PySem PySem.Spec PyProof.Rows PySem.SeqAt
variable {z : Z} {M M' : Addr → Prop} {H H' : Hp} {X : L2.Cx} {k : Nat}
/-- a class of the table -/
structure COk (z : Z) (c : Nat) (C : PF.Cl) : Prop where
  cls : L2.Cls z.K (z.κ c)
  noat : ∀ a ∈ C.flds, L2.NoAttr z.K (z.κ c) (z.G.aN a)
  nd : (C.flds.map z.G.aN).Nodup
  few : C.flds.length ≤ 100
  make : L2.Mk z.K (z.κ c) (z.φ C.init)
  meth : ∀ m f, C.meths.lookup m = some f → L2.Meth z.K (z.κ c) (z.G.mN m) (z.φ f) ∧ z.G.mN m ∉ C.flds.map z.G.aN
/-- a def of the table, for its callers -/
structure FOk (z : Z) (f : Nat) (fn : PF.Fn) : Prop where
  keep : PySem.W.keepIn z.K (.ref (z.φ f)) = true
  binds : L2.Binds z.K (z.fd f) (z.ps f) []
  len : (z.ps f).length = fn.np
structure ZOk (z : Z) : Prop where
  fn : ∀ f fn, z.T.fns f = some fn → FOk z f fn
  cl : ∀ c C, z.T.cls c = some C → COk z c C
/-- what a call promises -/
def spF (z : Z) (cf : Nat → List PF.V → PF.Hp → PF.R PF.X) (f : Nat) : L2.Sp := fun vs H Q _ => ∃ xs h x h1 ρ M, cf f xs h = .ok x h1 ∧ HR z ρ M h H ∧ RVs z ρ M H xs vs ∧
  (∀ ρ1 M1 H1 v, Ext ρ ρ1 → Fm ρ M H ρ1 M1 H1 → HR z ρ1 M1 h1 H1 → RX z ρ1 (fun _ => none) M1 H1 x v → Nw H x v → Q v H1)
def CfOk (z : Z) (k : Nat) (cf : Nat → List PF.V → PF.Hp → PF.R PF.X) : Prop := (∀ f xs h x h1, cf f xs h = .ok x h1 → ∃ fn, z.T.fns f = some fn) ∧
  ∀ base f fn, z.T.fns f = some fn → L2.FnOk z.P z.w z.K z.mg base L2.CX0 k (z.φ f) (z.fd f) (z.ps f) (spF z cf f)
theorem GX.fnok {cf : Nat → List PF.V → PF.Hp → PF.R PF.X} (gx : GX z k X) {j : Nat} (hc : CfOk z j cf) {f : Nat} {fn : PF.Fn} (e : z.T.fns f = some fn) : L2.FnOk X.prog X.w X.K X.mg X.base L2.CX0 j (z.φ f) (z.fd f) (z.ps f) (spF z cf f) := by
  rw [gx.P, gx.w, gx.K, gx.mg]
  exact hc.2 X.base f fn e
theorem RX.own {ρ : List Addr} {ω : Om} {σ : PF.St} {h : PF.Hp} {σ' : L2.St} {H0 : Hp} {M0 : Addr → Prop} {ρ0 : List Addr} (sr : SR z ρ0 ω M0 σ h σ' H0) {x : PF.X} {v : L2.V} (r : RX z ρ (fun _ => none) M H x v) (n : Nw H0 x v) : RX z ρ ω M H x v := by
  have main : ∀ b, H0 b = none → ∀ i, ω i ≠ some b := fun b hb i q => by
    obtain ⟨_, _, o, ho⟩ := sr.om i b q
    rw [hb] at ho; cases ho
  cases r with
  | v a => exact .v a
  | fl e m nb _ a => exact .fl e m nb (main _ (n _ rfl)) a
  | fd e m nb _ c a => exact .fd e m nb (main _ (n _ rfl)) c a
/-- the promise at a caller's state -/
theorem sp_of {cf : Nat → List PF.V → PF.Hp → PF.R PF.X} {f : Nat} {xs : List PF.V} {h h1 : PF.Hp} {x : PF.X} {ρ : List Addr} {ω : Om} {σ : PF.St} {σ' : L2.St} {vs : List L2.V} {Q : L2.VK} {E : L2.XK} (e : cf f xs h = .ok x h1) (sr : SR z ρ ω M σ h σ' H) (rv : RVs z ρ M H xs vs)
    (c : Wnt z ρ ω M σ σ' H x h1 Q) : spF z cf f vs H Q E :=
  ⟨xs, h, x, h1, ρ, M, e, sr.hr, rv, fun ρ1 M1 H1 v x1 f1 hr1 rx nw => c ρ1 M1 H1 v x1 f1 (sr.fm f1 x1 hr1) (rx.own sr nw) nw⟩
theorem wnt_of {ρ ρ1 : List Addr} {ω : Om} {M1 : Addr → Prop} {σ : PF.St} {h2 h1 : PF.Hp} {σ' : L2.St} {H1 : Hp} {x : PF.X} {Q : L2.VK} (c : Wnt z ρ ω M σ σ' H x h1 Q) (e1 : Ext ρ ρ1) (f1 : Fm ρ M H ρ1 M1 H1) (sr1 : SR z ρ1 ω M1 σ h2 σ' H1) : Wnt z ρ1 ω M1 σ σ' H1 x h1 Q :=
  fun ρ2 M2 H2 v e2 f2 sr2 rx nw => c ρ2 M2 H2 v (e1.trans e2) (f1.trans f2) sr2 rx (nw.back e1 f1 sr1.hr)
/-! ### own defs -/
theorem ok_cl {cf : Nat → List PF.V → PF.Hp → PF.R PF.X} {f : Nat} {x : Str} {a : Expr} {es : List Expr} {r : Rl} {p pos : Pos} (zk : ZOk z) (gx : GX z (k + 1) X) (hc : CfOk z k cf) (hg : L2.Gl X x) (hm : z.mg x = some (.ref (z.φ f))) (hd : (x == ("__debug__" : Str)) = false) (kr : ArOk z X (a :: es) r) (ho : (a :: es).all ord = true) :
    EvOk z X (.Call (.Name x p) (a :: es) [] pos) (fun σ h => (r σ h).bind fun xs h1 => cf f xs h1) := by
  intro σ h y h1 e ρ ω M σ' H sr Q c
  obtain ⟨xs, h2, e1, e2⟩ := bind_ok e
  obtain ⟨fn, hfn⟩ := hc.1 f xs h2 y h1 e2
  have F := gx.fnok hc hfn
  have fo := zk.fn f fn hfn
  have hb : L2.Binds X.K (z.fd f) (z.ps f) [] := by rw [gx.K]; exact fo.binds
  have hk : PySem.W.keepIn X.K (.ref (z.φ f)) = true := by rw [gx.K]; exact fo.keep
  have hm' : X.mg x = some (.ref (z.φ f)) := by rw [gx.mg]; exact hm
  have hr := gx.room.mono (Nat.le_succ k)
  simp only [List.all_cons, Bool.and_eq_true] at ho
  refine we_pe (L2.pe_call F hr hg hm' hk hb .nil L2.pass0 (pa_wa X _) hd (ord_star ho.1 _ _) (stars_any ho.2 _ _)) (kr σ h xs h2 e1 ρ ω M σ' H sr _ fun ρ1 M1 H1 vs x1 f1 sr1 rvs => ?_)
  rw [List.append_nil]
  exact sp_of e2 sr1 rvs (wnt_of c x1 f1 sr1)
theorem ok_cl0 {cf : Nat → List PF.V → PF.Hp → PF.R PF.X} {f : Nat} {x : Str} {p pos : Pos} (zk : ZOk z) (gx : GX z (k + 1) X) (hc : CfOk z k cf) (hg : L2.Gl X x) (hm : z.mg x = some (.ref (z.φ f))) (hd : (x == ("__debug__" : Str)) = false) :
    EvOk z X (.Call (.Name x p) [] [] pos) (fun σ h => cf f [] h) := by
  intro σ h y h1 e2 ρ ω M σ' H sr Q c
  obtain ⟨fn, hfn⟩ := hc.1 f [] h y h1 e2
  have F := gx.fnok hc hfn
  have fo := zk.fn f fn hfn
  have hb : L2.Binds X.K (z.fd f) (z.ps f) [] := by rw [gx.K]; exact fo.binds
  have hk : PySem.W.keepIn X.K (.ref (z.φ f)) = true := by rw [gx.K]; exact fo.keep
  have hm' : X.mg x = some (.ref (z.φ f)) := by rw [gx.mg]; exact hm
  exact we_pe (L2.pe_call0 F (gx.room.mono (Nat.le_succ k)) hg hm' hk hb .nil L2.pass0 hd) (sp_of (E := L2.E0) e2 sr .nil c)
/-- a call in a region of its own: the arguments are data, the callee's heap is its own -/
def pclX (h1 : PF.Hp) (q : PF.R PF.X) : PF.R PF.X := q.bind fun x _ => match x with
  | .v (.d y) => .ok (PF.dat y) h1
  | .fl ys => .ok (.fl ys) h1
  | .fd ks vs => .ok (.fd ks vs) h1
  | _ => .err
theorem RDs.toV {ρ : List Addr} : ∀ {xs : List PF.V} {ds : List PF.D} {vs : List L2.V}, PF.allD xs = some ds → RVs z ρ M H xs vs → ∀ ρ', RVs z ρ' M H xs vs
  | [], _, _, _, .nil, _ => .nil
  | .d x :: r, _, _, e, .cons (.d a) q, ρ' => by
    simp only [PF.allD, Option.map_eq_some_iff] at e
    obtain ⟨ds, e1, rfl⟩ := e
    exact .cons (.d a) (RDs.toV e1 q ρ')
  | .ref _ :: _, _, _, e, .cons _ _, _ => by simp [PF.allD] at e
  | .scr _ :: _, _, _, e, .cons _ _, _ => by simp [PF.allD] at e
theorem sp_pcl {cf : Nat → List PF.V → PF.Hp → PF.R PF.X} {f : Nat} {xs : List PF.V} {ds : List PF.D} {h h1 : PF.Hp} {y : PF.X} {ρ : List Addr} {ω : Om} {σ : PF.St} {σ' : L2.St} {vs : List L2.V} {Q : L2.VK} {E : L2.XK} (hd : PF.allD xs = some ds) (e : pclX h (cf f xs []) = .ok y h1) (sr : SR z ρ ω M σ h σ' H) (rv : RVs z ρ M H xs vs)
    (c : Wnt z ρ ω M σ σ' H y h1 Q) : spF z cf f vs H Q E := by
  obtain ⟨x, h0, e1, e2⟩ := bind_ok e
  refine ⟨xs, [], x, h0, [], M, e1, ⟨rfl, List.nodup_nil, fun b hb => (nomatch hb), fun a o b e => by simp at e⟩, RDs.toV hd rv [], fun ρ1 M1 H1 v x1 f1 hr1 rx nw => ?_⟩
  -- the callee's own mutable objects are no longer ours
  have al : ∀ b ∈ ρ1, H b = none := fun b hb => by
    cases q : H b with
    | none => rfl
    | some o => exact absurd hb (f1 b o q (by simp)).2.1
  have f2 : Fm ρ M H ρ M1 H1 := fun b o q n => by
    obtain ⟨g1, _, g3⟩ := f1 b o q (by simp)
    exact ⟨g1, n, g3⟩
  have kp : Kp M H M1 H1 := f2.kp sr.hr.mu
  have hr2 : HR z ρ M1 h H1 := by
    refine ⟨sr.hr.len, sr.hr.nd, fun b hb => ?_, fun a o b g1 g2 => ?_⟩
    · obtain ⟨u, hu⟩ := sr.hr.alive hb
      exact (f1 b u hu (by simp)).2.2.mpr (sr.hr.mu b hb)
    · have hb := List.mem_of_getElem? g2
      obtain ⟨u, hu⟩ := sr.hr.alive hb
      exact (sr.hr.obj a o b g1 g2).kp Ext.refl kp (by rw [(f1 b u hu (by simp)).1, hu])
  have sr2 : SR z ρ ω M1 σ h σ' H1 := sr.fm f2 Ext.refl hr2
  have nb : ∀ b, H b = none → b ∉ ρ := fun b hb q => by
    obtain ⟨u, hu⟩ := sr.hr.alive q
    rw [hb] at hu; cases hu
  have no : ∀ b, H b = none → ∀ i, ω i ≠ some b := fun b hb i q => by
    obtain ⟨_, _, o, ho⟩ := sr.om i b q
    rw [hb] at ho; cases ho
  cases x with
  | v w =>
    cases w with
    | d w =>
      cases e2
      cases rx with
      | v r => exact c ρ M1 H1 v Ext.refl f2 sr2 (.v (.d r.d_inv)) True.intro
    | ref a => cases e2
    | scr a => cases e2
  | fl ys =>
    cases e2
    cases rx with
    | fl a b c1 d r => exact c ρ M1 H1 _ Ext.refl f2 sr2 (.fl a b (nb _ (nw _ rfl)) (no _ (nw _ rfl)) r) nw
  | fd ks ws =>
    cases e2
    cases rx with
    | fd a b c1 d r1 r => exact c ρ M1 H1 _ Ext.refl f2 sr2 (.fd a b (nb _ (nw _ rfl)) (no _ (nw _ rfl)) r1 r) nw
theorem ok_pcl {cf : Nat → List PF.V → PF.Hp → PF.R PF.X} {f : Nat} {x : Str} {a : Expr} {es : List Expr} {r : Rl} {p pos : Pos} (zk : ZOk z) (gx : GX z (k + 1) X) (hc : CfOk z k cf) (hg : L2.Gl X x) (hm : z.mg x = some (.ref (z.φ f))) (hd : (x == ("__debug__" : Str)) = false) (kr : ArOk z X (a :: es) r) (ho : (a :: es).all ord = true) :
    EvOk z X (.Call (.Name x p) (a :: es) [] pos) (fun σ h => (r σ h).bind fun xs h1 => match PF.allD xs with
      | some _ => pclX h1 (cf f xs [])
      | none => .err) := by
  intro σ h y h1 e ρ ω M σ' H sr Q c
  obtain ⟨xs, h2, e1, e2⟩ := bind_ok e
  split at e2
  · rename_i ds hds
    obtain ⟨x0, h0, e3, _⟩ := bind_ok e2
    obtain ⟨fn, hfn⟩ := hc.1 f xs [] x0 h0 e3
    have F := gx.fnok hc hfn
    have fo := zk.fn f fn hfn
    have hb : L2.Binds X.K (z.fd f) (z.ps f) [] := by rw [gx.K]; exact fo.binds
    have hk : PySem.W.keepIn X.K (.ref (z.φ f)) = true := by rw [gx.K]; exact fo.keep
    have hm' : X.mg x = some (.ref (z.φ f)) := by rw [gx.mg]; exact hm
    have hr := gx.room.mono (Nat.le_succ k)
    simp only [List.all_cons, Bool.and_eq_true] at ho
    refine we_pe (L2.pe_call F hr hg hm' hk hb .nil L2.pass0 (pa_wa X _) hd (ord_star ho.1 _ _) (stars_any ho.2 _ _)) (kr σ h xs h2 e1 ρ ω M σ' H sr _ fun ρ1 M1 H1 vs x1 f1 sr1 rvs => ?_)
    rw [List.append_nil]
    exact sp_pcl hds e2 sr1 rvs (wnt_of c x1 f1 sr1)
  · cases e2
/-! a call that borrows owned lists: it hands back a scalar -/
def Bw (ω : Om) (M : Addr → Prop) : Addr → Prop := fun c => M c ∧ ∀ i, ω i ≠ some c
theorem bw_kp {ω : Om} : Kp M H (Bw ω M) H := fun _ _ e n => ⟨e, fun q => n q.1⟩
def ArB (z : Z) (X : L2.Cx) (es : List Expr) (r : Rl) : Prop := ∀ σ h xs h1, r σ h = .ok xs h1 → ∀ ρ ω M σ' H, SR z ρ ω M σ h σ' H → ∀ Q : List L2.V → Hp → Prop,
  (∀ ρ1 M1 H1 vs, Ext ρ ρ1 → Fm ρ M H ρ1 M1 H1 → SR z ρ1 ω M1 σ h1 σ' H1 → RVs z ρ1 (Bw ω M1) H1 xs vs → Q vs H1) → WA X es σ' H Q
theorem arb_nil : ArB z X [] (fun _ h => .ok [] h) := by
  intro σ h y h1 e ρ ω M σ' H sr Q c
  cases e
  exact wa_pa L2.pa_nil (c ρ M H [] Ext.refl Fm.refl sr .nil)
theorem bw_fm {ρ ρ' : List Addr} {ω : Om} {σ : PF.St} {h : PF.Hp} {σ' : L2.St} (sr : SR z ρ ω M σ h σ' H) (f : Fm ρ M H ρ' M' H') : Kp (Bw ω M) H (Bw ω M') H' := fun b o e n => by
  by_cases hb : b ∈ ρ
  · exact absurd ⟨sr.hr.mu b hb, fun i q => (sr.om i b q).2.1 hb⟩ n
  · obtain ⟨g1, g2, g3⟩ := f b o e hb
    exact ⟨g1, fun q => n ⟨g3.mp q.1, q.2⟩⟩
theorem arb_cons {e : Expr} {es : List Expr} {ra : Rx} {r : Rl} (ka : EvOk z X e ra) (kr : ArB z X es r) (ho : ord e = true) : ArB z X (e :: es) (fun σ h => (ra σ h).bind fun x h1 => (r σ h1).bind fun xs h2 => .ok (x.toV :: xs) h2) := by
  intro σ h y h1 e ρ ω M σ' H sr Q c
  obtain ⟨x, h2, e1, e2⟩ := bind_ok e
  obtain ⟨xs, h3, e3, e4⟩ := bind_ok e2
  cases e4
  refine wa_pa (L2.pa_cons (pe_we X _) (pa_wa X es) (ord_star ho _ _)) (ka.v e1 sr fun ρ1 M1 H1 v x1 f1 sr1 rv => ?_)
  exact kr σ h2 xs _ e3 ρ1 ω M1 σ' H1 sr1 _ fun ρ2 M2 H2 vs x2 f2 sr2 rvs => c ρ2 M2 H2 (v :: vs) (x1.trans x2) (f1.trans f2) sr2 (.cons ((rv.kp Ext.refl bw_kp).kp x2 (bw_fm sr1 f2)) rvs)
theorem arb_bw {i : Nat} {x : Str} {pos : Pos} {es : List Expr} {r : Rl} (hN : X.N[i]? = some x) (hv : L2.Vis X.env.scope x) (hd : (x == ("__debug__" : Str)) = false) (hc : (x == ("__classdict__" : Str)) = false) (kr : ArB z X es r) :
    ArB z X (.Name x pos :: es) (fun σ h => match PF.get σ i with
      | some (.ol xs) => (r σ h).bind fun ys h2 => .ok (.d (.lst xs) :: ys) h2
      | _ => .err) := by
  intro σ h y h1 e ρ ω M σ' H sr Q c
  simp only at e
  split at e
  · rename_i ys q
    obtain ⟨xs, h3, e3, e4⟩ := bind_ok e
    cases e4
    obtain ⟨v, g1, g2⟩ := sr.slot i _ (get_some q)
    cases g2 with
    | ol a b r1 =>
      refine wa_pa (L2.pa_cons (L2.pe_var hN hv hd hc) (pa_wa X es) rfl) ⟨_, g1, ?_⟩
      refine kr σ h xs _ e3 ρ ω M σ' H sr _ fun ρ2 M2 H2 vs x2 f2 sr2 rvs => c ρ2 M2 H2 _ x2 f2 sr2 (.cons (.d (.lst (f2 _ _ b (sr.om i _ a).2.1).1 (fun q => q.2 i a) (r1.kp ?_))) rvs)
      exact (bw_kp (ω := ω)).trans (bw_fm sr f2)
  · cases e
theorem ok_pcb {cf : Nat → List PF.V → PF.Hp → PF.R PF.X} {f : Nat} {x : Str} {a : Expr} {es : List Expr} {r : Rl} {p pos : Pos} (zk : ZOk z) (gx : GX z (k + 1) X) (hc : CfOk z k cf) (hg : L2.Gl X x) (hm : z.mg x = some (.ref (z.φ f))) (hd : (x == ("__debug__" : Str)) = false) (kr : ArB z X (a :: es) r) (ho : (a :: es).all ord = true) :
    EvOk z X (.Call (.Name x p) (a :: es) [] pos) (fun σ h => (r σ h).bind fun xs h1 => match PF.allD xs with
      | some _ => (cf f xs []).bind fun x _ => match x with
        | .v (.d y) => if PF.flat y then .ok (PF.dat y) h1 else .err
        | _ => .err
      | none => .err) := by
  intro σ h y h1 e ρ ω M σ' H sr Q c
  obtain ⟨xs, h2, e1, e2⟩ := bind_ok e
  split at e2
  · rename_i ds hds
    obtain ⟨x0, h0, e3, e4⟩ := bind_ok e2
    obtain ⟨fn, hfn⟩ := hc.1 f xs [] x0 h0 e3
    have F := gx.fnok hc hfn
    have fo := zk.fn f fn hfn
    have hb : L2.Binds X.K (z.fd f) (z.ps f) [] := by rw [gx.K]; exact fo.binds
    have hk : PySem.W.keepIn X.K (.ref (z.φ f)) = true := by rw [gx.K]; exact fo.keep
    have hm' : X.mg x = some (.ref (z.φ f)) := by rw [gx.mg]; exact hm
    have hr := gx.room.mono (Nat.le_succ k)
    simp only [List.all_cons, Bool.and_eq_true] at ho
    refine we_pe (L2.pe_call F hr hg hm' hk hb .nil L2.pass0 (pa_wa X _) hd (ord_star ho.1 _ _) (stars_any ho.2 _ _)) (kr σ h xs h2 e1 ρ ω M σ' H sr _ fun ρ1 M1 H1 vs x1 f1 sr1 rvs => ?_)
    rw [List.append_nil]
    refine ⟨xs, [], x0, h0, [], Bw ω M1, e3, ⟨rfl, List.nodup_nil, fun b hb => (nomatch hb), fun a o b e => by simp at e⟩, RDs.toV hds rvs [], fun ρ2 M2 H2 v x2 f2 hr2 rx nw => ?_⟩
    split at e4
    · rename_i w
      split at e4
      · rename_i hfl
        cases e4
        cases rx with
        | v rv =>
          have f3 : Fm ρ1 M1 H1 ρ1 (fun c => M1 c) H2 := fun b o q n => ⟨(f2 b o q (by simp)).1, n, Iff.rfl⟩
          have hr3 : HR z ρ1 (fun c => M1 c) h1 H2 := sr1.hr.kp (f3.kp sr1.hr.mu) fun b hb => by
            obtain ⟨u, hu⟩ := sr1.hr.alive hb
            exact ⟨sr1.hr.mu b hb, by rw [(f2 b u hu (by simp)).1, hu]⟩
          refine c ρ1 M1 H2 v x1 (f1.trans f3) (sr1.fm f3 Ext.refl hr3) (.v (.d ?_)) True.intro
          have rd := rv.d_inv
          cases w with
          | non => cases rd; exact .non
          | bl b => cases rd; exact .bl b
          | int b => cases rd; exact .int b
          | str b => cases rd; exact .str b
          | _ => cases hfl
      · cases e4
    · cases e4
  · cases e2
end Br
set_option Elab.async false
set_option linter.all false
set_option maxRecDepth 100000
set_option maxHeartbeats 400000
namespace Br
open PySem PySem.Spec PyProof.Rows PySem.SeqAt
variable {z : Z} {M M' : Addr → Prop} {H H' : Hp} {X : L2.Cx} {k : Nat}
/-! ### fields -/
theorem lookup_at : ∀ {fs : List (Str × L2.V)} {p : Nat} {n : Str} {w : L2.V}, (fs.map (·.1)).Nodup → fs[p]? = some (n, w) → fs.lookup n = some w
  | [], _, _, _, _, e => by simp at e
  | (m, v) :: fs, 0, n, w, _, e => by
    simp at e
    obtain ⟨rfl, rfl⟩ := e
    simp
  | (m, v) :: fs, p + 1, n, w, nd, e => by
    simp only [List.map_cons, List.nodup_cons] at nd
    have e' : fs[p]? = some (n, w) := by simpa using e
    have hne : (n == m) = false := by
      rw [beq_eq_false_iff_ne]
      rintro rfl
      exact nd.1 (List.mem_map.mpr ⟨(n, w), List.mem_of_getElem? e', rfl⟩)
    rw [List.lookup_cons, hne]
    exact lookup_at nd.2 e'
theorem lookup_no : ∀ {fs : List (Str × L2.V)} {n : Str}, n ∉ fs.map (·.1) → fs.lookup n = none
  | [], _, _ => rfl
  | (m, v) :: fs, n, h => by
    simp only [List.map_cons, List.mem_cons, not_or] at h
    have hne : (n == m) = false := by rw [beq_eq_false_iff_ne]; exact h.1
    rw [List.lookup_cons, hne]
    exact lookup_no h.2
theorem find_get : ∀ {l : List Nat} {f p : Nat}, PF.find f l = some p → l[p]? = some f
  | [], _, _, e => by simp [PF.find] at e
  | x :: l, f, p, e => by
    unfold PF.find at e
    split at e
    · cases e; simp_all
    · simp only [Option.map_eq_some_iff] at e
      obtain ⟨q, e1, rfl⟩ := e
      simpa using find_get e1
theorem take_nodup {α : Type} {l : List α} (h : l.Nodup) (n : Nat) : (l.take n).Nodup := h.sublist (List.take_sublist n l)
theorem fnames_eq {c n : Nat} {C : PF.Cl} (e : z.T.cls c = some C) : fnames z c n = (C.flds.take n).map z.G.aN := by
  unfold fnames
  rw [e]
theorem fnames_nd {c n : Nat} {C : PF.Cl} (e : z.T.cls c = some C) (o : COk z c C) : (fnames z c n).Nodup := by
  rw [fnames_eq e, List.map_take]
  exact take_nodup o.nd n
/-- the p-th field -/
theorem fld_at {c n p f : Nat} {C : PF.Cl} {fs : List (Str × L2.V)} {w : L2.V} (e : z.T.cls c = some C) (o : COk z c C) (hf : fs.map (·.1) = fnames z c n) (hp : PF.find f C.flds = some p) (hw : (fs.map (·.2))[p]? = some w) : fs.lookup (z.G.aN f) = some w := by
  have nd : (fs.map (·.1)).Nodup := by rw [hf]; exact fnames_nd e o
  rw [List.getElem?_map, Option.map_eq_some_iff] at hw
  obtain ⟨⟨m, w'⟩, h1, h2⟩ := hw
  have h3 : (fs.map (·.1))[p]? = some m := by rw [List.getElem?_map, h1]; rfl
  rw [hf, fnames_eq e, List.getElem?_map, List.getElem?_take] at h3
  split at h3
  · rw [find_get hp] at h3
    simp only [Option.map_some, Option.some.injEq] at h3
    have h2 : w' = w := h2
    subst h3 h2
    exact lookup_at nd h1
  · cases h3
theorem find_mem {l : List Nat} {f p : Nat} (e : PF.find f l = some p) : f ∈ l := List.mem_of_getElem? (find_get e)
theorem fld_ok {x y : PF.V} {f : Nat} {h : PF.Hp} (zk : ZOk z) (e : PF.fldOf z.T x f h = some y) {ρ : List Addr} {ω : Om} {σ : PF.St} {σ' : L2.St} {v : L2.V} (sr : SR z ρ ω M σ h σ' H) (rv : RV z ρ M H x v) :
    ∃ a c C dx fs w, v = .ref a ∧ H a = some (.ins (z.κ c) dx fs) ∧ z.T.cls c = some C ∧ L2.NoAttr z.K (z.κ c) (z.G.aN f) ∧ fs.lookup (z.G.aN f) = some w ∧ RV z ρ M H y w := by
  unfold PF.fldOf at e
  split at e
  · rename_i c vs
    simp only [Option.bind_eq_some_iff, Option.map_eq_some_iff] at e
    obtain ⟨C, e1, p, e2, x, e3, rfl⟩ := e
    have rd := rv.d_inv
    cases rd with
    | ins h1 h2 h3 h4 =>
      obtain ⟨w, g1, g2⟩ := h4.get e3
      exact ⟨_, c, C, _, _, w, rfl, h1, e1, (zk.cl c C e1).noat f (find_mem e2), fld_at e1 (zk.cl c C e1) h3 e2 g1, .d g2⟩
  · rename_i a
    split at e
    · rename_i c vs hp
      simp only [Option.bind_eq_some_iff] at e
      obtain ⟨C, e1, p, e2, e3⟩ := e
      obtain ⟨b, hb, rfl⟩ := rv.ref_inv
      cases sr.hr.obj a _ b hp hb with
      | ins h1 h3 h4 =>
        obtain ⟨w, g1, g2⟩ := h4.get e3
        exact ⟨_, c, C, _, _, w, rfl, h1, e1, (zk.cl c C e1).noat f (find_mem e2), fld_at e1 (zk.cl c C e1) h3 e2 g1, g2⟩
    · cases e
  · cases e
theorem ok_fd {a : Expr} {ra : Rx} {f : Nat} {pos : Pos} (zk : ZOk z) (gx : GX z k X) (ka : EvOk z X a ra) (oa : ord a = true) : EvOk z X (.Attribute a (z.G.aN f) pos) (fun σ h => (ra σ h).bind fun x h1 => (PF.lift (PF.fldOf z.T x.toV f h1) h1).bind fun y h1 => .ok (.v y) h1) := by
  intro σ h y h1 e ρ ω M σ' H sr Q c
  obtain ⟨x, h2, e1, e2⟩ := bind_ok e
  obtain ⟨y', h3, e3, e4⟩ := bind_ok e2
  obtain ⟨e3', rfl⟩ := lift_ok e3
  cases e4
  refine we_pe (L2.pe_fld (pe_we X a) (ord_base oa _ _ _)) (ka.v e1 sr fun ρ1 M1 H1 v x1 f1 sr1 rv => ?_)
  obtain ⟨a, c', C, dx, fs, w, rfl, g1, g2, g3, g4, g5⟩ := fld_ok zk e3' sr1 rv
  exact ⟨a, z.κ c', dx, fs, w, rfl, g1, by rw [gx.K]; exact (zk.cl c' C g2).cls, by rw [gx.K]; exact g3, g4, c ρ1 M1 H1 w x1 f1 sr1 (.v g5) True.intro⟩
/-! ### pops -/
/-- a mutable object of the heap is written -/
theorem HR.put {ρ : List Addr} {h : PF.Hp} (r : HR z ρ M h H) {a : Nat} {b : Addr} {o : PF.O} {u : L2.HO} (hb : ρ[a]? = some b) (new : RO z ρ M (L2.upd H b u) b o) : HR z ρ M (h.set a o) (L2.upd H b u) := by
  have hbm := List.mem_of_getElem? hb
  have kp : Kp M H M (L2.upd H b u) := fun c v e n => by
    have : c ≠ b := fun q => n (q ▸ r.mu b hbm)
    exact ⟨by rw [L2.upd_ne this]; exact e, n⟩
  refine ⟨by rw [List.length_set]; exact r.len, r.nd, r.mu, fun i o' c e1 e2 => ?_⟩
  by_cases hi : i = a
  · subst hi
    rw [hb] at e2
    cases e2
    rw [List.getElem?_set] at e1
    simp only [if_true] at e1
    split at e1
    · cases e1
      exact new
    · cases e1
  · rw [List.getElem?_set_ne (Ne.symm hi)] at e1
    have hne : c ≠ b := fun q => by
      subst q
      obtain ⟨l1, g1⟩ := List.getElem?_eq_some_iff.mp e2
      obtain ⟨l2, g2⟩ := List.getElem?_eq_some_iff.mp hb
      exact hi ((List.getElem_inj r.nd).mp (g1.trans g2.symm))
    exact (r.obj i o' c e1 e2).kp Ext.refl kp (L2.upd_ne hne)
theorem Fm.put {ρ : List Addr} {b : Addr} {u : L2.HO} (hb : b ∈ ρ) : Fm ρ M H ρ M (L2.upd H b u) := fun c o e n => by
  have : c ≠ b := fun q => n (q ▸ hb)
  exact ⟨by rw [L2.upd_ne this]; exact e, n, Iff.rfl⟩
theorem put_kp {ρ : List Addr} {b : Addr} {u : L2.HO} (hm : ∀ c ∈ ρ, M c) (hb : b ∈ ρ) : Kp M H M (L2.upd H b u) := (Fm.put hb).kp hm
theorem put_rvs {ρ : List Addr} {h : PF.Hp} (r : HR z ρ M h H) {b : Addr} {u : L2.HO} (hb : b ∈ ρ) {xs : List PF.V} {ys : List L2.V} (q : RVs z ρ M H xs ys) : RVs z ρ M (L2.upd H b u) xs ys := q.kp Ext.refl (put_kp r.mu hb)
theorem RVs.take {ρ : List Addr} : ∀ {xs : List PF.V} {ys : List L2.V} (n : Nat), RVs z ρ M H xs ys → RVs z ρ M H (xs.take n) (ys.take n)
  | _, _, 0, _ => .nil
  | _, _, _ + 1, .nil => .nil
  | _, _, n + 1, .cons a r => .cons a (RVs.take n r)
theorem RVs.dropLast {ρ : List Addr} {xs : List PF.V} {ys : List L2.V} (r : RVs z ρ M H xs ys) : RVs z ρ M H xs.dropLast ys.dropLast := by
  rw [List.dropLast_eq_take, List.dropLast_eq_take, r.length]
  exact r.take _
theorem RVs.erase {ρ : List Addr} : ∀ {xs : List PF.V} {ys : List L2.V} (n : Nat), RVs z ρ M H xs ys → RVs z ρ M H (xs.eraseIdx n) (ys.eraseIdx n)
  | _, _, _, .nil => .nil
  | _, _, 0, .cons _ r => r
  | _, _, n + 1, .cons a r => .cons a (RVs.erase n r)
theorem HR.putLst {ρ : List Addr} {h : PF.Hp} (r : HR z ρ M h H) {a : Nat} {b : Addr} {xs : List PF.V} {ys : List L2.V} (hb : ρ[a]? = some b) (q : RVs z ρ M H xs ys) : HR z ρ M (h.set a (.lst xs)) (L2.upd H b (.lst ys)) :=
  r.put hb <| .lst L2.upd_same (put_rvs r (List.mem_of_getElem? hb) q)
theorem ok_pop {a : Expr} {ra : Rx} {apos pos : Pos} (ka : EvOk z X a ra) (oa : ord a = true) (hl : (apos.endLine == pos.line) = true) :
    EvOk z X (.Call (.Attribute a "pop" apos) [] [] pos) (fun σ h => (ra σ h).bind fun x h1 => match x with
      | .v (.ref a) => match h1[a]? with
        | some (.lst xs) => match xs[xs.length - 1]? with
          | some y => .ok (.v y) (h1.set a (.lst xs.dropLast))
          | none => .err
        | _ => .err
      | _ => .err) := by
  intro σ h y h1 e ρ ω M σ' H sr Q c
  obtain ⟨x, h2, e1, e2⟩ := bind_ok e
  split at e2
  · rename_i i
    split at e2
    · rename_i xs hp
      split at e2
      · rename_i w hw
        cases e2
        refine we_pe (L2.pe_bm0 PySem.F.plainAttrs_list PySem.F.slot_list_pop PySem.F.type_list_pop L2.mt_pop (pe_we X a) (ord_base oa _ _ _) hl) (ka.v e1 sr fun ρ1 M1 H1 v x1 f1 sr1 rv => ?_)
        obtain ⟨b, hb, rfl⟩ := RV.ref_inv (a := i) rv
        cases sr1.hr.obj i _ b hp hb with
        | lst g1 g2 =>
          obtain ⟨u, g3, g4⟩ := g2.get hw
          refine ⟨.inl ⟨rfl, _, L2.SqL.of g1⟩, b, _, u, rfl, rfl, g1, by rw [← g2.length]; exact g3, ?_⟩
          have hbm := List.mem_of_getElem? hb
          have hr2 := sr1.hr.putLst hb g2.dropLast
          exact c ρ1 M1 _ u x1 (f1.trans (Fm.put hbm)) (sr1.fm (Fm.put hbm) Ext.refl hr2) (.v (g4.kp Ext.refl (put_kp sr1.hr.mu hbm))) True.intro
      · cases e2
    · cases e2
  · cases e2
theorem ok_popI {a b : Expr} {ra rb : Rx} {apos pos : Pos} (ka : EvOk z X a ra) (kb : EvOk z X b rb) (oa : ord a = true) (ob : ord b = true) (hl : (apos.endLine == pos.line) = true) :
    EvOk z X (.Call (.Attribute a "pop" apos) [b] [] pos) (fun σ h => (ra σ h).bind fun x h1 => match x with
      | .v (.ref a) => match h1[a]? with
        | some (.lst _) => (rb σ h1).bind fun y h2 => match y, h2[a]? with
          | .v (.d (.int i)), some (.lst xs) => if PF.inR i then match PF.ixN xs.length i with
              | some j => match xs[j]? with
                | some y => .ok (.v y) (h2.set a (.lst (xs.eraseIdx j)))
                | none => .err
              | none => .err
            else .err
          | _, _ => .err
        | _ => .err
      | _ => .err) := by
  intro σ h y h1 e ρ ω M σ' H sr Q c
  obtain ⟨x, h2, e1, e2⟩ := bind_ok e
  split at e2
  · rename_i i
    split at e2
    · rename_i xs0 hp0
      obtain ⟨xb, h3, e3, e4⟩ := bind_ok e2
      split at e4
      · rename_i n xs hp
        split at e4
        · rename_i hin
          split at e4
          · rename_i j hj
            split at e4
            · rename_i w hw
              cases e4
              refine we_pe (L2.pe_bm PySem.F.plainAttrs_list PySem.F.slot_list_pop PySem.F.type_list_pop L2.mt_popAt (pe_we X a) (L2.pa_cons (pe_we X b) L2.pa_nil (ord_star ob _ _)) (ord_base oa _ _ _) (by rw [ord_star ob]; rfl) hl (ord_star ob _ _) rfl) (ka.v e1 sr fun ρ1 M1 H1 v x1 f1 sr1 rv => ?_)
              obtain ⟨b, hb, rfl⟩ := RV.ref_inv (a := i) rv
              cases sr1.hr.obj i _ b hp0 hb with
              | lst g1 g2 =>
                refine ⟨.inl ⟨rfl, _, L2.SqL.of g1⟩, kb.v e3 sr1 fun ρ2 M2 H2 u x2 f2 sr2 ru => ?_⟩
                have hb2 := x2 _ _ hb
                cases sr2.hr.obj i _ b hp hb2 with
                | lst g3 g4 =>
                  obtain ⟨w', g5, g6⟩ := g4.get hw
                  simp only [PF.inR, Bool.and_eq_true, decide_eq_true_eq] at hin
                  have hbm := List.mem_of_getElem? hb2
                  have hr2 := sr2.hr.putLst hb2 (g4.erase j)
                  refine ⟨b, _, n, j, w', rfl, by rw [RV.d_inv (x := .int n) ru |>.int_inv], g3, Int.le_trans (by decide) hin.1, Int.lt_of_lt_of_le hin.2 (by decide), ?_, g5, ?_⟩
                  · rw [← g4.length]
                    exact (L2.ixN_seq (by rw [ixN_eq]; exact hj)).1
                  · exact c ρ2 M2 _ w' (x1.trans x2) ((f1.trans f2).trans (Fm.put hbm)) (sr2.fm (Fm.put hbm) Ext.refl hr2) (.v (g6.kp Ext.refl (put_kp sr2.hr.mu hbm))) True.intro
            · cases e4
          · cases e4
        · cases e4
      · cases e4
    · cases e2
  · cases e2
end Br
set_option Elab.async false
set_option linter.all false
set_option maxRecDepth 100000
set_option maxHeartbeats 400000
namespace Br
open PySem PySem.Spec PyProof.Rows PySem.SeqAt
variable {z : Z} {M M' : Addr → Prop} {H H' : Hp} {X : L2.Cx} {k : Nat}
theorem stars_all {es : List Expr} (h : es.all ord = true) (pos : Pos) (env : Env) : (backTo pos (starEach es env)).all (fun x => !x.1) = true := by
  induction es with
  | nil => rfl
  | cons e es ih =>
    simp only [List.all_cons, Bool.and_eq_true] at h
    rw [ord_star h.1]
    have := ih h.2
    simpa [backTo] using this
theorem meth_eval {o : Expr} {m : Str} {apos pos : Pos} {es : List Expr} {env : Env} (oo : ord o = true) (oe : es.all ord = true) (hn : es.length < 30) (hl : (apos.endLine == pos.line) = true) :
    eval (.Call (.Attribute o m apos) es [] pos) env = (do
      let ov ← eval o env
      standAt apos.atName
      let (f, first) ← holding [ov] (getMethod ov m (do return (← importBound o env).getD true))
      callWith pos f first (backTo pos (starEach es env)) (backToKw pos (keywordEach [] env))) := by
  rw [arm_eval_Call, ord_base oo]
  have hf : methodCallForm (es.length + ([] : List Keyword).length) (backTo pos (starEach es env)) (backToKw pos (keywordEach [] env)) = true := by
    unfold methodCallForm
    rw [stars_all oe]
    simp only [Bool.true_and, List.length_nil, Nat.add_zero]
    have : (backToKw pos (keywordEach [] env)) = [] := rfl
    rw [this]
    simp [hn]
  unfold methodCall
  rw [hf]
  unfold calleeOf methodCallPos
  simp only [if_true, hl, Bool.not_true, Bool.false_or]
  rfl
/-! ### methods -/
theorem cls_inv {x : PF.V} {h : PF.Hp} {c : Nat} (e : PF.clsOf x h = some c) : ∃ a vs, x = .ref a ∧ h[a]? = some (.ins c vs) := by
  unfold PF.clsOf at e
  split at e
  · split at e
    · rename_i q; cases e; exact ⟨_, _, rfl, q⟩
    · cases e
  · cases e
theorem ok_me {cf : Nat → List PF.V → PF.Hp → PF.R PF.X} {m : Nat} {o a : Expr} {es : List Expr} {ro : Rx} {r : Rl} {apos pos : Pos} (zk : ZOk z) (gx : GX z (k + 1) X) (hc : CfOk z k cf) (ko : EvOk z X o ro) (oo : ord o = true) (kr : ArOk z X (a :: es) r) (ho : (a :: es).all ord = true) (hn : (a :: es).length < 30) (hl : (apos.endLine == pos.line) = true) :
    EvOk z X (.Call (.Attribute o (z.G.mN m) apos) (a :: es) [] pos) (fun σ h => (ro σ h).bind fun x h1 => match PF.clsOf x.toV h1 with
      | some c => (r σ h1).bind fun xs h2 => match (z.T.cls c).bind fun C => C.meths.lookup m with
        | some f => cf f (x.toV :: xs) h2
        | none => .err
      | none => .err) := by
  intro σ h y h1 e ρ ω M σ' H sr Q c
  obtain ⟨x, h2, e1, e2⟩ := bind_ok e
  split at e2
  · rename_i cc hcc
    obtain ⟨xs, h3, e3, e4⟩ := bind_ok e2
    split at e4
    · rename_i f hf
      simp only [Option.bind_eq_some_iff] at hf
      obtain ⟨C, hC, hm⟩ := hf
      obtain ⟨ia, vs0, ex, hp⟩ := cls_inv hcc
      obtain ⟨fn, hfn⟩ := hc.1 f _ h3 y h1 e4
      have co := zk.cl cc C hC
      have F := gx.fnok hc hfn
      have fo := zk.fn f fn hfn
      have hb : L2.Binds X.K (z.fd f) (z.ps f) [] := by rw [gx.K]; exact fo.binds
      have hM : L2.Meth X.K (z.κ cc) (z.G.mN m) (z.φ f) := by rw [gx.K]; exact (co.meth m f hm).1
      have hC' : L2.Cls X.K (z.κ cc) := by rw [gx.K]; exact co.cls
      have ho' := ho
      simp only [List.all_cons, Bool.and_eq_true] at ho'
      refine we_pe (L2.pe_meth (pe_we X o) hC' hM F (gx.room.mono (Nat.le_succ k)) hb .nil L2.pass0 (pa_wa X _) (ord_star ho'.1 _ _) (stars_any ho'.2 _ _) (meth_eval oo ho hn hl)) (ko.v e1 sr fun ρ1 M1 H1 v x1 f1 sr1 rv => ?_)
      have rv0 := rv
      rw [ex] at rv
      obtain ⟨b, hb2, rfl⟩ := rv.ref_inv
      cases sr1.hr.obj ia _ b hp hb2 with
      | ins g1 g2 g3 =>
        refine ⟨b, _, _, rfl, g1, lookup_no ?_, kr σ h2 xs h3 e3 ρ1 ω M1 σ' H1 sr1 _ fun ρ2 M2 H2 vs x2 f2 sr2 rvs => ?_⟩
        · rw [g2, fnames_eq hC, List.map_take]
          exact fun q => (co.meth m f hm).2 (List.mem_of_mem_take q)
        · rw [List.append_nil]
          exact sp_of e4 sr2 (.cons (rv0.kp x2 (f2.kp sr1.hr.mu)) rvs) (wnt_of c (x1.trans x2) (f1.trans f2) sr2)
    · cases e4
  · cases e2
theorem ok_me0 {cf : Nat → List PF.V → PF.Hp → PF.R PF.X} {m : Nat} {o : Expr} {ro : Rx} {apos pos : Pos} (zk : ZOk z) (gx : GX z (k + 1) X) (hc : CfOk z k cf) (ko : EvOk z X o ro) (oo : ord o = true) (hl : (apos.endLine == pos.line) = true) :
    EvOk z X (.Call (.Attribute o (z.G.mN m) apos) [] [] pos) (fun σ h => (ro σ h).bind fun x h1 => match PF.clsOf x.toV h1 with
      | some c => match (z.T.cls c).bind fun C => C.meths.lookup m with
        | some f => cf f (x.toV :: []) h1
        | none => .err
      | none => .err) := by
  intro σ h y h1 e ρ ω M σ' H sr Q c
  obtain ⟨x, h2, e1, e2⟩ := bind_ok e
  split at e2
  · rename_i cc hcc
    split at e2
    · rename_i f hf
      simp only [Option.bind_eq_some_iff] at hf
      obtain ⟨C, hC, hm⟩ := hf
      obtain ⟨ia, vs0, ex, hp⟩ := cls_inv hcc
      obtain ⟨fn, hfn⟩ := hc.1 f _ h2 y h1 e2
      have co := zk.cl cc C hC
      have F := gx.fnok hc hfn
      have fo := zk.fn f fn hfn
      have hb : L2.Binds X.K (z.fd f) (z.ps f) [] := by rw [gx.K]; exact fo.binds
      have hM : L2.Meth X.K (z.κ cc) (z.G.mN m) (z.φ f) := by rw [gx.K]; exact (co.meth m f hm).1
      have hC' : L2.Cls X.K (z.κ cc) := by rw [gx.K]; exact co.cls
      refine we_pe (L2.pe_meth0 (pe_we X o) hC' hM F (gx.room.mono (Nat.le_succ k)) hb .nil L2.pass0 (meth_eval oo rfl (by decide) hl)) (ko.v e1 sr fun ρ1 M1 H1 v x1 f1 sr1 rv => ?_)
      have rv0 := rv
      rw [ex] at rv
      obtain ⟨b, hb2, rfl⟩ := rv.ref_inv
      cases sr1.hr.obj ia _ b hp hb2 with
      | ins g1 g2 g3 =>
        refine ⟨b, _, _, rfl, g1, lookup_no ?_, ?_⟩
        · rw [g2, fnames_eq hC, List.map_take]
          exact fun q => (co.meth m f hm).2 (List.mem_of_mem_take q)
        · exact sp_of (E := L2.E0) e2 sr1 (.cons rv0 .nil) (wnt_of c x1 f1 sr1)
    · cases e2
  · cases e2
/-! ### instances made -/
theorem made_new {x dx C : Addr} (nx : H x = none) (nd : H dx = none) (ne : dx ≠ x) : ∀ b o, H b = some o → L2.upd (L2.upd H dx (.own x)) x (.ins C dx []) b = some o := fun b o e => by
  rw [L2.upd_ne (L2.ne_of_none e nx), L2.upd_ne (L2.ne_of_none e nd)]
  exact e
theorem fnames0 (c : Nat) : fnames z c 0 = [] := by
  unfold fnames
  split <;> simp
theorem mk_sp {cf : Nat → List PF.V → PF.Hp → PF.R PF.X} {f c : Nat} {xs : List PF.V} {h h1 : PF.Hp} {ρ : List Addr} {ω : Om} {σ : PF.St} {σ' : L2.St} {vs : List L2.V} {Q : L2.VK} {E : L2.XK} {x dx : Addr} (e : cf f (.ref h.length :: xs) (h ++ [.ins c []]) = .ok (PF.dat .non) h1) (sr : SR z ρ ω M σ h σ' H) (rv : RVs z ρ M H xs vs)
    (nx : H x = none) (nd : H dx = none) (ne : dx ≠ x) (w : Wnt z ρ ω M σ σ' H (.v (.ref h.length)) h1 Q) : spF z cf f (.ref x :: vs) (L2.upd (L2.upd H dx (.own x)) x (.ins (z.κ c) dx [])) (fun v H2 => v = .non ∧ Q (.ref x) H2) E := by
  have nw := made_new (C := z.κ c) nx nd ne
  have ext : Ext ρ (ρ ++ [x]) := fun a b q => by
    rw [List.getElem?_append_left (List.getElem?_eq_some_iff.mp q).1]
    exact q
  have xρ : x ∉ ρ := fun q => by
    obtain ⟨u, hu⟩ := sr.hr.alive q
    rw [nx] at hu; cases hu
  have kp : Kp M H (fun b => M b ∨ b = x) (L2.upd (L2.upd H dx (.own x)) x (.ins (z.κ c) dx [])) := fun b o e n => ⟨nw b o e, fun q => q.elim n fun q => by rw [q, nx] at e; cases e⟩
  have hr1 : HR z (ρ ++ [x]) (fun b => M b ∨ b = x) (h ++ [.ins c []]) (L2.upd (L2.upd H dx (.own x)) x (.ins (z.κ c) dx [])) := by
    refine ⟨by simp [sr.hr.len], ?_, fun b hb => ?_, fun a o b g1 g2 => ?_⟩
    · rw [List.nodup_append]
      exact ⟨sr.hr.nd, by simp, fun a ha b hb => by simp at hb; subst hb; exact fun q => xρ (q ▸ ha)⟩
    · rcases List.mem_append.mp hb with q | q
      · exact .inl (sr.hr.mu b q)
      · simp at q; exact .inr q
    · by_cases ha : a < h.length
      · rw [List.getElem?_append_left ha] at g1
        rw [List.getElem?_append_left (by rw [sr.hr.len]; exact ha)] at g2
        have hb := List.mem_of_getElem? g2
        obtain ⟨u, hu⟩ := sr.hr.alive hb
        exact (sr.hr.obj a o b g1 g2).kp ext kp (by rw [nw b u hu, hu])
      · rw [List.getElem?_append_right (by omega)] at g1
        rw [List.getElem?_append_right (by rw [sr.hr.len]; omega)] at g2
        rw [sr.hr.len] at g2
        have : a - h.length = 0 := by
          have := (List.getElem?_eq_some_iff.mp g1).1
          simp at this
          omega
        rw [this] at g1 g2
        simp at g1 g2
        subst g1 g2
        exact .ins L2.upd_same (by simp [fnames0]) .nil
  refine ⟨.ref h.length :: xs, h ++ [.ins c []], PF.dat .non, h1, ρ ++ [x], (fun b => M b ∨ b = x), e, hr1, .cons (.ref (by rw [List.getElem?_append_right (by rw [sr.hr.len]; omega), sr.hr.len]; simp)) (rv.kp ext kp), fun ρ1 M1 H1 v x1 f1 hr2 rx _ => ?_⟩
  cases rx with
  | v r =>
    refine ⟨r.d_inv.non_inv, ?_⟩
    have f2 : Fm ρ M H ρ1 M1 H1 := fun b o q n => by
      have hbx : b ≠ x := L2.ne_of_none q nx
      obtain ⟨g1, g2, g3⟩ := f1 b o (nw b o q) (by simp [n, hbx])
      exact ⟨g1, g2, g3.trans ⟨fun s => s.elim id fun s => absurd s hbx, .inl⟩⟩
    exact w ρ1 M1 H1 (.ref x) (ext.trans x1) f2 (sr.fm f2 (ext.trans x1) hr2) (.v (.ref (x1 _ _ (by rw [List.getElem?_append_right (by rw [sr.hr.len]; omega), sr.hr.len]; simp)))) True.intro
def mkX (cf : Nat → List PF.V → PF.Hp → PF.R PF.X) (T : PF.Tab) (c : Nat) (xs : List PF.V) (h1 : PF.Hp) : PF.R PF.X := match T.cls c with
  | some C => (cf C.init (.ref h1.length :: xs) (h1 ++ [.ins c []])).bind fun r h2 => match r with
    | .v (.d .non) => .ok (.v (.ref h1.length)) h2
    | _ => .err
  | none => .err
theorem mkX_inv {cf : Nat → List PF.V → PF.Hp → PF.R PF.X} {T : PF.Tab} {c : Nat} {xs : List PF.V} {h h1 : PF.Hp} {y : PF.X} (e : mkX cf T c xs h = .ok y h1) : ∃ C, T.cls c = some C ∧ cf C.init (.ref h.length :: xs) (h ++ [.ins c []]) = .ok (PF.dat .non) h1 ∧ y = .v (.ref h.length) := by
  unfold mkX at e
  split at e
  · rename_i C hC
    obtain ⟨r, h2, e1, e2⟩ := bind_ok e
    split at e2
    · cases e2; exact ⟨C, hC, e1, rfl⟩
    · cases e2
  · cases e
theorem ok_mk {cf : Nat → List PF.V → PF.Hp → PF.R PF.X} {c : Nat} {x : Str} {a : Expr} {es : List Expr} {r : Rl} {p pos : Pos} (zk : ZOk z) (gx : GX z (k + 1) X) (hc : CfOk z k cf) (hg : L2.Gl X x) (hm : z.mg x = some (.ref (z.κ c))) (hd : (x == ("__debug__" : Str)) = false) (kr : ArOk z X (a :: es) r) (ho : (a :: es).all ord = true) :
    EvOk z X (.Call (.Name x p) (a :: es) [] pos) (fun σ h => (r σ h).bind fun xs h1 => mkX cf z.T c xs h1) := by
  intro σ h y h1 e ρ ω M σ' H sr Q w
  obtain ⟨xs, h2, e1, e2⟩ := bind_ok e
  obtain ⟨C, hC, e3, rfl⟩ := mkX_inv e2
  obtain ⟨fn, hfn⟩ := hc.1 C.init _ _ _ _ e3
  have co := zk.cl c C hC
  have F := gx.fnok hc hfn
  have fo := zk.fn C.init fn hfn
  have hb : L2.Binds X.K (z.fd C.init) (z.ps C.init) [] := by rw [gx.K]; exact fo.binds
  have hm' : X.mg x = some (.ref (z.κ c)) := by rw [gx.mg]; exact hm
  have hM : L2.Mk X.K (z.κ c) (z.φ C.init) := by rw [gx.K]; exact co.make
  simp only [List.all_cons, Bool.and_eq_true] at ho
  refine we_pe (L2.pe_make hM F gx.room hg hm' hb .nil L2.pass0 (pa_wa X _) hd (ord_star ho.1 _ _) (stars_any ho.2 _ _)) (kr σ h xs h2 e1 ρ ω M σ' H sr _ fun ρ1 M1 H1 vs x1 f1 sr1 rvs => ?_)
  intro x dx nx nd ne
  rw [List.append_nil]
  exact mk_sp e3 sr1 rvs nx nd ne (wnt_of w x1 f1 sr1)
end Br
set_option Elab.async false
set_option linter.all false
set_option maxRecDepth 100000
set_option maxHeartbeats 400000
namespace Br
open PySem PySem.Spec PyProof.Rows PySem.SeqAt
variable {z : Z} {M M' : Addr → Prop} {H H' : Hp} {X : L2.Cx} {k : Nat}
def rcX (cf : Nat → List PF.V → PF.Hp → PF.R PF.X) (T : PF.Tab) (c : Nat) (xs : List PF.V) (h1 : PF.Hp) : PF.R PF.X := match T.cls c, PF.allD xs with
  | some C, some _ => (cf C.init (.ref 0 :: xs) [.ins c []]).bind fun r h2 => match r, h2 with
    | .v (.d .non), [.ins c' vs] => match PF.allD vs with
      | some ds => if c' = c then .ok (PF.dat (.ins c ds)) h1 else .err
      | none => .err
    | _, _ => .err
  | _, _ => .err
theorem rcX_inv {cf : Nat → List PF.V → PF.Hp → PF.R PF.X} {T : PF.Tab} {c : Nat} {xs : List PF.V} {h h1 : PF.Hp} {y : PF.X} (e : rcX cf T c xs h = .ok y h1) : ∃ C ds0 vs ds, T.cls c = some C ∧ PF.allD xs = some ds0 ∧ cf C.init (.ref 0 :: xs) [.ins c []] = .ok (PF.dat .non) [.ins c vs] ∧ PF.allD vs = some ds ∧ y = PF.dat (.ins c ds) ∧ h1 = h := by
  unfold rcX at e
  split at e
  · rename_i C ds0 hC hd
    obtain ⟨r, h2, e1, e2⟩ := bind_ok e
    split at e2
    · rename_i c' vs
      split at e2
      · rename_i ds hds
        split at e2
        · rename_i q
          subst q
          cases e2
          exact ⟨C, ds0, vs, ds, hC, hd, e1, hds, rfl, rfl⟩
        · cases e2
      · cases e2
    · cases e2
  · cases e
theorem rc_sp {cf : Nat → List PF.V → PF.Hp → PF.R PF.X} {f c : Nat} {xs ws : List PF.V} {ds0 ds : List PF.D} {h : PF.Hp} {ρ : List Addr} {ω : Om} {σ : PF.St} {σ' : L2.St} {vs : List L2.V} {Q : L2.VK} {E : L2.XK} {x dx : Addr} (hd0 : PF.allD xs = some ds0) (e : cf f (.ref 0 :: xs) [.ins c []] = .ok (PF.dat .non) [.ins c ws]) (hds : PF.allD ws = some ds)
    (sr : SR z ρ ω M σ h σ' H) (rv : RVs z ρ M H xs vs) (nx : H x = none) (nd : H dx = none) (ne : dx ≠ x) (w : Wnt z ρ ω M σ σ' H (PF.dat (.ins c ds)) h Q) : spF z cf f (.ref x :: vs) (L2.upd (L2.upd H dx (.own x)) x (.ins (z.κ c) dx [])) (fun v H2 => v = .non ∧ Q (.ref x) H2) E := by
  have nw := made_new (C := z.κ c) nx nd ne
  have kp : Kp M H (fun b => M b ∨ b = x) (L2.upd (L2.upd H dx (.own x)) x (.ins (z.κ c) dx [])) := fun b o e n => ⟨nw b o e, fun q => q.elim n fun q => by rw [q, nx] at e; cases e⟩
  have hr1 : HR z [x] (fun b => M b ∨ b = x) [.ins c []] (L2.upd (L2.upd H dx (.own x)) x (.ins (z.κ c) dx [])) := by
    refine ⟨rfl, by simp, fun b hb => by simp at hb; exact .inr hb, fun a o b g1 g2 => ?_⟩
    have : a = 0 := by
      have := (List.getElem?_eq_some_iff.mp g1).1
      simp at this
      exact this
    subst this
    simp at g1 g2
    subst g1 g2
    exact .ins L2.upd_same (by simp [fnames0]) .nil
  refine ⟨.ref 0 :: xs, [.ins c []], PF.dat .non, [.ins c ws], [x], (fun b => M b ∨ b = x), e, hr1, .cons (.ref rfl) (RDs.toV hd0 (rv.kp Ext.refl kp) [x]), fun ρ1 M1 H1 v x1 f1 hr2 rx _ => ?_⟩
  cases rx with
  | v r =>
    refine ⟨r.d_inv.non_inv, ?_⟩
    have hx0 : ρ1[0]? = some x := x1 0 x rfl
    have hρ : ρ1 = [x] := by
      have := hr2.len
      match ρ1, this, hx0 with
      | [y], _, q => simp at q; rw [q]
    have f2 : Fm ρ M H ρ (fun b => M1 b ∧ b ≠ x) H1 := fun b o q n => by
      have hbx : b ≠ x := L2.ne_of_none q nx
      obtain ⟨g1, g2, g3⟩ := f1 b o (nw b o q) (by simp [hbx])
      refine ⟨g1, n, ?_⟩
      constructor
      · rintro ⟨a, _⟩
        exact (g3.mp a).elim id fun s => absurd s hbx
      · intro a
        exact ⟨g3.mpr (.inl a), hbx⟩
    have hr3 : HR z ρ (fun b => M1 b ∧ b ≠ x) h H1 := sr.hr.kp (f2.kp sr.hr.mu) fun b hb => by
      obtain ⟨u, hu⟩ := sr.hr.alive hb
      have hbx : b ≠ x := L2.ne_of_none hu nx
      obtain ⟨g1, g2, g3⟩ := f1 b u (nw b u hu) (by simp [hbx])
      exact ⟨⟨g3.mpr (.inl (sr.hr.mu b hb)), hbx⟩, by rw [g1, hu]⟩
    have ro := hr2.obj 0 _ x rfl hx0
    cases ro with
    | ins a1 a2 a3 =>
      have rds := a3.allD hds
      have k2 : Kp M1 H1 (fun b => M1 b ∧ b ≠ x) H1 := fun b o e n => ⟨e, fun q => n q.1⟩
      refine w ρ (fun b => M1 b ∧ b ≠ x) H1 (.ref x) Ext.refl f2 (sr.fm f2 Ext.refl hr3) (.v (.d (.ins a1 (fun q => q.2 rfl) ?_ (rds.kp k2)))) True.intro
      rw [a2]
      have : ws.length = ds.length := by
        rw [a3.length, ← rds.length]
      rw [this]
theorem ok_rc {cf : Nat → List PF.V → PF.Hp → PF.R PF.X} {c : Nat} {x : Str} {a : Expr} {es : List Expr} {r : Rl} {p pos : Pos} (zk : ZOk z) (gx : GX z (k + 1) X) (hc : CfOk z k cf) (hg : L2.Gl X x) (hm : z.mg x = some (.ref (z.κ c))) (hd : (x == ("__debug__" : Str)) = false) (kr : ArOk z X (a :: es) r) (ho : (a :: es).all ord = true) :
    EvOk z X (.Call (.Name x p) (a :: es) [] pos) (fun σ h => (r σ h).bind fun xs h1 => rcX cf z.T c xs h1) := by
  intro σ h y h1 e ρ ω M σ' H sr Q w
  obtain ⟨xs, h2, e1, e2⟩ := bind_ok e
  obtain ⟨C, ds0, vs0, ds, hC, hd0, e3, hds, rfl, rfl⟩ := rcX_inv e2
  obtain ⟨fn, hfn⟩ := hc.1 C.init _ _ _ _ e3
  have co := zk.cl c C hC
  have F := gx.fnok hc hfn
  have fo := zk.fn C.init fn hfn
  have hb : L2.Binds X.K (z.fd C.init) (z.ps C.init) [] := by rw [gx.K]; exact fo.binds
  have hm' : X.mg x = some (.ref (z.κ c)) := by rw [gx.mg]; exact hm
  have hM : L2.Mk X.K (z.κ c) (z.φ C.init) := by rw [gx.K]; exact co.make
  simp only [List.all_cons, Bool.and_eq_true] at ho
  refine we_pe (L2.pe_make hM F gx.room hg hm' hb .nil L2.pass0 (pa_wa X _) hd (ord_star ho.1 _ _) (stars_any ho.2 _ _)) (kr σ h xs _ e1 ρ ω M σ' H sr _ fun ρ1 M1 H1 vs x1 f1 sr1 rvs => ?_)
  intro x dx nx nd ne
  rw [List.append_nil]
  exact rc_sp hd0 e3 hds sr1 rvs nx nd ne (wnt_of w x1 f1 sr1)
/-! ### owned lists and dicts read -/
/-- the owned object in a slot -/
theorem own_l {ρ : List Addr} {ω : Om} {σ : PF.St} {h : PF.Hp} {σ' : L2.St} {i : Nat} {xs : List PF.D} (sr : SR z ρ ω M σ h σ' H) (q : PF.get σ i = some (.ol xs)) : ∃ b ys, ω i = some b ∧ σ'[i]? = some (some (.ref b)) ∧ H b = some (.lst ys) ∧ RDs z M H xs ys := by
  obtain ⟨v, g1, g2⟩ := sr.slot i _ (get_some q)
  cases g2 with
  | ol a b r => exact ⟨_, _, a, g1, b, r⟩
theorem own_d {ρ : List Addr} {ω : Om} {σ : PF.St} {h : PF.Hp} {σ' : L2.St} {i : Nat} {ks vs : List PF.D} (sr : SR z ρ ω M σ h σ' H) (q : PF.get σ i = some (.od ks vs)) : ∃ b ys, ω i = some b ∧ σ'[i]? = some (some (.ref b)) ∧ H b = some (.dK ys) ∧ KsR ks (ys.map (·.1)) ∧ RDs z M H vs (ys.map (·.2)) := by
  obtain ⟨v, g1, g2⟩ := sr.slot i _ (get_some q)
  cases g2 with
  | od a b c r => exact ⟨_, _, a, g1, b, c, r⟩
/-- the owned object, seen as data while nothing else is done -/
theorem own_view {ρ : List Addr} {ω : Om} {σ : PF.St} {h : PF.Hp} {σ' : L2.St} {i : Nat} {xs : List PF.D} (sr : SR z ρ ω M σ h σ' H) (q : PF.get σ i = some (.ol xs)) : ∃ b, σ'[i]? = some (some (.ref b)) ∧ RD z (Bw ω M) H (.lst xs) (.ref b) := by
  obtain ⟨b, ys, a, g1, g2, r⟩ := own_l sr q
  exact ⟨b, g1, .lst g2 (fun q => q.2 i a) (r.kp bw_kp)⟩
theorem own_viewD {ρ : List Addr} {ω : Om} {σ : PF.St} {h : PF.Hp} {σ' : L2.St} {i : Nat} {ks vs : List PF.D} (sr : SR z ρ ω M σ h σ' H) (q : PF.get σ i = some (.od ks vs)) : ∃ b, σ'[i]? = some (some (.ref b)) ∧ RD z (Bw ω M) H (.dic ks vs) (.ref b) := by
  obtain ⟨b, ys, a, g1, g2, c, r⟩ := own_d sr q
  exact ⟨b, g1, .dic g2 (fun q => q.2 i a) c (r.kp bw_kp)⟩
/-- the state with the owned objects seen as data -/
theorem SR.view {ρ : List Addr} {ω : Om} {σ : PF.St} {h : PF.Hp} {σ' : L2.St} (sr : SR z ρ ω M σ h σ' H) : SR z ρ (fun _ => none) (Bw ω M) [] h [] H :=
  ⟨sr.hr.kp bw_kp fun b hb => ⟨⟨sr.hr.mu b hb, fun i q => (sr.om i b q).2.1 hb⟩, rfl⟩, (fun i s e => by simp at e), rfl, (fun i b e => nomatch e), (fun i j b e => nomatch e)⟩
section
variable {i : Nat} {x : Str} {p p2 pos : Pos}
structure NameOk (X : L2.Cx) (i : Nat) (x : Str) : Prop where
  at_ : X.N[i]? = some x
  vis : L2.Vis X.env.scope x
  nd : (x == ("__debug__" : Str)) = false
  nc : (x == ("__classdict__" : Str)) = false
theorem NameOk.pe (n : NameOk X i x) : L2.PE X (.Name x p) (L2.tVar i) := L2.pe_var n.at_ n.vis n.nd n.nc
theorem ok_lenO (gx : GX z k X) (n : NameOk X i x) (hg : L2.Gl X "len") (hm : z.mg "len" = none) : EvOk z X (.Call (.Name "len" p) [.Name x p2] [] pos) (fun σ h => match PF.get σ i with
    | some (.ol xs) => .ok (PF.dat (.int xs.length)) h
    | _ => .err) := by
  intro σ h y h1 e ρ ω M σ' H sr Q c
  simp only at e
  split at e
  · rename_i xs q
    cases e
    obtain ⟨b, ys, a, g1, g2, r⟩ := own_l sr q
    refine we_pe (L2.pe_callB L2.call_len_seq hg (by rw [gx.mg]; exact hm) PySem.boot_len (L2.pa_cons n.pe L2.pa_nil)) ⟨_, g1, b, ys, rfl, .inl (L2.SqL.of g2), ?_⟩
    rw [← r.length]
    exact c ρ M H _ Ext.refl Fm.refl sr (.v (.d (.int _))) True.intro
  · cases e
theorem RV.view {ρ : List Addr} {ω : Om} {v : PF.V} {u : L2.V} (r : RV z ρ M H v u) : RV z ρ (Bw ω M) H v u := r.kp Ext.refl bw_kp
/-- an element of an owned list holds no owned object -/
theorem ok_ixO {b : Expr} {rb : Rx} (gx : GX z k X) (n : NameOk X i x) (kb : EvOk z X b rb) (ob : ord b = true) : EvOk z X (.Subscript (.Name x p) b pos) (fun σ h => (rb σ h).bind fun y h1 => match PF.get σ i, y with
    | some (.ol xs), .v (.d k) => (PF.lift (PF.ixD (.lst xs) k) h1).bind fun r h1 => .ok (PF.dat r) h1
    | some (.od ks vs), .v (.d k) => (PF.lift (PF.ixD (.dic ks vs) k) h1).bind fun r h1 => .ok (PF.dat r) h1
    | _, _ => .err) := by
  intro σ h y h1 e ρ ω M σ' H sr Q c
  obtain ⟨xb, h2, e1, e2⟩ := bind_ok e
  split at e2
  · rename_i xs dk q
    obtain ⟨r, h3, e3, e4⟩ := bind_ok e2
    obtain ⟨e3', rfl⟩ := lift_ok e3
    cases e4
    cases dk with
    | int n' =>
      simp only [PF.ixD, Option.bind_eq_some_iff] at e3'
      obtain ⟨j, g1, g2⟩ := e3'
      obtain ⟨b0, ys0, a0, s0, _⟩ := own_l sr q
      refine we_pe (L2.pe_ix L2.ix_list n.pe (pe_we X b) (ord_ix ob)) ⟨_, s0, kb.v e1 sr fun ρ1 M1 H1 u x1 f1 sr1 ru => ?_⟩
      obtain ⟨b1, ys, a1, s1, g3, g4⟩ := own_l sr1 q
      rw [s0] at s1
      cases s1
      obtain ⟨w, g5, g6⟩ := g4.get g2
      exact ⟨b0, ys, n', w, rfl, (RV.d_inv (x := .int n') ru).int_inv, L2.SqL.of g3, atI_of (by rw [← g4.length]; exact g1) g5, c ρ1 M1 H1 w x1 f1 sr1 (.v (.d g6)) True.intro⟩
    | _ => simp [PF.ixD] at e3'
  · rename_i ks vs dk q
    obtain ⟨r, h3, e3, e4⟩ := bind_ok e2
    obtain ⟨e3', rfl⟩ := lift_ok e3
    cases e4
    have e5 : (if PF.isKey dk = true then PF.dicGet dk ks vs else none) = some r := by
      cases dk <;> exact e3'
    split at e5
    · rename_i hf
      obtain ⟨j, hk⟩ := key_of_isKey hf
      obtain ⟨b0, ys0, a0, s0, _⟩ := own_d sr q
      have hu := gx.room.units
      refine we_pe (L2.pe_ix (ix_dict (by omega)) n.pe (pe_we X b) (ord_ix ob)) ⟨_, s0, kb.v e1 sr fun ρ1 M1 H1 u x1 f1 sr1 ru => ?_⟩
      obtain ⟨b1, ys, a1, s1, g3, g4, g5⟩ := own_d sr1 q
      rw [s0] at s1
      cases s1
      obtain ⟨w, g6, g7⟩ := KsR.getD hk g4 g5 e5
      refine ⟨b0, w, rfl, ?_, c ρ1 M1 H1 w x1 f1 sr1 (.v (.d g7)) True.intro⟩
      rw [keyR_kV hk (RV.d_inv (x := dk) ru), ← g6]
      exact L2.DGet.k g3
    · cases e5
  · cases e2
def innOX (n : Bool) (s : Option PF.SV) (y : PF.X) (h1 : PF.Hp) : PF.R PF.X := match s, y with
  | some (.ol xs), .v (.d k) => (PF.lift (PF.inD k (.lst xs)) h1).bind fun r h1 => .ok (PF.dat (.bl (if n then !r else r))) h1
  | some (.od ks vs), .v (.d k) => (PF.lift (PF.inD k (.dic ks vs)) h1).bind fun r h1 => .ok (PF.dat (.bl (if n then !r else r))) h1
  | _, _ => .err
theorem innOX_inv {n : Bool} {s : Option PF.SV} {xb y : PF.X} {h h1 : PF.Hp} (e : innOX n s xb h = .ok y h1) : h1 = h ∧ ∃ dk d r, xb = .v (.d dk) ∧ ((∃ xs, s = some (.ol xs) ∧ d = .lst xs) ∨ ∃ ks vs, s = some (.od ks vs) ∧ d = .dic ks vs) ∧ PF.inD dk d = some r ∧ y = PF.dat (.bl (if n then !r else r)) := by
  unfold innOX at e
  split at e
  · rename_i xs dk
    obtain ⟨r, h3, e3, e4⟩ := bind_ok e
    obtain ⟨e3', rfl⟩ := lift_ok e3
    cases e4
    exact ⟨rfl, dk, _, r, rfl, .inl ⟨xs, rfl, rfl⟩, e3', rfl⟩
  · rename_i ks vs dk
    obtain ⟨r, h3, e3, e4⟩ := bind_ok e
    obtain ⟨e3', rfl⟩ := lift_ok e3
    cases e4
    exact ⟨rfl, dk, _, r, rfl, .inr ⟨ks, vs, rfl, rfl⟩, e3', rfl⟩
  · cases e
theorem own_any {ρ : List Addr} {ω : Om} {σ : PF.St} {h : PF.Hp} {σ' : L2.St} {d : PF.D} (sr : SR z ρ ω M σ h σ' H) (hd : (∃ xs, PF.get σ i = some (.ol xs) ∧ d = .lst xs) ∨ ∃ ks vs, PF.get σ i = some (.od ks vs) ∧ d = .dic ks vs) : ∃ b, σ'[i]? = some (some (.ref b)) ∧ RD z (Bw ω M) H d (.ref b) := by
  rcases hd with ⟨xs, q, rfl⟩ | ⟨ks, vs, q, rfl⟩
  · exact own_view sr q
  · exact own_viewD sr q
theorem ok_innO {nb : Bool} {a : Expr} {ra : Rx} (gx : GX z k X) (n : NameOk X i x) (ka : EvOk z X a ra) : EvOk z X (.Compare a [inO nb] [.Name x p] pos) (fun σ h => (ra σ h).bind fun y h1 => innOX nb (PF.get σ i) y h1) := by
  intro σ h y h1 e ρ ω M σ' H sr Q c
  obtain ⟨xa, h2, e1, e2⟩ := bind_ok e
  obtain ⟨rfl, dk, d, r, rfl, hd, e3, rfl⟩ := innOX_inv e2
  obtain ⟨t, ht, ho⟩ := in_ok (n := nb) (x := .d dk) (y := .d d) (h := h1) gx.K gx.room.units e3
  refine we_pe (L2.pe_cmpR ht (pe_we X a) n.pe (by cases nb <;> rfl)) (ka.v e1 sr fun ρ1 M1 H1 v x1 f1 sr1 rv => ?_)
  obtain ⟨b, g1, g2⟩ := own_any sr1 hd
  exact ⟨_, g1, ho sr1.view rv.view (.d g2) (Wnt.bl c x1 f1 sr1)⟩
theorem te_innO {nb : Bool} {a : Expr} {ra : Rx} (gx : GX z k X) (n : NameOk X i x) (ka : EvOk z X a ra) : TeOk z X (.Compare a [inO nb] [.Name x p] pos) (xb fun σ h => (ra σ h).bind fun y h1 => innOX nb (PF.get σ i) y h1) := by
  intro σ h y h1 e ρ ω M σ' H sr Q c
  obtain ⟨xr, hr, e0, er⟩ := bind_ok e
  obtain ⟨xa, h2, e1, e2⟩ := bind_ok e0
  obtain ⟨rfl, dk, d, r, rfl, hd, e3, rfl⟩ := innOX_inv e2
  cases er
  obtain ⟨t, ht, ho⟩ := in_ok (n := nb) (x := .d dk) (y := .d d) (h := h1) gx.K gx.room.units e3
  refine wt_pt (L2.pt_cmpR ht (pe_we X a) n.pe (by cases nb <;> rfl)) (ka.v e1 sr fun ρ1 M1 H1 v x1 f1 sr1 rv => ?_)
  obtain ⟨b, g1, g2⟩ := own_any sr1 hd
  exact ⟨_, g1, ho sr1.view rv.view (.d g2) ⟨_, rfl, c ρ1 M1 H1 x1 f1 sr1⟩⟩
def eqO : Bool → CmpOp
  | true => .NotEq
  | false => .Eq
theorem nil_cp {xs : List PF.D} {h : PF.Hp} (nb : Bool) (gx : GX z k X) : CpOk z X (compareOp (eqO nb)) (.d (.lst xs)) (.d (.lst [])) h (if nb then !xs.isEmpty else xs.isEmpty) := by
  cases nb with
  | false => exact cp_ok (o := .eq) gx.K gx.room.units rfl
  | true => exact cp_ok (o := .ne) gx.K gx.room.units rfl
theorem te_nilO {nb : Bool} {p3 : Pos} (gx : GX z k X) (n : NameOk X i x) : TeOk z X (.Compare (.Name x p) [eqO nb] [.List [] p3] pos) (xb fun σ h => match PF.get σ i with
    | some (.ol xs) => .ok (PF.dat (.bl (if nb then !xs.isEmpty else xs.isEmpty))) h
    | _ => .err) := by
  intro σ h y h1 e ρ ω M σ' H sr Q c
  obtain ⟨xr, hr, e0, er⟩ := bind_ok e
  simp only at e0
  split at e0
  · rename_i xs q
    cases e0
    cases er
    obtain ⟨t, ht, ho⟩ := nil_cp (z := z) (h := h) (xs := xs) nb gx
    obtain ⟨b, g1, g2⟩ := own_view sr q
    refine wt_pt (L2.pt_cmpR ht n.pe (L2.pe_lst L2.pa_nil) (by cases nb <;> rfl)) ⟨_, g1, Nat.zero_le _, fun p hp => ?_⟩
    have hm : ∀ q, q ≠ p → ((M q ∧ q ≠ p) ↔ M q) := fun q n => ⟨fun e => e.1, fun e => ⟨e, n⟩⟩
    have sr2 := sr.new (o := .lst []) hp hm
    have f2 : Fm ρ M H ρ (fun q => M q ∧ q ≠ p) (L2.upd H p (.lst [])) := Fm.new hp hm
    have kp : Kp (Bw ω M) H (Bw ω fun q => M q ∧ q ≠ p) (L2.upd H p (.lst [])) := bw_fm sr f2
    exact ho sr2.view (.d (g2.kp kp)) (.d (.lst L2.upd_same (fun q => q.1.2 rfl) .nil)) ⟨_, rfl, c ρ _ _ Ext.refl f2 sr2⟩
  · cases e0
end
end Br
set_option Elab.async false
set_option linter.all false
set_option maxRecDepth 100000
set_option maxHeartbeats 400000
namespace Br
open PySem PySem.Spec PyProof.Rows PySem.SeqAt
variable {z : Z} {M M' : Addr → Prop} {H H' : Hp} {X : L2.Cx} {k : Nat}
/-! ### what is walked -/
/-- what comes at turn i -/
def Yl (z : Z) (xs : List PF.V) (i : Nat) (M : Addr → Prop) (H : Hp) (v : L2.V) (H' : Hp) : Prop := ∃ x, xs[i]? = some (.d x) ∧
  ((H' = H ∧ RD z M H x v) ∨ ∃ p ys ds, H p = none ∧ v = .ref p ∧ H' = L2.upd H p (.tup ys) ∧ x = .tup ds ∧ RDs z M H ds ys)
def Wk (z : Z) (J : L2.It) (xs : List PF.V) (M1 : Addr → Prop) (H1 : Hp) : Prop := ∀ M' H', Kp M1 H1 M' H' → (∀ i, i < xs.length → J.go i H') ∧ J.stop xs.length H' ∧ ∀ i v H'', i < xs.length → J.yld i H' v H'' → Yl z xs i M' H' v H''
def ItOk (z : Z) (X : L2.Cx) (tg iter : Expr) (r : Rl) : Prop := ∀ σ h xs h1, r σ h = .ok xs h1 → ∃ wi : L2.TI, L2.PI X tg iter wi ∧ ∀ ρ ω M σ' H, SR z ρ ω M σ h σ' H → ∀ R : L2.It → Hp → Prop,
  (∀ ρ1 M1 H1 J, Ext ρ ρ1 → Fm ρ M H ρ1 M1 H1 → SR z ρ1 ω M1 σ h1 σ' H1 → Wk z J xs M1 H1 → R J H1) → wi σ' H R
theorem sqL_inj {K : PySem.W.Frag} {a : Addr} {xs ys : List L2.V} (h : H a = some (.lst xs)) (q : ∀ zs, L2.SqL K H a zs → zs = xs) (g : L2.SqL K H a ys) : ys = xs := q ys g
theorem rds_map {ds : List PF.D} {ys : List L2.V} (r : RDs z M H ds ys) {i : Nat} {x : L2.V} (e : ys[i]? = some x) : ∃ d, (ds.map PF.V.d)[i]? = some (.d d) ∧ RD z M H d x := by
  have hl : i < ds.length := by rw [r.length]; exact (List.getElem?_eq_some_iff.mp e).1
  obtain ⟨y, g1, g2⟩ := r.get (i := i) (x := ds[i]) (by simp [hl])
  rw [e] at g1
  cases g1
  exact ⟨ds[i], by simp [hl], g2⟩
/-- over a list of data -/
theorem it_list {tg e : Expr} {r : Rx} (gx : GX z k X) (ke : EvOk z X e r) : ItOk z X tg e (fun σ h => (r σ h).bind fun x h1 => PF.lift (PF.walkV x.toV) h1) := by
  intro σ h xs h1 e0
  obtain ⟨x, h2, e1, e2⟩ := bind_ok e0
  obtain ⟨e3, rfl⟩ := lift_ok e2
  unfold PF.walkV at e3
  split at e3
  · rename_i ds hx
    cases e3
    refine ⟨_, L2.pi_list (pe_we X e), fun ρ ω M σ' H sr R c => ke.v e1 sr fun ρ1 M1 H1 v x1 f1 sr1 rv => ?_⟩
    rw [hx] at rv
    obtain ⟨a, ys, rfl, g1, g2, g3⟩ := rv.d_inv.lst_inv
    refine ⟨a, rfl, ⟨ys, L2.SqL.of g1⟩, c ρ1 M1 H1 _ x1 f1 sr1 fun M' H' kp => ?_⟩
    obtain ⟨g4, g5⟩ := kp a _ g1 g2
    have g6 := g3.kp kp
    refine ⟨fun i hi => ?_, ⟨ys, L2.SqL.of g4, by rw [List.length_map, g3.length]; exact Nat.le_refl _⟩, fun i v H'' hi y => ?_⟩
    · rw [List.length_map, g3.length] at hi
      exact ⟨ys, ys[i], L2.SqL.of g4, by simp [hi]⟩
    · obtain ⟨rfl, hy⟩ := y
      obtain ⟨d, q1, q2⟩ := rds_map g6 (hy ys (L2.SqL.of g4))
      exact ⟨d, q1, .inl ⟨rfl, q2⟩⟩
  · rename_i ds hx
    cases e3
    refine ⟨_, L2.pi_tup (pe_we X e), fun ρ ω M σ' H sr R c => ke.v e1 sr fun ρ1 M1 H1 v x1 f1 sr1 rv => ?_⟩
    rw [hx] at rv
    obtain ⟨a, ys, rfl, g1, g2, g3⟩ := rv.d_inv.tup_inv
    refine ⟨a, rfl, ⟨ys, by rw [gx.K]; exact g1⟩, c ρ1 M1 H1 _ x1 f1 sr1 fun M' H' kp => ?_⟩
    have g4 : L2.SqT X.K H' a ys := by
      rw [gx.K]
      rcases g2 with ⟨g2, n⟩ | g2
      · exact L2.SqT.of (kp a _ g2 n).1
      · exact .inr g2
    have g6 := g3.kp kp
    refine ⟨fun i hi => ?_, ⟨ys, g4, by rw [List.length_map, g3.length]; exact Nat.le_refl _⟩, fun i v H'' hi y => ?_⟩
    · rw [List.length_map, g3.length] at hi
      exact ⟨ys, ys[i], g4, by simp [hi]⟩
    · obtain ⟨rfl, hy⟩ := y
      obtain ⟨d, q1, q2⟩ := rds_map g6 (hy ys g4)
      exact ⟨d, q1, .inl ⟨rfl, q2⟩⟩
  · rename_i s hx
    cases e3
    refine ⟨_, L2.pi_str (pe_we X e), fun ρ ω M σ' H sr R c => ke.v e1 sr fun ρ1 M1 H1 v x1 f1 sr1 rv => ?_⟩
    rw [hx] at rv
    refine ⟨sOf s, rv.d_inv.str_inv, c ρ1 M1 H1 _ x1 f1 sr1 fun M' H' kp => ?_⟩
    have hsz : (sOf s).cps.size = s.length := by simp [sOf]
    refine ⟨fun i hi => ?_, ?_, fun i v H'' hi y => ?_⟩
    · show i < (sOf s).cps.size
      rw [hsz]; simpa using hi
    · show (sOf s).cps.size ≤ _
      rw [hsz]; simp
    · obtain ⟨rfl, c, hc, rfl⟩ := y
      rw [List.length_map] at hi
      have hc2 : s[i]? = some c := by simpa [sOf] using hc
      exact ⟨.str [c], by rw [List.getElem?_map, hc2]; rfl, .inl ⟨rfl, .str [c]⟩⟩
  · rename_i ns hx
    cases e3
    refine ⟨_, L2.pi_list (pe_we X e), fun ρ ω M σ' H sr R c => ke.v e1 sr fun ρ1 M1 H1 v x1 f1 sr1 rv => ?_⟩
    rw [hx] at rv
    cases rv with
    | scr g =>
      have sq : ∀ {M' : Addr → Prop} {H' : Hp}, Kp M1 H1 M' H' → L2.SqL X.K H' _ (ns.map L2.V.int) := fun {M' H'} kp => by
        rcases g with ⟨o, g1, g2⟩ | g
        · exact .inl (.inr ⟨o, (kp _ _ g1 g2).1⟩)
        · rw [gx.K]; exact .inr g
      refine ⟨_, rfl, ⟨_, sq fun b o e n => ⟨e, n⟩⟩, c ρ1 M1 H1 _ x1 f1 sr1 fun M' H' kp => ?_⟩
      have g4 := sq kp
      refine ⟨fun i hi => ?_, ⟨_, g4, by simp⟩, fun i v H'' hi y => ?_⟩
      · rw [List.length_map] at hi
        exact ⟨_, .int ns[i], g4, by simp [hi]⟩
      · obtain ⟨rfl, hy⟩ := y
        have q := hy _ g4
        rw [List.length_map] at hi
        simp [hi] at q
        subst q
        exact ⟨.int ns[i], by simp [hi], .inl ⟨rfl, .int _⟩⟩
  · cases e3
theorem rangeL_get {i j : Int} {n : Nat} (h : n < (PF.rangeL i j).length) : (PF.rangeL i j)[n]? = some (.d (.int (i + (n : Int)))) := by
  unfold PF.rangeL at h ⊢
  rw [List.length_map, List.length_range] at h
  rw [List.getElem?_map, List.getElem?_range h]
  rfl
theorem rangeL_len (i j : Int) : (PF.rangeL i j).length = (j - i).toNat := by simp [PF.rangeL]
def rngX (x y : PF.X) (h2 : PF.Hp) : PF.R (List PF.V) := match x, y with
  | .v (.d (.int i)), .v (.d (.int j)) => if PF.inR i && PF.inR j then .ok (PF.rangeL i j) h2 else .err
  | _, _ => .err
theorem rngX_inv {x y : PF.X} {h h1 : PF.Hp} {xs : List PF.V} (e : rngX x y h = .ok xs h1) : ∃ i j, x = .v (.d (.int i)) ∧ y = .v (.d (.int j)) ∧ (PF.inR i = true ∧ PF.inR j = true) ∧ xs = PF.rangeL i j ∧ h1 = h := by
  unfold rngX at e
  split at e
  · split at e
    · rename_i q
      cases e
      exact ⟨_, _, rfl, rfl, by simpa using q, rfl, rfl⟩
    · cases e
  · cases e
theorem inR_62 {i : Int} (h : PF.inR i = true) : -(2 ^ 62) ≤ i ∧ i < 2 ^ 62 := by
  unfold PF.inR at h
  rw [Bool.and_eq_true, decide_eq_true_eq, decide_eq_true_eq] at h
  have e : PF.B62 = 2 ^ 62 := by decide
  rw [e] at h
  exact h
theorem wk_range {i j : Int} {n : Nat} (hn : n = (j - i).toNat) : Wk z (L2.Itr i n) (PF.rangeL i j) M H := fun M' H' kp => by
  rw [rangeL_len]
  subst hn
  refine ⟨fun m hm => hm, Nat.le_refl _, fun m v H'' hm y => ?_⟩
  obtain ⟨rfl, rfl⟩ := y
  exact ⟨_, rangeL_get (by rw [rangeL_len]; exact hm), .inl ⟨rfl, .int _⟩⟩
theorem it_rng1 {tg b : Expr} {rb : Rx} {p pos : Pos} (gx : GX z k X) (hg : L2.Gl X "range") (hm : z.mg "range" = none) (kb : EvOk z X b rb) (ob : ord b = true) : ItOk z X tg (.Call (.Name "range" p) [b] [] pos) (fun σ h => (PF.R.ok (PF.dat (.int 0)) h).bind fun x h1 => (rb σ h1).bind fun y h2 => rngX x y h2) := by
  intro σ h xs h1 e0
  obtain ⟨x, h2, e1, e2⟩ := bind_ok e0
  cases e1
  obtain ⟨y, h3, e3, e4⟩ := bind_ok e2
  obtain ⟨i, j, q1, rfl, q3, rfl, rfl⟩ := rngX_inv e4
  cases q1
  refine ⟨_, L2.pi_range1 hg (by rw [gx.mg]; exact hm) (L2.pa_cons (pe_we X b) L2.pa_nil (ord_star ob _ _)) (ord_star ob _ _), fun ρ ω M σ' H sr R c => kb.v e3 sr fun ρ1 M1 H1 v x1 f1 sr1 rv => ?_⟩
  exact ⟨j, by rw [(RV.d_inv (x := .int j) rv).int_inv], (inR_62 q3.2).1, (inR_62 q3.2).2, c ρ1 M1 H1 _ x1 f1 sr1 (wk_range (by simp))⟩
theorem it_rng2 {tg a b : Expr} {ra rb : Rx} {p pos : Pos} (gx : GX z k X) (hg : L2.Gl X "range") (hm : z.mg "range" = none) (ka : EvOk z X a ra) (kb : EvOk z X b rb) (oa : ord a = true) (ob : ord b = true) : ItOk z X tg (.Call (.Name "range" p) [a, b] [] pos) (fun σ h => (ra σ h).bind fun x h1 => (rb σ h1).bind fun y h2 => rngX x y h2) := by
  intro σ h xs h1 e0
  obtain ⟨x, h2, e1, e2⟩ := bind_ok e0
  obtain ⟨y, h3, e3, e4⟩ := bind_ok e2
  obtain ⟨i, j, rfl, rfl, q3, rfl, rfl⟩ := rngX_inv e4
  refine ⟨_, L2.pi_range2 hg (by rw [gx.mg]; exact hm) (L2.pa_cons (pe_we X a) (L2.pa_cons (pe_we X b) L2.pa_nil (ord_star ob _ _)) (ord_star oa _ _)) (by rw [ord_star oa, ord_star ob]; rfl) (ord_star ob _ _), fun ρ ω M σ' H sr R c => two ka kb e1 e3 sr fun ρ1 M1 H1 v u x1 f1 sr1 rv ru => ?_⟩
  exact ⟨i, j, by rw [(RV.d_inv (x := .int i) rv).int_inv, (RV.d_inv (x := .int j) ru).int_inv], ⟨(inR_62 q3.1).1, (inR_62 q3.1).2, (inR_62 q3.2).1, (inR_62 q3.2).2⟩, c ρ1 M1 H1 _ x1 f1 sr1 (wk_range rfl)⟩
theorem enumF_get : ∀ {ds : List PF.D} {n i : Nat} {d : PF.D}, ds[i]? = some d → (PF.enumF n ds)[i]? = some (.tup [.int ((n + i : Nat) : Int), d])
  | [], _, _, _, e => by simp at e
  | x :: ds, n, 0, d, e => by simp at e; subst e; simp [PF.enumF]
  | x :: ds, n, i + 1, d, e => by
    have := enumF_get (n := n + 1) (i := i) (d := d) (ds := ds) (by simpa using e)
    simp only [PF.enumF, List.getElem?_cons_succ]
    rw [this]
    have : n + 1 + i = n + (i + 1) := by omega
    rw [this]
theorem enumF_len : ∀ (n : Nat) (ds : List PF.D), (PF.enumF n ds).length = ds.length
  | _, [] => rfl
  | n, x :: ds => by simp [PF.enumF, enumF_len (n + 1) ds]
theorem it_enu {e : Expr} {r : Rx} {elts : List Expr} {kk : Nat} {tpos p pos : Pos} (gx : GX z k X) (hg : L2.Gl X "enumerate") (hm : z.mg "enumerate" = none) (ke : EvOk z X e r) (oe : ord e = true) : ItOk z X (.Tuple elts kk tpos) (.Call (.Name "enumerate" p) [e] [] pos) (fun σ h => (r σ h).bind fun x h1 => match x.toV with
    | .d (.lst xs) => .ok ((PF.enumF 0 xs).map .d) h1
    | _ => .err) := by
  intro σ h xs h1 e0
  obtain ⟨x, h2, e1, e2⟩ := bind_ok e0
  split at e2
  · rename_i ds hx
    cases e2
    refine ⟨_, L2.pi_enum hg (by rw [gx.mg]; exact hm) (L2.pa_cons (pe_we X e) L2.pa_nil (ord_star oe _ _)) (ord_star oe _ _), fun ρ ω M σ' H sr R c => ke.v e1 sr fun ρ1 M1 H1 v x1 f1 sr1 rv => ?_⟩
    rw [hx] at rv
    obtain ⟨a, ys, rfl, g1, g2, g3⟩ := rv.d_inv.lst_inv
    refine ⟨a, ys, rfl, L2.SqL.of g1, c ρ1 M1 H1 _ x1 f1 sr1 fun M' H' kp => ?_⟩
    obtain ⟨g4, g5⟩ := kp a _ g1 g2
    have g6 := g3.kp kp
    refine ⟨fun i hi => ?_, ⟨ys, L2.SqL.of g4, by rw [List.length_map, enumF_len, g3.length]; exact Nat.le_refl _⟩, fun i v H'' hi y => ?_⟩
    · rw [List.length_map, enumF_len, g3.length] at hi
      exact ⟨ys, ys[i], L2.SqL.of g4, by simp [hi]⟩
    · obtain ⟨T, x, rfl, hT, rfl, hy⟩ := y
      have q := hy ys (L2.SqL.of g4)
      have hl : i < ds.length := by rw [g6.length]; exact (List.getElem?_eq_some_iff.mp q).1
      obtain ⟨y', q1, q2⟩ := g6.get (i := i) (x := ds[i]) (by simp [hl])
      rw [q] at q1
      cases q1
      refine ⟨.tup [.int ((0 + i : Nat) : Int), ds[i]], by rw [List.getElem?_map, enumF_get (d := ds[i]) (by simp [hl])]; rfl, .inr ⟨T, _, _, hT, rfl, rfl, rfl, .cons ?_ (.cons q2 .nil)⟩⟩
      have : (0 + i : Nat) = i := by omega
      rw [this]
      exact .int _
  · cases e2
end Br
set_option Elab.async false
set_option linter.all false
set_option maxRecDepth 100000
set_option maxHeartbeats 400000
namespace Br
open PySem PySem.Spec PyProof.Rows PySem.SeqAt
variable {z : Z} {M M' : Addr → Prop} {H H' : Hp} {X : L2.Cx} {k : Nat}
/-! ### slots set -/
theorem SR.set {ρ : List Addr} {ω : Om} {σ : PF.St} {h : PF.Hp} {σ' : L2.St} (sr : SR z ρ ω M σ h σ' H) (i : Nat) {x : PF.V} {v : L2.V} (r : RV z ρ M H x v) : SR z ρ ω M (PF.setN σ i (.v x)) h (σ'.set i (some v)) H := by
  refine ⟨sr.hr, fun j s e => ?_, by simp [PF.setN, sr.olen], sr.om, sr.oinj⟩
  unfold PF.setN at e
  by_cases hj : i = j
  · subst hj
    by_cases hi : i < σ.length
    · rw [List.getElem?_set_self hi] at e
      cases e
      exact ⟨v, List.getElem?_set_self (by rw [← sr.olen]; exact hi), .v r⟩
    · rw [List.getElem?_eq_none (by simpa using hi)] at e
      cases e
  · rw [List.getElem?_set_ne hj] at e
    obtain ⟨w, g1, g2⟩ := sr.slot j s e
    exact ⟨w, by rw [List.getElem?_set_ne hj]; exact g1, g2⟩
/-- forgetting a slot, with what it owned -/
theorem SR.wipe {ρ : List Addr} {ω : Om} {σ : PF.St} {h : PF.Hp} {σ' : L2.St} (sr : SR z ρ ω M σ h σ' H) : ∀ vs : List Nat, SR z ρ ω M (PF.wipe σ vs) h (L2.wipe σ' vs) H
  | [] => sr
  | v :: vs => by
    have ih := sr.wipe vs
    refine ⟨ih.hr, fun j s e => ?_, ?_, ih.om, ih.oinj⟩
    · have e : ((PF.wipe σ vs).set v none)[j]? = some (some s) := e
      show ∃ w, ((L2.wipe σ' vs).set v none)[j]? = some (some w) ∧ _
      by_cases hj : v = j
      · subst hj
        by_cases hi : v < (PF.wipe σ vs).length
        · rw [List.getElem?_set_self hi] at e
          cases e
        · rw [List.getElem?_eq_none (by simpa using hi)] at e
          cases e
      · rw [List.getElem?_set_ne hj] at e
        obtain ⟨w, g1, g2⟩ := ih.slot j s e
        exact ⟨w, by rw [List.getElem?_set_ne hj]; exact g1, g2⟩
    · show ((PF.wipe σ vs).set v none).length = ((L2.wipe σ' vs).set v none).length
      rw [List.length_set, List.length_set, ih.olen]
theorem wipe_set {σ : L2.St} {i : Nat} {v : Option L2.V} : ∀ {vs : List Nat}, i ∈ vs → L2.wipe (σ.set i v) vs = L2.wipe σ vs
  | w :: vs, h => by
    unfold L2.wipe
    by_cases hi : i ∈ vs
    · rw [wipe_set hi]
    · have hw : w = i := by
        rcases List.mem_cons.mp h with q | q
        · exact q.symm
        · exact absurd q hi
      subst hw
      have : ∀ us : List Nat, w ∉ us → L2.wipe (σ.set w v) us = (L2.wipe σ us).set w v := by
        intro us
        induction us with
        | nil => intro _; rfl
        | cons a us ih =>
          intro hn
          simp only [List.mem_cons, not_or] at hn
          unfold L2.wipe
          rw [ih hn.2, List.set_comm _ _ (Ne.symm (Ne.symm hn.1))]
      rw [this vs hi, List.set_set]
theorem wipe_wipe {σ : L2.St} (vs : List Nat) : L2.wipe (L2.wipe σ vs) vs = L2.wipe σ vs := by
  have : ∀ us : List Nat, (∀ a ∈ us, a ∈ vs) → L2.wipe (L2.wipe σ us) vs = L2.wipe σ vs := by
    intro us
    induction us with
    | nil => intro _; rfl
    | cons a us ih =>
      intro h
      show L2.wipe ((L2.wipe σ us).set a none) vs = _
      rw [wipe_set (h a List.mem_cons_self), ih fun b hb => h b (List.mem_cons_of_mem _ hb)]
  exact this vs fun a h => h
/-! ### targets -/
/-- a target: what it does to the slots -/
structure TgOk (z : Z) (X : L2.Cx) (tg : Expr) (t : PF.Tg) (own : List Nat) (g : L2.TG) : Prop where
  run : ∀ {ρ : List Addr} {ω : Om} {M : Addr → Prop} {σ σ1 : PF.St} {h : PF.Hp} {σ' : L2.St} {H : Hp} {x : PF.V} {v : L2.V} {Q : L2.St → Hp → Prop}, PF.bindT t x σ = some σ1 → SR z ρ ω M σ h σ' H → RV z ρ M H x v →
    (∀ σ1', SR z ρ ω M σ1 h σ1' H → L2.wipe σ1' own = L2.wipe σ' own → Q σ1' H) → g v σ' H Q
theorem tg_name {x : Str} {pos : Pos} {i : Nat} {own : List Nat} (hi : i ∈ own) : TgOk z X (.Name x pos) (.n i) own (L2.gName i) :=
  ⟨fun {ρ ω M σ σ1 h σ' H x v Q} e sr r c => by
    cases e
    exact c _ (sr.set i r) (wipe_set hi)⟩
/-- several names -/
def gNames : List Nat → L2.TGs
  | [] => L2.gNil
  | i :: is => L2.gCons (L2.gName i) (gNames is)
theorem names_run {own : List Nat} : ∀ {is : List Nat} {ρ : List Addr} {ω : Om} {M : Addr → Prop} {σ σ1 : PF.St} {h : PF.Hp} {σ' : L2.St} {H : Hp} {ds : List PF.D} {vs : List L2.V} {Q : L2.St → Hp → Prop}, (∀ i ∈ is, i ∈ own) → PF.setAll σ is (ds.map .d) = some σ1 → SR z ρ ω M σ h σ' H → RDs z M H ds vs →
    (∀ σ1', SR z ρ ω M σ1 h σ1' H → L2.wipe σ1' own = L2.wipe σ' own → Q σ1' H) → gNames is vs σ' H Q
  | [], _, _, _, _, _, _, _, _, ds, _, _, _, e, sr, r, c => by
    cases r with
    | nil => cases e; exact ⟨rfl, c _ sr rfl⟩
    | cons a b => simp [PF.setAll] at e
  | i :: is, _, _, _, σ, _, _, _, _, ds, _, _, ho, e, sr, r, c => by
    cases r with
    | nil => simp [PF.setAll] at e
    | cons a b =>
      refine ⟨_, _, rfl, names_run (fun j hj => ho j (List.mem_cons_of_mem _ hj)) e (sr.set i (.d a)) b fun σ1' sr1 hw => c σ1' sr1 ?_⟩
      rw [hw]
      exact wipe_set (ho i List.mem_cons_self)
theorem tg_tup {es : List Expr} {kk : Nat} {pos : Pos} {is own : List Nat} (gx : GX z k X) (ho : ∀ i ∈ is, i ∈ own) : TgOk z X (.Tuple es kk pos) (.t is) own (L2.gTup X.K is.length (gNames is)) :=
  ⟨fun {ρ ω M σ σ1 h σ' H x v Q} e sr r c => by
    unfold PF.bindT at e
    simp only at e
    split at e
    · rename_i xs
      obtain ⟨a, ys, rfl, g1, _, g3⟩ := r.d_inv.tup_inv
      have hl : xs.length = is.length := by
        have : ∀ (is : List Nat) (xs : List PF.V) (σ σ1 : PF.St), PF.setAll σ is xs = some σ1 → xs.length = is.length := by
          intro is
          induction is with
          | nil => intro xs σ σ1 e; cases xs with
            | nil => rfl
            | cons a b => simp [PF.setAll] at e
          | cons i is ih => intro xs σ σ1 e; cases xs with
            | nil => simp [PF.setAll] at e
            | cons a b => simp [ih b _ _ e]
        have := this _ _ _ _ e
        simpa using this
      exact ⟨a, ys, rfl, by rw [gx.K]; exact g1, by rw [← g3.length]; exact hl, names_run ho e sr g3 c⟩
    · cases e⟩
theorem own_kp {b : Addr} {u : L2.HO} (hm : M b) : Kp M H M (L2.upd H b u) := fun c o e n => by
  have ne : c ≠ b := fun q => n (by rw [q]; exact hm)
  exact ⟨by rw [L2.upd_ne ne]; exact e, n⟩
/-- a mutable object that is none of the heap's is written -/
theorem HR.own {ρ : List Addr} {h : PF.Hp} (r : HR z ρ M h H) {b : Addr} {u : L2.HO} (hm : M b) (hb : b ∉ ρ) : HR z ρ M h (L2.upd H b u) := by
  have kp : Kp M H M (L2.upd H b u) := own_kp hm
  exact r.kp kp fun c hc => ⟨r.mu c hc, L2.upd_ne fun q => hb (q ▸ hc)⟩
end Br
set_option Elab.async false
set_option linter.all false
set_option maxRecDepth 100000
set_option maxHeartbeats 400000
namespace Br
open PySem PySem.Spec PyProof.Rows PySem.SeqAt
variable {z : Z} {M M' : Addr → Prop} {H H' : Hp} {X : L2.Cx} {k : Nat}
abbrev Blk (X : L2.Cx) (scope : Scope) (s : Shared) (H : Hp) (C : Addr) (cl : List (Str × Addr)) (fp : List Addr) : L2.Cx := X.blk s H scope (compEnvC scope cl C X.env) fp
/-- the tests of a clause -/
structure CdOk (z : Z) (X : L2.Cx) (scope : Scope) (ifs : List Expr) (r : Rb) (tt : L2.TT) : Prop where
  pts : ∀ s H C cl fp, L2.PTs (Blk X scope s H C cl fp) ifs tt
  run : ∀ {σ : PF.St} {h h1 : PF.Hp} {b : Bool} {ρ : List Addr} {ω : Om} {M : Addr → Prop} {σ' : L2.St} {H : Hp} {Q : Bool → Hp → Prop}, r σ h = .ok b h1 → SR z ρ ω M σ h σ' H →
    (∀ ρ1 M1 H1, Ext ρ ρ1 → Fm ρ M H ρ1 M1 H1 → SR z ρ1 ω M1 σ h1 σ' H1 → Q b H1) → tt σ' H Q
theorem cd_nil {scope : Scope} : CdOk z X scope [] (fun _ h => .ok true h) L2.tYes :=
  ⟨fun s H C cl fp => L2.pts_nil, fun {σ h h1 b ρ ω M σ' H Q} e sr c => by cases e; exact c ρ M H Ext.refl Fm.refl sr⟩
theorem cd_one {scope : Scope} {c : Expr} {r : Rx} (kc : ∀ s H C cl fp, TeOk z (Blk X scope s H C cl fp) c (xb r)) : CdOk z X scope [c] (anStep r fun _ h => .ok true h) (fun σ H Q => ∀ s H0 C cl fp, WT (Blk X scope s H0 C cl fp) c σ H Q) :=
  ⟨fun s H C cl fp => L2.pts_one ⟨fun pins s' σ H' Q I h => h s H C cl fp pins s' I⟩, fun {σ h h1 b ρ ω M σ' H Q} e sr c => fun s H0 C cl fp => by
    obtain ⟨d, hd, e2, e3⟩ := step_ok e
    have : b = d ∧ h1 = hd := by cases d <;> (cases e3; exact ⟨rfl, rfl⟩)
    obtain ⟨rfl, rfl⟩ := this
    exact kc s H0 C cl fp σ h b h1 e2 ρ ω M σ' H sr Q c⟩
/-- the turns -/
theorem lc_turns {own : List Nat} {g : L2.TG} {tt : L2.TT} {te : L2.TE} {t : PF.Tg} {tg : Expr} {ifs : List Expr} {scope : Scope} {rc : Rb} {re : Rx} (tgo : TgOk z X tg t own g) (cd : CdOk z X scope ifs rc tt)
    (hte : ∀ {σ : PF.St} {h h1 : PF.Hp} {x : PF.X} {ρ : List Addr} {ω : Om} {M : Addr → Prop} {σ' : L2.St} {H : Hp} {Q : L2.VK}, re σ h = .ok x h1 → SR z ρ ω M σ h σ' H → (∀ ρ1 M1 H1 v, Ext ρ ρ1 → Fm ρ M H ρ1 M1 H1 → SR z ρ1 ω M1 σ h1 σ' H1 → RV z ρ1 M1 H1 x.toV v → Q v H1) → te σ' H Q)
    {σ : PF.St} {h h1 : PF.Hp} {xs : List PF.V} {zs : List PF.D} {ρ : List Addr} {ω : Om} {σ' : L2.St} {D : Addr} {J : L2.It} {Qd : Hp → Prop} (e : PF.lcGo rc (fun σ h => (re σ h).bind PF.xD) t (PF.wipe σ own) xs [] h = .ok zs h1) (sr : SR z ρ ω M σ h σ' H) (wk : Wk z J xs M H) (hD : H D = none)
    (c : ∀ ρ1 M1 H1 ys, Ext ρ ρ1 → Fm ρ M H ρ1 M1 H1 → HR z ρ1 M1 h1 H1 → H1 D = some (.lst ys) → M1 D → D ∉ ρ1 → RDs z M1 H1 zs ys → Qd H1) :
    ∃ W : Nat → Nat → Hp → Prop, (∃ m, W 0 m (L2.upd H D (.lst []))) ∧ ∀ i m H, W i m H →
      (J.stop i H ∧ Qd H) ∨ (J.go i H ∧ ∃ Nx : Hp → Prop, (∀ H', Nx H' → ∃ m', m' < m ∧ W (i + 1) m' H') ∧ ∀ x H', J.yld i H x H' → g x (L2.wipe σ' own) H' fun σ2 H2 => L2.wipe σ2 own = L2.wipe σ' own ∧ tt σ2 H2 fun b H3 =>
        if b = true then te σ2 H3 fun y H4 => ∃ acc, H4 D = some (.lst acc) ∧ acc.length < sizeLine ∧ Nx (L2.upd H4 D (.lst (acc ++ [y]))) else Nx H3) := by
  -- what stands at turn i
  let Pv : Nat → Hp → Prop := fun i H' => ∃ ρ1 M1 h' acc ys, Ext ρ ρ1 ∧ Fm ρ M H ρ1 M1 H' ∧ HR z ρ1 M1 h' H' ∧ H' D = some (.lst ys) ∧ M1 D ∧ D ∉ ρ1 ∧ RDs z M1 H' acc ys ∧ PF.lcGo rc (fun σ h => (re σ h).bind PF.xD) t (PF.wipe σ own) (xs.drop i) acc h' = .ok zs h1
  have hDρ : D ∉ ρ := fun q => by
    obtain ⟨u, hu⟩ := sr.hr.alive q
    rw [hD] at hu; cases hu
  have hm : ∀ q, q ≠ D → ((M q ∨ q = D) ↔ M q) := fun q n => ⟨fun e => e.elim id fun e => absurd e n, .inl⟩
  have walk : L2.Walk J xs.length (fun H' => ∃ M', Kp M H M' H') (fun i H' v H'' => ∀ M', Kp M H M' H' → Yl z xs i M' H' v H'') :=
    ⟨fun i H' hi ⟨M', kp⟩ => (wk M' H' kp).1 i hi, fun H' ⟨M', kp⟩ => (wk M' H' kp).2.1, fun i H' v H'' hi _ y M' kp => (wk M' H' kp).2.2 i v H'' hi y⟩
  refine L2.lc_it walk Pv ⟨ρ, (fun q => M q ∨ q = D), h, [], [], Ext.refl, Fm.new hD hm, sr.hr.new hD hm, L2.upd_same, .inr rfl, hDρ, .nil, e⟩ ?_ ?_ ?_
  · rintro i H' _ ⟨ρ1, M1, h', acc, ys, _, f1, _⟩
    exact ⟨M1, f1.kp sr.hr.mu⟩
  · rintro i v H' H'' hi ⟨ρ1, M1, h', acc, ys, x1, f1, hr1, hD1, mD1, nD1, rds, e1⟩ y
    have kp1 := f1.kp sr.hr.mu
    obtain ⟨x, hx, hy⟩ := y M1 kp1
    have hdrop : xs.drop i = .d x :: xs.drop (i + 1) := by
      rw [List.drop_eq_getElem_cons hi]
      have : xs[i] = .d x := by
        have := List.getElem?_eq_getElem hi
        rw [this] at hx
        exact Option.some.inj hx
      rw [this]
    rw [hdrop] at e1
    unfold PF.lcGo at e1
    have sr1 : SR z ρ1 ω M1 (PF.wipe σ own) h' (L2.wipe σ' own) H' := (sr.fm f1 x1 hr1).wipe own
    -- the item at the heap behind its coming
    obtain ⟨M2, f2, hr2, rv2, hD2, mD2⟩ : ∃ M2, Fm ρ1 M1 H' ρ1 M2 H'' ∧ HR z ρ1 M2 h' H'' ∧ RV z ρ1 M2 H'' (.d x) v ∧ H'' D = some (.lst ys) ∧ M2 D := by
      rcases hy with ⟨rfl, r⟩ | ⟨p, us, ds, hp, rfl, rfl, rfl, r⟩
      · exact ⟨M1, Fm.refl, hr1, .d r, hD1, mD1⟩
      · have hm2 : ∀ q, q ≠ p → ((M1 q ∧ q ≠ p) ↔ M1 q) := fun q n => ⟨fun e => e.1, fun e => ⟨e, n⟩⟩
        have f : Fm ρ1 M1 H' ρ1 (fun q => M1 q ∧ q ≠ p) (L2.upd H' p (.tup us)) := Fm.new hp hm2
        have nDp : D ≠ p := L2.ne_of_none hD1 hp
        exact ⟨_, f, hr1.new hp hm2, .d (.tup (.inl ⟨L2.upd_same, fun q => q.2 rfl⟩) (r.kp (f.kp hr1.mu))), by rw [L2.upd_ne nDp]; exact hD1, ⟨mD1, nDp⟩⟩
    have sr2 : SR z ρ1 ω M2 (PF.wipe σ own) h' (L2.wipe σ' own) H'' := sr1.fm f2 Ext.refl hr2
    have rds2 := rds.kp (f2.kp hr1.mu)
    cases hb : PF.bindT t (.d x) (PF.wipe σ own) with
    | none => simp only [hb] at e1; cases e1
    | some σ1 =>
      simp only [hb] at e1
      refine tgo.run hb sr2 rv2 fun σ1' sr3 hw => ⟨by rw [hw, wipe_wipe], ?_⟩
      obtain ⟨b, h3, e3, e4⟩ := bind_ok e1
      refine cd.run e3 sr3 fun ρ3 M3 H3 x3 f3 sr4 => ?_
      obtain ⟨hD3, nD3, mD3⟩ := f3 D _ hD2 nD1
      have mD3' : M3 D := mD3.mpr mD2
      have rds3 := rds2.kp (f3.kp hr2.mu)
      have F03 : Fm ρ M H ρ3 M3 H3 := (f1.trans f2).trans f3
      cases b with
      | false => exact ite_ff ⟨ρ3, M3, h3, acc, ys, x1.trans x3, F03, sr4.hr, hD3, mD3', nD3, rds3, e4⟩
      | true =>
        obtain ⟨d, h5, e5, e6⟩ := bind_ok (show ((re σ1 h3).bind PF.xD).bind _ = _ from e4)
        obtain ⟨xr, h6, e7, e8⟩ := bind_ok e5
        obtain ⟨q1, rfl⟩ := xD_ok e8
        refine ite_tt (hte e7 sr4 fun ρ4 M4 H4 w x4 f4 sr5 rw' => ?_)
        rw [q1] at rw'
        obtain ⟨hD4, nD4, mD4⟩ := f4 D _ hD3 nD3
        have mD4' : M4 D := mD4.mpr mD3'
        have rds4 := rds3.kp (f4.kp sr4.hr.mu)
        split at e6
        · rename_i hlt
          simp only [decide_eq_true_eq] at hlt
          refine ⟨ys, hD4, by rw [← rds4.length, ← LIM_eq]; exact hlt, ?_⟩
          refine ⟨ρ4, M4, h5, acc ++ [d], ys ++ [w], (x1.trans x3).trans x4, fun b o q n => ?_, sr5.hr.own mD4' nD4, L2.upd_same, mD4', nD4, ?_, e6⟩
          · obtain ⟨g1, g2, g3⟩ := (F03.trans f4) b o q n
            have : b ≠ D := L2.ne_of_none q hD
            exact ⟨by rw [L2.upd_ne this]; exact g1, g2, g3⟩
          · exact (rds4.append (.cons rw'.d_inv .nil)).kp (own_kp mD4')
        · cases e6
  · rintro H' ⟨ρ1, M1, h', acc, ys, x1, f1, hr1, hD1, mD1, nD1, rds, e1⟩
    rw [List.drop_length] at e1
    unfold PF.lcGo at e1
    cases e1
    exact c ρ1 M1 H' ys x1 f1 hr1 hD1 mD1 nD1 rds
theorem ok_lc {tg iter elt : Expr} {ifs : List Expr} {scope : Scope} {ow : List (Str × Nat)} {pos : Pos} {g : L2.TG} {tt : L2.TT} {t : PF.Tg} {ri : Rl} {rc : Rb} {re : Rx} (gx : GX z k X) (ki : ItOk z X tg iter ri) (bo : L2.BlkOk X.N X.env.scope scope ow)
    (hg : ∀ s H C cl fp, L2.PG (Blk X scope s H C cl fp) tg g) (tgo : TgOk z X tg t (ow.map (·.2)) g) (cd : CdOk z X scope ifs rc tt) (ke : ∀ s H C cl fp, EvOk z (Blk X scope s H C cl fp) elt re) (of_ : ord iter = true) :
    EvOk z X (.ListComp elt [⟨tg, iter, ifs, 0⟩] scope pos) (fun σ h => (ri σ h).bind fun xs h1 => (PF.lcGo rc (fun σ h => (re σ h).bind PF.xD) t (PF.wipe σ (ow.map (·.2))) xs [] h1).bind fun ys h2 => .ok (.fl ys) h2) := by
  intro σ h y h1 e ρ ω M σ' H sr Q c
  obtain ⟨xs, h2, e1, e2⟩ := bind_ok e
  obtain ⟨zs, h3, e3, e4⟩ := bind_ok e2
  cases e4
  obtain ⟨wi, hwi, hrun⟩ := ki σ h xs h2 e1
  refine we_pe (L2.pe_lc (te := fun σ H Q => ∀ s H0 C cl fp, WE (Blk X scope s H0 C cl fp) elt σ H Q) gx.calm gx.nd hwi bo hg cd.pts (fun s H C cl fp => ⟨fun pins s' σ H' Q I h => h s H C cl fp pins s' I⟩) (ord_fold of_ _)) (hrun ρ ω M σ' H sr _ fun ρ1 M1 H1 J x1 f1 sr1 wk => ?_)
  intro D hD
  refine lc_turns tgo cd (fun {σ h h1 x ρ ω M σ' H Q} e sr c s H0 C cl fp => (ke s H0 C cl fp).v e sr c) e3 sr1 wk hD fun ρ2 M2 H2 ys x2 f2 hr2 hD2 mD2 nD2 rds => ?_
  refine c ρ2 M2 H2 _ (x1.trans x2) (f1.trans f2) (sr1.fm f2 x2 hr2 |> fun q => ⟨q.hr, q.slot, q.olen, q.om, q.oinj⟩) (.fl hD2 mD2 nD2 (fun i q => ?_) rds) (Nw.back (x := .fl zs) x1 f1 sr1.hr fun b hb => by cases hb; exact hD)
  obtain ⟨_, _, o, ho⟩ := sr1.om i D q
  rw [hD] at ho; cases ho
end Br
set_option Elab.async false
set_option linter.all false
set_option maxRecDepth 100000
set_option maxHeartbeats 400000
namespace Br
open PySem PySem.Spec PyProof.Rows PySem.SeqAt
variable {z : Z} {M M' M'' : Addr → Prop} {H H' H'' : Hp} {X : L2.Cx} {k : Nat}
/-! ### statements -/
section
variable (X)
def WS (st : Stmt) (D : L2.Ends) (σ' : L2.St) (H : Hp) : Prop := ∀ (pins : List (Addr × Obj)) (s : Shared), L2.Inv X pins σ' H s → wpAny (model X.prog X.w) X.A (exec st X.env) (L2.SP X pins D) X.xe s
def WSs (st : List Stmt) (D : L2.Ends) (σ' : L2.St) (H : Hp) : Prop := ∀ (pins : List (Addr × Obj)) (s : Shared), L2.Inv X pins σ' H s → wpAny (model X.prog X.w) X.A (execs st X.env) (L2.SP X pins D) X.xe s
theorem ps_ws (st : Stmt) : L2.PS X st (WS X st) := ⟨fun pins s σ H D I h => h pins s I⟩
theorem pss_wss (st : List Stmt) : L2.PSs X st (WSs X st) := ⟨fun pins s σ H D I h => h pins s I⟩
variable {X}
theorem ws_ps {st : Stmt} {t : L2.TS} (h : L2.PS X st t) {D : L2.Ends} {σ' : L2.St} {H : Hp} (q : t D σ' H) : WS X st D σ' H := fun pins s I => h.run pins s σ' H D I q
theorem wss_pss {st : List Stmt} {t : L2.TS} (h : L2.PSs X st t) {D : L2.Ends} {σ' : L2.St} {H : Hp} (q : t D σ' H) : WSs X st D σ' H := fun pins s I => h.run pins s σ' H D I q
end
/-- the frame of statements: owned objects may change too -/
def FS (ρ : List Addr) (ω : Om) (M : Addr → Prop) (H : Hp) (ρ' : List Addr) (ω' : Om) (M' : Addr → Prop) (H' : Hp) : Prop := ∀ b o, H b = some o → b ∉ ρ → (∀ i, ω i ≠ some b) → H' b = some o ∧ b ∉ ρ' ∧ (∀ i, ω' i ≠ some b) ∧ (M' b ↔ M b)
theorem FS.refl {ρ : List Addr} {ω : Om} : FS ρ ω M H ρ ω M H := fun _ _ e n w => ⟨e, n, w, Iff.rfl⟩
theorem FS.trans {ρ ρ' ρ'' : List Addr} {ω ω' ω'' : Om} (a : FS ρ ω M H ρ' ω' M' H') (b : FS ρ' ω' M' H' ρ'' ω'' M'' H'') : FS ρ ω M H ρ'' ω'' M'' H'' := fun c o e n w =>
  let ⟨e1, n1, w1, i1⟩ := a c o e n w
  let ⟨e2, n2, w2, i2⟩ := b c o e1 n1 w1
  ⟨e2, n2, w2, i2.trans i1⟩
theorem Fm.fs {ρ ρ' : List Addr} {ω : Om} (f : Fm ρ M H ρ' M' H') : FS ρ ω M H ρ' ω M' H' := fun b o e n w =>
  let ⟨e1, n1, i1⟩ := f b o e n
  ⟨e1, n1, w, i1⟩
theorem FS.kp {ρ ρ' : List Addr} {ω ω' : Om} {σ : PF.St} {h : PF.Hp} {σ' : L2.St} (f : FS ρ ω M H ρ' ω' M' H') (sr : SR z ρ ω M σ h σ' H) : Kp M H M' H' := fun b o e n =>
  let ⟨e1, _, _, i1⟩ := f b o e (fun q => n (sr.hr.mu b q)) (fun i q => n (sr.om i b q).1)
  ⟨e1, fun q => n (i1.mp q)⟩
/-- a returned fresh object is new against the heap H, or was owned there -/
def NwS (H : Hp) (ω : Om) : PF.X → L2.V → Prop
  | .v _, _ => True
  | _, v => ∀ b, v = .ref b → H b = none ∨ ∃ i, ω i = some b
def noW : Om := fun _ => none
theorem RX.off {ρ : List Addr} {ω : Om} {x : PF.X} {v : L2.V} : RX z ρ ω M H x v → RX z ρ noW M H x v
  | .v a => .v a
  | .fl a b c _ e => .fl a b c (fun _ q => nomatch q) e
  | .fd a b c _ e f => .fd a b c (fun _ q => nomatch q) e f
theorem Nw.s {ω : Om} {x : PF.X} {v : L2.V} (n : Nw H x v) : NwS H ω x v := by
  cases x with
  | v a => exact True.intro
  | fl a => exact fun b e => .inl (n b e)
  | fd a c => exact fun b e => .inl (n b e)
theorem NwS.back {ρ ρ' ρ2 : List Addr} {ω ω' : Om} {M2 : Addr → Prop} {H2 : Hp} {σ : PF.St} {h : PF.Hp} {σ' : L2.St} {x : PF.X} {v : L2.V} (e : Ext ρ ρ') (f : FS ρ ω M H ρ' ω' M' H') (sr : SR z ρ' ω' M' σ h σ' H') (n : NwS H' ω' x v) : NwS H ω x v := by
  have main : ∀ b, (H' b = none ∨ ∃ i, ω' i = some b) → H b = none ∨ ∃ i, ω i = some b := fun b q => by
    cases hb : H b with
    | none => exact .inl rfl
    | some o =>
      by_cases hw : ∃ i, ω i = some b
      · exact .inr hw
      · have hw' : ∀ i, ω i ≠ some b := fun i q => hw ⟨i, q⟩
        by_cases hr : b ∈ ρ
        · obtain ⟨a, ha, he⟩ := List.getElem_of_mem hr
          have hr' : b ∈ ρ' := List.mem_of_getElem? (e a b (by simp [ha, he]))
          rcases q with q | ⟨i, q⟩
          · obtain ⟨u, hu⟩ := sr.hr.alive hr'
            rw [q] at hu; cases hu
          · exact absurd hr' (sr.om i b q).2.1
        · obtain ⟨g1, g2, g3, _⟩ := f b o hb hr hw'
          rcases q with q | ⟨i, q⟩
          · rw [q] at g1; cases g1
          · exact absurd q (g3 i)
  cases x with
  | v a => exact True.intro
  | fl a => exact fun b e => main b (n b e)
  | fd a c => exact fun b e => main b (n b e)
/-- what is wanted behind a flow -/
def CtS (z : Z) (ρ : List Addr) (ω : Om) (M : Addr → Prop) (H : Hp) (σ1 : PF.St) (fl : PF.Fl) (h1 : PF.Hp) (D : L2.Ends) : Prop := ∀ ρ1 ω1 M1 σ1' H1, Ext ρ ρ1 → FS ρ ω M H ρ1 ω1 M1 H1 → SR z ρ1 ω1 M1 σ1 h1 σ1' H1 →
  match fl with
  | .nx => D.nx σ1' H1
  | .bk => D.bk σ1' H1
  | .ct => D.ct σ1' H1
  | .rt x => ∀ v, RX z ρ1 noW M1 H1 x v → NwS H ω x v → D.rt v H1
abbrev Rs := PF.St → PF.Hp → PF.RS
def StOk (z : Z) (X : L2.Cx) (st : Stmt) (r : Rs) : Prop := ∀ σ h σ1 fl h1, r σ h = .ok (σ1, fl) h1 → ∀ ρ ω M σ' H, SR z ρ ω M σ h σ' H → ∀ D, CtS z ρ ω M H σ1 fl h1 D → WS X st D σ' H
def SsOk (z : Z) (X : L2.Cx) (st : List Stmt) (r : Rs) : Prop := ∀ σ h σ1 fl h1, r σ h = .ok (σ1, fl) h1 → ∀ ρ ω M σ' H, SR z ρ ω M σ h σ' H → ∀ D, CtS z ρ ω M H σ1 fl h1 D → WSs X st D σ' H
/-- the wish moved along a frame -/
theorem CtS.mv {ρ ρ' : List Addr} {ω ω' : Om} {σ σ1 : PF.St} {h h1 : PF.Hp} {σ' : L2.St} {fl : PF.Fl} {D : L2.Ends} (c : CtS z ρ ω M H σ1 fl h1 D) (e : Ext ρ ρ') (f : FS ρ ω M H ρ' ω' M' H') (sr : SR z ρ' ω' M' σ h σ' H') : CtS z ρ' ω' M' H' σ1 fl h1 D := fun ρ1 ω1 M1 σ1' H1 e1 f1 sr1 => by
  have := c ρ1 ω1 M1 σ1' H1 (e.trans e1) (f.trans f1) sr1
  cases fl with
  | nx => exact this
  | bk => exact this
  | ct => exact this
  | rt x => exact fun v rx n => this v rx (NwS.back (ρ2 := ρ) (M2 := M) (H2 := H) e f sr n)
section
variable {st : Stmt} {sts : List Stmt} {pos pos' : Pos} {e : Expr} {r : Rx} {rs rt : Rs} {rb : Rb}
theorem ss_nil : SsOk z X [] (fun σ h => .ok (σ, .nx) h) := by
  intro σ h σ1 fl h1 e ρ ω M σ' H sr D c
  cases e
  exact wss_pss L2.pss_nil (c ρ ω M σ' H Ext.refl FS.refl sr)
theorem ss_cons (ks : StOk z X st rs) (kt : SsOk z X sts rt) : SsOk z X (st :: sts) (fun σ h => (rs σ h).bind fun r h1 => match r.2 with
    | .nx => rt r.1 h1
    | f => .ok (r.1, f) h1) := by
  intro σ h σ1 fl h1 e ρ ω M σ' H sr D c
  obtain ⟨⟨σ2, f2⟩, h2, e1, e2⟩ := bind_ok e
  refine wss_pss (L2.pss_cons (ps_ws X st) (pss_wss X sts)) (ks σ h σ2 f2 h2 e1 ρ ω M σ' H sr _ fun ρ1 ω1 M1 σ1' H1 x1 f1 sr1 => ?_)
  cases f2 with
  | nx => exact kt σ2 h2 σ1 fl h1 e2 ρ1 ω1 M1 σ1' H1 sr1 D (c.mv x1 f1 sr1)
  | bk => cases e2; exact c ρ1 ω1 M1 σ1' H1 x1 f1 sr1
  | ct => cases e2; exact c ρ1 ω1 M1 σ1' H1 x1 f1 sr1
  | rt x => cases e2; exact c ρ1 ω1 M1 σ1' H1 x1 f1 sr1
/-- a docstring -/
theorem ss_doc {x : Str} {j : Nat} (kt : SsOk z X sts rt) : SsOk z X (.Expr (.Constant (.str x) j pos) pos' :: sts) rt := by
  intro σ h σ1 fl h1 e ρ ω M σ' H sr D c
  exact wss_pss (L2.pss_cons L2.ps_doc (pss_wss X sts)) (kt σ h σ1 fl h1 e ρ ω M σ' H sr D c)
/-- a ghost step -/
theorem st_pass : StOk z X (.Pass pos) (fun σ h => .ok (σ, .nx) h) := by
  intro σ h σ1 fl h1 e ρ ω M σ' H sr D c
  cases e
  exact ws_ps L2.ps_pass (c ρ ω M σ' H Ext.refl FS.refl sr)
theorem st_brk : StOk z X (.Break pos) (fun σ h => .ok (σ, .bk) h) := by
  intro σ h σ1 fl h1 e ρ ω M σ' H sr D c
  cases e
  exact ws_ps L2.ps_break (c ρ ω M σ' H Ext.refl FS.refl sr)
theorem st_cnt : StOk z X (.Continue pos) (fun σ h => .ok (σ, .ct) h) := by
  intro σ h σ1 fl h1 e ρ ω M σ' H sr D c
  cases e
  exact ws_ps L2.ps_continue (c ρ ω M σ' H Ext.refl FS.refl sr)
theorem st_retN : StOk z X (.Return none pos) (fun σ h => .ok (σ, .rt (PF.dat .non)) h) := by
  intro σ h σ1 fl h1 e ρ ω M σ' H sr D c
  cases e
  exact ws_ps L2.ps_retN (c ρ ω M σ' H Ext.refl FS.refl sr _ (.v (.d .non)) True.intro)
theorem st_ret (ke : EvOk z X e r) : StOk z X (.Return (some e) pos) (fun σ h => (r σ h).bind fun x h1 => .ok (σ, .rt x) h1) := by
  intro σ h σ1 fl h1 e ρ ω M σ' H sr D c
  obtain ⟨x, h2, e1, e2⟩ := bind_ok e
  cases e2
  exact ws_ps (L2.ps_ret (pe_we X _)) (ke σ h x h1 e1 ρ ω M σ' H sr _ fun ρ1 M1 H1 v x1 f1 sr1 rx nw => c ρ1 ω M1 σ' H1 x1 f1.fs sr1 v rx.off nw.s)
theorem st_ex (ke : EvOk z X e r) (hs : swapsWith e none pos.line X.env = pure false) : StOk z X (.Expr e pos) (fun σ h => (r σ h).bind fun _ h1 => .ok (σ, .nx) h1) := by
  intro σ h σ1 fl h1 e ρ ω M σ' H sr D c
  obtain ⟨x, h2, e1, e2⟩ := bind_ok e
  cases e2
  exact ws_ps (L2.ps_expr (pe_we X _) hs) (ke σ h x h1 e1 ρ ω M σ' H sr _ fun ρ1 M1 H1 v x1 f1 sr1 rx nw => c ρ1 ω M1 σ' H1 x1 f1.fs sr1)
theorem st_if {c : Expr} {a b : List Stmt} (kc : TeOk z X c rb) (ka : SsOk z X a rs) (kb : SsOk z X b rt) : StOk z X (.If c a b pos) (fun σ h => (rb σ h).bind fun t h1 => if t then rs σ h1 else rt σ h1) := by
  intro σ h σ1 fl h1 e ρ ω M σ' H sr D w
  obtain ⟨t, h2, e1, e2⟩ := bind_ok e
  refine ws_ps (L2.ps_if (pt_wt X c) (pss_wss X a) (pss_wss X b)) (kc σ h t h2 e1 ρ ω M σ' H sr _ fun ρ1 M1 H1 x1 f1 sr1 => ?_)
  cases t with
  | true => exact ite_tt (ka σ h2 σ1 fl h1 e2 ρ1 ω M1 σ' H1 sr1 D (w.mv x1 f1.fs sr1))
  | false => exact ite_ff (kb σ h2 σ1 fl h1 e2 ρ1 ω M1 σ' H1 sr1 D (w.mv x1 f1.fs sr1))
end
end Br
set_option Elab.async false
set_option linter.all false
set_option maxRecDepth 100000
set_option maxHeartbeats 400000
namespace Br
open PySem PySem.Spec PyProof.Rows PySem.SeqAt
variable {z : Z} {M M' M'' : Addr → Prop} {H H' H'' : Hp} {X : L2.Cx} {k : Nat}
section
variable {pos : Pos} {rs rt : Rs} {rb : Rb}
/-- what stands ahead of a turn -/
def WInv (z : Z) (rb : Rb) (rs : Rs) (σ1 : PF.St) (fl : PF.Fl) (h1 : PF.Hp) (D : L2.Ends) (m : Nat) (σ' : L2.St) (H : Hp) : Prop := ∃ σ h ρ ω M, PF.whileN rb rs m σ h = .ok (σ1, fl) h1 ∧ SR z ρ ω M σ h σ' H ∧ CtS z ρ ω M H σ1 fl h1 D
theorem st_whl {c : Expr} {body : List Stmt} (hp : PassesOwn (model X.prog X.w) X.A X.env X.xe) (kc : TeOk z X c rb) (kb : SsOk z X body rs) (n : Nat) : StOk z X (.While c body [] pos) (fun σ h => PF.whileN rb rs n σ h) := by
  intro σ h σ1 fl h1 e ρ ω M σ' H sr D w
  refine ws_ps (L2.ps_while hp (pt_wt X c) (pss_wss X body)) ⟨WInv z rb rs σ1 fl h1 D, ⟨n, σ, h, ρ, ω, M, e, sr, w⟩, ?_⟩
  rintro m σ2' H2 ⟨σ2, h2, ρ2, ω2, M2, e2, sr2, w2⟩
  cases m with
  | zero => cases e2
  | succ m =>
    obtain ⟨t, h3, e3, e4⟩ := bind_ok (show (rb σ2 h2).bind _ = _ from e2)
    refine kc σ2 h2 t h3 e3 ρ2 ω2 M2 σ2' H2 sr2 _ fun ρ3 M3 H3 x3 f3 sr3 => ?_
    have w3 := w2.mv x3 f3.fs sr3
    cases t with
    | false =>
      cases e4
      exact ite_ff (w3 ρ3 ω2 M3 σ2' H3 Ext.refl FS.refl sr3)
    | true =>
      refine ite_tt ⟨WInv z rb rs σ1 fl h1 D m, fun σ' H' q => ⟨m, Nat.lt_succ_self m, q⟩, ?_⟩
      obtain ⟨⟨σ4, f4⟩, h4, e5, e6⟩ := bind_ok (show (rs σ2 h3).bind _ = _ from e4)
      refine kb σ2 h3 σ4 f4 h4 e5 ρ3 ω2 M3 σ2' H3 sr3 _ fun ρ5 ω5 M5 σ5' H5 x5 f5 sr5 => ?_
      have w5 := w3.mv x5 f5 sr5
      cases f4 with
      | nx => exact ⟨σ4, h4, ρ5, ω5, M5, e6, sr5, w5⟩
      | ct => exact ⟨σ4, h4, ρ5, ω5, M5, e6, sr5, w5⟩
      | bk => cases e6; exact w5 ρ5 ω5 M5 σ5' H5 Ext.refl FS.refl sr5
      | rt x => cases e6; exact w3 ρ5 ω5 M5 σ5' H5 x5 f5 sr5
/-- the item at the heap behind its coming -/
theorem yl_in {ρ : List Addr} {ω : Om} {σ : PF.St} {h : PF.Hp} {σ' : L2.St} {xs : List PF.V} {i : Nat} {v : L2.V} (sr : SR z ρ ω M σ h σ' H) (y : Yl z xs i M H v H') : ∃ x M', xs[i]? = some x ∧ Fm ρ M H ρ M' H' ∧ SR z ρ ω M' σ h σ' H' ∧ RV z ρ M' H' x v := by
  obtain ⟨x, hx, hy⟩ := y
  rcases hy with ⟨rfl, r⟩ | ⟨p, us, ds, hp, rfl, rfl, rfl, r⟩
  · exact ⟨_, M, hx, Fm.refl, sr, .d r⟩
  · have hm2 : ∀ q, q ≠ p → ((M q ∧ q ≠ p) ↔ M q) := fun q n => ⟨fun e => e.1, fun e => ⟨e, n⟩⟩
    have f : Fm ρ M H ρ (fun q => M q ∧ q ≠ p) (L2.upd H p (.tup us)) := Fm.new hp hm2
    exact ⟨_, _, hx, f, sr.new hp hm2, .d (.tup (.inl ⟨L2.upd_same, fun q => q.2 rfl⟩) (r.kp (f.kp sr.hr.mu)))⟩
theorem st_for {tg iter : Expr} {body : List Stmt} {t : PF.Tg} {g : L2.TG} {own : List Nat} {ri : Rl} (hp : PassesOwn (model X.prog X.w) X.A X.env X.xe) (gx : GX z k X) (ki : ItOk z X tg iter ri) (hg : L2.PG X tg g) (tgo : TgOk z X tg t own g) (kb : SsOk z X body rs) (of_ : ord iter = true) :
    StOk z X (.For tg iter body [] pos) (fun σ h => (ri σ h).bind fun xs h1 => PF.forGo rs t xs σ h1) := by
  intro σ h σ1 fl h1 e ρ ω M σ' H sr D w
  obtain ⟨xs, h2, e1, e2⟩ := bind_ok e
  obtain ⟨wi, hwi, hrun⟩ := ki σ h xs h2 e1
  refine ws_ps (L2.ps_for hp gx.calm hwi hg (pss_wss X body) (ord_fold of_ _)) (hrun ρ ω M σ' H sr _ fun ρ1 M1 H1 J x1 f1 sr1 wk => ?_)
  have w1 := w.mv x1 f1.fs sr1
  let Pv : Nat → L2.St → Hp → Prop := fun i σ' H' => ∃ σ h ρ ω M, PF.forGo rs t (xs.drop i) σ h = .ok (σ1, fl) h1 ∧ SR z ρ ω M σ h σ' H' ∧ CtS z ρ ω M H' σ1 fl h1 D ∧ Kp M1 H1 M H'
  have walk : L2.Walk J xs.length (fun H' => ∃ M', Kp M1 H1 M' H') (fun i H' v H'' => ∀ M', Kp M1 H1 M' H' → Yl z xs i M' H' v H'') :=
    ⟨fun i H' hi ⟨M', kp⟩ => (wk M' H' kp).1 i hi, fun H' ⟨M', kp⟩ => (wk M' H' kp).2.1, fun i H' v H'' hi _ y M' kp => (wk M' H' kp).2.2 i v H'' hi y⟩
  refine L2.for_it walk Pv ⟨σ, h2, ρ1, ω, M1, e2, sr1, w1, Kp.refl⟩ ?_ ?_ ?_
  · rintro i σ2' H2 _ ⟨σ2, h3, ρ2, ω2, M2, _, _, _, kp⟩
    exact ⟨M2, kp⟩
  · rintro i v σ2' H2 H2' hi ⟨σ2, h3, ρ2, ω2, M2, e3, sr2, w2, kp⟩ y
    obtain ⟨x, M3, hx, f3, sr3, rv⟩ := yl_in sr2 (y M2 kp)
    have hdrop : xs.drop i = x :: xs.drop (i + 1) := by
      rw [List.drop_eq_getElem_cons hi]
      have := List.getElem?_eq_getElem hi
      rw [this] at hx
      rw [Option.some.inj hx]
    rw [hdrop] at e3
    unfold PF.forGo at e3
    cases hb : PF.bindT t x σ2 with
    | none => simp only [hb] at e3; cases e3
    | some σ3 =>
      simp only [hb] at e3
      refine tgo.run hb sr3 rv fun σ3' sr4 _ => ?_
      obtain ⟨⟨σ5, f5⟩, h5, e5, e6⟩ := bind_ok e3
      have w4 : CtS z ρ2 ω2 M3 H2' σ1 fl h1 D := w2.mv Ext.refl f3.fs sr4
      have kp3 := kp.trans (f3.kp sr2.hr.mu)
      refine kb σ3 h3 σ5 f5 h5 e5 ρ2 ω2 M3 σ3' H2' sr4 _ fun ρ6 ω6 M6 σ6' H6 x6 f6 sr6 => ?_
      have w6 := w4.mv x6 f6 sr6
      have kp6 := kp3.trans (f6.kp sr4)
      cases f5 with
      | nx => exact ⟨σ5, h5, ρ6, ω6, M6, e6, sr6, w6, kp6⟩
      | ct => exact ⟨σ5, h5, ρ6, ω6, M6, e6, sr6, w6, kp6⟩
      | bk => cases e6; exact w6 ρ6 ω6 M6 σ6' H6 Ext.refl FS.refl sr6
      | rt x => cases e6; exact w4 ρ6 ω6 M6 σ6' H6 x6 f6 sr6
  · rintro σ2' H2 ⟨σ2, h3, ρ2, ω2, M2, e3, sr2, w2, kp⟩
    rw [List.drop_length] at e3
    cases e3
    exact w2 ρ2 ω2 M2 σ2' H2 Ext.refl FS.refl sr2
end
end Br
set_option Elab.async false
set_option linter.all false
set_option maxRecDepth 100000
set_option maxHeartbeats 400000
namespace Br
open PySem PySem.Spec PyProof.Rows PySem.SeqAt
variable {z : Z} {M M' M'' M0 : Addr → Prop} {H H' H'' H0 : Hp} {X : L2.Cx} {k : Nat}
def setW (ω : Om) (i : Nat) (b : Option Addr) : Om := fun j => if j = i then b else ω j
theorem setW_same {ω : Om} {i : Nat} {b : Option Addr} : setW ω i b i = b := by simp [setW]
theorem setW_ne {ω : Om} {i j : Nat} {b : Option Addr} (h : j ≠ i) : setW ω i b j = ω j := by simp [setW, h]
/-- the address of a fresh value -/
def frAt : PF.X → L2.V → Addr → Prop
  | .v _, _, _ => False
  | _, v, b => v = .ref b
section
variable {ρ ρ0 : List Addr} {ω : Om} {σ : PF.St} {h : PF.Hp} {σ' : L2.St}
/-- a slot that owns -/
theorem SR.owns (sr : SR z ρ ω M σ h σ' H) (i : Nat) {x : PF.X} {v : L2.V} {b : Addr} (rx : RX z ρ ω M H x v) (hb : frAt x v b) : SR z ρ (setW ω i (some b)) M (PF.setN σ i x.sv) h (σ'.set i (some v)) H := by
  have fact : v = .ref b ∧ M b ∧ b ∉ ρ ∧ (∀ j, ω j ≠ some b) ∧ ∃ o, H b = some o := by
    cases rx with
    | v a => exact hb.elim
    | fl a m n w r => cases (show L2.V.ref _ = L2.V.ref b from hb); exact ⟨rfl, m, n, w, _, a⟩
    | fd a m n w c r => cases (show L2.V.ref _ = L2.V.ref b from hb); exact ⟨rfl, m, n, w, _, a⟩
  obtain ⟨rfl, m, n, w, o, ho⟩ := fact
  refine ⟨sr.hr, fun j s e => ?_, by simp [PF.setN, sr.olen], fun j c q => ?_, fun j l c q1 q2 => ?_⟩
  · unfold PF.setN at e
    by_cases hj : i = j
    · subst hj
      by_cases hi : i < σ.length
      · rw [List.getElem?_set_self hi] at e
        cases e
        refine ⟨.ref b, List.getElem?_set_self (by rw [← sr.olen]; exact hi), ?_⟩
        cases rx with
        | v a => exact hb.elim
        | fl a _ _ _ r => exact .ol setW_same a r
        | fd a _ _ _ c r => exact .od setW_same a c r
      · rw [List.getElem?_eq_none (by simpa using hi)] at e
        cases e
    · rw [List.getElem?_set_ne hj] at e
      obtain ⟨u, g1, g2⟩ := sr.slot j s e
      refine ⟨u, by rw [List.getElem?_set_ne hj]; exact g1, ?_⟩
      rw [setW_ne (Ne.symm hj)]
      exact g2
  · by_cases hj : j = i
    · subst hj
      rw [setW_same] at q
      cases q
      exact ⟨m, n, o, ho⟩
    · rw [setW_ne hj] at q
      exact sr.om j c q
  · by_cases hj : j = i
    · subst hj
      rw [setW_same] at q1
      cases q1
      by_cases hl : l = j
      · exact hl.symm
      · rw [setW_ne hl] at q2
        exact absurd q2 (w l)
    · rw [setW_ne hj] at q1
      by_cases hl : l = i
      · subst hl
        rw [setW_same] at q2
        cases q2
        exact absurd q1 (w j)
      · rw [setW_ne hl] at q2
        exact sr.oinj j l c q1 q2
/-- the frame of that: the object is new -/
theorem FS.owns {ω0 : Om} {ρ1 : List Addr} (f : FS ρ0 ω0 M0 H0 ρ1 ω M H) (i : Nat) {b : Addr} (hb : H0 b = none ∨ ∃ j, ω0 j = some b) : FS ρ0 ω0 M0 H0 ρ1 (setW ω i (some b)) M H := fun c o e n w => by
  obtain ⟨g1, g2, g3, g4⟩ := f c o e n w
  refine ⟨g1, g2, fun j q => ?_, g4⟩
  by_cases hj : j = i
  · subst hj
    rw [setW_same] at q
    cases q
    rcases hb with q | ⟨j, q⟩
    · rw [q] at e; cases e
    · exact w j q
  · rw [setW_ne hj] at q
    exact g3 j q
/-- a mutable object of ours joins the heap -/
theorem HR.join (r : HR z ρ M h H) {b : Addr} {o : PF.O} (hm : M b) (hn : b ∉ ρ) (ho : RO z (ρ ++ [b]) M H b o) : HR z (ρ ++ [b]) M (h ++ [o]) H := by
  have ext : Ext ρ (ρ ++ [b]) := fun a c q => by
    rw [List.getElem?_append_left (List.getElem?_eq_some_iff.mp q).1]; exact q
  refine ⟨by simp [r.len], ?_, fun c hc => ?_, fun a o' c g1 g2 => ?_⟩
  · rw [List.nodup_append]
    refine ⟨r.nd, by simp, fun a ha c hc => ?_⟩
    simp at hc
    subst hc
    exact fun q => hn (q ▸ ha)
  · rcases List.mem_append.mp hc with q | q
    · exact r.mu c q
    · simp at q; rw [q]; exact hm
  · by_cases ha : a < h.length
    · rw [List.getElem?_append_left ha] at g1
      rw [List.getElem?_append_left (by rw [r.len]; exact ha)] at g2
      exact (r.obj a o' c g1 g2).kp ext Kp.refl rfl
    · have : a = h.length := by
        have := (List.getElem?_eq_some_iff.mp g1).1
        simp at this
        omega
      subst this
      rw [List.getElem?_append_right (Nat.le_refl _)] at g1
      rw [List.getElem?_append_right (by rw [r.len]; exact Nat.le_refl _)] at g2
      simp [r.len] at g1 g2
      subst g1 g2
      exact ho
theorem ext_app {b : List Addr} : Ext ρ (ρ ++ b) := fun a c q => by
  rw [List.getElem?_append_left (List.getElem?_eq_some_iff.mp q).1]; exact q
/-- a fresh value laid onto the heap -/
theorem promo (sr : SR z ρ ω M σ h σ' H) {x : PF.X} {v : L2.V} (rx : RX z ρ ω M H x v) (nw : Nw H0 x v) (f : Fm ρ0 M0 H0 ρ M H) :
    ∃ ρ1, Ext ρ ρ1 ∧ Fm ρ0 M0 H0 ρ1 M H ∧ SR z ρ1 ω M σ (PF.promote x h).2 σ' H ∧ RV z ρ1 M H (PF.promote x h).1 v := by
  have main : ∀ b o, M b → b ∉ ρ → (∀ i, ω i ≠ some b) → H0 b = none → RO z (ρ ++ [b]) M H b o → Fm ρ0 M0 H0 (ρ ++ [b]) M H ∧ SR z (ρ ++ [b]) ω M σ (h ++ [o]) σ' H ∧ RV z (ρ ++ [b]) M H (.ref h.length) (.ref b) := fun b o hm hn hw h0 ro => by
    refine ⟨fun c u e n => ?_, ⟨sr.hr.join hm hn ro, fun i s e => ?_, sr.olen, fun i c q => ?_, sr.oinj⟩, .ref ?_⟩
    · obtain ⟨g1, g2, g3⟩ := f c u e n
      refine ⟨g1, fun q => ?_, g3⟩
      rcases List.mem_append.mp q with q | q
      · exact g2 q
      · simp at q
        rw [q, h0] at e; cases e
    · obtain ⟨u, g1, g2⟩ := sr.slot i s e
      exact ⟨u, g1, g2.kp ext_app Kp.refl fun _ _ => rfl⟩
    · obtain ⟨m, n, o⟩ := sr.om i c q
      refine ⟨m, fun g => ?_, o⟩
      rcases List.mem_append.mp g with g | g
      · exact n g
      · simp at g
        exact hw i (g ▸ q)
    · rw [List.getElem?_append_right (by rw [sr.hr.len]; exact Nat.le_refl _)]
      simp [sr.hr.len]
  cases rx with
  | v a => exact ⟨ρ, Ext.refl, f, sr, a⟩
  | fl a m n w r =>
    obtain ⟨g1, g2, g3⟩ := main _ (.lst _) m n w (nw _ rfl) (.lst a (RVs.ofD r))
    exact ⟨_, ext_app, g1, g2, g3⟩
  | fd a m n w c r =>
    obtain ⟨g1, g2, g3⟩ := main _ (.dic _ _) m n w (nw _ rfl) (.dic a c (RVs.ofD r))
    exact ⟨_, ext_app, g1, g2, g3⟩
end
/-! ### name = value -/
/-- what such a statement does -/
def AsgOk (X : L2.Cx) (st : Stmt) (i : Nat) (e : Expr) (W : L2.St → Hp → L2.VK → Prop) : Prop := ∀ (D : L2.Ends) σ' H, W σ' H (fun v H1 => D.nx (σ'.set i (some v)) H1) → WS X st D σ' H
/-- an expression does what the evaluator says, by another reading -/
def EvW (z : Z) (W : L2.St → Hp → L2.VK → Prop) (r : Rx) : Prop := ∀ σ h x h1, r σ h = .ok x h1 → ∀ ρ ω M σ' H, SR z ρ ω M σ h σ' H → ∀ Q : L2.VK, Wnt z ρ ω M σ σ' H x h1 Q → W σ' H Q
theorem EvOk.w {e : Expr} {r : Rx} (k : EvOk z X e r) : EvW z (WE X e) r := k
section
variable {st : Stmt} {pos pos' : Pos} {e : Expr} {r : Rx} {i : Nat} {x : Str} {W : L2.St → Hp → L2.VK → Prop}
theorem asg_plain (gx : GX z k X) (hi : X.N[i]? = some x) (hx : L2.Loc X.env.scope x) (hs : swapsWith e (some (.Name x pos')) pos.line X.env = pure false) (hf : X.fn x = true ∨ X.env.scope.names.lookup x = some .local) :
    AsgOk X (.Assign [.Name x pos'] e pos) i e (WE X e) := fun D σ' H h => ws_ps (L2.ps_set gx.nd hi hx (pe_we X e) hs hf) h
theorem st_set (ha : AsgOk X st i e W) (ke : EvW z W r) : StOk z X st (fun σ h => (r σ h).bind fun x h1 => .ok (PF.setN σ i (.v x.toV), .nx) h1) := by
  intro σ h σ1 fl h1 e ρ ω M σ' H sr D c
  obtain ⟨x, h2, e1, e2⟩ := bind_ok e
  cases e2
  refine ha D σ' H (ke σ h x h1 e1 ρ ω M σ' H sr _ fun ρ1 M1 H1 v x1 f1 sr1 rx nw => ?_)
  obtain ⟨M2, sr2, rv, f2⟩ := forget sr1 rx nw f1
  exact c ρ1 ω M2 _ H1 x1 f2.fs (sr2.set i rv)
theorem st_own (ha : AsgOk X st i e W) (ke : EvW z W r) : StOk z X st (fun σ h => (r σ h).bind fun x h1 => match x with
    | .v _ => .err
    | x => .ok (PF.setN σ i x.sv, .nx) h1) := by
  intro σ h σ1 fl h1 e ρ ω M σ' H sr D c
  obtain ⟨x, h2, e1, e2⟩ := bind_ok e
  refine ha D σ' H (ke σ h x h2 e1 ρ ω M σ' H sr _ fun ρ1 M1 H1 v x1 f1 sr1 rx nw => ?_)
  cases x with
  | v a => cases e2
  | fl xs =>
    cases e2
    cases rx with
    | fl a m n w q => exact c ρ1 _ M1 _ H1 x1 (f1.fs.owns i (.inl (nw _ rfl))) (sr1.owns i (.fl a m n w q) rfl)
  | fd ks vs =>
    cases e2
    cases rx with
    | fd a m n w p q => exact c ρ1 _ M1 _ H1 x1 (f1.fs.owns i (.inl (nw _ rfl))) (sr1.owns i (.fd a m n w p q) rfl)
theorem st_setP (ha : AsgOk X st i e W) (ke : EvW z W r) : StOk z X st (fun σ h => (r σ h).bind fun x h1 => .ok (PF.setN σ i (.v (PF.promote x h1).1), .nx) (PF.promote x h1).2) := by
  intro σ h σ1 fl h1 e ρ ω M σ' H sr D c
  obtain ⟨x, h2, e1, e2⟩ := bind_ok e
  cases e2
  refine ha D σ' H (ke σ h x h2 e1 ρ ω M σ' H sr _ fun ρ1 M1 H1 v x1 f1 sr1 rx nw => ?_)
  obtain ⟨ρ2, x2, f2, sr2, rv⟩ := promo sr1 rx nw f1
  exact c ρ2 ω M1 _ H1 (x1.trans x2) f2.fs (sr2.set i rv)
/-- a tuple taken apart -/
theorem st_setT {is : List Nat} {tg : Expr} {g : L2.TG} {own : List Nat} (tgo : TgOk z X tg (.t is) own g) (hg : L2.PG X tg g) (ke : EvOk z X e r) (hs : swapsWithSole [tg] e pos.line X.env = pure false) (hw : swappedStores [tg] e X.env = pure none)
    (h1 : (assignEach [tg] X.env).map (·.2) = [assign tg X.env]) : StOk z X (.Assign [tg] e pos) (fun σ h => (r σ h).bind fun x h1 => match PF.bindT (.t is) x.toV σ with
    | some σ1 => .ok (σ1, .nx) h1
    | none => .err) := by
  intro σ h σ1 fl h1 e ρ ω M σ' H sr D c
  obtain ⟨x, h2, e1, e2⟩ := bind_ok e
  split at e2
  · rename_i σ2 hb
    cases e2
    refine ws_ps (L2.ps_asg (pe_we X _) hg hs hw ‹_›) (ke.v e1 sr fun ρ1 M1 H1 v x1 f1 sr1 rv => tgo.run hb sr1 rv fun σ1' sr2 _ => c ρ1 ω M1 σ1' H1 x1 f1.fs sr2)
  · cases e2
/-- the owned list or dict is no longer written -/
theorem sr_frz {ρ : List Addr} {ω : Om} {σ : PF.St} {h : PF.Hp} {σ' : L2.St} {b : Addr} {d : PF.D} (sr : SR z ρ ω M σ h σ' H) (hw : ω i = some b) (hv : σ'[i]? = some (some (.ref b))) (rd : RD z (fun c => M c ∧ c ≠ b) H d (.ref b)) :
    SR z ρ (setW ω i none) (fun c => M c ∧ c ≠ b) (PF.setN σ i (.v (.d d))) h σ' H ∧ FS ρ ω M H ρ (setW ω i none) (fun c => M c ∧ c ≠ b) H := by
  have kp : Kp M H (fun c => M c ∧ c ≠ b) H := fun c o e n => ⟨e, fun q => n q.1⟩
  have hb := sr.om i b hw
  refine ⟨⟨sr.hr.kp kp fun c hc => ⟨⟨sr.hr.mu c hc, fun q => hb.2.1 (q ▸ hc)⟩, rfl⟩, fun j s e => ?_, by simp [PF.setN, sr.olen], fun j c q => ?_, fun j l c q1 q2 => ?_⟩, fun c o e n w => ⟨e, n, fun j q => ?_, ?_⟩⟩
  · unfold PF.setN at e
    by_cases hj : i = j
    · subst hj
      by_cases hi : i < σ.length
      · rw [List.getElem?_set_self hi] at e
        cases e
        exact ⟨_, hv, .v (.d rd)⟩
      · rw [List.getElem?_eq_none (by simpa using hi)] at e
        cases e
    · rw [List.getElem?_set_ne hj] at e
      obtain ⟨u, g1, g2⟩ := sr.slot j s e
      refine ⟨u, g1, ?_⟩
      rw [setW_ne (Ne.symm hj)]
      exact g2.kp Ext.refl kp fun _ _ => rfl
  · by_cases hj : j = i
    · subst hj; rw [setW_same] at q; cases q
    · rw [setW_ne hj] at q
      obtain ⟨m, n, o⟩ := sr.om j c q
      exact ⟨⟨m, fun e => hj (sr.oinj j i b (e ▸ q) hw)⟩, n, o⟩
  · by_cases hj : j = i
    · subst hj; rw [setW_same] at q1; cases q1
    · by_cases hl : l = i
      · subst hl; rw [setW_same] at q2; cases q2
      · rw [setW_ne hj] at q1
        rw [setW_ne hl] at q2
        exact sr.oinj j l c q1 q2
  · by_cases hj : j = i
    · subst hj; rw [setW_same] at q; cases q
    · rw [setW_ne hj] at q
      exact w j q
  · exact ⟨fun q => q.1, fun q => ⟨q, fun e => w i (e ▸ hw)⟩⟩
def frzX (i : Nat) (σ : PF.St) (h : PF.Hp) : PF.RS := match PF.get σ i with
  | some (.ol xs) => .ok (PF.setN σ i (.v (.d (.lst xs))), .nx) h
  | some (.od ks vs) => .ok (PF.setN σ i (.v (.d (.dic ks vs))), .nx) h
  | _ => .err
theorem ss_frz {sts : List Stmt} {rt : Rs} (kt : SsOk z X sts rt) : SsOk z X sts (fun σ h => (frzX i σ h).bind fun r h1 => match r.2 with
    | .nx => rt r.1 h1
    | f => .ok (r.1, f) h1) := by
  intro σ h σ1 fl h1 e ρ ω M σ' H sr D c
  obtain ⟨⟨σ2, f2⟩, h2, e0, e⟩ := bind_ok e
  unfold frzX at e0
  split at e0
  · rename_i xs q
    obtain ⟨b, ys, a, g1, g2, r⟩ := own_l sr q
    have kp : Kp M H (fun c => M c ∧ c ≠ b) H := fun c o e n => ⟨e, fun q => n q.1⟩
    obtain ⟨sr2, f2⟩ := sr_frz (d := .lst xs) sr a g1 (.lst g2 (fun q => q.2 rfl) (r.kp kp))
    cases e0
    exact kt _ _ σ1 fl h1 e ρ _ _ σ' H sr2 D (c.mv Ext.refl f2 sr2)
  · rename_i ks vs q
    obtain ⟨b, ys, a, g1, g2, p, r⟩ := own_d sr q
    have kp : Kp M H (fun c => M c ∧ c ≠ b) H := fun c o e n => ⟨e, fun q => n q.1⟩
    obtain ⟨sr2, f2⟩ := sr_frz (d := .dic ks vs) sr a g1 (.dic g2 (fun q => q.2 rfl) p (r.kp kp))
    cases e0
    exact kt _ _ σ1 fl h1 e ρ _ _ σ' H sr2 D (c.mv Ext.refl f2 sr2)
  · cases e0
theorem st_retO (n : NameOk X i x) : StOk z X (.Return (some (.Name x pos')) pos) (fun σ h => match PF.get σ i with
    | some (.ol xs) => .ok (σ, .rt (.fl xs)) h
    | some (.od ks vs) => .ok (σ, .rt (.fd ks vs)) h
    | _ => .err) := by
  intro σ h σ1 fl h1 e ρ ω M σ' H sr D c
  simp only at e
  split at e
  · rename_i xs q
    cases e
    obtain ⟨b, ys, a, g1, g2, r⟩ := own_l sr q
    refine ws_ps (L2.ps_ret n.pe) ⟨_, g1, c ρ ω M σ' H Ext.refl FS.refl sr _ (.fl g2 (sr.om i b a).1 (sr.om i b a).2.1 (fun _ q => nomatch q) r) fun c e => by cases e; exact .inr ⟨i, a⟩⟩
  · rename_i ks vs q
    cases e
    obtain ⟨b, ys, a, g1, g2, p, r⟩ := own_d sr q
    refine ws_ps (L2.ps_ret n.pe) ⟨_, g1, c ρ ω M σ' H Ext.refl FS.refl sr _ (.fd g2 (sr.om i b a).1 (sr.om i b a).2.1 (fun _ q => nomatch q) p r) fun c e => by cases e; exact .inr ⟨i, a⟩⟩
  · cases e
end
end Br
set_option Elab.async false
set_option linter.all false
set_option maxRecDepth 100000
set_option maxHeartbeats 400000
namespace Br
open PySem PySem.Spec PyProof.Rows PySem.SeqAt
variable {z : Z} {M M' M'' M0 : Addr → Prop} {H H' H'' H0 : Hp} {X : L2.Cx} {k : Nat}
/-! ### writes -/
theorem RX.fm {ρ ρ' : List Addr} {ω : Om} {x : PF.X} {v : L2.V} (rx : RX z ρ ω M H x v) (f : Fm ρ M H ρ' M' H') (e : Ext ρ ρ') (mu : ∀ b ∈ ρ, M b) : RX z ρ' ω M' H' x v := by
  have kp := f.kp mu
  cases rx with
  | v a => exact .v (a.kp e kp)
  | fl a m n w r =>
    obtain ⟨g1, g2, g3⟩ := f _ _ a n
    exact .fl g1 (g3.mpr m) g2 w (r.kp kp)
  | fd a m n w c r =>
    obtain ⟨g1, g2, g3⟩ := f _ _ a n
    exact .fd g1 (g3.mpr m) g2 w c (r.kp kp)
/-- an owned object is written -/
theorem SR.wr {ρ : List Addr} {ω : Om} {σ : PF.St} {h : PF.Hp} {σ' : L2.St} {i : Nat} {b : Addr} {s : PF.SV} {u : L2.HO} (sr : SR z ρ ω M σ h σ' H) (hw : ω i = some b) (hv : σ'[i]? = some (some (.ref b))) (new : RS z ρ M (L2.upd H b u) (some b) s (.ref b)) :
    SR z ρ ω M (PF.setN σ i s) h σ' (L2.upd H b u) ∧ FS ρ ω M H ρ ω M (L2.upd H b u) := by
  obtain ⟨m, n, o, ho⟩ := sr.om i b hw
  have kp : Kp M H M (L2.upd H b u) := own_kp m
  refine ⟨⟨sr.hr.own m n, fun j t e => ?_, by simp [PF.setN, sr.olen], fun j c q => ?_, sr.oinj⟩, fun c o e n w => ?_⟩
  · unfold PF.setN at e
    by_cases hj : i = j
    · subst hj
      by_cases hi : i < σ.length
      · rw [List.getElem?_set_self hi] at e
        cases e
        exact ⟨_, hv, by rw [hw]; exact new⟩
      · rw [List.getElem?_eq_none (by simpa using hi)] at e
        cases e
    · rw [List.getElem?_set_ne hj] at e
      obtain ⟨w, g1, g2⟩ := sr.slot j t e
      exact ⟨w, g1, g2.kp Ext.refl kp fun c q => L2.upd_ne fun e => hj (sr.oinj j i b (e ▸ q) hw).symm⟩
  · obtain ⟨m, n, o, ho⟩ := sr.om j c q
    by_cases e : c = b
    · subst e
      exact ⟨m, n, u, L2.upd_same⟩
    · exact ⟨m, n, o, by rw [L2.upd_ne e]; exact ho⟩
  · have : c ≠ b := fun e => w i (e ▸ hw)
    exact ⟨by rw [L2.upd_ne this]; exact e, n, w, Iff.rfl⟩
section
variable {st : Stmt} {pos pos' apos npos : Pos} {e o ix : Expr} {r ro ri : Rx} {i : Nat} {x : Str}
/-- x.append(e) on an owned list -/
theorem st_app (n : NameOk X i x) (ke : EvOk z X e r) (oe : ord e = true) (hl : (apos.endLine == pos'.line) = true) :
    StOk z X (.Expr (.Call (.Attribute (.Name x npos) "append" apos) [e] [] pos') pos) (fun σ h => (r σ h).bind fun y h1 => match PF.get σ i, y.toV with
    | some (.ol xs), .d y => if decide (xs.length < PF.LIM) then .ok (PF.setN σ i (.ol (xs ++ [y])), .nx) h1 else .err
    | _, _ => .err) := by
  intro σ h σ1 fl h1 e0 ρ ω M σ' H sr D c
  obtain ⟨y, h2, e1, e2⟩ := bind_ok e0
  split at e2
  · rename_i xs d q hy
    split at e2
    · rename_i hlt
      cases e2
      simp only [decide_eq_true_eq] at hlt
      obtain ⟨b, ys, a, g1, g2, rr⟩ := own_l sr q
      refine ws_ps (L2.ps_expr (L2.pe_bm PySem.F.plainAttrs_list PySem.F.slot_list_append PySem.F.type_list_append L2.mt_append n.pe (L2.pa_cons (pe_we X e) L2.pa_nil (ord_star oe _ _)) rfl (by rw [ord_star oe]; rfl) hl (ord_star oe _ _) rfl)) ⟨_, g1, .inl ⟨rfl, _, L2.SqL.of g2⟩, ?_⟩
      refine ke.v e1 sr fun ρ1 M1 H1 v x1 f1 sr1 rv => ?_
      rw [hy] at rv
      obtain ⟨b', ys', a', g1', g2', rr'⟩ := own_l sr1 q
      rw [g1] at g1'
      cases g1'
      have hlen := rr'.length
      refine ⟨b, ys', v, rfl, rfl, g2', by rw [← hlen, ← LIM_eq]; exact hlt, ?_⟩
      obtain ⟨sr2, f2⟩ := sr1.wr (s := .ol (xs ++ [d])) (u := .lst (ys' ++ [v])) a g1 (.ol rfl L2.upd_same ((rr'.append (.cons rv.d_inv .nil)).kp (own_kp (sr1.om i b a).1)))
      exact c ρ1 ω M1 σ' _ x1 (f1.fs.trans f2) sr2
    · cases e2
  · cases e2
/-- x.extend(e) on an owned list -/
theorem st_ext (n : NameOk X i x) (ke : EvOk z X e r) (oe : ord e = true) (hl : (apos.endLine == pos'.line) = true) :
    StOk z X (.Expr (.Call (.Attribute (.Name x npos) "extend" apos) [e] [] pos') pos) (fun σ h => (r σ h).bind fun y h1 => match PF.get σ i, y.toV with
    | some (.ol xs), .d (.lst ys) => if decide (xs.length + ys.length ≤ PF.LIM) then .ok (PF.setN σ i (.ol (xs ++ ys)), .nx) h1 else .err
    | _, _ => .err) := by
  intro σ h σ1 fl h1 e0 ρ ω M σ' H sr D c
  obtain ⟨y, h2, e1, e2⟩ := bind_ok e0
  split at e2
  · rename_i xs d q hy
    split at e2
    · rename_i hlt
      cases e2
      simp only [decide_eq_true_eq] at hlt
      obtain ⟨b, ys, a, g1, g2, rr⟩ := own_l sr q
      refine ws_ps (L2.ps_expr (L2.pe_bm PySem.F.plainAttrs_list PySem.F.slot_list_extend PySem.F.type_list_extend L2.mt_extend n.pe (L2.pa_cons (pe_we X e) L2.pa_nil (ord_star oe _ _)) rfl (by rw [ord_star oe]; rfl) hl (ord_star oe _ _) rfl)) ⟨_, g1, .inl ⟨rfl, _, L2.SqL.of g2⟩, ?_⟩
      refine ke.v e1 sr fun ρ1 M1 H1 v x1 f1 sr1 rv => ?_
      rw [hy] at rv
      obtain ⟨b', ys', a', g1', g2', rr'⟩ := own_l sr1 q
      rw [g1] at g1'
      cases g1'
      obtain ⟨p, us, rfl, g3, g4, g5⟩ := rv.d_inv.lst_inv
      refine ⟨b, p, ys', us, rfl, rfl, g2', g3, by rw [← rr'.length, ← g5.length, ← LIM_eq]; exact hlt, ?_⟩
      obtain ⟨sr2, f2⟩ := sr1.wr (s := .ol (xs ++ d)) (u := .lst (ys' ++ us)) a g1 (.ol rfl L2.upd_same ((rr'.append g5).kp (own_kp (sr1.om i b a).1)))
      exact c ρ1 ω M1 σ' _ x1 (f1.fs.trans f2) sr2
    · cases e2
  · cases e2
/-- o.append(e) on a list of the heap -/
theorem st_appH (ko : EvOk z X o ro) (oo : ord o = true) (ke : EvOk z X e r) (oe : ord e = true) (hl : (apos.endLine == pos'.line) = true) :
    StOk z X (.Expr (.Call (.Attribute o "append" apos) [e] [] pos') pos) (fun σ h => (ro σ h).bind fun x h1 => match x with
    | .v (.ref a) => match h1[a]? with
      | some (.lst _) => (r σ h1).bind fun y h2 => match h2[a]? with
        | some (.lst xs) => if decide (xs.length < PF.LIM) then .ok (σ, .nx) (h2.set a (.lst (xs ++ [y.toV]))) else .err
        | _ => .err
      | _ => .err
    | _ => .err) := by
  intro σ h σ1 fl h1 e0 ρ ω M σ' H sr D c
  obtain ⟨xo, h2, e1, e2⟩ := bind_ok e0
  split at e2
  · rename_i a
    split at e2
    · rename_i xs0 hp0
      obtain ⟨y, h3, e3, e4⟩ := bind_ok e2
      split at e4
      · rename_i xs hp
        split at e4
        · rename_i hlt
          cases e4
          simp only [decide_eq_true_eq] at hlt
          refine ws_ps (L2.ps_expr (L2.pe_bm PySem.F.plainAttrs_list PySem.F.slot_list_append PySem.F.type_list_append L2.mt_append (pe_we X o) (L2.pa_cons (pe_we X e) L2.pa_nil (ord_star oe _ _)) (ord_base oo _ _ _) (by rw [ord_star oe]; rfl) hl (ord_star oe _ _) rfl)) (ko.v e1 sr fun ρ1 M1 H1 v x1 f1 sr1 rv => ?_)
          obtain ⟨b, hb, rfl⟩ := RV.ref_inv (a := a) rv
          cases sr1.hr.obj a _ b hp0 hb with
          | lst g1 g2 =>
            refine ⟨.inl ⟨rfl, _, L2.SqL.of g1⟩, ke.v e3 sr1 fun ρ2 M2 H2 u x2 f2 sr2 ru => ?_⟩
            have hb2 := x2 _ _ hb
            cases sr2.hr.obj a _ b hp hb2 with
            | lst g3 g4 =>
              have hbm := List.mem_of_getElem? hb2
              refine ⟨b, _, u, rfl, rfl, g3, by rw [← g4.length, ← LIM_eq]; exact hlt, ?_⟩
              exact c ρ2 ω M2 σ' _ (x1.trans x2) (((f1.trans f2).trans (Fm.put hbm)).fs) (sr2.fm (Fm.put hbm) Ext.refl (sr2.hr.putLst hb2 (g4.append (.cons ru .nil))))
        · cases e4
      · cases e4
    · cases e2
  · cases e2
end
/-! fields -/
theorem putF_at : ∀ {fs : List (Str × L2.V)} {p : Nat} {n : Str} {w : L2.V}, (fs.map (·.1)).Nodup → (fs.map (·.1))[p]? = some n → (L2.putF n w fs).map (·.1) = fs.map (·.1) ∧ (L2.putF n w fs).map (·.2) = (fs.map (·.2)).set p w
  | [], _, _, _, _, e => by simp at e
  | (m, v) :: fs, 0, n, w, _, e => by
    simp at e
    subst e
    simp [L2.putF]
  | (m, v) :: fs, p + 1, n, w, nd, e => by
    simp only [List.map_cons, List.nodup_cons] at nd
    have e' : (fs.map (·.1))[p]? = some n := by simpa using e
    have hne : m ≠ n := by
      rintro rfl
      exact nd.1 (List.mem_of_getElem? e')
    obtain ⟨g1, g2⟩ := putF_at (w := w) nd.2 e'
    simp [L2.putF, hne, g1, g2]
theorem putF_new : ∀ {fs : List (Str × L2.V)} {n : Str} {w : L2.V}, n ∉ fs.map (·.1) → L2.putF n w fs = fs ++ [(n, w)]
  | [], _, _, _ => rfl
  | (m, v) :: fs, n, w, h => by
    simp only [List.map_cons, List.mem_cons, not_or] at h
    have hne : m ≠ n := fun q => h.1 q.symm
    simp only [L2.putF, if_neg hne, List.cons_append, putF_new h.2]
theorem putFld_ok {a f : Nat} {x : PF.V} {h h1 : PF.Hp} (zk : ZOk z) (e : PF.putFld z.T a f x h = some h1) {ρ : List Addr} {v : L2.V} {b : Addr} (hr : HR z ρ M h H) (hb : ρ[a]? = some b) (rv : RV z ρ M H x v) :
    ∃ c C dx fs, H b = some (.ins (z.κ c) dx fs) ∧ z.T.cls c = some C ∧ L2.NoAttr z.K (z.κ c) (z.G.aN f) ∧ fs.length < 1000 ∧ HR z ρ M h1 (L2.upd H b (.ins (z.κ c) dx (L2.putF (z.G.aN f) v fs))) := by
  unfold PF.putFld at e
  split at e
  · rename_i c vs hp
    simp only [Option.bind_eq_some_iff] at e
    obtain ⟨C, e1, p, e2, e3⟩ := e
    have co := zk.cl c C e1
    have hbm := List.mem_of_getElem? hb
    cases hr.obj a _ b hp hb with
    | @ins _ _ fs dx g1 g2 g3 =>
      have nd : (fs.map (·.1)).Nodup := by rw [g2]; exact fnames_nd e1 co
      have hfl : fs.length = vs.length := by rw [g3.length, List.length_map]
      have hpl : p < C.flds.length := (List.getElem?_eq_some_iff.mp (find_get e2)).1
      have hle : fs.length ≤ C.flds.length := by
        have := congrArg List.length g2
        rw [List.length_map, fnames_eq e1, List.length_map, List.length_take] at this
        omega
      refine ⟨c, C, dx, fs, g1, e1, co.noat f (find_mem e2), by have := co.few; omega, ?_⟩
      split at e3
      · rename_i hlt
        simp only [decide_eq_true_eq] at hlt
        cases e3
        have at_ : (fs.map (·.1))[p]? = some (z.G.aN f) := by
          rw [g2, fnames_eq e1, List.getElem?_map, List.getElem?_take, if_pos hlt, find_get e2]; rfl
        obtain ⟨q1, q2⟩ := putF_at (w := v) nd at_
        refine hr.put hb (.ins L2.upd_same ?_ ?_)
        · rw [q1, g2, List.length_set]
        · rw [q2]
          exact put_rvs hr hbm (g3.set rv p)
      · split at e3
        · rename_i hlt heq
          simp only [decide_eq_true_eq] at heq hlt
          cases e3
          have hk : (C.flds.take (vs.length + 1)).map z.G.aN = (C.flds.take vs.length).map z.G.aN ++ [z.G.aN f] := by
            rw [List.take_add_one, List.map_append, ← heq, find_get e2]; rfl
          have hn : z.G.aN f ∉ fs.map (·.1) := by
            have nd2 : (fnames z c (vs.length + 1)).Nodup := fnames_nd e1 co
            rw [fnames_eq e1, hk, List.nodup_append] at nd2
            rw [g2, fnames_eq e1]
            exact fun q => nd2.2.2 _ q _ (by simp) rfl
          rw [putF_new hn]
          refine hr.put hb (.ins L2.upd_same ?_ ?_)
          · rw [List.map_append, g2, List.length_append, fnames_eq e1, fnames_eq e1]
            exact hk.symm
          · rw [List.map_append]
            exact put_rvs hr hbm (g3.append (.cons rv .nil))
        · cases e3
  · cases e
section
variable {st : Stmt} {pos pos' apos npos : Pos} {e o ix : Expr} {r ro ri : Rx} {i f : Nat} {x : Str}
/-- o.f = e -/
theorem st_setF (zk : ZOk z) (gx : GX z k X) (ko : EvOk z X o ro) (ke : EvOk z X e r) (hs : swapsWith e (some (.Attribute o (z.G.aN f) pos')) pos.line X.env = pure false) (p : Bool) :
    StOk z X (.Assign [.Attribute o (z.G.aN f) pos'] e pos) (fun σ h => (r σ h).bind fun y h1 => (ro σ h1).bind fun x h2 => match x with
    | .v (.ref a) => if p then (PF.lift (PF.putFld z.T a f (PF.promote y h2).1 (PF.promote y h2).2) h2).bind fun h3 _ => .ok (σ, .nx) h3
      else (PF.lift (PF.putFld z.T a f y.toV h2) h2).bind fun h3 _ => .ok (σ, .nx) h3
    | _ => .err) := by
  intro σ h σ1 fl h1 e0 ρ ω M σ' H sr D c
  obtain ⟨y, h2, e1, e2⟩ := bind_ok e0
  obtain ⟨xo, h3, e3, e4⟩ := bind_ok e2
  split at e4
  · rename_i a
    refine ws_ps (L2.ps_fld (pe_we X o) (pe_we X e) hs) (ke σ h y h2 e1 ρ ω M σ' H sr _ fun ρ1 M1 H1 v x1 f1 sr1 rx nw => ko.v e3 sr1 fun ρ2 M2 H2 u x2 f2 sr2 ru => ?_)
    have rx2 := rx.fm f2 x2 sr1.hr.mu
    obtain ⟨b, hb, rfl⟩ := RV.ref_inv (a := a) ru
    have fin : ∀ {ρ3 M3 hq hz w}, Ext ρ ρ3 → Fm ρ M H ρ3 M3 H2 → SR z ρ3 ω M3 σ hq σ' H2 → RV z ρ3 M3 H2 w v → ρ3[a]? = some b → PF.putFld z.T a f w hq = some hz → (σ1, fl, h1) = (σ, .nx, hz) → ∃ a' C dx fs, L2.V.ref b = .ref a' ∧ H2 a' = some (.ins C dx fs) ∧ L2.Cls X.K C ∧ L2.NoAttr X.K C (z.G.aN f) ∧ fs.length < 1000 ∧ D.nx σ' (L2.upd H2 a' (.ins C dx (L2.putF (z.G.aN f) v fs))) := by
      intro ρ3 M3 hq hz w x3 f3 sr3 rv3 hb3 ep eq
      cases eq
      obtain ⟨c', C, dx, fs, g1, g2, g3, g4, g5⟩ := putFld_ok zk ep sr3.hr hb3 rv3
      have hbm := List.mem_of_getElem? hb3
      refine ⟨b, z.κ c', dx, fs, rfl, g1, by rw [gx.K]; exact (zk.cl c' C g2).cls, by rw [gx.K]; exact g3, g4, ?_⟩
      exact c ρ3 ω M3 σ' _ x3 (f3.trans (Fm.put hbm)).fs (sr3.fm (Fm.put hbm) Ext.refl g5)
    split at e4
    · obtain ⟨h4, h5, e5, e6⟩ := bind_ok e4
      obtain ⟨e7, rfl⟩ := lift_ok e5
      cases e6
      obtain ⟨ρ3, x3, f3, sr3, rv3⟩ := promo sr2 rx2 nw (f1.trans f2)
      exact fin ((x1.trans x2).trans x3) f3 sr3 rv3 (x3 _ _ hb) e7 rfl
    · obtain ⟨h4, h5, e5, e6⟩ := bind_ok e4
      obtain ⟨e7, rfl⟩ := lift_ok e5
      cases e6
      obtain ⟨M3, sr3, rv3, f3⟩ := forget sr2 rx2 nw (f1.trans f2)
      exact fin (x1.trans x2) f3 sr3 rv3 hb e7 rfl
  · cases e4
theorem fldOf_ref {T : PF.Tab} {a f : Nat} {h : PF.Hp} {x : PF.V} (e : PF.fldOf T (.ref a) f h = some x) : ∃ c vs, h[a]? = some (.ins c vs) := by
  simp only [PF.fldOf] at e
  split at e
  · rename_i c vs hp; exact ⟨c, vs, hp⟩
  · cases e
theorem putFld_ref {T : PF.Tab} {a f : Nat} {h h1 : PF.Hp} {x : PF.V} (e : PF.putFld T a f x h = some h1) : ∃ c vs, h[a]? = some (.ins c vs) := by
  unfold PF.putFld at e
  split at e
  · rename_i c vs hp; exact ⟨c, vs, hp⟩
  · cases e
/-- o.f op= e, ints -/
theorem opV_int {p : PF.Op} {u y w : PF.V} (e : PF.opV p u y = some w) : ∃ i j, u = .d (.int i) ∧ y = .d (.int j) ∧ ((p = .add ∧ w = .d (.int (i + j))) ∨ (p = .sub ∧ w = .d (.int (i - j)))) := by
  unfold PF.opV at e
  split at e
  · cases e; exact ⟨_, _, rfl, rfl, .inl ⟨rfl, rfl⟩⟩
  · cases e; exact ⟨_, _, rfl, rfl, .inr ⟨rfl, rfl⟩⟩
  · cases e
theorem st_augF (zk : ZOk z) (gx : GX z k X) (ko : EvOk z X o ro) (ke : EvOk z X e r) (p : PF.Op) :
    StOk z X (.AugAssign (.Attribute o (z.G.aN f) pos') (opO p) e pos) (fun σ h => (ro σ h).bind fun x h1 => match x with
    | .v (.ref a) => (PF.lift (PF.fldOf z.T (.ref a) f h1) h1).bind fun u h1 => (r σ h1).bind fun y h2 => if PF.clsOf (.ref a) h1 = PF.clsOf (.ref a) h2 then (PF.lift (PF.opV p u y.toV) h2).bind fun w h2 => (PF.lift (PF.putFld z.T a f w h2) h2).bind fun h3 _ => .ok (σ, .nx) h3 else .err
    | _ => .err) := by
  intro σ h σ1 fl h1 e0 ρ ω M σ' H sr D c
  obtain ⟨xo, h2, e1, e2⟩ := bind_ok e0
  split at e2
  · rename_i a
    obtain ⟨u, h3, e3, e4⟩ := bind_ok e2
    obtain ⟨e3', rfl⟩ := lift_ok e3
    obtain ⟨y, h4, e5, e6⟩ := bind_ok e4
    split at e6
    case isFalse => cases e6
    rename_i hcl
    obtain ⟨w, h5, e7, e8⟩ := bind_ok e6
    obtain ⟨e7', rfl⟩ := lift_ok e7
    obtain ⟨hq, h6, e9, e10⟩ := bind_ok e8
    obtain ⟨e9', rfl⟩ := lift_ok e9
    cases e10
    obtain ⟨i, j, rfl, hy, hop⟩ := opV_int e7'
    have go : ∀ {rd : L2.V → L2.V → Hp → L2.VK → Prop} (n : Int), L2.InOp X (opO p) rd → w = .d (.int n) → (∀ H Q, Q (.int n) H → rd (.int i) (.int j) H Q) → WS X (.AugAssign (.Attribute o (z.G.aN f) pos') (opO p) e pos) D σ' H := by
      intro rd n hin hw hrd
      refine ws_ps (L2.ps_fldaug (pe_we X o) (pe_we X e) hin) (ko.v e1 sr fun ρ1 M1 H1 v x1 f1 sr1 rv => ?_)
      obtain ⟨a', c', C, dx, fs, w', rfl, g1, g2, g3, g4, g5⟩ := fld_ok zk e3' sr1 rv
      obtain ⟨b, hb, eb⟩ := RV.ref_inv (a := a) rv
      cases eb
      refine ⟨a', z.κ c', dx, fs, w', rfl, g1, by rw [gx.K]; exact (zk.cl c' C g2).cls, by rw [gx.K]; exact g3, g4, ke.v e5 sr1 fun ρ2 M2 H2 v2 x2 f2 sr2 rv2 => ?_⟩
      rw [hy] at rv2
      rw [rv2.d_inv.int_inv, g5.d_inv.int_inv]
      refine hrd _ _ ?_
      obtain ⟨c2, C2, dx2, fs2, q1, q2, q3, q4, q5⟩ := putFld_ok (v := .int n) zk e9' sr2.hr (x2 _ _ hb) (by rw [hw]; exact .d (.int n))
      have hbm := List.mem_of_getElem? (x2 _ _ hb)
      have hcc : z.κ c2 = z.κ c' := by
        obtain ⟨c0, vs0, p0⟩ := fldOf_ref e3'
        obtain ⟨c3, vs3, p3⟩ := putFld_ref e9'
        have h03 : c0 = c3 := by
          unfold PF.clsOf at hcl
          simp only [p0, p3] at hcl
          exact Option.some.inj hcl
        subst h03
        cases sr1.hr.obj a _ _ p0 hb with
        | ins s1 s2 s3 =>
          cases sr2.hr.obj a _ _ p3 (x2 _ _ hb) with
          | ins t1 t2 t3 =>
            rw [g1] at s1
            rw [q1] at t1
            injection s1 with s1
            injection t1 with t1
            injection s1 with s1 _ _
            injection t1 with t1 _ _
            rw [s1, t1]
      refine ⟨dx2, fs2, by rw [← hcc]; exact q1, q4, ?_⟩
      rw [← hcc]
      exact c ρ2 ω M2 σ' _ (x1.trans x2) ((f1.trans f2).trans (Fm.put hbm)).fs (sr2.fm (Fm.put hbm) Ext.refl q5)
    rcases hop with ⟨rfl, rfl⟩ | ⟨rfl, rfl⟩
    · exact go _ L2.in_add rfl fun H Q q => ⟨i, j, rfl, rfl, q⟩
    · exact go _ L2.in_sub rfl fun H Q q => ⟨i, j, rfl, rfl, q⟩
  · cases e2
end
end Br
set_option Elab.async false
set_option linter.all false
set_option maxRecDepth 100000
set_option maxHeartbeats 400000
namespace Br
open PySem PySem.Spec PyProof.Rows PySem.SeqAt
variable {z : Z} {M M' M'' M0 : Addr → Prop} {H H' H'' H0 : Hp} {X : L2.Cx} {k : Nat}
/-! ### dict stores -/
theorem KsR.snoc : ∀ {ks : List PF.D} {js : List L2.Key} {kd : PF.D} {j : L2.Key}, KsR ks js → keyR kd j → KsR (ks ++ [kd]) (js ++ [j])
  | _, _, _, _, .nil, h => .cons h .nil
  | _, _, _, _, .cons a r, h => .cons a (KsR.snoc r h)
def repK (j : L2.Key) (y : L2.V) (ys : List (L2.Key × L2.V)) : List (L2.Key × L2.V) := ys.map (fun kv => if kv.1 = j then (kv.1, y) else kv)
theorem repK_fst {j : L2.Key} {y : L2.V} : ∀ (ys : List (L2.Key × L2.V)), (repK j y ys).map (·.1) = ys.map (·.1)
  | [] => rfl
  | (a, b) :: ys => by
    have := repK_fst (j := j) (y := y) ys
    unfold repK at this ⊢
    rw [List.map_cons, List.map_cons, List.map_cons, this]
    by_cases e : a = j <;> simp [e]
theorem rep_v {ρ : List Addr} {kd : PF.D} {j : L2.Key} (hk : keyR kd j) {x : PF.V} {y : L2.V} (rv : RV z ρ M H x y) : ∀ {ks : List PF.D} {vs : List PF.V} {ys : List (L2.Key × L2.V)}, KsR ks (ys.map (·.1)) → RVs z ρ M H vs (ys.map (·.2)) → RVs z ρ M H (PF.dicRep kd x ks vs) ((repK j y ys).map (·.2))
  | [], [], [], _, _ => .nil
  | [], _ :: _, [], _, q => by cases q
  | [], _ :: _, _ :: _, h, _ => by cases h
  | _ :: _, [], [], h, _ => by cases h
  | _ :: _, [], _ :: _, _, q => by cases q
  | a :: ks, b :: vs, (j', v) :: ys, .cons h r, .cons q r2 => by
    have ih := rep_v hk rv r r2
    show RVs z ρ M H ((if PF.eqb a kd then x else b) :: PF.dicRep kd x ks vs) (((if j' = j then (j', y) else (j', v)) :: repK j y ys).map (·.2))
    rw [keyR_eq h hk, List.map_cons]
    by_cases e : j' = j
    · rw [if_pos (by simp [e]), if_pos e]
      exact .cons rv ih
    · rw [if_neg (by simp [e]), if_neg e]
      exact .cons q ih
theorem rep_d {kd : PF.D} {j : L2.Key} (hk : keyR kd j) {x : PF.D} {y : L2.V} (rv : RD z M H x y) : ∀ {ks : List PF.D} {vs : List PF.D} {ys : List (L2.Key × L2.V)}, KsR ks (ys.map (·.1)) → RDs z M H vs (ys.map (·.2)) → RDs z M H (PF.dicRep kd x ks vs) ((repK j y ys).map (·.2))
  | [], [], [], _, _ => .nil
  | [], _ :: _, [], _, q => by cases q
  | [], _ :: _, _ :: _, h, _ => by cases h
  | _ :: _, [], [], h, _ => by cases h
  | _ :: _, [], _ :: _, _, q => by cases q
  | a :: ks, b :: vs, (j', v) :: ys, .cons h r, .cons q r2 => by
    have ih := rep_d hk rv r r2
    show RDs z M H ((if PF.eqb a kd then x else b) :: PF.dicRep kd x ks vs) (((if j' = j then (j', y) else (j', v)) :: repK j y ys).map (·.2))
    rw [keyR_eq h hk, List.map_cons]
    by_cases e : j' = j
    · rw [if_pos (by simp [e]), if_pos e]
      exact .cons rv ih
    · rw [if_neg (by simp [e]), if_neg e]
      exact .cons q ih
theorem put_v {ρ : List Addr} {kd : PF.D} {j : L2.Key} (hk : keyR kd j) {x : PF.V} {y : L2.V} (rv : RV z ρ M H x y) {ks : List PF.D} {vs : List PF.V} {ys : List (L2.Key × L2.V)} (h1 : KsR ks (ys.map (·.1))) (h2 : RVs z ρ M H vs (ys.map (·.2))) :
    KsR (PF.dicPutV kd x ks vs).1 ((L2.putK ys j y).map (·.1)) ∧ RVs z ρ M H (PF.dicPutV kd x ks vs).2 ((L2.putK ys j y).map (·.2)) := by
  unfold PF.dicPutV PF.dicPutA L2.putK
  rw [KsR.any hk h1, L2.valV_any]
  cases (L2.valV ys j).isSome with
  | true =>
    rw [if_pos rfl, if_pos rfl]
    refine ⟨?_, rep_v hk rv h1 h2⟩
    have := repK_fst (j := j) (y := y) ys
    unfold repK at this
    rw [this]
    exact h1
  | false =>
    rw [if_neg Bool.false_ne_true, if_neg Bool.false_ne_true, List.map_append, List.map_append]
    exact ⟨h1.snoc hk, h2.append (.cons rv .nil)⟩
theorem put_d {kd : PF.D} {j : L2.Key} (hk : keyR kd j) {x : PF.D} {y : L2.V} (rv : RD z M H x y) {ks : List PF.D} {vs : List PF.D} {ys : List (L2.Key × L2.V)} (h1 : KsR ks (ys.map (·.1))) (h2 : RDs z M H vs (ys.map (·.2))) :
    KsR (PF.dicPut kd x ks vs).1 ((L2.putK ys j y).map (·.1)) ∧ RDs z M H (PF.dicPut kd x ks vs).2 ((L2.putK ys j y).map (·.2)) := by
  unfold PF.dicPut PF.dicPutA L2.putK
  rw [KsR.any hk h1, L2.valV_any]
  cases (L2.valV ys j).isSome with
  | true =>
    rw [if_pos rfl, if_pos rfl]
    refine ⟨?_, rep_d hk rv h1 h2⟩
    have := repK_fst (j := j) (y := y) ys
    unfold repK at this
    rw [this]
    exact h1
  | false =>
    rw [if_neg Bool.false_ne_true, if_neg Bool.false_ne_true, List.map_append, List.map_append]
    exact ⟨h1.snoc hk, h2.append (.cons rv .nil)⟩
theorem KsR.length : ∀ {ks : List PF.D} {js : List L2.Key}, KsR ks js → ks.length = js.length
  | _, _, .nil => rfl
  | _, _, .cons _ r => by rw [List.length_cons, List.length_cons, KsR.length r]
theorem ord_asgSub {o ix : Expr} {spos : Pos} (h : ord ix = true) (env : Env) (v : Value) : assign (.Subscript o ix spos) env v = (do
      let ov ← holding [v] (eval o env)
      let iv ← holding [v, ov] (eval ix env)
      standAt spos
      holding [v, ov, iv] (setItem ov iv v)
      release [v, ov, iv] []) := by
  cases ix <;> first | rfl | cases h
section
variable {st : Stmt} {pos pos' apos npos spos : Pos} {e o ix : Expr} {r ro ri : Rx} {i f : Nat} {x : Str}
/-- o[i] = e on the heap -/
theorem st_setI (gx : GX z k X) (ko : EvOk z X o ro) (ki : EvOk z X ix ri) (ke : EvOk z X e r) (oi : ord ix = true) (hs : swapsWithSole [.Subscript o ix spos] e pos.line X.env = pure false) (hw : swappedStores [.Subscript o ix spos] e X.env = pure none) :
    StOk z X (.Assign [.Subscript o ix spos] e pos) (fun σ h => (r σ h).bind fun y h1 => (ro σ h1).bind fun x h2 => (ri σ h2).bind fun k h3 => (PF.lift (PF.setIV x.toV k.toV y.toV h3) h3).bind fun h4 _ => .ok (σ, .nx) h4) := by
  intro σ h σ1 fl h1 e0 ρ ω M σ' H sr D c
  obtain ⟨y, h2, e1, e2⟩ := bind_ok e0
  obtain ⟨xo, h3, e3, e4⟩ := bind_ok e2
  obtain ⟨xk, h4, e5, e6⟩ := bind_ok e4
  obtain ⟨hq, h5, e7, e8⟩ := bind_ok e6
  obtain ⟨e7', rfl⟩ := lift_ok e7
  cases e8
  have ha : ∀ v, assign (.Subscript o ix spos) X.env v = (do
      let ov ← holding [v] (eval o X.env)
      let iv ← holding [v, ov] (eval ix X.env)
      standAt spos
      holding [v, ov, iv] (setItem ov iv v)
      release [v, ov, iv] []) := ord_asgSub oi _
  have hu := gx.room.units
  unfold PF.setIV at e7'
  split at e7'
  · rename_i a kd hxo hxk
    split at e7'
    · rename_i xs hp
      split at e7'
      · rename_i n
        simp only [Option.map_eq_some_iff] at e7'
        obtain ⟨j, hj, rfl⟩ := e7'
        refine ws_ps (L2.ps_asg (pe_we X e) (L2.pg_sub (pe_we X o) (pe_we X ix) L2.set_list ha) hs hw rfl) (ke.v e1 sr fun ρ1 M1 H1 v x1 f1 sr1 rv => ko.v e3 sr1 fun ρ2 M2 H2 u x2 f2 sr2 ru => ki.v e5 sr2 fun ρ3 M3 H3 w x3 f3 sr3 rw' => ?_)
        rw [hxo] at ru
        rw [hxk] at rw'
        obtain ⟨b, hb, rfl⟩ := ru.ref_inv
        have hb3 := x3 _ _ hb
        have rv3 := (rv.kp x2 (f2.kp sr1.hr.mu)).kp x3 (f3.kp sr2.hr.mu)
        cases sr3.hr.obj a _ b hp hb3 with
        | lst g1 g2 =>
          have hbm := List.mem_of_getElem? hb3
          refine ⟨b, _, n, j, rfl, rw'.d_inv.int_inv, g1, by rw [← g2.length, ixN_eq]; exact hj, ?_⟩
          exact c ρ3 ω M3 σ' _ ((x1.trans x2).trans x3) (((f1.trans f2).trans f3).trans (Fm.put hbm)).fs (sr3.fm (Fm.put hbm) Ext.refl (sr3.hr.putLst hb3 (g2.set rv3 j)))
      · cases e7'
    · rename_i ks vs hp
      split at e7'
      · rename_i hc
        cases e7'
        simp only [Bool.and_eq_true, decide_eq_true_eq] at hc
        obtain ⟨j, hk⟩ := key_of_isKey hc.1
        refine ws_ps (L2.ps_asg (pe_we X e) (L2.pg_sub (pe_we X o) (pe_we X ix) (L2.set_dict (by omega)) ha) hs hw rfl) (ke.v e1 sr fun ρ1 M1 H1 v x1 f1 sr1 rv => ko.v e3 sr1 fun ρ2 M2 H2 u x2 f2 sr2 ru => ki.v e5 sr2 fun ρ3 M3 H3 w x3 f3 sr3 rw' => ?_)
        rw [hxo] at ru
        rw [hxk] at rw'
        obtain ⟨b, hb, rfl⟩ := ru.ref_inv
        have hb3 := x3 _ _ hb
        have rv3 := (rv.kp x2 (f2.kp sr1.hr.mu)).kp x3 (f3.kp sr2.hr.mu)
        cases sr3.hr.obj a _ b hp hb3 with
        | @dic _ _ ys g1 g2 g3 =>
          have hbm := List.mem_of_getElem? hb3
          refine ⟨b, L2.upd H3 b (.dK (L2.putK ys j v)), rfl, ?_, ?_⟩
          · rw [keyR_kV hk rw'.d_inv]
            exact L2.DPut.k g1 (by rw [← List.length_map (f := (·.1)), ← g2.length, ← LIM_eq]; exact hc.2)
          obtain ⟨q1, q2⟩ := put_v hk rv3 g2 g3
          exact c ρ3 ω M3 σ' _ ((x1.trans x2).trans x3) (((f1.trans f2).trans f3).trans (Fm.put hbm)).fs (sr3.fm (Fm.put hbm) Ext.refl (sr3.hr.put hb3 (.dic L2.upd_same q1 (put_rvs sr3.hr hbm q2))))
      · cases e7'
    · cases e7'
  · cases e7'
/-- x[i] = e on an owned list or dict -/
theorem st_setO (gx : GX z k X) (n : NameOk X i x) (ki : EvOk z X ix ri) (ke : EvOk z X e r) (oi : ord ix = true) (hs : swapsWithSole [.Subscript (.Name x npos) ix spos] e pos.line X.env = pure false) (hw : swappedStores [.Subscript (.Name x npos) ix spos] e X.env = pure none) :
    StOk z X (.Assign [.Subscript (.Name x npos) ix spos] e pos) (fun σ h => (r σ h).bind fun y h1 => (ri σ h1).bind fun k h2 => match PF.get σ i, k, y.toV with
    | some (.ol xs), .v (.d (.int n)), .d y => match PF.ixN xs.length n with
      | some j => .ok (PF.setN σ i (.ol (xs.set j y)), .nx) h2
      | none => .err
    | some (.od ks vs), .v (.d k), .d y => if PF.isKey k && decide (ks.length < PF.LIM) then .ok (PF.setN σ i (.od (PF.dicPut k y ks vs).1 (PF.dicPut k y ks vs).2), .nx) h2 else .err
    | _, _, _ => .err) := by
  intro σ h σ1 fl h1 e0 ρ ω M σ' H sr D c
  obtain ⟨y, h2, e1, e2⟩ := bind_ok e0
  obtain ⟨xk, h4, e5, e6⟩ := bind_ok e2
  have ha : ∀ v, assign (.Subscript (.Name x npos) ix spos) X.env v = (do
      let ov ← holding [v] (eval (.Name x npos) X.env)
      let iv ← holding [v, ov] (eval ix X.env)
      standAt spos
      holding [v, ov, iv] (setItem ov iv v)
      release [v, ov, iv] []) := ord_asgSub oi _
  have hu := gx.room.units
  split at e6
  · rename_i xs m d q hy
    split at e6
    · rename_i j hj
      cases e6
      obtain ⟨b, ys, a, g1, g2, rr⟩ := own_l sr q
      refine ws_ps (L2.ps_asg (pe_we X e) (L2.pg_sub n.pe (pe_we X ix) L2.set_list ha) hs hw rfl) (ke.v e1 sr fun ρ1 M1 H1 v x1 f1 sr1 rv => ⟨_, g1, ki.v e5 sr1 fun ρ3 M3 H3 w x3 f3 sr3 rw' => ?_⟩)
      rw [hy] at rv
      have rv3 := rv.kp x3 (f3.kp sr1.hr.mu)
      obtain ⟨b', ys', a', g1', g2', rr'⟩ := own_l sr3 q
      rw [g1] at g1'
      cases g1'
      refine ⟨b, ys', m, j, rfl, (RV.d_inv (x := .int m) rw').int_inv, g2', by rw [← rr'.length, ixN_eq]; exact hj, ?_⟩
      obtain ⟨sr2, f2⟩ := sr3.wr (s := .ol (xs.set j d)) (u := .lst (ys'.set j v)) a g1 (.ol rfl L2.upd_same ((rr'.set rv3.d_inv j).kp (own_kp (sr3.om i b a).1)))
      exact c ρ3 ω M3 σ' _ (x1.trans x3) ((f1.trans f3).fs.trans f2) sr2
    · cases e6
  · rename_i ks vs kd d q hy
    split at e6
    · rename_i hc
      cases e6
      simp only [Bool.and_eq_true, decide_eq_true_eq] at hc
      obtain ⟨j, hk⟩ := key_of_isKey hc.1
      obtain ⟨b, ys, a, g1, g2, g3, rr⟩ := own_d sr q
      refine ws_ps (L2.ps_asg (pe_we X e) (L2.pg_sub n.pe (pe_we X ix) (L2.set_dict (by omega)) ha) hs hw rfl) (ke.v e1 sr fun ρ1 M1 H1 v x1 f1 sr1 rv => ⟨_, g1, ki.v e5 sr1 fun ρ3 M3 H3 w x3 f3 sr3 rw' => ?_⟩)
      rw [hy] at rv
      have rv3 := rv.kp x3 (f3.kp sr1.hr.mu)
      obtain ⟨b', ys', a', g1', g2', g3', rr'⟩ := own_d sr3 q
      rw [g1] at g1'
      cases g1'
      refine ⟨b, L2.upd H3 b (.dK (L2.putK ys' j v)), rfl, ?_, ?_⟩
      · rw [keyR_kV hk (RV.d_inv (x := kd) rw')]
        exact L2.DPut.k g2' (by rw [← List.length_map (f := (·.1)), ← g3'.length, ← LIM_eq]; exact hc.2)
      obtain ⟨q1, q2⟩ := put_d hk rv3.d_inv g3' rr'
      obtain ⟨sr2, f2⟩ := sr3.wr (s := .od (PF.dicPut kd d ks vs).1 (PF.dicPut kd d ks vs).2) (u := .dK (L2.putK ys' j v)) a g1 (.od rfl L2.upd_same q1 (q2.kp (own_kp (sr3.om i b a).1)))
      exact c ρ3 ω M3 σ' _ (x1.trans x3) ((f1.trans f3).fs.trans f2) sr2
    · cases e6
  · cases e6
/-- x op= e, ints -/
theorem st_aug (gx : GX z k X) (hi : X.N[i]? = some x) (hx : L2.Loc X.env.scope x) (hf : X.fn x = true ∨ X.env.scope.names.lookup x = some .local) (ke : EvOk z X e r) (p : PF.Op) :
    StOk z X (.AugAssign (.Name x npos) (opO p) e pos) (fun σ h => match PF.get σ i with
    | some (.v x) => (r σ h).bind fun y h1 => (PF.lift (PF.opV p x y.toV) h1).bind fun z h1 => .ok (PF.setN σ i (.v z), .nx) h1
    | _ => .err) := by
  intro σ h σ1 fl h1 e0 ρ ω M σ' H sr D c
  simp only at e0
  split at e0
  · rename_i xv q
    obtain ⟨y, h2, e1, e2⟩ := bind_ok e0
    obtain ⟨w, h3, e3, e4⟩ := bind_ok e2
    obtain ⟨e3', rfl⟩ := lift_ok e3
    cases e4
    obtain ⟨a, b, rfl, hy, hop⟩ := opV_int e3'
    obtain ⟨v, g1, g2⟩ := sr.slot i _ (get_some q)
    cases g2 with
    | v g2 =>
      have go : ∀ {t : L2.TIp} (m : Int), L2.PIp X (opO p) t → w = .d (.int m) → (∀ H Q, Q (.int m) H → t (.int a) (.int b) H Q) → WS X (.AugAssign (.Name x npos) (opO p) e pos) D σ' H := by
        intro t m hp hw ht
        refine ws_ps (L2.ps_aug gx.nd hi hx (pe_we X e) hp hf) ⟨v, g1, ke.v e1 sr fun ρ1 M1 H1 u x1 f1 sr1 ru => ?_⟩
        rw [hy] at ru
        rw [g2.d_inv.int_inv, ru.d_inv.int_inv]
        refine ht _ _ (c ρ1 ω M1 _ H1 x1 f1.fs ?_)
        rw [hw]
        exact sr1.set i (.d (.int m))
      rcases hop with ⟨rfl, rfl⟩ | ⟨rfl, rfl⟩
      · exact go _ L2.ip_add rfl fun H Q q => ⟨a, b, rfl, rfl, q⟩
      · exact go _ L2.ip_sub rfl fun H Q q => ⟨a, b, rfl, rfl, q⟩
  · cases e0
end
end Br
set_option Elab.async false
set_option linter.all false
set_option maxRecDepth 100000
set_option maxHeartbeats 400000
namespace Br
open PySem PySem.Spec PyProof.Rows PySem.SeqAt
variable {z : Z} {M M' M'' M0 : Addr → Prop} {H H' H'' H0 : Hp} {X : L2.Cx} {k : Nat}
def mrgK (kvs more : List (L2.Key × L2.V)) : List (L2.Key × L2.V) := more.foldl (fun acc kv => L2.putK acc kv.1 kv.2) kvs
theorem kv_merge : ∀ {more : List (L2.Key × L2.V)} {ms : List (L2.Key × Value)} {kvs : List (L2.Key × L2.V)} {vs : List (L2.Key × Value)}, L2.KV more ms → L2.KV kvs vs → L2.KV (mrgK kvs more) (merged vs ms)
  | _, _, _, _, .nil, r => r
  | (a, x) :: more, (b, u) :: ms, kvs, vs, .cons h q, r => by
    obtain ⟨h1, h2⟩ := h
    cases (show a = b from h1)
    have := kv_merge (more := more) (ms := ms) q (r.put a h2)
    exact this
theorem mrgK_len : ∀ (more kvs : List (L2.Key × L2.V)), (mrgK kvs more).length ≤ kvs.length + more.length
  | [], kvs => Nat.le_refl _
  | (a, x) :: more, kvs => by
    have h1 := mrgK_len more (L2.putK kvs a x)
    have h2 := L2.length_putK kvs a x
    show (mrgK (L2.putK kvs a x) more).length ≤ kvs.length + (more.length + 1)
    omega
def rUpd : L2.V → List L2.V → Hp → L2.VK → Prop := fun x vs H Q => ∃ a b kvs more, x = .ref a ∧ vs = [.ref b] ∧ a ≠ b ∧ H a = some (.dK kvs) ∧ H b = some (.dK more) ∧ kvs.length + more.length ≤ sizeLine ∧ Q .non (L2.upd H a (.dK (mrgK kvs more)))
theorem mt_update : L2.MtR X "dict.update" rUpd := by
  intro pins s σ H x vs v us Q I rx rv h
  obtain ⟨a, b, kvs, more, rfl, rfl, hab, ea, eb, hz, q⟩ := h
  cases rx
  obtain ⟨u, rfl, ru⟩ := rv.one
  cases ru
  obtain ⟨z1, hd1, vs1, rel1, dd1⟩ := L2.dk_of I.hok ea
  obtain ⟨z2, hd2, vs2, rel2, dd2⟩ := L2.dk_of I.hok eb
  refine call_meetsIn PySem.F.slot_dict_update dd1.typeIs PySem.F.entry_dict_update (PySem.F.args_dict_update_2 _ _) (meets_dict_update (L2.mixKind X.prog X.w) a b hab hd2) ⟨vs1, vs2, dd1, dd2, by rw [← rel1.length, ← rel2.length]; exact hz, fun h' dd' _ hs => ⟨.non, _, ?_, rfl, q⟩⟩
  have he : ∃ q, h'.get? a = some q := let ⟨q, _, _, hq, _⟩ := dd'; ⟨q, hq⟩
  exact L2.d_write (t' := s.toks) I (by rw [ea]; exact True.intro) hs he (L2.dk_new (Nat.le_trans (mrgK_len more kvs) hz) hd1 (kv_merge rel2 rel1) dd')
theorem puts_v {ρ : List Addr} : ∀ {ls ws ks : List PF.D} {vs : List PF.V} {more ys : List (L2.Key × L2.V)}, KsR ls (more.map (·.1)) → RDs z M H ws (more.map (·.2)) → KsR ks (ys.map (·.1)) → RVs z ρ M H vs (ys.map (·.2)) →
    KsR (PF.dicPuts ls ws ks vs).1 ((mrgK ys more).map (·.1)) ∧ RVs z ρ M H (PF.dicPuts ls ws ks vs).2 ((mrgK ys more).map (·.2))
  | [], ws, ks, vs, [], ys, _, _, h1, h2 => by
    have e : PF.dicPuts [] ws ks vs = (ks, vs) := by cases ws <;> rfl
    rw [e]
    exact ⟨h1, h2⟩
  | l :: ls, w :: ws, ks, vs, (j, x) :: more, ys, .cons hk r, .cons q r2, h1, h2 => by
    obtain ⟨g1, g2⟩ := put_v (ρ := ρ) hk (.d q) h1 h2
    have := puts_v (ls := ls) (ws := ws) (more := more) r r2 g1 g2
    exact this
  | [], _, _, _, _ :: _, _, h, _, _, _ => by cases h
  | _ :: _, _, _, _, [], _, h, _, _, _ => by cases h
  | _ :: _, [], _, _, _ :: _, _, _, h, _, _ => by cases h
section
variable {pos pos' apos : Pos} {e o : Expr} {r ro : Rx}
theorem st_upd (ko : EvOk z X o ro) (oo : ord o = true) (ke : EvOk z X e r) (oe : ord e = true) (hl : (apos.endLine == pos'.line) = true) :
    StOk z X (.Expr (.Call (.Attribute o "update" apos) [e] [] pos') pos) (fun σ h => (ro σ h).bind fun x h1 => match x with
    | .v (.ref a) => match h1[a]? with
      | some (.dic _ _) => (r σ h1).bind fun y h2 => match h2[a]?, y.toV with
        | some (.dic ks vs), .d (.dic ls ws) => if decide (ks.length + ls.length ≤ PF.LIM) then .ok (σ, .nx) (h2.set a (.dic (PF.dicPuts ls ws ks vs).1 (PF.dicPuts ls ws ks vs).2)) else .err
        | _, _ => .err
      | _ => .err
    | _ => .err) := by
  intro σ h σ1 fl h1 e0 ρ ω M σ' H sr D c
  obtain ⟨xo, h2, e1, e2⟩ := bind_ok e0
  split at e2
  · rename_i a
    split at e2
    · rename_i ks0 vs0 hp0
      obtain ⟨y, h3, e3, e4⟩ := bind_ok e2
      split at e4
      · rename_i ks vs ls ws hp hy
        split at e4
        · rename_i hlt
          cases e4
          simp only [decide_eq_true_eq] at hlt
          refine ws_ps (L2.ps_expr (L2.pe_bm PySem.F.plainAttrs_dict PySem.F.slot_dict_update PySem.F.type_dict_update mt_update (pe_we X o) (L2.pa_cons (pe_we X e) L2.pa_nil (ord_star oe _ _)) (ord_base oo _ _ _) (by rw [ord_star oe]; rfl) hl (ord_star oe _ _) rfl)) (ko.v e1 sr fun ρ1 M1 H1 v x1 f1 sr1 rv => ?_)
          obtain ⟨b, hb, rfl⟩ := RV.ref_inv (a := a) rv
          cases sr1.hr.obj a _ b hp0 hb with
          | dic g1 _ _ =>
            refine ⟨.inr (.inr (.inl ⟨rfl, .inl ⟨_, g1⟩⟩)), ke.v e3 sr1 fun ρ2 M2 H2 u x2 f2 sr2 ru => ?_⟩
            have hb2 := x2 _ _ hb
            rw [hy] at ru
            obtain ⟨p, more, rfl, q1, q2, q3, q4⟩ := ru.d_inv.dic_inv
            cases sr2.hr.obj a _ b hp hb2 with
            | @dic _ _ ys g3 g4 g5 =>
              have hbm := List.mem_of_getElem? hb2
              have hne : b ≠ p := fun e => q2 (e ▸ sr2.hr.mu b hbm)
              have l1 := g4.length
              have l2 := q3.length
              rw [List.length_map] at l1 l2
              refine ⟨b, p, ys, more, rfl, rfl, hne, g3, q1, by rw [← l1, ← l2, ← LIM_eq]; exact hlt, ?_⟩
              obtain ⟨s1, s2⟩ := puts_v q3 q4 g4 g5
              exact c ρ2 ω M2 σ' _ (x1.trans x2) (((f1.trans f2).trans (Fm.put hbm)).fs) (sr2.fm (Fm.put hbm) Ext.refl (sr2.hr.put hb2 (.dic L2.upd_same s1 (put_rvs sr2.hr hbm s2))))
        · cases e4
      · cases e4
    · cases e2
  · cases e2
end
end Br
set_option Elab.async false
set_option linter.all false
set_option maxRecDepth 100000
set_option maxHeartbeats 400000
namespace Br
open PySem PySem.Spec PyProof.Rows PySem.SeqAt
variable {z : Z} {M M' M'' M0 : Addr → Prop} {H H' H'' H0 : Hp} {X : L2.Cx} {k : Nat}
/-! ### comprehensions, by what both roads need -/
def LcW (X : L2.Cx) (tg iter elt : Expr) (ifs : List Expr) (scope : Scope) (σ' : L2.St) (H : Hp) (Q : L2.VK) : Prop := ∃ (wi : L2.TI) (g : L2.TG) (tt : L2.TT) (te : L2.TE) (ow : List (Str × Nat)), L2.PI X tg iter wi ∧ L2.BlkOk X.N X.env.scope scope ow ∧
  (∀ s H C cl fp, L2.PG (Blk X scope s H C cl fp) tg g) ∧ (∀ s H C cl fp, L2.PTs (Blk X scope s H C cl fp) ifs tt) ∧ (∀ s H C cl fp, L2.PE (Blk X scope s H C cl fp) elt te) ∧ L2.tLc wi g tt te (ow.map (·.2)) σ' H Q
section
variable {tg iter elt kx : Expr} {ifs : List Expr} {scope : Scope} {ow : List (Str × Nat)} {pos pos' spos py : Pos} {g : L2.TG} {tt : L2.TT} {t : PF.Tg} {ri : Rl} {rc : Rb} {re rk : Rx} {i : Nat} {y : Str}
theorem lc_w (ki : ItOk z X tg iter ri) (bo : L2.BlkOk X.N X.env.scope scope ow)
    (hg : ∀ s H C cl fp, L2.PG (Blk X scope s H C cl fp) tg g) (tgo : TgOk z X tg t (ow.map (·.2)) g) (cd : CdOk z X scope ifs rc tt) (ke : ∀ s H C cl fp, EvOk z (Blk X scope s H C cl fp) elt re) :
    EvW z (LcW X tg iter elt ifs scope) (fun σ h => (ri σ h).bind fun xs h1 => (PF.lcGo rc (fun σ h => (re σ h).bind PF.xD) t (PF.wipe σ (ow.map (·.2))) xs [] h1).bind fun ys h2 => .ok (.fl ys) h2) := by
  intro σ h y h1 e ρ ω M σ' H sr Q c
  obtain ⟨xs, h2, e1, e2⟩ := bind_ok e
  obtain ⟨zs, h3, e3, e4⟩ := bind_ok e2
  cases e4
  obtain ⟨wi, hwi, hrun⟩ := ki σ h xs h2 e1
  refine ⟨wi, g, tt, fun σ H Q => ∀ s H0 C cl fp, WE (Blk X scope s H0 C cl fp) elt σ H Q, ow, hwi, bo, hg, cd.pts, fun s H C cl fp => ⟨fun pins s' σ H' Q I h => h s H C cl fp pins s' I⟩, ?_⟩
  refine hrun ρ ω M σ' H sr _ fun ρ1 M1 H1 J x1 f1 sr1 wk => ?_
  intro D hD
  refine lc_turns tgo cd (fun {σ h h1 x ρ ω M σ' H Q} e sr c s H0 C cl fp => (ke s H0 C cl fp).v e sr c) e3 sr1 wk hD fun ρ2 M2 H2 ys x2 f2 hr2 hD2 mD2 nD2 rds => ?_
  refine c ρ2 M2 H2 _ (x1.trans x2) (f1.trans f2) (sr1.fm f2 x2 hr2 |> fun q => ⟨q.hr, q.slot, q.olen, q.om, q.oinj⟩) (.fl hD2 mD2 nD2 (fun i q => ?_) rds) (Nw.back (x := .fl zs) x1 f1 sr1.hr fun b hb => by cases hb; exact hD)
  obtain ⟨_, _, o, ho⟩ := sr1.om i D q
  rw [hD] at ho; cases ho
theorem lc_ok {r : Rx} (gx : GX z k X) (kw : EvW z (LcW X tg iter elt ifs scope) r) (of_ : ord iter = true) : EvOk z X (.ListComp elt [⟨tg, iter, ifs, 0⟩] scope pos) r := by
  intro σ h y h1 e ρ ω M σ' H sr Q c
  obtain ⟨wi, g, tt, te, ow, h1, h2, h3, h4, h5, h6⟩ := kw σ h y h1 e ρ ω M σ' H sr Q c
  exact we_pe (L2.pe_lc gx.calm gx.nd h1 h2 h3 h4 h5 (ord_fold of_ _)) h6
theorem asg_lc (gx : GX z k X) (hy : X.N[i]? = some y) (hyl : X.env.scope.names.lookup y = some .local) (hsw : swapsWith (.ListComp elt [⟨tg, iter, ifs, 0⟩] scope pos) (some (.Name y py)) spos.line X.env = pure true) (of_ : ord iter = true) :
    AsgOk X (.Assign [.Name y py] (.ListComp elt [⟨tg, iter, ifs, 0⟩] scope pos) spos) i (.ListComp elt [⟨tg, iter, ifs, 0⟩] scope pos) (LcW X tg iter elt ifs scope) := fun D σ' H h => by
  obtain ⟨wi, g, tt, te, ow, h1, h2, h3, h4, h5, h6⟩ := h
  exact ws_ps (L2.ps_setLc gx.calm gx.nd hy hyl hsw h1 h2 h3 h4 h5 (ord_fold of_ _)) h6
/-! dicts -/
theorem dc_turns {own : List Nat} {te tk : L2.TE} (tgo : TgOk z X tg t own g) (cd : CdOk z X scope ifs rc tt)
    (htk : ∀ {σ : PF.St} {h h1 : PF.Hp} {x : PF.X} {ρ : List Addr} {ω : Om} {M : Addr → Prop} {σ' : L2.St} {H : Hp} {Q : L2.VK}, rk σ h = .ok x h1 → SR z ρ ω M σ h σ' H → (∀ ρ1 M1 H1 v, Ext ρ ρ1 → Fm ρ M H ρ1 M1 H1 → SR z ρ1 ω M1 σ h1 σ' H1 → RV z ρ1 M1 H1 x.toV v → Q v H1) → tk σ' H Q)
    (hte : ∀ {σ : PF.St} {h h1 : PF.Hp} {x : PF.X} {ρ : List Addr} {ω : Om} {M : Addr → Prop} {σ' : L2.St} {H : Hp} {Q : L2.VK}, re σ h = .ok x h1 → SR z ρ ω M σ h σ' H → (∀ ρ1 M1 H1 v, Ext ρ ρ1 → Fm ρ M H ρ1 M1 H1 → SR z ρ1 ω M1 σ h1 σ' H1 → RV z ρ1 M1 H1 x.toV v → Q v H1) → te σ' H Q)
    {σ : PF.St} {h h1 : PF.Hp} {xs : List PF.V} {zs : List PF.D × List PF.D} {ρ : List Addr} {ω : Om} {σ' : L2.St} {D : Addr} {J : L2.It} {Qd : Hp → Prop} (e : PF.dcGo rc (fun σ h => (rk σ h).bind PF.xD) (fun σ h => (re σ h).bind PF.xD) t (PF.wipe σ own) xs [] [] h = .ok zs h1) (sr : SR z ρ ω M σ h σ' H) (wk : Wk z J xs M H) (hD : H D = none)
    (c : ∀ ρ1 M1 H1 ys, Ext ρ ρ1 → Fm ρ M H ρ1 M1 H1 → HR z ρ1 M1 h1 H1 → H1 D = some (.dK ys) → M1 D → D ∉ ρ1 → KsR zs.1 (ys.map (·.1)) → RDs z M1 H1 zs.2 (ys.map (·.2)) → Qd H1) :
    ∃ W : Nat → Nat → Hp → Prop, (∃ m, W 0 m (L2.upd H D (.dK []))) ∧ ∀ i m H, W i m H →
      (J.stop i H ∧ Qd H) ∨ (J.go i H ∧ ∃ Nx : Hp → Prop, (∀ H', Nx H' → ∃ m', m' < m ∧ W (i + 1) m' H') ∧ ∀ x H', J.yld i H x H' → g x (L2.wipe σ' own) H' fun σ2 H2 => L2.wipe σ2 own = L2.wipe σ' own ∧ tt σ2 H2 fun b H3 =>
        if b = true then tk σ2 H3 fun y H4 => te σ2 H4 fun w H5 => ∃ kvs k, y = L2.kV k ∧ H5 D = some (.dK kvs) ∧ kvs.length < sizeLine ∧ Nx (L2.upd H5 D (.dK (L2.putK kvs k w))) else Nx H3) := by
  let Pv : Nat → Hp → Prop := fun i H' => i ≤ xs.length ∧ ∃ (ρ1 : List Addr) (M1 : Addr → Prop) (h' : PF.Hp) (acc : List PF.D × List PF.D) (ys : List (L2.Key × L2.V)), Ext ρ ρ1 ∧ Fm ρ M H ρ1 M1 H' ∧ HR z ρ1 M1 h' H' ∧ H' D = some (.dK ys) ∧ M1 D ∧ D ∉ ρ1 ∧ KsR acc.1 (ys.map (·.1)) ∧ RDs z M1 H' acc.2 (ys.map (·.2)) ∧ PF.dcGo rc (fun σ h => (rk σ h).bind PF.xD) (fun σ h => (re σ h).bind PF.xD) t (PF.wipe σ own) (xs.drop i) acc.1 acc.2 h' = .ok zs h1
  have hDρ : D ∉ ρ := fun q => by
    obtain ⟨u, hu⟩ := sr.hr.alive q
    rw [hD] at hu; cases hu
  have hm : ∀ q, q ≠ D → ((M q ∨ q = D) ↔ M q) := fun q n => ⟨fun e => e.elim id fun e => absurd e n, .inl⟩
  refine ⟨fun i m H' => m = xs.length - i ∧ Pv i H', ⟨xs.length, by simp, Nat.zero_le _, ρ, (fun q => M q ∨ q = D), h, ([], []), [], Ext.refl, Fm.new hD hm, sr.hr.new hD hm, L2.upd_same, .inr rfl, hDρ, .nil, .nil, e⟩, ?_⟩
  rintro i m H' ⟨rfl, hi, ρ1, M1, h', acc, ys, x1, f1, hr1, hD1, mD1, nD1, ksr, rds, e1⟩
  have kp1 := f1.kp sr.hr.mu
  obtain ⟨w1, w2, w3⟩ := wk M1 H' kp1
  by_cases hlt : i < xs.length
  · refine .inr ⟨w1 i hlt, Pv (i + 1), fun H2 p => ⟨xs.length - (i + 1), by omega, rfl, p⟩, fun v H'' y => ?_⟩
    obtain ⟨x, hx, hy⟩ := w3 i v H'' hlt y
    have hdrop : xs.drop i = .d x :: xs.drop (i + 1) := by
      rw [List.drop_eq_getElem_cons hlt]
      have : xs[i] = .d x := by
        have := List.getElem?_eq_getElem hlt
        rw [this] at hx
        exact Option.some.inj hx
      rw [this]
    rw [hdrop] at e1
    unfold PF.dcGo at e1
    have sr1 : SR z ρ1 ω M1 (PF.wipe σ own) h' (L2.wipe σ' own) H' := (sr.fm f1 x1 hr1).wipe own
    obtain ⟨M2, f2, hr2, rv2, hD2, mD2⟩ : ∃ M2, Fm ρ1 M1 H' ρ1 M2 H'' ∧ HR z ρ1 M2 h' H'' ∧ RV z ρ1 M2 H'' (.d x) v ∧ H'' D = some (.dK ys) ∧ M2 D := by
      rcases hy with ⟨rfl, r⟩ | ⟨p, us, ds, hp, rfl, rfl, rfl, r⟩
      · exact ⟨M1, Fm.refl, hr1, .d r, hD1, mD1⟩
      · have hm2 : ∀ q, q ≠ p → ((M1 q ∧ q ≠ p) ↔ M1 q) := fun q n => ⟨fun e => e.1, fun e => ⟨e, n⟩⟩
        have f : Fm ρ1 M1 H' ρ1 (fun q => M1 q ∧ q ≠ p) (L2.upd H' p (.tup us)) := Fm.new hp hm2
        have nDp : D ≠ p := L2.ne_of_none hD1 hp
        exact ⟨_, f, hr1.new hp hm2, .d (.tup (.inl ⟨L2.upd_same, fun q => q.2 rfl⟩) (r.kp (f.kp hr1.mu))), by rw [L2.upd_ne nDp]; exact hD1, ⟨mD1, nDp⟩⟩
    have sr2 : SR z ρ1 ω M2 (PF.wipe σ own) h' (L2.wipe σ' own) H'' := sr1.fm f2 Ext.refl hr2
    have rds2 := rds.kp (f2.kp hr1.mu)
    cases hb : PF.bindT t (.d x) (PF.wipe σ own) with
    | none => simp only [hb] at e1; cases e1
    | some σ1 =>
      simp only [hb] at e1
      refine tgo.run hb sr2 rv2 fun σ1' sr3 hw => ⟨by rw [hw, wipe_wipe], ?_⟩
      obtain ⟨b, h3, e3, e4⟩ := bind_ok e1
      refine cd.run e3 sr3 fun ρ3 M3 H3 x3 f3 sr4 => ?_
      obtain ⟨hD3, nD3, mD3⟩ := f3 D _ hD2 nD1
      have mD3' : M3 D := mD3.mpr mD2
      have rds3 := rds2.kp (f3.kp hr2.mu)
      have F03 : Fm ρ M H ρ3 M3 H3 := (f1.trans f2).trans f3
      cases b with
      | false => exact ite_ff ⟨hlt, ρ3, M3, h3, acc, ys, x1.trans x3, F03, sr4.hr, hD3, mD3', nD3, ksr, rds3, e4⟩
      | true =>
        obtain ⟨kd, hk1, e5, e6⟩ := bind_ok (show ((rk σ1 h3).bind PF.xD).bind _ = _ from e4)
        obtain ⟨xk, hk2, e7, e8⟩ := bind_ok e5
        obtain ⟨q1, rfl⟩ := xD_ok e8
        obtain ⟨vd, hv1, e9, e10⟩ := bind_ok (show ((re σ1 hk1).bind PF.xD).bind _ = _ from e6)
        obtain ⟨xv, hv2, e11, e12⟩ := bind_ok e9
        obtain ⟨q2, rfl⟩ := xD_ok e12
        refine ite_tt (htk e7 sr4 fun ρ4 M4 H4 w x4 f4 sr5 rw' => hte e11 sr5 fun ρ5 M5 H5 u x5 f5 sr6 ru => ?_)
        rw [q1] at rw'
        rw [q2] at ru
        obtain ⟨hD4, nD4, mD4⟩ := f4 D _ hD3 nD3
        obtain ⟨hD5, nD5, mD5⟩ := f5 D _ hD4 nD4
        have mD5' : M5 D := mD5.mpr (mD4.mpr mD3')
        have rds5 := (rds3.kp (f4.kp sr4.hr.mu)).kp (f5.kp sr5.hr.mu)
        split at e10
        · rename_i hc
          simp only [Bool.and_eq_true, decide_eq_true_eq] at hc
          obtain ⟨j, hk⟩ := key_of_isKey hc.1
          refine ⟨ys, j, keyR_kV hk rw'.d_inv, hD5, by rw [← List.length_map (f := (·.1)), ← ksr.length, ← LIM_eq]; exact hc.2, hlt, ρ5, M5, hv1, PF.dicPut kd vd acc.1 acc.2, L2.putK ys j u, ((x1.trans x3).trans x4).trans x5, fun b o q n => ?_, sr6.hr.own mD5' nD5, L2.upd_same, mD5', nD5, ?_, ?_, e10⟩
          · obtain ⟨g1, g2, g3⟩ := ((F03.trans f4).trans f5) b o q n
            have : b ≠ D := L2.ne_of_none q hD
            exact ⟨by rw [L2.upd_ne this]; exact g1, g2, g3⟩
          · exact (put_d hk ru.d_inv ksr rds5).1
          · exact (put_d hk ru.d_inv ksr rds5).2.kp (own_kp mD5')
        · cases e10
  · have hie : i = xs.length := by omega
    subst hie
    rw [List.drop_length] at e1
    unfold PF.dcGo at e1
    cases e1
    exact .inl ⟨w2, c ρ1 M1 H' ys x1 f1 hr1 hD1 mD1 nD1 ksr rds⟩
theorem ok_dc (gx : GX z k X) (ki : ItOk z X tg iter ri) (bo : L2.BlkOk X.N X.env.scope scope ow)
    (hg : ∀ s H C cl fp, L2.PG (Blk X scope s H C cl fp) tg g) (tgo : TgOk z X tg t (ow.map (·.2)) g) (cd : CdOk z X scope ifs rc tt) (kk : ∀ s H C cl fp, EvOk z (Blk X scope s H C cl fp) kx rk) (ke : ∀ s H C cl fp, EvOk z (Blk X scope s H C cl fp) elt re) (of_ : ord iter = true) :
    EvOk z X (.DictComp kx elt [⟨tg, iter, ifs, 0⟩] scope pos) (fun σ h => (ri σ h).bind fun xs h1 => (PF.dcGo rc (fun σ h => (rk σ h).bind PF.xD) (fun σ h => (re σ h).bind PF.xD) t (PF.wipe σ (ow.map (·.2))) xs [] [] h1).bind fun ys h2 => .ok (.fd ys.1 ys.2) h2) := by
  intro σ h y h1 e ρ ω M σ' H sr Q c
  obtain ⟨xs, h2, e1, e2⟩ := bind_ok e
  obtain ⟨zs, h3, e3, e4⟩ := bind_ok e2
  cases e4
  obtain ⟨wi, hwi, hrun⟩ := ki σ h xs h2 e1
  refine we_pe (L2.pe_dc (tk := fun σ H Q => ∀ s H0 C cl fp, WE (Blk X scope s H0 C cl fp) kx σ H Q) (tv := fun σ H Q => ∀ s H0 C cl fp, WE (Blk X scope s H0 C cl fp) elt σ H Q) gx.calm gx.nd hwi bo hg cd.pts (fun s H C cl fp => ⟨fun pins s' σ H' Q I h => h s H C cl fp pins s' I⟩) (fun s H C cl fp => ⟨fun pins s' σ H' Q I h => h s H C cl fp pins s' I⟩) (ord_fold of_ _)) (hrun ρ ω M σ' H sr _ fun ρ1 M1 H1 J x1 f1 sr1 wk => ?_)
  intro D hD
  refine dc_turns tgo cd (fun {σ h h1 x ρ ω M σ' H Q} e sr c s H0 C cl fp => (kk s H0 C cl fp).v e sr c) (fun {σ h h1 x ρ ω M σ' H Q} e sr c s H0 C cl fp => (ke s H0 C cl fp).v e sr c) e3 sr1 wk hD fun ρ2 M2 H2 ys x2 f2 hr2 hD2 mD2 nD2 ksr rds => ?_
  refine c ρ2 M2 H2 _ (x1.trans x2) (f1.trans f2) (sr1.fm f2 x2 hr2 |> fun q => ⟨q.hr, q.slot, q.olen, q.om, q.oinj⟩) (.fd hD2 mD2 nD2 (fun i q => ?_) ksr rds) (Nw.back (x := .fd zs.1 zs.2) x1 f1 sr1.hr fun b hb => by cases hb; exact hD)
  obtain ⟨_, _, o, ho⟩ := sr1.om i D q
  rw [hD] at ho; cases ho
end
end Br
set_option Elab.async false
set_option linter.all false
set_option maxRecDepth 100000
set_option maxHeartbeats 400000
namespace Br
open PySem PySem.Spec PyProof.Rows PySem.SeqAt
variable {z : Z} {M M' M'' M0 : Addr → Prop} {H H' H'' H0 : Hp} {X : L2.Cx} {k : Nat}
/-! ### several stored at once -/
inductive RXs (z : Z) (ρ : List Addr) (ω : Om) (M : Addr → Prop) (H : Hp) : List PF.X → List L2.V → Prop
  | nil : RXs z ρ ω M H [] []
  | cons {x v xs vs} : RX z ρ ω M H x v → RXs z ρ ω M H xs vs → (∀ b, frAt x v b → ∀ p ∈ xs.zip vs, ¬ frAt p.1 p.2 b) → RXs z ρ ω M H (x :: xs) (v :: vs)
def NwA (H0 : Hp) (xs : List PF.X) (vs : List L2.V) : Prop := ∀ p ∈ xs.zip vs, Nw H0 p.1 p.2
abbrev Rxs := PF.St → PF.Hp → PF.R (List PF.X)
def ArX (z : Z) (X : L2.Cx) (es : List Expr) (r : Rxs) : Prop := ∀ σ h xs h1, r σ h = .ok xs h1 → ∀ ρ ω M σ' H, SR z ρ ω M σ h σ' H → ∀ Q : List L2.V → Hp → Prop,
  (∀ ρ1 M1 H1 vs, Ext ρ ρ1 → Fm ρ M H ρ1 M1 H1 → SR z ρ1 ω M1 σ h1 σ' H1 → RXs z ρ1 ω M1 H1 xs vs → NwA H xs vs → Q vs H1) → WA X es σ' H Q
theorem arx_nil : ArX z X [] (fun _ h => .ok [] h) := by
  intro σ h y h1 e ρ ω M σ' H sr Q c
  cases e
  exact wa_pa L2.pa_nil (c ρ M H [] Ext.refl Fm.refl sr .nil fun p hp => by simp at hp)
theorem fr_nw {x : PF.X} {v : L2.V} {b : Addr} (n : Nw H x v) (f : frAt x v b) : H b = none := by
  cases x with
  | v a => exact f.elim
  | fl a => exact n b f
  | fd a c => exact n b f
theorem fr_at {ρ : List Addr} {ω : Om} {x : PF.X} {v : L2.V} {b : Addr} (r : RX z ρ ω M H x v) (f : frAt x v b) : v = .ref b ∧ M b ∧ b ∉ ρ ∧ (∀ i, ω i ≠ some b) ∧ ∃ o, H b = some o := by
  cases r with
  | v a => exact f.elim
  | fl a m n w r => cases (show L2.V.ref _ = L2.V.ref b from f); exact ⟨rfl, m, n, w, _, a⟩
  | fd a m n w c r => cases (show L2.V.ref _ = L2.V.ref b from f); exact ⟨rfl, m, n, w, _, a⟩
theorem arx_cons {e : Expr} {es : List Expr} {ra : Rx} {r : Rxs} (ka : EvOk z X e ra) (kr : ArX z X es r) (ho : ord e = true) : ArX z X (e :: es) (fun σ h => (ra σ h).bind fun x h1 => (r σ h1).bind fun xs h2 => .ok (x :: xs) h2) := by
  intro σ h y h1 e ρ ω M σ' H sr Q c
  obtain ⟨x, h2, e1, e2⟩ := bind_ok e
  obtain ⟨xs, h3, e3, e4⟩ := bind_ok e2
  cases e4
  refine wa_pa (L2.pa_cons (pe_we X _) (pa_wa X es) (ord_star ho _ _)) (ka σ h x h2 e1 ρ ω M σ' H sr _ fun ρ1 M1 H1 v x1 f1 sr1 rv nw => ?_)
  refine kr σ h2 xs _ e3 ρ1 ω M1 σ' H1 sr1 _ fun ρ2 M2 H2 vs x2 f2 sr2 rvs nwa => c ρ2 M2 H2 (v :: vs) (x1.trans x2) (f1.trans f2) sr2 (.cons (rv.fm f2 x2 sr1.hr.mu) rvs fun b fb p hp fp => ?_) fun p hp => ?_
  · obtain ⟨_, _, _, _, o, ho⟩ := fr_at rv fb
    rw [fr_nw (nwa p hp) fp] at ho
    cases ho
  · simp only [List.zip_cons_cons, List.mem_cons] at hp
    rcases hp with rfl | hp
    · exact nw
    · exact (nwa p hp).back x1 f1 sr1.hr
/-- the marks after one is no longer ours -/
theorem RXs.less {ρ : List Addr} {ω : Om} {b : Addr} : ∀ {xs : List PF.X} {vs : List L2.V}, RXs z ρ ω M H xs vs → (∀ p ∈ xs.zip vs, ¬ frAt p.1 p.2 b) → RXs z ρ ω (fun c => M c ∧ c ≠ b) H xs vs
  | _, _, .nil, _ => .nil
  | _, _, .cons a r d, h => by
    have kp : Kp M H (fun c => M c ∧ c ≠ b) H := fun c o e n => ⟨e, fun q => n q.1⟩
    refine .cons ?_ (RXs.less r fun p hp => h p (by simp [hp])) d
    have nf := h _ (List.mem_cons_self)
    cases a with
    | v a => exact .v (a.kp Ext.refl kp)
    | fl e m n w q => exact .fl e ⟨m, fun q => nf (by rw [q]; rfl)⟩ n w (q.kp kp)
    | fd e m n w c q => exact .fd e ⟨m, fun q => nf (by rw [q]; rfl)⟩ n w c (q.kp kp)
theorem RXs.owns {ρ : List Addr} {ω : Om} {b : Addr} {i : Nat} : ∀ {xs : List PF.X} {vs : List L2.V}, RXs z ρ ω M H xs vs → (∀ p ∈ xs.zip vs, ¬ frAt p.1 p.2 b) → RXs z ρ (setW ω i (some b)) M H xs vs
  | _, _, .nil, _ => .nil
  | _, _, .cons a r d, h => by
    refine .cons ?_ (RXs.owns r fun p hp => h p (by simp [hp])) d
    have nf := h _ (List.mem_cons_self)
    have main : ∀ c, c ≠ b → (∀ j, ω j ≠ some c) → ∀ j, setW ω i (some b) j ≠ some c := fun c hc w j q => by
      by_cases hj : j = i
      · subst hj; rw [setW_same] at q; cases q; exact hc rfl
      · rw [setW_ne hj] at q; exact w j q
    cases a with
    | v a => exact .v a
    | fl e m n w q => exact .fl e m n (main _ (fun q => nf (by rw [q]; rfl)) w) q
    | fd e m n w c q => exact .fd e m n (main _ (fun q => nf (by rw [q]; rfl)) w) c q
/-- one value is no longer ours: against a frame of statements -/
theorem forgetS {ρ ρ0 : List Addr} {ω ω0 : Om} {σ : PF.St} {h : PF.Hp} {σ' : L2.St} {x : PF.X} {v : L2.V} {b : Addr} (r : SR z ρ ω M σ h σ' H) (q : RX z ρ ω M H x v) (fb : frAt x v b) (n : H0 b = none) (f : FS ρ0 ω0 M0 H0 ρ ω M H) :
    SR z ρ ω (fun c => M c ∧ c ≠ b) σ h σ' H ∧ RV z ρ (fun c => M c ∧ c ≠ b) H x.toV v ∧ FS ρ0 ω0 M0 H0 ρ ω (fun c => M c ∧ c ≠ b) H := by
  obtain ⟨_, m, nb, nw, _⟩ := fr_at q fb
  have kp : Kp M H (fun c => M c ∧ c ≠ b) H := fun c o e n => ⟨e, fun q => n q.1⟩
  refine ⟨⟨r.hr.kp kp fun c hc => ⟨⟨r.hr.mu c hc, fun q => nb (q ▸ hc)⟩, rfl⟩, fun i s e => ?_, r.olen, fun i c e => ?_, r.oinj⟩, ?_, fun c o e m w => ?_⟩
  · obtain ⟨v, h1, h2⟩ := r.slot i s e
    exact ⟨v, h1, h2.kp Ext.refl kp fun _ _ => rfl⟩
  · obtain ⟨m, n, o⟩ := r.om i c e
    exact ⟨⟨m, fun q => nw i (q ▸ e)⟩, n, o⟩
  · cases q with
    | v a => exact fb.elim
    | fl e m _ _ a => cases (show L2.V.ref _ = L2.V.ref b from fb); exact .d (.lst e (fun q => q.2 rfl) (a.kp kp))
    | fd e m _ _ c a => cases (show L2.V.ref _ = L2.V.ref b from fb); exact .d (.dic e (fun q => q.2 rfl) c (a.kp kp))
  · obtain ⟨h1, h2, h3, h4⟩ := f c o e m w
    have : c ≠ b := L2.ne_of_none e n
    exact ⟨h1, h2, h3, ⟨fun q => h4.mp q.1, fun q => ⟨h4.mpr q, this⟩⟩⟩
def setL (σ' : L2.St) : List Nat → List L2.V → L2.St
  | i :: is, v :: vs => setL (σ'.set i (some v)) is vs
  | _, _ => σ'
theorem par_ok {ρ ρ0 : List Addr} {ω0 : Om} {h : PF.Hp} : ∀ {t : List (Nat × Bool)} {xs : List PF.X} {vs : List L2.V} {ω : Om} {M : Addr → Prop} {σ σ1 : PF.St} {σ' : L2.St}, PF.setPar σ t xs = some σ1 → SR z ρ ω M σ h σ' H → RXs z ρ ω M H xs vs → NwA H0 xs vs → FS ρ0 ω0 M0 H0 ρ ω M H →
    ∃ ω1 M1, SR z ρ ω1 M1 σ1 h (setL σ' (t.map (·.1)) vs) H ∧ FS ρ0 ω0 M0 H0 ρ ω1 M1 H
  | [], [], _, ω, M, σ, _, σ', e, sr, .nil, _, f => by
    cases e
    exact ⟨ω, M, sr, f⟩
  | (i, false) :: t, x :: xs, v :: vs, ω, M, σ, σ1, σ', e, sr, .cons a r d, n, f => by
    have e : PF.setPar (PF.setN σ i (.v x.toV)) t xs = some σ1 := e
    have n2 : NwA H0 xs vs := fun p hp => n p (by simp [hp])
    have n1 : Nw H0 x v := n (x, v) (by simp)
    cases x with
    | v y =>
      cases a with
      | v a =>
        have q := par_ok (t := t) (vs := vs) e (sr.set i a) r n2 f
        exact q
    | fl ys =>
      cases a with
      | fl a1 a2 a3 a4 a5 =>
        obtain ⟨s1, s2, s3⟩ := forgetS sr (.fl a1 a2 a3 a4 a5) rfl (n1 _ rfl) f
        have q := par_ok (t := t) (vs := vs) e (s1.set i s2) (r.less (d _ rfl)) n2 s3
        exact q
    | fd ks ws =>
      cases a with
      | fd a1 a2 a3 a4 a5 a6 =>
        obtain ⟨s1, s2, s3⟩ := forgetS sr (.fd a1 a2 a3 a4 a5 a6) rfl (n1 _ rfl) f
        have q := par_ok (t := t) (vs := vs) e (s1.set i s2) (r.less (d _ rfl)) n2 s3
        exact q
  | (i, true) :: t, x :: xs, v :: vs, ω, M, σ, σ1, σ', e, sr, .cons a r d, n, f => by
    have n2 : NwA H0 xs vs := fun p hp => n p (by simp [hp])
    have n1 : Nw H0 x v := n (x, v) (by simp)
    cases x with
    | v y => cases e
    | fl ys =>
      cases a with
      | fl a1 a2 a3 a4 a5 =>
        have q := par_ok (t := t) (vs := vs) (show PF.setPar (PF.setN σ i (PF.X.fl ys).sv) t xs = some σ1 from e) (sr.owns i (.fl a1 a2 a3 a4 a5) rfl) (r.owns (d _ rfl)) n2 (f.owns i (.inl (n1 _ rfl)))
        exact q
    | fd ks ws =>
      cases a with
      | fd a1 a2 a3 a4 a5 a6 =>
        have q := par_ok (t := t) (vs := vs) (show PF.setPar (PF.setN σ i (PF.X.fd ks ws).sv) t xs = some σ1 from e) (sr.owns i (.fd a1 a2 a3 a4 a5 a6) rfl) (r.owns (d _ rfl)) n2 (f.owns i (.inl (n1 _ rfl)))
        exact q
  | [], _ :: _, _, _, _, _, _, _, e, _, _, _, _ => by simp [PF.setPar] at e
  | (_, false) :: _, [], _, _, _, _, _, _, e, _, _, _, _ => by simp [PF.setPar] at e
  | (_, true) :: _, [], _, _, _, _, _, _, e, _, _, _, _ => by simp [PF.setPar] at e
section
variable {i j l : Nat} {x y w : Str} {a b c : Expr} {px py pw pt pt2 pos : Pos} {kt k2 : Nat} {p q s : Bool} {r : Rxs}
def parX (t : List (Nat × Bool)) (r : Rxs) : Rs := fun σ h => (r σ h).bind fun xs h1 => match PF.setPar σ t xs with
    | some σ1 => .ok (σ1, .nx) h1
    | none => .err
theorem parX_ok {t : List (Nat × Bool)} {σ σ1 : PF.St} {h h1 : PF.Hp} {fl : PF.Fl} (e : parX t r σ h = .ok (σ1, fl) h1) : ∃ xs, r σ h = .ok xs h1 ∧ PF.setPar σ t xs = some σ1 ∧ fl = .nx := by
  obtain ⟨xs, h2, e1, e2⟩ := bind_ok e
  split at e2
  · rename_i σ2 hs
    cases e2
    exact ⟨xs, e1, hs, rfl⟩
  · cases e2
theorem par_len : ∀ {t : List (Nat × Bool)} {xs : List PF.X} {σ σ1 : PF.St}, PF.setPar σ t xs = some σ1 → xs.length = t.length
  | [], [], _, _, _ => rfl
  | (_, false) :: t, x :: xs, σ, _, e => by
    have := par_len (t := t) (xs := xs) (σ := PF.setN σ _ (.v x.toV)) e
    simp [this]
  | (i, true) :: t, x :: xs, σ, σ1, e => by
    cases x with
    | v y => cases e
    | fl ys =>
      have := par_len (t := t) (xs := xs) (σ := PF.setN σ i (PF.X.fl ys).sv) e
      simp [this]
    | fd ks ws =>
      have := par_len (t := t) (xs := xs) (σ := PF.setN σ i (PF.X.fd ks ws).sv) e
      simp [this]
  | [], _ :: _, _, _, e => by simp [PF.setPar] at e
  | (_, false) :: _, [], _, _, e => by simp [PF.setPar] at e
  | (_, true) :: _, [], _, _, e => by simp [PF.setPar] at e
theorem RXs.length {ρ : List Addr} {ω : Om} : ∀ {xs : List PF.X} {vs : List L2.V}, RXs z ρ ω M H xs vs → xs.length = vs.length
  | _, _, .nil => rfl
  | _, _, .cons _ r _ => by rw [List.length_cons, List.length_cons, RXs.length r]
theorem st_par2 (gx : GX z k X) (hi : X.N[i]? = some x) (hj : X.N[j]? = some y) (hij : i ≠ j) (hx : X.env.scope.names.lookup x = some .local) (hy : X.env.scope.names.lookup y = some .local) (kr : ArX z X [a, b] r)
    (hw : swappedStores [.Tuple [.Name x px, .Name y py] kt pt] (.Tuple [a, b] k2 pt2) X.env = pure (some [x, y])) :
    StOk z X (.Assign [.Tuple [.Name x px, .Name y py] kt pt] (.Tuple [a, b] k2 pt2) pos) (parX [(i, p), (j, q)] r) := by
  intro σ h σ1 fl h1 e ρ ω M σ' H sr D c
  obtain ⟨xs, e1, hs, rfl⟩ := parX_ok e
  refine ws_ps (L2.ps_par gx.calm gx.nd hi hj hij hx hy (pa_wa X _) hw) (kr σ h xs h1 e1 ρ ω M σ' H sr _ fun ρ1 M1 H1 vs x1 f1 sr1 rx nw => ?_)
  obtain ⟨ω2, M2, sr2, f2⟩ := par_ok hs sr1 rx nw f1.fs
  have hl : vs.length = 2 := by rw [← rx.length, par_len hs]; rfl
  match vs, hl, sr2 with
  | [v, u], _, sr2 => exact ⟨v, u, rfl, c ρ1 ω2 M2 _ H1 x1 f2 sr2⟩
theorem st_par3 (gx : GX z k X) (hi : X.N[i]? = some x) (hj : X.N[j]? = some y) (hl : X.N[l]? = some w) (hij : i ≠ j) (hil : i ≠ l) (hjl : j ≠ l) (hx : X.env.scope.names.lookup x = some .local) (hy : X.env.scope.names.lookup y = some .local) (hz : X.env.scope.names.lookup w = some .local) (kr : ArX z X [a, b, c] r)
    (hw : swappedStores [.Tuple [.Name x px, .Name y py, .Name w pw] kt pt] (.Tuple [a, b, c] k2 pt2) X.env = pure (some [x, y, w])) :
    StOk z X (.Assign [.Tuple [.Name x px, .Name y py, .Name w pw] kt pt] (.Tuple [a, b, c] k2 pt2) pos) (parX [(i, p), (j, q), (l, s)] r) := by
  intro σ h σ1 fl h1 e ρ ω M σ' H sr D c
  obtain ⟨xs, e1, hs, rfl⟩ := parX_ok e
  refine ws_ps (L2.ps_par3 gx.calm gx.nd hi hj hl hij hil hjl hx hy hz (pa_wa X _) hw) (kr σ h xs h1 e1 ρ ω M σ' H sr _ fun ρ1 M1 H1 vs x1 f1 sr1 rx nw => ?_)
  obtain ⟨ω2, M2, sr2, f2⟩ := par_ok hs sr1 rx nw f1.fs
  have hl : vs.length = 3 := by rw [← rx.length, par_len hs]; rfl
  match vs, hl, sr2 with
  | [v, u, t], _, sr2 => exact ⟨v, u, t, rfl, c ρ1 ω2 M2 _ H1 x1 f2 sr2⟩
end
/-- when the stores are swapped -/
theorem swapped_names {ts vs : List Expr} {names : List Str} {kt k2 : Nat} {pt pt2 : Pos} {env : Env} (hk : env.scope.kind = .function) (hl : ts.length = 2 ∨ ts.length = 3) (hv : vs.length = ts.length) (hs : (vs.any fun | .Starred .. => true | _ => false) = false)
    (hn : (ts.filterMap fun
      | .Name id pos => if env.scope.names.lookup id == some .local && pos.line == (ts.head?.map (·.pos.line)).getD 0 then some id else none
      | _ => none) = names) (hnl : names.length = ts.length) (hnd : (names.eraseDups.length != names.length) = false) (hf : vs.all (foldedForSure 8) = false) (hc : vs.all (constantsAlone 8) = false) :
    swappedStores [.Tuple ts kt pt] (.Tuple vs k2 pt2) env = pure (some names) := by
  have hb : env.blockKind = .function := by unfold Env.blockKind; rw [hk]; rfl
  have h1 : (!(ts.length == 2 || ts.length == 3) || vs.length != ts.length || env.blockKind != .function) = false := by
    rw [hb, hv]
    rcases hl with h | h <;> rw [h] <;> rfl
  unfold swappedStores
  simp only [h1, hs, hf, hc]
  generalize hg : List.filterMap _ ts = nm
  have hnm : nm = names := by rw [← hg]; exact hn
  subst hnm
  have h2 : (nm.length != ts.length || nm.eraseDups.length != nm.length) = false := by
    rw [hnd, hnl]; simp
  rw [h2]
  generalize hq : List.any vs _ = qb
  have hqb : qb = false := by rw [← hq]; exact hs
  subst hqb
  rfl
end Br
set_option Elab.async false
set_option linter.all false
set_option maxRecDepth 100000
set_option maxHeartbeats 1000000
namespace Br
open PySem PySem.Spec PyProof.Rows PySem.SeqAt
/-! ### a row's text against the IR -/
def biN : PF.Bi → Str
  | .len => "len" | .abs => "abs" | .int => "int" | .str => "str" | .lst => "list" | .tup => "tuple" | .sum => "sum" | .all => "all" | .any => "any" | .max => "max"
def bltNames : List Str := ["len", "abs", "int", "str", "list", "tuple", "sum", "all", "any", "max", "range", "enumerate", "isinstance", "bool"]
def tyS (t : PF.Ty) : Str := Str.ofString (tyN t)
def visB (sc : Scope) (x : Str) : Bool := match sc.names.lookup x with
  | some .local => true
  | some .cell => true
  | some .free => true
  | _ => false
def locB (sc : Scope) (x : Str) : Bool := match sc.names.lookup x with
  | some .local => true
  | some .cell => true
  | _ => false
def glB (sc : Scope) (x : Str) : Bool := match sc.names.lookup x with
  | some .globalImplicit => true
  | _ => false
def nmB (x : Str) : Bool := !(x == ("__debug__" : Str)) && !(x == ("__classdict__" : Str))
def varB (ns : List Str) (sc : Scope) (i : Nat) (x : Str) : Bool := decide (ns[i]? = some x) && visB sc x && nmB x
def dEq : PF.D → PF.D → Bool
  | .non, .non => true
  | .bl a, .bl b => decide (a = b)
  | .int a, .int b => decide (a = b)
  | .str a, .str b => decide (a = b)
  | _, _ => false
theorem dEq_eq {a b : PF.D} (h : dEq a b = true) : a = b := by
  cases a <;> cases b <;> simp [dEq] at h <;> simp_all
def cstB : PF.D → Const → Bool
  | .non, .none => true
  | .bl a, .bool b => decide (a = b)
  | .int a, .int b => decide (a = b)
  | .str a, .str b => decide (sOf a = b)
  | _, _ => false
def ownL (ns : List Str) (own : List Nat) : List (Str × Nat) := own.map fun i => ((ns[i]?).getD "", i)
theorem ownL_snd (ns : List Str) (own : List Nat) : (ownL ns own).map (·.2) = own := by
  unfold ownL
  rw [List.map_map]
  induction own with
  | nil => rfl
  | cons a b ih => rw [List.map_cons, ih]; rfl
/-- a name that is only local -/
def onlyL (sc : Scope) (x : Str) : Bool := match sc.names.lookup x with
  | some .local => true
  | _ => false
/-- a block's scope within its def's -/
def relS (scope sc : Scope) : Scope := { scope with names := scope.names.map fun (n, k) => if k == .free && sc.kind == .function && sc.names.lookup n == some .cell then (n, .cell) else (n, k) }
def nmsB (ns : List Str) (lc : Str → Bool) : List Nat → List Expr → Bool
  | [], [] => true
  | i :: is, .Name x _ :: es => decide (ns[i]? = some x) && lc x && nmsB ns lc is es
  | _, _ => false
def tgB (ns : List Str) (lc : Str → Bool) (own : List Nat) : PF.Tg → Expr → Bool
  | .n i, .Name x _ => decide (ns[i]? = some x) && lc x && decide (i ∈ own)
  | .t is, .Tuple es _ _ => nmsB ns lc is es && decide (∀ i ∈ is, i ∈ own)
  | _, _ => false
/-- a test that is its value -/
def valB : Expr → Bool
  | .Name _ _ => true
  | .Call _ _ _ _ => true
  | .Attribute _ _ _ => true
  | .Subscript _ _ _ => true
  | _ => false
def isNil : PF.Es → Bool
  | .nil => true
  | _ => false
def isNo : PF.E → Bool
  | .no => true
  | _ => false
def isZero : PF.E → Bool
  | .k (.int 0) => true
  | _ => false
section
variable (G : Gm) (ns : List Str)
mutual
def chE (sc : Scope) : PF.E → Expr → Bool
  | .v i, e => match e with
    | .Name x _ => varB ns sc i x
    | _ => false
  | .k d, e => match e with
    | .Constant c _ _ => cstB d c
    | .Name x _ => glB sc x && nmB x && (match G.gC x with | some d' => dEq d' d | none => false)
    | _ => false
  | .g j, e => match e with
    | .Name x _ => glB sc x && nmB x && decide (x = G.gT j)
    | _ => false
  | .op o a b, e => match e with
    | .BinOp l p r _ => decide (p = opO o) && chE sc a l && chE sc b r
    | _ => false
  | .neg a, e => match e with
    | .UnaryOp .USub l _ => chE sc a l
    | _ => false
  | .cp o a b, e => match e with
    | .Compare l [p] [r] _ => decide (p = cpO o) && chE sc a l && chE sc b r && ord r
    | _ => false
  | .ch o p a b c, e => match e with
    | .Compare l [o', p'] [r, s] _ => decide (o' = cpO o) && decide (p' = cpO p) && chE sc a l && chE sc b r && chE sc c s && ord s
    | _ => false
  | .isn n a, e => match e with
    | .Compare l [p] [.Constant .none _ _] _ => decide (p = isO n) && chE sc a l
    | _ => false
  | .inn n a b, e => match e with
    | .Compare l [p] [r] _ => decide (p = inO n) && chE sc a l && chE sc b r && ord r
    | _ => false
  | .an es, e => match e with
    | .BoolOp .And vs _ => chB sc es vs
    | _ => false
  | .orr es, e => match e with
    | .BoolOp .Or vs _ => chB sc es vs
    | _ => false
  | .nt a, e => match e with
    | .UnaryOp .Not l _ => chE sc a l
    | _ => false
  | .ife c a b, e => match e with
    | .IfExp t l r _ => chT sc c t && chE sc a l && chE sc b r
    | _ => false
  | .cl f as, e => match e with
    | .Call (.Name x _) es [] _ => glB sc x && nmB x && decide (x = G.fN f) && decide (x ≠ "") && chA sc as es
    | _ => false
  | .pcl f as, e => match e with
    | .Call (.Name x _) (a :: es) [] _ => glB sc x && nmB x && decide (x = G.fN f) && decide (x ≠ "") && chA sc as (a :: es)
    | _ => false
  | .pcb f as, e => match e with
    | .Call (.Name x _) (a :: es) [] _ => glB sc x && nmB x && decide (x = G.fN f) && decide (x ≠ "") && chW sc as (a :: es)
    | _ => false
  | .rc c as, e => match e with
    | .Call (.Name x _) (a :: es) [] _ => glB sc x && nmB x && decide (x = G.cN c) && decide (x ≠ "") && chA sc as (a :: es)
    | _ => false
  | .mk c as, e => match e with
    | .Call (.Name x _) (a :: es) [] _ => glB sc x && nmB x && decide (x = G.cN c) && decide (x ≠ "") && chA sc as (a :: es)
    | _ => false
  | .me m o as, e => match e with
    | .Call (.Attribute l x ap) es [] p => decide (x = G.mN m) && (ap.endLine == p.line) && ord l && chE sc o l && decide (es.length < 30) && chA sc as es
    | _ => false
  | .bi b as, e => match e with
    | .Call (.Name x _) (a :: es) [] _ => decide (x = biN b) && glB sc x && chA sc as (a :: es)
    | _ => false
  | .bm .join o a, e => match e with
    | .Call (.Attribute l x ap) [r] [] p => decide (x = "join") && (ap.endLine == p.line) && ord l && ord r && chE sc o l && chE sc a r
    | _ => false
  | .bm .split o a, e => match e with
    | .Call (.Attribute l x ap) [r] [] p => decide (x = "split") && (ap.endLine == p.line) && ord l && ord r && chE sc o l && chE sc a r
    | _ => false
  | .isi a t, e => match e with
    | .Call (.Name x _) [l, .Name y _] [] _ => decide (x = "isinstance") && glB sc x && decide (y = tyS t) && glB sc y && ord l && chE sc a l
    | _ => false
  | .fd o f, e => match e with
    | .Attribute l x _ => decide (x = G.aN f) && ord l && chE sc o l
    | _ => false
  | .ix o i, e => match e with
    | .Subscript l r _ => chE sc o l && chE sc i r && ord r
    | _ => false
  | .sl o lo hi, e => match e with
    | .Subscript l (.Slice x y none _) _ => chE sc o l && (match x with | none => isNo lo | some u => chE sc lo u) && (match y with | none => isNo hi | some u => chE sc hi u)
    | _ => false
  | .lst es, e => match e with
    | .List vs _ => chA sc es vs
    | _ => false
  | .tup es, e => match e with
    | .Tuple vs _ _ => chA sc es vs
    | _ => false
  | .dct, e => match e with
    | .Dict [] [] _ => true
    | _ => false
  | .lc own a t it c, e => match e with
    | .ListComp elt [⟨tg, iter, ifs, 0⟩] scope _ => L2.blkC ns sc scope (ownL ns own) && tgB ns (onlyL (relS scope sc)) own t tg && chI sc it tg iter && ord iter && chC (relS scope sc) c ifs && chE (relS scope sc) a elt
    | _ => false
  | .dc own a b t it c, e => match e with
    | .DictComp key elt [⟨tg, iter, ifs, 0⟩] scope _ => L2.blkC ns sc scope (ownL ns own) && tgB ns (onlyL (relS scope sc)) own t tg && chI sc it tg iter && ord iter && chC (relS scope sc) c ifs && chE (relS scope sc) a key && chE (relS scope sc) b elt
    | _ => false
  | .pop o, e => match e with
    | .Call (.Attribute l x ap) [] [] p => decide (x = "pop") && (ap.endLine == p.line) && ord l && chE sc o l
    | _ => false
  | .popI o i, e => match e with
    | .Call (.Attribute l x ap) [r] [] p => decide (x = "pop") && (ap.endLine == p.line) && ord l && ord r && chE sc o l && chE sc i r
    | _ => false
  | .ixO i j, e => match e with
    | .Subscript (.Name x _) r _ => varB ns sc i x && chE sc j r && ord r
    | _ => false
  | .lenO i, e => match e with
    | .Call (.Name x _) [.Name y _] [] _ => decide (x = "len") && glB sc x && varB ns sc i y
    | _ => false
  | .innO n a i, e => match e with
    | .Compare l [p] [.Name x _] _ => decide (p = inO n) && chE sc a l && varB ns sc i x
    | _ => false
  | _, _ => false
/-- a test -/
def chT (sc : Scope) : PF.E → Expr → Bool
  | .cp o a b, e => match e with
    | .Compare l [p] [r] _ => decide (p = cpO o) && chE sc a l && chE sc b r && ord r
    | _ => false
  | .ch o p a b c, e => match e with
    | .Compare l [o', p'] [r, s] _ => decide (o' = cpO o) && decide (p' = cpO p) && chE sc a l && chE sc b r && chE sc c s && ord s
    | _ => false
  | .ch3 o p q a b c d, e => match e with
    | .Compare l [o', p', q'] [r, s, t] _ => decide (o' = cpO o) && decide (p' = cpO p) && decide (q' = cpO q) && chE sc a l && chE sc b r && chE sc c s && chE sc d t && ord t
    | _ => false
  | .isn n a, e => match e with
    | .Compare l [p] [.Constant .none _ _] _ => decide (p = isO n) && chE sc a l
    | _ => false
  | .inn n a b, e => match e with
    | .Compare l [p] [r] _ => decide (p = inO n) && chE sc a l && chE sc b r && ord r
    | _ => false
  | .innO n a i, e => match e with
    | .Compare l [p] [.Name x _] _ => decide (p = inO n) && chE sc a l && varB ns sc i x
    | _ => false
  | .nilO n i, e => match e with
    | .Compare (.Name x _) [p] [.List [] _] _ => decide (p = eqO n) && varB ns sc i x
    | _ => false
  | .an es, e => match e with
    | .BoolOp .And vs _ => chTs sc es vs
    | _ => false
  | .orr es, e => match e with
    | .BoolOp .Or vs _ => chTs sc es vs
    | _ => false
  | .nt a, e => match e with
    | .UnaryOp .Not l _ => chT sc a l
    | _ => false
  | .v i, e => match e with
    | .Name x _ => varB ns sc i x
    | _ => false
  | .cl f as, e => match e with
    | .Call (.Name x _) es [] _ => glB sc x && nmB x && decide (x = G.fN f) && decide (x ≠ "") && chA sc as es
    | _ => false
  | .me m o as, e => match e with
    | .Call (.Attribute l x ap) es [] p => decide (x = G.mN m) && (ap.endLine == p.line) && ord l && chE sc o l && decide (es.length < 30) && chA sc as es
    | _ => false
  | .isi a t, e => match e with
    | .Call (.Name x _) [l, .Name y _] [] _ => decide (x = "isinstance") && glB sc x && decide (y = tyS t) && glB sc y && ord l && chE sc a l
    | _ => false
  | .fd o f, e => match e with
    | .Attribute l x _ => decide (x = G.aN f) && ord l && chE sc o l
    | _ => false
  | .bi b as, e => match e with
    | .Call (.Name x _) (a :: es) [] _ => decide (x = biN b) && glB sc x && chA sc as (a :: es)
    | _ => false
  | .pcb f as, e => match e with
    | .Call (.Name x _) (a :: es) [] _ => glB sc x && nmB x && decide (x = G.fN f) && decide (x ≠ "") && chW sc as (a :: es)
    | _ => false
  | .ix o i, e => match e with
    | .Subscript l r _ => chE sc o l && chE sc i r && ord r
    | _ => false
  | _, _ => false
def chA (sc : Scope) : PF.Es → List Expr → Bool
  | .nil, es => match es with
    | [] => true
    | _ => false
  | .cons a as, es => match es with
    | e :: r => chE sc a e && ord e && chA sc as r
    | _ => false
/-- arguments, some borrowed -/
def chW (sc : Scope) : PF.Es → List Expr → Bool
  | .nil, es => match es with
    | [] => true
    | _ => false
  | .cons (.bw i) as, es => match es with
    | .Name x _ :: r => varB ns sc i x && chW sc as r
    | _ => false
  | .cons a as, es => match es with
    | e :: r => chE sc a e && ord e && chW sc as r
    | _ => false
/-- operands of and, or -/
def chB (sc : Scope) : PF.Es → List Expr → Bool
  | .nil, _ => false
  | .cons a as, es => match es with
    | e :: r => chE sc a e && (match r with | [] => isNil as | _ => chB sc as r)
    | _ => false
def chTs (sc : Scope) : PF.Es → List Expr → Bool
  | .nil, _ => false
  | .cons a as, es => match es with
    | e :: r => chT sc a e && (match r with | [] => isNil as | _ => chTs sc as r)
    | _ => false
/-- a clause's tests -/
def chC (sc : Scope) : PF.Es → List Expr → Bool
  | .nil, es => match es with
    | [] => true
    | _ => false
  | .cons a as, es => match es with
    | [e] => chT sc a e && isNil as
    | _ => false
def chI (sc : Scope) : PF.It → Expr → Expr → Bool
  | .e a, _, e => chE sc a e
  | .rng a b, _, e => match e with
    | .Call (.Name x _) [r] [] _ => decide (x = "range") && glB sc x && isZero a && chE sc b r && ord r
    | .Call (.Name x _) [l, r] [] _ => decide (x = "range") && glB sc x && chE sc a l && ord l && chE sc b r && ord r
    | _ => false
  | .enu a, t, e => match t, e with
    | .Tuple _ _ _, .Call (.Name x _) [r] [] _ => decide (x = "enumerate") && glB sc x && chE sc a r && ord r
    | _, _ => false
end
end
end Br
set_option Elab.async false
set_option linter.all false
set_option maxRecDepth 100000
set_option maxHeartbeats 1000000
namespace Br
open PySem PySem.Spec PyProof.Rows PySem.SeqAt
variable {z : Z} {k : Nat} {ns : List Str} {X : L2.Cx} {cf : Nat → List PF.V → PF.Hp → PF.R PF.X} {sc : Scope}
/-- a row's names -/
structure GOk (z : Z) : Prop where
  zk : ZOk z
  fnm : ∀ f, z.G.fN f ≠ "" → z.mg (z.G.fN f) = some (.ref (z.φ f))
  cnm : ∀ c, z.G.cN c ≠ "" → z.mg (z.G.cN c) = some (.ref (z.κ c))
  blt : ∀ x ∈ bltNames, z.mg x = none
  gc : ∀ x d, z.G.gC x = some d → ∃ u v, z.mg x = some u ∧ L2.RelV v u ∧ ∀ M H, RD z M H d v
  gt : ∀ j d, z.T.gls j = some d → ∃ u v, z.mg (z.G.gT j) = some u ∧ L2.RelV v u ∧ ∀ M H, RD z M H d v
/-- the context of a piece of text -/
structure XOk (z : Z) (k : Nat) (ns : List Str) (sc : Scope) (X : L2.Cx) : Prop where
  gx : GX z (k + 1) X
  N : X.N = ns
  s : X.env.scope = sc
  kind : sc.kind = .function
/-- a name that may be stored -/
def StB (X : L2.Cx) (x : Str) : Prop := L2.Loc X.env.scope x ∧ (X.fn x = true ∨ X.env.scope.names.lookup x = some .local)
def tgG (K : PySem.W.Frag) : PF.Tg → L2.TG
  | .n i => L2.gName i
  | .t is => L2.gTup K is.length (gNames is)
theorem vis_of {x : Str} (h : visB sc x = true) : L2.Vis sc x := by
  unfold visB at h
  split at h
  · exact .inl ‹_›
  · exact .inr (.inl ‹_›)
  · exact .inr (.inr ‹_›)
  · cases h
theorem loc_of {x : Str} (h : locB sc x = true) : L2.Loc sc x := by
  unfold locB at h
  split at h
  · exact .inl ‹_›
  · exact .inr ‹_›
  · cases h
theorem nm_of {x : Str} (h : nmB x = true) : (x == ("__debug__" : Str)) = false ∧ (x == ("__classdict__" : Str)) = false := by
  unfold nmB at h
  simpa using h
namespace XOk
variable (xo : XOk z k ns sc X)
include xo
theorem gl {x : Str} (h : glB sc x = true) : L2.Gl X x := by
  unfold glB at h
  split at h
  · show X.env.scope.names.lookup x = _
    rw [xo.s]; assumption
  · cases h
theorem only {x : Str} (h : onlyL sc x = true) : StB X x := by
  unfold onlyL at h
  split at h
  · rename_i q
    rw [← xo.s] at q
    exact ⟨.inl q, .inr q⟩
  · cases h
theorem name {i : Nat} {x : Str} (h : varB ns sc i x = true) : NameOk X i x := by
  unfold varB at h
  simp only [Bool.and_eq_true, decide_eq_true_eq] at h
  obtain ⟨⟨h1, h2⟩, h3⟩ := h
  obtain ⟨h4, h5⟩ := nm_of h3
  exact ⟨by rw [xo.N]; exact h1, by rw [xo.s]; exact vis_of h2, h4, h5⟩
theorem blk {scope : Scope} {ow : List (Str × Nat)} (bo : L2.BlkOk X.N X.env.scope scope ow) (s : Shared) (H : Hp) (C : Addr) (cl : List (Str × Addr)) (fp : List Addr) : XOk z k ns (relS scope sc) (Blk X scope s H C cl fp) := by
  refine ⟨⟨xo.gx.P, xo.gx.w, xo.gx.K, xo.gx.mg, xo.gx.calm, xo.gx.room, xo.gx.nd⟩, xo.N, ?_, bo.kind⟩
  rw [← xo.s]
  rfl
theorem pgName {i : Nat} {x : Str} {p : Pos} (h1 : ns[i]? = some x) (h2 : StB X x) : L2.PG X (.Name x p) (L2.gName i) := by
  obtain ⟨l1, l2⟩ := h2
  exact L2.pg_name xo.gx.nd (by rw [xo.N]; exact h1) l1 l2
theorem pgs {lc : Str → Bool} (hl : ∀ x, lc x = true → StB X x) : ∀ {is : List Nat} {es : List Expr}, nmsB ns lc is es = true → L2.PGs X es (gNames is) ∧ (assignEach es X.env).length = is.length ∧ (assignEach es X.env).findIdx? (·.1) = none
  | [], [], _ => ⟨L2.pgs_nil, rfl, rfl⟩
  | i :: is, .Name x p :: es, h => by
    simp only [nmsB, Bool.and_eq_true, decide_eq_true_eq] at h
    obtain ⟨⟨h1, h2⟩, h3⟩ := h
    obtain ⟨g1, g2, g3⟩ := pgs hl h3
    have e : assignEach (.Name x p :: es) X.env = (false, assign (.Name x p) X.env) :: assignEach es X.env := rfl
    refine ⟨L2.pgs_cons (xo.pgName h1 (hl _ h2)) g1 rfl, by rw [e, List.length_cons, g2]; rfl, ?_⟩
    rw [e, List.findIdx?_cons, g3]
    rfl
  | [], _ :: _, h => by simp [nmsB] at h
  | _ :: _, [], h => by simp [nmsB] at h
theorem tg {lc : Str → Bool} (hl : ∀ x, lc x = true → StB X x) {own : List Nat} {t : PF.Tg} {e : Expr} (h : tgB ns lc own t e = true) : L2.PG X e (tgG X.K t) ∧ TgOk z X e t own (tgG X.K t) := by
  unfold tgB at h
  split at h
  · simp only [Bool.and_eq_true, decide_eq_true_eq] at h
    exact ⟨xo.pgName h.1.1 (hl _ h.1.2), tg_name h.2⟩
  · simp only [Bool.and_eq_true, decide_eq_true_eq] at h
    obtain ⟨g1, g2, g3⟩ := xo.pgs hl h.1
    exact ⟨L2.pg_tup xo.gx.calm g1 g2 g3, tg_tup xo.gx h.2⟩
  · cases h
theorem tgRun {own : List Nat} {t : PF.Tg} {lc : Str → Bool} {e : Expr} (h : tgB ns lc own t e = true) : TgOk z X e t own (tgG X.K t) := by
  unfold tgB at h
  split at h
  · simp only [Bool.and_eq_true, decide_eq_true_eq] at h
    exact tg_name h.2
  · simp only [Bool.and_eq_true, decide_eq_true_eq] at h
    exact tg_tup xo.gx h.2
  · cases h
end XOk
end Br
set_option Elab.async false
set_option linter.all false
set_option maxRecDepth 100000
set_option maxHeartbeats 2000000
namespace Br
open PySem PySem.Spec PyProof.Rows PySem.SeqAt
variable {z : Z} {k : Nat} {ns : List Str} {cf : Nat → List PF.V → PF.Hp → PF.R PF.X}
theorem boot_bi (b : PF.Bi) : bootBuiltins (biN b) = some (biF b) := by cases b <;> decide +kernel
theorem bi_mem (b : PF.Bi) : biN b ∈ bltNames := by cases b <;> decide +kernel
theorem bi_name (b : PF.Bi) : biN b ≠ "__name__" ∧ (biN b == ("__debug__" : Str)) = false := by cases b <;> decide +kernel
theorem boot_ty (t : PF.Ty) : bootBuiltins (tyS t) = some (.type (tyN t)) := by cases t <;> decide +kernel
theorem ty_mem (t : PF.Ty) : tyS t ∈ bltNames := by cases t <;> decide +kernel
theorem ty_name (t : PF.Ty) : tyS t ≠ "__name__" ∧ (tyS t == ("__debug__" : Str)) = false := by cases t <;> decide +kernel
theorem m_len : ("len" : Str) ∈ bltNames := by decide +kernel
theorem m_range : ("range" : Str) ∈ bltNames := by decide +kernel
theorem m_enum : ("enumerate" : Str) ∈ bltNames := by decide +kernel
theorem m_isi : ("isinstance" : Str) ∈ bltNames := by decide +kernel
theorem nil_of {as : PF.Es} (h : isNil as = true) : as = .nil := by
  cases as with
  | nil => rfl
  | cons a b => cases h
theorem no_of {a : PF.E} (h : isNo a = true) : a = .no := by
  cases a <;> first | rfl | cases h
theorem ne_no {G : Gm} {sc : Scope} {a : PF.E} {e : Expr} (h : chE G ns sc a e = true) : a ≠ .no := fun q => by
  subst q; cases h
theorem zero_of {a : PF.E} (h : isZero a = true) : a = .k (.int 0) := by
  unfold isZero at h
  split at h
  · rfl
  · cases h
theorem ok_k {X : L2.Cx} {d : PF.D} {c : Const} {j : Nat} {p : Pos} (h : cstB d c = true) : EvOk z X (.Constant c j p) (PF.ev z.T cf (.k d)) := by
  unfold cstB at h
  split at h
  · exact ok_const (v := .non) (fun _ _ => rfl) L2.pe_non fun _ _ => .non
  · simp only [decide_eq_true_eq] at h
    subst h
    exact ok_const (v := .bl _) (fun _ _ => rfl) L2.pe_bl fun _ _ => .bl _
  · simp only [decide_eq_true_eq] at h
    subst h
    exact ok_const (v := .int _) (fun _ _ => rfl) L2.pe_int fun _ _ => .int _
  · simp only [decide_eq_true_eq] at h
    subst h
    exact ok_const (v := .str _) (fun _ _ => rfl) L2.pe_str fun _ _ => .str _
  · cases h
theorem chA_ord {G : Gm} {sc : Scope} : ∀ {as : PF.Es} {es : List Expr}, chA G ns sc as es = true → es.all ord = true
  | .nil, [], _ => rfl
  | .nil, _ :: _, h => by simp [chA] at h
  | .cons a as, [], h => by simp [chA] at h
  | .cons a as, e :: es, h => by
    simp only [chA, Bool.and_eq_true] at h
    simp only [List.all_cons, Bool.and_eq_true]
    exact ⟨h.1.2, chA_ord h.2⟩
theorem chW_ord {G : Gm} {sc : Scope} : ∀ {as : PF.Es} {es : List Expr}, chW G ns sc as es = true → es.all ord = true
  | .nil, [], _ => rfl
  | .nil, _ :: _, h => by simp [chW] at h
  | .cons a as, [], h => by cases a <;> simp [chW] at h
  | .cons a as, e :: es, h => by
    simp only [List.all_cons, Bool.and_eq_true]
    unfold chW at h
    split at h
    · cases h
    · split at h
      · rename_i q
        cases q
        simp only [Bool.and_eq_true] at h
        exact ⟨rfl, chW_ord h.2⟩
      · cases h
    · simp only [Bool.and_eq_true] at h
      exact ⟨h.1.2, chW_ord h.2⟩
section
variable (go : GOk z) (hc : CfOk z k cf)
include go hc
mutual
theorem sE : ∀ (t : PF.E) {sc : Scope} {X : L2.Cx} {e : Expr}, XOk z k ns sc X → chE z.G ns sc t e = true → EvOk z X e (PF.ev z.T cf t)
  | .v i, sc, X, e, xo, h => by
    unfold chE at h
    split at h
    · have n := xo.name h
      exact ok_v n.at_ n.vis n.nd n.nc
    · cases h
  | .k d, sc, X, e, xo, h => by
    unfold chE at h
    split at h
    · exact ok_k h
    · simp only [Bool.and_eq_true] at h
      obtain ⟨⟨h1, h2⟩, h3⟩ := h
      split at h3
      · rename_i d' q
        obtain ⟨u, v, g1, g2, g3⟩ := go.gc _ _ q
        rw [dEq_eq h3] at g3
        exact ok_const (fun _ _ => rfl) (L2.pe_glob (xo.gl h1) (by rw [xo.gx.mg]; exact g1) g2 (nm_of h2).1) g3
      · cases h3
    · cases h
  | .g j, sc, X, e, xo, h => by
    unfold chE at h
    split at h
    · simp only [Bool.and_eq_true, decide_eq_true_eq] at h
      obtain ⟨⟨h1, h2⟩, rfl⟩ := h
      intro σ h y h1' e ρ ω M σ' H sr Q c
      cases hg : z.T.gls j with
      | none =>
        have e : (match z.T.gls j with | some x => PF.R.ok (PF.dat x) h | none => PF.R.err) = PF.R.ok y h1' := e
        rw [hg] at e; cases e
      | some d =>
        obtain ⟨u, v, g1, g2, g3⟩ := go.gt j d hg
        refine ok_const (r := PF.ev z.T cf (.g j)) (d := d) (fun σ h => ?_) (L2.pe_glob (xo.gl h1) (by rw [xo.gx.mg]; exact g1) g2 (nm_of h2).1) g3 σ h y h1' e ρ ω M σ' H sr Q c
        show (match z.T.gls j with | some x => PF.R.ok (PF.dat x) h | none => PF.R.err) = _
        rw [hg]
    · cases h
  | .op o a b, sc, X, e, xo, h => by
    unfold chE at h
    split at h
    · simp only [Bool.and_eq_true, decide_eq_true_eq] at h
      obtain ⟨⟨rfl, h1⟩, h2⟩ := h
      exact ok_op xo.gx (sE a xo h1) (sE b xo h2)
    · cases h
  | .neg a, sc, X, e, xo, h => by
    unfold chE at h
    split at h
    · exact ok_neg (sE a xo h)
    · cases h
  | .cp o a b, sc, X, e, xo, h => by
    unfold chE at h
    split at h
    · simp only [Bool.and_eq_true, decide_eq_true_eq] at h
      obtain ⟨⟨⟨rfl, h1⟩, h2⟩, h3⟩ := h
      exact ok_cp xo.gx (sE a xo h1) (sE b xo h2) (ord_mark h3 _)
    · cases h
  | .ch o p a b c, sc, X, e, xo, h => by
    unfold chE at h
    split at h
    · simp only [Bool.and_eq_true, decide_eq_true_eq] at h
      obtain ⟨⟨⟨⟨⟨rfl, rfl⟩, h1⟩, h2⟩, h3⟩, h4⟩ := h
      exact ok_ch xo.gx (sE a xo h1) (sE b xo h2) (sE c xo h3) h4
    · cases h
  | .isn n a, sc, X, e, xo, h => by
    unfold chE at h
    split at h
    · simp only [Bool.and_eq_true, decide_eq_true_eq] at h
      obtain ⟨rfl, h1⟩ := h
      exact ok_isn (sE a xo h1)
    · cases h
  | .inn n a b, sc, X, e, xo, h => by
    unfold chE at h
    split at h
    · simp only [Bool.and_eq_true, decide_eq_true_eq] at h
      obtain ⟨⟨⟨rfl, h1⟩, h2⟩, h3⟩ := h
      exact ok_inn xo.gx (sE a xo h1) (sE b xo h2) (ord_mark h3 _)
    · cases h
  | .an es, sc, X, e, xo, h => by
    unfold chE at h
    split at h
    · exact sAn es xo h
    · cases h
  | .orr es, sc, X, e, xo, h => by
    unfold chE at h
    split at h
    · exact sOr es xo h
    · cases h
  | .nt a, sc, X, e, xo, h => by
    unfold chE at h
    split at h
    · exact ok_nt (sE a xo h)
    · cases h
  | .ife c a b, sc, X, e, xo, h => by
    unfold chE at h
    split at h
    · simp only [Bool.and_eq_true] at h
      exact ok_ife (sT c xo h.1.1) (sE a xo h.1.2) (sE b xo h.2)
    · cases h
  | .cl f as, sc, X, e, xo, h => by
    unfold chE at h
    split at h
    · simp only [Bool.and_eq_true, decide_eq_true_eq] at h
      obtain ⟨⟨⟨⟨h1, h2⟩, rfl⟩, h3⟩, h4⟩ := h
      rename_i es p
      cases es with
      | nil =>
        cases as with
        | nil => exact ok_cl0 go.zk xo.gx hc (xo.gl h1) (go.fnm f h3) (nm_of h2).1
        | cons a as => simp [chA] at h4
      | cons a es => exact ok_cl go.zk xo.gx hc (xo.gl h1) (go.fnm f h3) (nm_of h2).1 (sA as xo h4) (chA_ord h4)
    · cases h
  | .pcl f as, sc, X, e, xo, h => by
    unfold chE at h
    split at h
    · simp only [Bool.and_eq_true, decide_eq_true_eq] at h
      obtain ⟨⟨⟨⟨h1, h2⟩, rfl⟩, h3⟩, h4⟩ := h
      exact ok_pcl go.zk xo.gx hc (xo.gl h1) (go.fnm f h3) (nm_of h2).1 (sA as xo h4) (chA_ord h4)
    · cases h
  | .pcb f as, sc, X, e, xo, h => by
    unfold chE at h
    split at h
    · simp only [Bool.and_eq_true, decide_eq_true_eq] at h
      obtain ⟨⟨⟨⟨h1, h2⟩, rfl⟩, h3⟩, h4⟩ := h
      exact ok_pcb go.zk xo.gx hc (xo.gl h1) (go.fnm f h3) (nm_of h2).1 (sW as xo h4) (chW_ord h4)
    · cases h
  | .bw i, sc, X, e, xo, h => by cases h
  | .rc c as, sc, X, e, xo, h => by
    unfold chE at h
    split at h
    · simp only [Bool.and_eq_true, decide_eq_true_eq] at h
      obtain ⟨⟨⟨⟨h1, h2⟩, rfl⟩, h3⟩, h4⟩ := h
      exact ok_rc go.zk xo.gx hc (xo.gl h1) (go.cnm c h3) (nm_of h2).1 (sA as xo h4) (chA_ord h4)
    · cases h
  | .mk c as, sc, X, e, xo, h => by
    unfold chE at h
    split at h
    · simp only [Bool.and_eq_true, decide_eq_true_eq] at h
      obtain ⟨⟨⟨⟨h1, h2⟩, rfl⟩, h3⟩, h4⟩ := h
      exact ok_mk go.zk xo.gx hc (xo.gl h1) (go.cnm c h3) (nm_of h2).1 (sA as xo h4) (chA_ord h4)
    · cases h
  | .me m o as, sc, X, e, xo, h => by
    unfold chE at h
    split at h
    · simp only [Bool.and_eq_true, decide_eq_true_eq] at h
      obtain ⟨⟨⟨⟨⟨rfl, h1⟩, h2⟩, h3⟩, h4⟩, h5⟩ := h
      rename_i es p
      cases es with
      | nil =>
        cases as with
        | nil => exact ok_me0 go.zk xo.gx hc (sE o xo h3) h2 h1
        | cons a as => simp [chA] at h5
      | cons a es => exact ok_me go.zk xo.gx hc (sE o xo h3) h2 (sA as xo h5) (chA_ord h5) h4 h1
    · cases h
  | .bi b as, sc, X, e, xo, h => by
    unfold chE at h
    split at h
    · simp only [Bool.and_eq_true, decide_eq_true_eq] at h
      obtain ⟨⟨rfl, h1⟩, h2⟩ := h
      have hm := go.blt _ (bi_mem b)
      have hb := boot_bi b
      have hn := bi_name b
      cases hf : biF b with
      | builtin id => exact ok_biB xo.gx hf (xo.gl h1) hm (by rw [hb, hf]) hn.1 hn.2 (sA as xo h2) (chA_ord h2)
      | type id => exact ok_biT xo.gx hf (xo.gl h1) hm (by rw [hb, hf]) hn.1 hn.2 (sA as xo h2) (chA_ord h2)
      | _ => cases b <;> cases hf
    · cases h
  | .bm .join o a, sc, X, e, xo, h => by
    unfold chE at h
    split at h
    · simp only [Bool.and_eq_true, decide_eq_true_eq] at h
      obtain ⟨⟨⟨⟨⟨rfl, h1⟩, h2⟩, h3⟩, h4⟩, h5⟩ := h
      exact ok_join xo.gx (sE o xo h4) (sE a xo h5) h2 h3 h1
    · cases h
  | .bm .split o a, sc, X, e, xo, h => by
    unfold chE at h
    split at h
    · simp only [Bool.and_eq_true, decide_eq_true_eq] at h
      obtain ⟨⟨⟨⟨⟨rfl, h1⟩, h2⟩, h3⟩, h4⟩, h5⟩ := h
      exact ok_split xo.gx (sE o xo h4) (sE a xo h5) h2 h3 h1
    · cases h
  | .bm .index o a, sc, X, e, xo, h => by cases h
  | .isi a t, sc, X, e, xo, h => by
    unfold chE at h
    split at h
    · simp only [Bool.and_eq_true, decide_eq_true_eq] at h
      obtain ⟨⟨⟨⟨⟨rfl, h1⟩, rfl⟩, h2⟩, h3⟩, h4⟩ := h
      exact ok_isi xo.gx (sE a xo h4) h3 (xo.gl h1) (go.blt _ m_isi) (xo.gl h2) (go.blt _ (ty_mem t)) (boot_ty t) (ty_name t).1 (ty_name t).2
    · cases h
  | .fd o f, sc, X, e, xo, h => by
    unfold chE at h
    split at h
    · simp only [Bool.and_eq_true, decide_eq_true_eq] at h
      obtain ⟨⟨rfl, h1⟩, h2⟩ := h
      exact ok_fd go.zk xo.gx (sE o xo h2) h1
    · cases h
  | .ix o i, sc, X, e, xo, h => by
    unfold chE at h
    split at h
    · simp only [Bool.and_eq_true] at h
      exact ok_ix xo.gx (sE o xo h.1.1) (sE i xo h.1.2) h.2
    · cases h
  | .sl o lo hi, sc, X, e, xo, h => by
    unfold chE at h
    split at h
    · simp only [Bool.and_eq_true] at h
      obtain ⟨⟨h1, h2⟩, h3⟩ := h
      refine ok_sl xo.gx (sE o xo h1) ?_ ?_
      · split at h2
        · cases no_of h2; exact .none
        · exact .some (sE lo xo h2) (ne_no h2)
      · split at h3
        · cases no_of h3; exact .none
        · exact .some (sE hi xo h3) (ne_no h3)
    · cases h
  | .no, sc, X, e, xo, h => by cases h
  | .lst es, sc, X, e, xo, h => by
    unfold chE at h
    split at h
    · exact ok_lst (sA es xo h)
    · cases h
  | .tup es, sc, X, e, xo, h => by
    unfold chE at h
    split at h
    · exact ok_tup (sA es xo h)
    · cases h
  | .dct, sc, X, e, xo, h => by
    unfold chE at h
    split at h
    · exact ok_dct
    · cases h
  | .lc own a t it c, sc, X, e, xo, h => by
    unfold chE at h
    split at h
    · simp only [Bool.and_eq_true] at h
      obtain ⟨⟨⟨⟨⟨h1, h2⟩, h3⟩, h4⟩, h5⟩, h6⟩ := h
      rename_i scope pos
      have bo : L2.BlkOk X.N X.env.scope scope (ownL ns own) := by rw [xo.N, xo.s]; exact L2.blkOk_by h1
      have xb := fun s H C cl fp => xo.blk bo s H C cl fp
      obtain ⟨tt, cd⟩ := sC c (X := X) xb h5
      have q := lc_w (t := t) (g := tgG X.K t) (sI it xo h3) bo (fun s H C cl fp => ((xb s H C cl fp).tg (fun x hx => (xb s H C cl fp).only hx) h2).1) (by rw [ownL_snd]; exact xo.tgRun h2) cd (fun s H C cl fp => sE a (xb s H C cl fp) h6)
      rw [ownL_snd] at q
      exact lc_ok xo.gx q h4
    · cases h
  | .dc own a b t it c, sc, X, e, xo, h => by
    unfold chE at h
    split at h
    · simp only [Bool.and_eq_true] at h
      obtain ⟨⟨⟨⟨⟨⟨h1, h2⟩, h3⟩, h4⟩, h5⟩, h6⟩, h7⟩ := h
      rename_i scope pos
      have bo : L2.BlkOk X.N X.env.scope scope (ownL ns own) := by rw [xo.N, xo.s]; exact L2.blkOk_by h1
      have xb := fun s H C cl fp => xo.blk bo s H C cl fp
      obtain ⟨tt, cd⟩ := sC c (X := X) xb h5
      have q := ok_dc (t := t) (g := tgG X.K t) (pos := pos) xo.gx (sI it xo h3) bo (fun s H C cl fp => ((xb s H C cl fp).tg (fun x hx => (xb s H C cl fp).only hx) h2).1) (by rw [ownL_snd]; exact xo.tgRun h2) cd (fun s H C cl fp => sE a (xb s H C cl fp) h6) (fun s H C cl fp => sE b (xb s H C cl fp) h7) h4
      rw [ownL_snd] at q
      exact q
    · cases h
  | .pop o, sc, X, e, xo, h => by
    unfold chE at h
    split at h
    · simp only [Bool.and_eq_true, decide_eq_true_eq] at h
      obtain ⟨⟨⟨rfl, h1⟩, h2⟩, h3⟩ := h
      exact ok_pop (sE o xo h3) h2 h1
    · cases h
  | .popI o i, sc, X, e, xo, h => by
    unfold chE at h
    split at h
    · simp only [Bool.and_eq_true, decide_eq_true_eq] at h
      obtain ⟨⟨⟨⟨⟨rfl, h1⟩, h2⟩, h3⟩, h4⟩, h5⟩ := h
      exact ok_popI (sE o xo h4) (sE i xo h5) h2 h3 h1
    · cases h
  | .ixO i j, sc, X, e, xo, h => by
    unfold chE at h
    split at h
    · simp only [Bool.and_eq_true] at h
      exact ok_ixO xo.gx (xo.name h.1.1) (sE j xo h.1.2) h.2
    · cases h
  | .lenO i, sc, X, e, xo, h => by
    unfold chE at h
    split at h
    · simp only [Bool.and_eq_true, decide_eq_true_eq] at h
      obtain ⟨⟨rfl, h1⟩, h2⟩ := h
      exact ok_lenO xo.gx (xo.name h2) (xo.gl h1) (go.blt _ m_len)
    · cases h
  | .innO n a i, sc, X, e, xo, h => by
    unfold chE at h
    split at h
    · simp only [Bool.and_eq_true, decide_eq_true_eq] at h
      obtain ⟨⟨rfl, h1⟩, h2⟩ := h
      exact ok_innO xo.gx (xo.name h2) (sE a xo h1)
    · cases h
  | .nilO n i, sc, X, e, xo, h => by cases h
  | .ch3 o p q a b c d, sc, X, e, xo, h => by cases h
theorem sT : ∀ (t : PF.E) {sc : Scope} {X : L2.Cx} {e : Expr}, XOk z k ns sc X → chT z.G ns sc t e = true → TeOk z X e (fun σ h => (PF.ev z.T cf t σ h).bind PF.xB)
  | .cp o a b, sc, X, e, xo, h => by
    unfold chT at h
    split at h
    · simp only [Bool.and_eq_true, decide_eq_true_eq] at h
      obtain ⟨⟨⟨rfl, h1⟩, h2⟩, h3⟩ := h
      exact te_cp xo.gx (sE a xo h1) (sE b xo h2) (ord_mark h3 _)
    · cases h
  | .ch o p a b c, sc, X, e, xo, h => by
    unfold chT at h
    split at h
    · simp only [Bool.and_eq_true, decide_eq_true_eq] at h
      obtain ⟨⟨⟨⟨⟨rfl, rfl⟩, h1⟩, h2⟩, h3⟩, h4⟩ := h
      exact te_of_ch xo.gx (sE a xo h1) (sE b xo h2) (sE c xo h3) h4
    · cases h
  | .ch3 o p q a b c d, sc, X, e, xo, h => by
    unfold chT at h
    split at h
    · simp only [Bool.and_eq_true, decide_eq_true_eq] at h
      obtain ⟨⟨⟨⟨⟨⟨⟨rfl, rfl⟩, rfl⟩, h1⟩, h2⟩, h3⟩, h4⟩, h5⟩ := h
      exact te_ch3 xo.gx (sE a xo h1) (sE b xo h2) (sE c xo h3) (sE d xo h4) h5
    · cases h
  | .isn n a, sc, X, e, xo, h => by
    unfold chT at h
    split at h
    · simp only [Bool.and_eq_true, decide_eq_true_eq] at h
      obtain ⟨rfl, h1⟩ := h
      exact te_isn (sE a xo h1)
    · cases h
  | .inn n a b, sc, X, e, xo, h => by
    unfold chT at h
    split at h
    · simp only [Bool.and_eq_true, decide_eq_true_eq] at h
      obtain ⟨⟨⟨rfl, h1⟩, h2⟩, h3⟩ := h
      exact te_inn xo.gx (sE a xo h1) (sE b xo h2) (ord_mark h3 _)
    · cases h
  | .innO n a i, sc, X, e, xo, h => by
    unfold chT at h
    split at h
    · simp only [Bool.and_eq_true, decide_eq_true_eq] at h
      obtain ⟨⟨rfl, h1⟩, h2⟩ := h
      exact te_innO xo.gx (xo.name h2) (sE a xo h1)
    · cases h
  | .nilO n i, sc, X, e, xo, h => by
    unfold chT at h
    split at h
    · simp only [Bool.and_eq_true, decide_eq_true_eq] at h
      obtain ⟨rfl, h2⟩ := h
      exact te_nilO xo.gx (xo.name h2)
    · cases h
  | .an es, sc, X, e, xo, h => by
    unfold chT at h
    split at h
    · exact (sTn es xo h).te
    · cases h
  | .orr es, sc, X, e, xo, h => by
    unfold chT at h
    split at h
    · exact (sTo es xo h).te
    · cases h
  | .nt a, sc, X, e, xo, h => by
    unfold chT at h
    split at h
    · exact te_nt (sT a xo h)
    · cases h
  | .v i, sc, X, e, xo, h => by
    unfold chT at h
    split at h
    · have n := xo.name h
      exact te_plain (ok_v n.at_ n.vis n.nd n.nc) fun _ => rfl
    · cases h
  | .cl f as, sc, X, e, xo, h => by
    unfold chT at h
    split at h
    · simp only [Bool.and_eq_true, decide_eq_true_eq] at h
      obtain ⟨⟨⟨⟨h1, h2⟩, rfl⟩, h3⟩, h4⟩ := h
      rename_i es p
      cases es with
      | nil =>
        cases as with
        | nil => exact te_plain (ok_cl0 go.zk xo.gx hc (xo.gl h1) (go.fnm f h3) (nm_of h2).1) fun _ => rfl
        | cons a as => simp [chA] at h4
      | cons a es => exact te_plain (ok_cl go.zk xo.gx hc (xo.gl h1) (go.fnm f h3) (nm_of h2).1 (sA as xo h4) (chA_ord h4)) fun _ => rfl
    · cases h
  | .pcb f as, sc, X, e, xo, h => by
    unfold chT at h
    split at h
    · simp only [Bool.and_eq_true, decide_eq_true_eq] at h
      obtain ⟨⟨⟨⟨h1, h2⟩, rfl⟩, h3⟩, h4⟩ := h
      exact te_plain (ok_pcb go.zk xo.gx hc (xo.gl h1) (go.fnm f h3) (nm_of h2).1 (sW as xo h4) (chW_ord h4)) fun _ => rfl
    · cases h
  | .me m o as, sc, X, e, xo, h => by
    unfold chT at h
    split at h
    · simp only [Bool.and_eq_true, decide_eq_true_eq] at h
      obtain ⟨⟨⟨⟨⟨rfl, h1⟩, h2⟩, h3⟩, h4⟩, h5⟩ := h
      rename_i es p
      cases es with
      | nil =>
        cases as with
        | nil => exact te_plain (ok_me0 go.zk xo.gx hc (sE o xo h3) h2 h1) fun _ => rfl
        | cons a as => simp [chA] at h5
      | cons a es => exact te_plain (ok_me go.zk xo.gx hc (sE o xo h3) h2 (sA as xo h5) (chA_ord h5) h4 h1) fun _ => rfl
    · cases h
  | .isi a t, sc, X, e, xo, h => by
    unfold chT at h
    split at h
    · simp only [Bool.and_eq_true, decide_eq_true_eq] at h
      obtain ⟨⟨⟨⟨⟨rfl, h1⟩, rfl⟩, h2⟩, h3⟩, h4⟩ := h
      exact te_plain (ok_isi xo.gx (sE a xo h4) h3 (xo.gl h1) (go.blt _ m_isi) (xo.gl h2) (go.blt _ (ty_mem t)) (boot_ty t) (ty_name t).1 (ty_name t).2) fun _ => rfl
    · cases h
  | .fd o f, sc, X, e, xo, h => by
    unfold chT at h
    split at h
    · simp only [Bool.and_eq_true, decide_eq_true_eq] at h
      obtain ⟨⟨rfl, h1⟩, h2⟩ := h
      exact te_plain (ok_fd go.zk xo.gx (sE o xo h2) h1) fun _ => rfl
    · cases h
  | .ix o i, sc, X, e, xo, h => by
    unfold chT at h
    split at h
    · simp only [Bool.and_eq_true] at h
      exact te_plain (ok_ix xo.gx (sE o xo h.1.1) (sE i xo h.1.2) h.2) fun _ => rfl
    · cases h
  | .bi b as, sc, X, e, xo, h => by
    unfold chT at h
    split at h
    · simp only [Bool.and_eq_true, decide_eq_true_eq] at h
      obtain ⟨⟨rfl, h1⟩, h2⟩ := h
      have hm := go.blt _ (bi_mem b)
      have hb := boot_bi b
      have hn := bi_name b
      cases hf : biF b with
      | builtin id => exact te_plain (ok_biB xo.gx hf (xo.gl h1) hm (by rw [hb, hf]) hn.1 hn.2 (sA as xo h2) (chA_ord h2)) fun _ => rfl
      | type id => exact te_plain (ok_biT xo.gx hf (xo.gl h1) hm (by rw [hb, hf]) hn.1 hn.2 (sA as xo h2) (chA_ord h2)) fun _ => rfl
      | _ => cases b <;> cases hf
    · cases h
  | .k _, sc, X, e, xo, h => by cases h
  | .g _, sc, X, e, xo, h => by cases h
  | .op _ _ _, sc, X, e, xo, h => by cases h
  | .neg _, sc, X, e, xo, h => by cases h
  | .ife _ _ _, sc, X, e, xo, h => by cases h
  | .pcl _ _, sc, X, e, xo, h => by cases h
  | .bw _, sc, X, e, xo, h => by cases h
  | .rc _ _, sc, X, e, xo, h => by cases h
  | .mk _ _, sc, X, e, xo, h => by cases h
  | .bm _ _ _, sc, X, e, xo, h => by cases h
  | .sl _ _ _, sc, X, e, xo, h => by cases h
  | .no, sc, X, e, xo, h => by cases h
  | .lst _, sc, X, e, xo, h => by cases h
  | .tup _, sc, X, e, xo, h => by cases h
  | .dct, sc, X, e, xo, h => by cases h
  | .lc _ _ _ _ _, sc, X, e, xo, h => by cases h
  | .dc _ _ _ _ _ _, sc, X, e, xo, h => by cases h
  | .pop _, sc, X, e, xo, h => by cases h
  | .popI _ _, sc, X, e, xo, h => by cases h
  | .ixO _ _, sc, X, e, xo, h => by cases h
  | .lenO _, sc, X, e, xo, h => by cases h
theorem sA : ∀ (as : PF.Es) {sc : Scope} {X : L2.Cx} {es : List Expr}, XOk z k ns sc X → chA z.G ns sc as es = true → ArOk z X es (PF.evs z.T cf as)
  | .nil, sc, X, es, xo, h => by
    unfold chA at h
    split at h
    · exact ar_nil
    · cases h
  | .cons a as, sc, X, es, xo, h => by
    unfold chA at h
    split at h
    · simp only [Bool.and_eq_true] at h
      exact ar_cons (sE a xo h.1.1) (sA as xo h.2) h.1.2
    · cases h
theorem sW : ∀ (as : PF.Es) {sc : Scope} {X : L2.Cx} {es : List Expr}, XOk z k ns sc X → chW z.G ns sc as es = true → ArB z X es (PF.evB z.T cf as)
  | .nil, sc, X, es, xo, h => by
    unfold chW at h
    split at h
    · exact arb_nil
    · cases h
  | .cons a as, sc, X, es, xo, h => by
    by_cases ha : ∃ i, a = .bw i
    · obtain ⟨i, rfl⟩ := ha
      unfold chW at h
      split at h
      · simp only [Bool.and_eq_true] at h
        have n := xo.name h.1
        exact arb_bw n.at_ n.vis n.nd n.nc (sW as xo h.2)
      · cases h
    · have hv : ∀ σ h, PF.evB z.T cf (.cons a as) σ h = (PF.ev z.T cf a σ h).bind fun x h1 => (PF.evB z.T cf as σ h1).bind fun xs h2 => .ok (x.toV :: xs) h2 := by
        intro σ h
        cases a with
        | bw i => exact absurd ⟨i, rfl⟩ ha
        | _ => rfl
      cases es with
      | nil => cases a <;> cases h
      | cons e r =>
        have hw : chW z.G ns sc (.cons a as) (e :: r) = (chE z.G ns sc a e && ord e && chW z.G ns sc as r) := by
          cases a with
          | bw i => exact absurd ⟨i, rfl⟩ ha
          | _ => rfl
        rw [hw] at h
        simp only [Bool.and_eq_true] at h
        have q := arb_cons (sE a xo h.1.1) (sW as xo h.2) h.1.2
        intro σ hh xs h1 e
        rw [hv] at e
        exact q σ hh xs h1 e
theorem sAn : ∀ (as : PF.Es) {sc : Scope} {X : L2.Cx} {es : List Expr} {p : Pos}, XOk z k ns sc X → chB z.G ns sc as es = true → EvOk z X (.BoolOp .And es p) (toX (PF.evAn z.T cf as))
  | .nil, sc, X, es, p, xo, h => by cases h
  | .cons a as, sc, X, es, p, xo, h => by
    unfold chB at h
    split at h
    · simp only [Bool.and_eq_true] at h
      obtain ⟨h1, h2⟩ := h
      rename_i e r
      cases r with
      | nil =>
        cases nil_of (show isNil as = true from h2)
        exact an_one (sE a xo h1)
      | cons b rest => exact an_cons (sE a xo h1) (sAn as xo (show chB z.G ns sc as (b :: rest) = true from h2))
    · cases h
theorem sOr : ∀ (as : PF.Es) {sc : Scope} {X : L2.Cx} {es : List Expr} {p : Pos}, XOk z k ns sc X → chB z.G ns sc as es = true → EvOk z X (.BoolOp .Or es p) (toX (PF.evOr z.T cf as))
  | .nil, sc, X, es, p, xo, h => by cases h
  | .cons a as, sc, X, es, p, xo, h => by
    unfold chB at h
    split at h
    · simp only [Bool.and_eq_true] at h
      obtain ⟨h1, h2⟩ := h
      rename_i e r
      cases r with
      | nil =>
        cases nil_of (show isNil as = true from h2)
        exact or_one (sE a xo h1)
      | cons b rest => exact or_cons (sE a xo h1) (sOr as xo (show chB z.G ns sc as (b :: rest) = true from h2))
    · cases h
theorem sTn : ∀ (as : PF.Es) {sc : Scope} {X : L2.Cx} {es : List Expr} {p : Pos}, XOk z k ns sc X → chTs z.G ns sc as es = true → TwOk z X (.BoolOp .And es p) (PF.evAn z.T cf as)
  | .nil, sc, X, es, p, xo, h => by cases h
  | .cons a as, sc, X, es, p, xo, h => by
    unfold chTs at h
    split at h
    · simp only [Bool.and_eq_true] at h
      obtain ⟨h1, h2⟩ := h
      rename_i e r
      cases r with
      | nil =>
        cases nil_of (show isNil as = true from h2)
        exact tw_an_one (sT a xo h1)
      | cons b rest => exact tw_an_cons (sT a xo h1) (sTn as xo (show chTs z.G ns sc as (b :: rest) = true from h2))
    · cases h
theorem sTo : ∀ (as : PF.Es) {sc : Scope} {X : L2.Cx} {es : List Expr} {p : Pos}, XOk z k ns sc X → chTs z.G ns sc as es = true → TwOk z X (.BoolOp .Or es p) (PF.evOr z.T cf as)
  | .nil, sc, X, es, p, xo, h => by cases h
  | .cons a as, sc, X, es, p, xo, h => by
    unfold chTs at h
    split at h
    · simp only [Bool.and_eq_true] at h
      obtain ⟨h1, h2⟩ := h
      rename_i e r
      cases r with
      | nil =>
        cases nil_of (show isNil as = true from h2)
        exact tw_or_one (sT a xo h1)
      | cons b rest => exact tw_or_cons (sT a xo h1) (sTo as xo (show chTs z.G ns sc as (b :: rest) = true from h2))
    · cases h
theorem sC : ∀ (as : PF.Es) {sc scope : Scope} {X : L2.Cx} {es : List Expr}, (∀ s H C cl fp, XOk z k ns sc (Blk X scope s H C cl fp)) → chC z.G ns sc as es = true → ∃ tt, CdOk z X scope es (PF.evAn z.T cf as) tt
  | .nil, sc, scope, X, es, xo, h => by
    unfold chC at h
    split at h
    · exact ⟨_, cd_nil⟩
    · cases h
  | .cons a as, sc, scope, X, es, xo, h => by
    unfold chC at h
    split at h
    · simp only [Bool.and_eq_true] at h
      cases nil_of h.2
      exact ⟨_, cd_one fun s H C cl fp => sT a (xo s H C cl fp) h.1⟩
    · cases h
theorem sI : ∀ (it : PF.It) {sc : Scope} {X : L2.Cx} {tg e : Expr}, XOk z k ns sc X → chI z.G ns sc it tg e = true → ItOk z X tg e (PF.evIt z.T cf it)
  | .e a, sc, X, tg, e, xo, h => by
    unfold chI at h
    exact it_list xo.gx (sE a xo h)
  | .rng a b, sc, X, tg, e, xo, h => by
    unfold chI at h
    split at h
    · simp only [Bool.and_eq_true, decide_eq_true_eq] at h
      obtain ⟨⟨⟨⟨rfl, h1⟩, h2⟩, h3⟩, h4⟩ := h
      cases zero_of h2
      exact it_rng1 xo.gx (xo.gl h1) (go.blt _ m_range) (sE b xo h3) h4
    · simp only [Bool.and_eq_true, decide_eq_true_eq] at h
      obtain ⟨⟨⟨⟨⟨rfl, h1⟩, h2⟩, h3⟩, h4⟩, h5⟩ := h
      exact it_rng2 xo.gx (xo.gl h1) (go.blt _ m_range) (sE a xo h2) (sE b xo h4) h3 h5
    · cases h
  | .enu a, sc, X, tg, e, xo, h => by
    unfold chI at h
    split at h
    · simp only [Bool.and_eq_true, decide_eq_true_eq] at h
      obtain ⟨⟨⟨rfl, h1⟩, h2⟩, h3⟩ := h
      exact it_enu xo.gx (xo.gl h1) (go.blt _ m_enum) (sE a xo h2) h3
    · cases h
end
theorem sLc : ∀ (own : List Nat) (a : PF.E) (t : PF.Tg) (it : PF.It) (c : PF.Es) {sc scope : Scope} {X : L2.Cx} {tg iter elt : Expr} {ifs : List Expr}, XOk z k ns sc X → L2.blkC ns sc scope (ownL ns own) = true → tgB ns (onlyL (relS scope sc)) own t tg = true → chI z.G ns sc it tg iter = true → chC z.G ns (relS scope sc) c ifs = true → chE z.G ns (relS scope sc) a elt = true →
    EvW z (LcW X tg iter elt ifs scope) (PF.ev z.T cf (.lc own a t it c))
  | own, a, t, it, c, sc, scope, X, tg, iter, elt, ifs, xo, h1, h2, h3, h5, h6 => by
    have bo : L2.BlkOk X.N X.env.scope scope (ownL ns own) := by rw [xo.N, xo.s]; exact L2.blkOk_by h1
    have xb := fun s H C cl fp => xo.blk bo s H C cl fp
    obtain ⟨tt, cd⟩ := sC go hc c (X := X) xb h5
    have q := lc_w (t := t) (g := tgG X.K t) (sI go hc it xo h3) bo (fun s H C cl fp => ((xb s H C cl fp).tg (fun x hx => (xb s H C cl fp).only hx) h2).1) (by rw [ownL_snd]; exact xo.tgRun h2) cd (fun s H C cl fp => sE go hc a (xb s H C cl fp) h6)
    rw [ownL_snd] at q
    exact q
end
end Br
set_option Elab.async false
set_option linter.all false
set_option maxRecDepth 100000
set_option maxHeartbeats 2000000
namespace Br
open PySem PySem.Spec PyProof.Rows PySem.SeqAt
/-! ### statements against the IR -/
/-- the value is stored ahead of the block's end -/
def swB (sc : Scope) (x : Str) (px : Pos) : Expr → Bool
  | .ListComp _ _ s p => (sc.names.lookup x == some .local) && (px.line == p.line) && !(s.names.any fun (n, k) => n == x && (k == .local || k == .cell))
  | .SetComp _ _ s p => (sc.names.lookup x == some .local) && (px.line == p.line) && !(s.names.any fun (n, k) => n == x && (k == .local || k == .cell))
  | .DictComp _ _ _ s p => (sc.names.lookup x == some .local) && (px.line == p.line) && !(s.names.any fun (n, k) => n == x && (k == .local || k == .cell))
  | _ => false
theorem sw_eq {v : Expr} {x : Str} {px : Pos} {l : Nat} {env : Env} (hk : env.scope.kind = .function) : swapsWith v (some (.Name x px)) l env = pure (swB env.scope x px v) := by
  have hb : (env.blockKind == ScopeKind.function) = true := by unfold Env.blockKind; rw [hk]; rfl
  have main : ∀ (s : Scope) (p : Pos), (env.blockKind == ScopeKind.function && env.kindOf x == some .local && px.line == p.line && !(s.names.any fun (n, k) => n == x && (k == .local || k == .cell))) = ((env.scope.names.lookup x == some .local) && (px.line == p.line) && !(s.names.any fun (n, k) => n == x && (k == .local || k == .cell))) := fun s p => by
    rw [hb, Bool.true_and]; rfl
  cases v with
  | ListComp a b s p => exact congrArg pure (main s p)
  | SetComp a b s p => exact congrArg pure (main s p)
  | DictComp a c b s p => exact congrArg pure (main s p)
  | _ => rfl
def notComp : Expr → Bool
  | .ListComp _ _ _ _ => false
  | .SetComp _ _ _ _ => false
  | .DictComp _ _ _ _ _ => false
  | _ => true
def notTup : Expr → Bool
  | .Tuple vs _ _ => vs.all (foldedForSure 8)
  | _ => true
def tgIds : PF.Tg → List Nat
  | .n i => [i]
  | .t is => is
def starB : Expr → Bool
  | .Starred .. => true
  | _ => false
/-- names on one line, all local -/
def lineNames (sc : Scope) (ts : List Expr) : List Str := ts.filterMap fun
  | .Name id pos => if sc.names.lookup id == some .local && pos.line == (ts.head?.map (·.pos.line)).getD 0 then some id else none
  | _ => none
def parB (ns : List Str) (sc : Scope) (is : List Nat) (ts vs : List Expr) : Bool :=
  decide (vs.length = ts.length) && !(vs.any starB) && decide ((lineNames sc ts).length = ts.length) && !((lineNames sc ts).eraseDups.length != (lineNames sc ts).length) && !(vs.all (foldedForSure 8)) && !(vs.all (constantsAlone 8)) && decide (is.map (ns[·]?) = (lineNames sc ts).map some) && decide is.Nodup
def isFrz : PF.S → Bool
  | .frz _ => true
  | _ => false
section
variable (G : Gm) (ns : List Str) (sc : Scope)
def asgB (i : Nat) (e : PF.E) : Stmt → Bool
  | .Assign [.Name x px] v _ => decide (ns[i]? = some x) && locB sc x && (match swB sc x px v with
    | false => chE G ns sc e v
    | true => match e, v with
      | .lc own a t it c, .ListComp elt [⟨tg, iter, ifs, 0⟩] scope _ => L2.blkC ns sc scope (ownL ns own) && tgB ns (onlyL (relS scope sc)) own t tg && chI G ns sc it tg iter && ord iter && chC G ns (relS scope sc) c ifs && chE G ns (relS scope sc) a elt
      | _, _ => false)
  | _ => false
mutual
def chS : PF.S → Stmt → Bool
  | .set i e, st => asgB G ns sc i e st
  | .own i e, st => asgB G ns sc i e st
  | .setP i e, st => asgB G ns sc i e st
  | .setT is e, st => match st with
    | .Assign [.Tuple es _ _] v _ => nmsB ns (locB sc) is es && chE G ns sc e v && notTup v
    | _ => false
  | .par t es, st => match st with
    | .Assign [.Tuple [.Name x px, .Name y py] _ _] (.Tuple [a, b] _ _) _ => decide (t.length = 2) && parB ns sc (t.map (·.1)) [.Name x px, .Name y py] [a, b] && chA G ns sc es [a, b]
    | .Assign [.Tuple [.Name x px, .Name y py, .Name w pw] _ _] (.Tuple [a, b, c] _ _) _ => decide (t.length = 3) && parB ns sc (t.map (·.1)) [.Name x px, .Name y py, .Name w pw] [a, b, c] && chA G ns sc es [a, b, c]
    | _ => false
  | .setF _ o f e, st => match st with
    | .Assign [.Attribute l x _] v _ => decide (x = G.aN f) && chE G ns sc o l && chE G ns sc e v
    | _ => false
  | .setI o i e, st => match st with
    | .Assign [.Subscript l r _] v _ => chE G ns sc o l && chE G ns sc i r && ord r && chE G ns sc e v
    | _ => false
  | .setO i j e, st => match st with
    | .Assign [.Subscript (.Name x _) r _] v _ => varB ns sc i x && chE G ns sc j r && ord r && chE G ns sc e v
    | _ => false
  | .aug i p e, st => match st with
    | .AugAssign (.Name x _) o v _ => decide (o = opO p) && decide (ns[i]? = some x) && locB sc x && chE G ns sc e v
    | _ => false
  | .augF o f p e, st => match st with
    | .AugAssign (.Attribute l x _) q v _ => decide (q = opO p) && decide (x = G.aN f) && chE G ns sc o l && chE G ns sc e v
    | _ => false
  | .app i e, st => match st with
    | .Expr (.Call (.Attribute (.Name x _) m ap) [v] [] p) _ => decide (m = "append") && (ap.endLine == p.line) && varB ns sc i x && chE G ns sc e v && ord v
    | _ => false
  | .ext i e, st => match st with
    | .Expr (.Call (.Attribute (.Name x _) m ap) [v] [] p) _ => decide (m = "extend") && (ap.endLine == p.line) && varB ns sc i x && chE G ns sc e v && ord v
    | _ => false
  | .appH o e, st => match st with
    | .Expr (.Call (.Attribute l m ap) [v] [] p) _ => decide (m = "append") && (ap.endLine == p.line) && chE G ns sc o l && ord l && chE G ns sc e v && ord v
    | _ => false
  | .upd o e, st => match st with
    | .Expr (.Call (.Attribute l m ap) [v] [] p) _ => decide (m = "update") && (ap.endLine == p.line) && chE G ns sc o l && ord l && chE G ns sc e v && ord v
    | _ => false
  | .ifs c a b, st => match st with
    | .If t x y _ => chT G ns sc c t && chSs a x && chSs b y
    | _ => false
  | .whl c b, st => match st with
    | .While t x [] _ => chT G ns sc c t && chSs b x
    | _ => false
  | .fr t it b, st => match st with
    | .For tg iter x [] _ => tgB ns (locB sc) (tgIds t) t tg && chI G ns sc it tg iter && ord iter && chSs b x
    | _ => false
  | .ret e, st => match st with
    | .Return (some v) _ => chE G ns sc e v
    | _ => false
  | .retO i, st => match st with
    | .Return (some (.Name x _)) _ => varB ns sc i x
    | _ => false
  | .retN, st => match st with
    | .Return none _ => true
    | _ => false
  | .ex e, st => match st with
    | .Expr v _ => chE G ns sc e v && notComp v
    | _ => false
  | .pass, st => match st with
    | .Pass _ => true
    | _ => false
  | .brk, st => match st with
    | .Break _ => true
    | _ => false
  | .cnt, st => match st with
    | .Continue _ => true
    | _ => false
  | .rais _ _, _ => true
  | _, _ => false
def chSs : PF.Ss → List Stmt → Bool
  | .nil, sts => match sts with
    | [] => true
    | _ => false
  | .cons s ss, sts => match isFrz s with
    | true => chSs ss sts
    | false => match sts with
      | st :: r => chS s st && chSs ss r
      | _ => false
end
end
end Br
set_option Elab.async false
set_option linter.all false
set_option maxRecDepth 100000
set_option maxHeartbeats 2000000
namespace Br
open PySem PySem.Spec PyProof.Rows PySem.SeqAt
variable {z : Z} {k : Nat} {ns : List Str} {cf : Nat → List PF.V → PF.Hp → PF.R PF.X} {sc : Scope} {X : L2.Cx}
structure XF (z : Z) (k : Nat) (ns : List Str) (sc : Scope) (X : L2.Cx) : Prop where
  xo : XOk z k ns sc X
  fnc : ∀ x, sc.names.lookup x = some .cell → X.fn x = true
  po : PassesOwn (model X.prog X.w) X.A X.env X.xe
theorem XF.st (xf : XF z k ns sc X) {x : Str} (h : locB sc x = true) : StB X x := by
  unfold StB
  rw [xf.xo.s]
  refine ⟨loc_of h, ?_⟩
  rcases loc_of h with q | q
  · exact .inr q
  · exact .inl (xf.fnc x q)
theorem sw_other {v : Expr} {tg : Expr} {l : Nat} {env : Env} (h : ∀ x p, tg ≠ .Name x p) : swapsWith v (some tg) l env = pure false := by
  cases v <;> first | rfl | (cases tg <;> first | rfl | exact absurd rfl (h _ _))
theorem sw_sole {v : Expr} {tg : Expr} {l : Nat} {env : Env} (h : ∀ x p, tg ≠ .Name x p) : swapsWithSole [tg] v l env = pure false := sw_other h
theorem sw_drop {v : Expr} {l : Nat} {env : Env} (h : notComp v = true) : swapsWith v none l env = pure false := by
  cases v <;> first | rfl | cases h
theorem ss_none {tg v : Expr} {env : Env} (h : notTup v = true) : swappedStores [tg] v env = pure none := by
  by_cases hv : ∃ vs c p, v = .Tuple vs c p
  · obtain ⟨vs, c, p, rfl⟩ := hv
    have hf : vs.all (foldedForSure 8) = true := h
    by_cases ht : (∃ a b c, tg = .Tuple a b c) ∨ ∃ a b, tg = .List a b
    · rcases ht with ⟨a, b, c, rfl⟩ | ⟨a, b, rfl⟩
      · unfold swappedStores
        dsimp only
        rw [hf, if_pos (Eq.refl true), ite_self, ite_self, ite_self]
      · unfold swappedStores
        dsimp only
        rw [hf, if_pos (Eq.refl true), ite_self, ite_self, ite_self]
    · cases tg <;> first | exact absurd (.inl ⟨_, _, _, rfl⟩) ht | exact absurd (.inr ⟨_, _, rfl⟩) ht | rfl
  · cases v <;> first | exact absurd ⟨_, _, _, rfl⟩ hv | (cases tg <;> rfl) | cases h
theorem ss_noT {tg v : Expr} {env : Env} (h1 : ∀ a b c, tg ≠ .Tuple a b c) (h2 : ∀ a b, tg ≠ .List a b) : swappedStores [tg] v env = pure none := by
  cases tg <;> first | exact absurd rfl (h1 _ _ _) | exact absurd rfl (h2 _ _) | rfl
theorem par_names {is : List Nat} {ts vs : List Expr} {kt k2 : Nat} {pt pt2 : Pos} (xo : XOk z k ns sc X) (hl : ts.length = 2 ∨ ts.length = 3) (h : parB ns sc is ts vs = true) :
    ∃ names, lineNames sc ts = names ∧ names.length = ts.length ∧ is.map (ns[·]?) = names.map some ∧ is.Nodup ∧ swappedStores [.Tuple ts kt pt] (.Tuple vs k2 pt2) X.env = pure (some names) := by
  unfold parB at h
  simp only [Bool.and_eq_true, decide_eq_true_eq, Bool.not_eq_true'] at h
  obtain ⟨⟨⟨⟨⟨⟨⟨h1, h2⟩, h3⟩, h4⟩, h5⟩, h6⟩, h7⟩, h8⟩ := h
  refine ⟨_, rfl, h3, h7, h8, ?_⟩
  refine swapped_names (by rw [xo.s]; exact xo.kind) hl h1 ?_ ?_ h3 h4 h5 h6
  · exact h2
  · rw [xo.s]
    rfl
theorem fm_cons {sc : Scope} {l : Nat} {x : Str} {p : Pos} {ts : List Expr} {f : Expr → Option Str} (hf : ∀ id pos, f (.Name id pos) = if sc.names.lookup id == some .local && pos.line == l then some id else none) (h : ((Expr.Name x p :: ts).filterMap f).length = (Expr.Name x p :: ts).length) :
    (Expr.Name x p :: ts).filterMap f = x :: ts.filterMap f ∧ sc.names.lookup x = some .local ∧ (ts.filterMap f).length = ts.length := by
  rw [List.filterMap_cons, hf] at h ⊢
  by_cases q : (sc.names.lookup x == some .local && p.line == l) = true
  · rw [if_pos q] at h ⊢
    simp only [Bool.and_eq_true, beq_iff_eq] at q
    exact ⟨rfl, q.1, by simpa using h⟩
  · rw [if_neg q] at h
    have := List.length_filterMap_le f ts
    simp only [List.length_cons] at h
    omega
section
variable (go : GOk z) (hc : CfOk z k cf)
include go hc
theorem asg_ok {i : Nat} {e : PF.E} {st : Stmt} (xf : XF z k ns sc X) (h : asgB z.G ns sc i e st = true) : ∃ v W, AsgOk X st i v W ∧ EvW z W (PF.ev z.T cf e) := by
  have xo := xf.xo
  unfold asgB at h
  split at h
  · rename_i x px v pos
    simp only [Bool.and_eq_true, decide_eq_true_eq] at h
    obtain ⟨⟨h1, h2⟩, h3⟩ := h
    have hk : X.env.scope.kind = .function := by rw [xo.s]; exact xo.kind
    have sw : swapsWith v (some (.Name x px)) pos.line X.env = pure (swB sc x px v) := by rw [sw_eq hk, xo.s]
    obtain ⟨l1, l2⟩ := xf.st h2
    split at h3
    · rename_i q
      rw [q] at sw
      exact ⟨v, _, asg_plain xo.gx (by rw [xo.N]; exact h1) l1 sw l2, (sE go hc e xo h3).w⟩
    · rename_i q
      rw [q] at sw
      split at h3
      · rename_i own a t it c elt tg iter ifs scope p
        simp only [Bool.and_eq_true] at h3
        obtain ⟨⟨⟨⟨⟨g1, g2⟩, g3⟩, g4⟩, g5⟩, g6⟩ := h3
        have hyl : X.env.scope.names.lookup x = some .local := by
          rw [xo.s]
          simp only [swB, Bool.and_eq_true, beq_iff_eq] at q
          exact q.1.1
        exact ⟨_, _, asg_lc xo.gx (by rw [xo.N]; exact h1) hyl sw g4, sLc go hc own a t it c xo g1 g2 g3 g5 g6⟩
      · cases h3
  · cases h
theorem sX : ∀ (as : PF.Es) {es : List Expr}, XOk z k ns sc X → chA z.G ns sc as es = true → ArX z X es (PF.evx z.T cf as)
  | .nil, es, xo, h => by
    unfold chA at h
    split at h
    · exact arx_nil
    · cases h
  | .cons a as, es, xo, h => by
    unfold chA at h
    split at h
    · simp only [Bool.and_eq_true] at h
      exact arx_cons (sE go hc a xo h.1.1) (sX as xo h.2) h.1.2
    · cases h
theorem sPar {t : List (Nat × Bool)} {es : PF.Es} {st : Stmt} (xf : XF z k ns sc X) (h : chS z.G ns sc (.par t es) st = true) : StOk z X st (parX t (PF.evx z.T cf es)) := by
  have xo := xf.xo
  unfold chS at h
  split at h
  · rename_i x px y py kt pt a b k2 pt2 pos
    simp only [Bool.and_eq_true, decide_eq_true_eq] at h
    obtain ⟨⟨h1, h2⟩, h3⟩ := h
    obtain ⟨names, n1, n0, n2, n3, n4⟩ := par_names (kt := kt) (k2 := k2) (pt := pt) (pt2 := pt2) xo (.inl rfl) h2
    subst n1
    unfold lineNames at n0 n2 n4
    obtain ⟨e1, l1, m1⟩ := fm_cons (fun _ _ => rfl) n0
    obtain ⟨e2, l2, m2⟩ := fm_cons (fun _ _ => rfl) m1
    rw [e1, e2, List.filterMap_nil] at n2 n4
    match t, h1 with
    | [(i, p), (j, q)], _ =>
      simp only [List.map_cons, List.map_nil, List.cons.injEq, and_true] at n2
      simp only [List.map_cons, List.map_nil, List.nodup_cons, List.mem_singleton] at n3
      exact st_par2 xo.gx (by rw [xo.N]; exact n2.1) (by rw [xo.N]; exact n2.2) n3.1 (by rw [xo.s]; exact l1) (by rw [xo.s]; exact l2) (sX go hc es xo h3) n4
  · rename_i x px y py w pw kt pt a b c k2 pt2 pos
    simp only [Bool.and_eq_true, decide_eq_true_eq] at h
    obtain ⟨⟨h1, h2⟩, h3⟩ := h
    obtain ⟨names, n1, n0, n2, n3, n4⟩ := par_names (kt := kt) (k2 := k2) (pt := pt) (pt2 := pt2) xo (.inr rfl) h2
    subst n1
    unfold lineNames at n0 n2 n4
    obtain ⟨e1, l1, m1⟩ := fm_cons (fun _ _ => rfl) n0
    obtain ⟨e2, l2, m2⟩ := fm_cons (fun _ _ => rfl) m1
    obtain ⟨e3, l3, m3⟩ := fm_cons (fun _ _ => rfl) m2
    rw [e1, e2, e3, List.filterMap_nil] at n2 n4
    match t, h1 with
    | [(i, p), (j, q), (l, r)], _ =>
      simp only [List.map_cons, List.map_nil, List.cons.injEq, and_true] at n2
      simp only [List.map_cons, List.map_nil, List.nodup_cons, List.mem_cons, List.not_mem_nil, or_false, not_or] at n3
      exact st_par3 xo.gx (by rw [xo.N]; exact n2.1) (by rw [xo.N]; exact n2.2.1) (by rw [xo.N]; exact n2.2.2) n3.1.1 n3.1.2 n3.2.1 (by rw [xo.s]; exact l1) (by rw [xo.s]; exact l2) (by rw [xo.s]; exact l3) (sX go hc es xo h3) n4
  · cases h
mutual
theorem sS : ∀ (t : PF.S) {st : Stmt}, XF z k ns sc X → chS z.G ns sc t st = true → StOk z X st (PF.exec z.T cf t)
  | .set i e, st, xf, h => by
    obtain ⟨v, W, h1, h2⟩ := asg_ok go hc xf (show asgB z.G ns sc i e st = true from h)
    exact st_set h1 h2
  | .own i e, st, xf, h => by
    obtain ⟨v, W, h1, h2⟩ := asg_ok go hc xf (show asgB z.G ns sc i e st = true from h)
    exact st_own h1 h2
  | .setP i e, st, xf, h => by
    obtain ⟨v, W, h1, h2⟩ := asg_ok go hc xf (show asgB z.G ns sc i e st = true from h)
    exact st_setP h1 h2
  | .setT is e, st, xf, h => by
    unfold chS at h
    split at h
    · simp only [Bool.and_eq_true] at h
      obtain ⟨⟨h1, h2⟩, h3⟩ := h
      obtain ⟨g1, g2, g3⟩ := xf.xo.pgs (fun x hx => xf.st hx) h1
      exact st_setT (tg_tup (own := is) xf.xo.gx fun i hi => hi) (L2.pg_tup xf.xo.gx.calm g1 g2 g3) (sE go hc e xf.xo h2) (sw_sole fun x p q => nomatch q) (ss_none h3) rfl
    · cases h
  | .par t es, st, xf, h => sPar go hc xf h
  | .setF p o f e, st, xf, h => by
    unfold chS at h
    split at h
    · simp only [Bool.and_eq_true, decide_eq_true_eq] at h
      obtain ⟨⟨rfl, h1⟩, h2⟩ := h
      exact st_setF go.zk xf.xo.gx (sE go hc o xf.xo h1) (sE go hc e xf.xo h2) (sw_other fun x p q => nomatch q) p
    · cases h
  | .setI o i e, st, xf, h => by
    unfold chS at h
    split at h
    · simp only [Bool.and_eq_true] at h
      obtain ⟨⟨⟨h1, h2⟩, h3⟩, h4⟩ := h
      exact st_setI xf.xo.gx (sE go hc o xf.xo h1) (sE go hc i xf.xo h2) (sE go hc e xf.xo h4) h3 (sw_sole fun x p q => nomatch q) (ss_noT (fun _ _ _ q => nomatch q) fun _ _ q => nomatch q)
    · cases h
  | .setO i j e, st, xf, h => by
    unfold chS at h
    split at h
    · simp only [Bool.and_eq_true] at h
      obtain ⟨⟨⟨h1, h2⟩, h3⟩, h4⟩ := h
      exact st_setO xf.xo.gx (xf.xo.name h1) (sE go hc j xf.xo h2) (sE go hc e xf.xo h4) h3 (sw_sole fun x p q => nomatch q) (ss_noT (fun _ _ _ q => nomatch q) fun _ _ q => nomatch q)
    · cases h
  | .aug i p e, st, xf, h => by
    unfold chS at h
    split at h
    · simp only [Bool.and_eq_true, decide_eq_true_eq] at h
      obtain ⟨⟨⟨rfl, h1⟩, h2⟩, h3⟩ := h
      obtain ⟨l1, l2⟩ := xf.st h2
      exact st_aug xf.xo.gx (by rw [xf.xo.N]; exact h1) l1 l2 (sE go hc e xf.xo h3) p
    · cases h
  | .augF o f p e, st, xf, h => by
    unfold chS at h
    split at h
    · simp only [Bool.and_eq_true, decide_eq_true_eq] at h
      obtain ⟨⟨⟨rfl, rfl⟩, h1⟩, h2⟩ := h
      exact st_augF go.zk xf.xo.gx (sE go hc o xf.xo h1) (sE go hc e xf.xo h2) p
    · cases h
  | .app i e, st, xf, h => by
    unfold chS at h
    split at h
    · simp only [Bool.and_eq_true, decide_eq_true_eq] at h
      obtain ⟨⟨⟨⟨rfl, h1⟩, h2⟩, h3⟩, h4⟩ := h
      exact st_app (xf.xo.name h2) (sE go hc e xf.xo h3) h4 h1
    · cases h
  | .ext i e, st, xf, h => by
    unfold chS at h
    split at h
    · simp only [Bool.and_eq_true, decide_eq_true_eq] at h
      obtain ⟨⟨⟨⟨rfl, h1⟩, h2⟩, h3⟩, h4⟩ := h
      exact st_ext (xf.xo.name h2) (sE go hc e xf.xo h3) h4 h1
    · cases h
  | .appH o e, st, xf, h => by
    unfold chS at h
    split at h
    · simp only [Bool.and_eq_true, decide_eq_true_eq] at h
      obtain ⟨⟨⟨⟨⟨rfl, h1⟩, h2⟩, h3⟩, h4⟩, h5⟩ := h
      exact st_appH (sE go hc o xf.xo h2) h3 (sE go hc e xf.xo h4) h5 h1
    · cases h
  | .upd o e, st, xf, h => by
    unfold chS at h
    split at h
    · simp only [Bool.and_eq_true, decide_eq_true_eq] at h
      obtain ⟨⟨⟨⟨⟨rfl, h1⟩, h2⟩, h3⟩, h4⟩, h5⟩ := h
      exact st_upd (sE go hc o xf.xo h2) h3 (sE go hc e xf.xo h4) h5 h1
    · cases h
  | .ifs c a b, st, xf, h => by
    unfold chS at h
    split at h
    · simp only [Bool.and_eq_true] at h
      obtain ⟨⟨h1, h2⟩, h3⟩ := h
      have q := st_if (pos := ‹Pos›) (sT go hc c xf.xo h1) (sSs a xf h2) (sSs b xf h3)
      intro σ h σ1 fl h1 e
      refine q σ h σ1 fl h1 ?_
      obtain ⟨x, h2, e1, e2⟩ := bind_ok (show (PF.ev z.T cf c σ h).bind _ = _ from e)
      show ((PF.ev z.T cf c σ h).bind PF.xB).bind _ = _
      rw [e1]
      exact e2
    · cases h
  | .whl c b, st, xf, h => by
    unfold chS at h
    split at h
    · simp only [Bool.and_eq_true] at h
      exact st_whl xf.po (sT go hc c xf.xo h.1) (sSs b xf h.2) z.T.W
    · cases h
  | .fr t it b, st, xf, h => by
    unfold chS at h
    split at h
    · simp only [Bool.and_eq_true] at h
      obtain ⟨⟨⟨h1, h2⟩, h3⟩, h4⟩ := h
      obtain ⟨g1, g2⟩ := xf.xo.tg (fun x hx => xf.st hx) h1
      exact st_for xf.po xf.xo.gx (sI go hc it xf.xo h2) g1 g2 (sSs b xf h4) h3
    · cases h
  | .ret e, st, xf, h => by
    unfold chS at h
    split at h
    · exact st_ret (sE go hc e xf.xo h)
    · cases h
  | .retO i, st, xf, h => by
    unfold chS at h
    split at h
    · exact st_retO (xf.xo.name h)
    · cases h
  | .retN, st, xf, h => by
    unfold chS at h
    split at h
    · exact st_retN
    · cases h
  | .ex e, st, xf, h => by
    unfold chS at h
    split at h
    · simp only [Bool.and_eq_true] at h
      exact st_ex (sE go hc e xf.xo h.1) (sw_drop h.2)
    · cases h
  | .pass, st, xf, h => by
    unfold chS at h
    split at h
    · exact st_pass
    · cases h
  | .brk, st, xf, h => by
    unfold chS at h
    split at h
    · exact st_brk
    · cases h
  | .cnt, st, xf, h => by
    unfold chS at h
    split at h
    · exact st_cnt
    · cases h
  | .rais c as, st, xf, h => by
    intro σ h σ1 fl h1 e
    obtain ⟨xs, h2, e1, e2⟩ := bind_ok (show (PF.evs z.T cf as σ h).bind _ = _ from e)
    split at e2 <;> cases e2
  | .augI _ _ _ _, st, xf, h => by cases h
  | .frz _, st, xf, h => by cases h
theorem sSs : ∀ (t : PF.Ss) {sts : List Stmt}, XF z k ns sc X → chSs z.G ns sc t sts = true → SsOk z X sts (PF.execs z.T cf t)
  | .nil, sts, xf, h => by
    unfold chSs at h
    split at h
    · exact ss_nil
    · cases h
  | .cons s ss, sts, xf, h => by
    unfold chSs at h
    split at h
    · rename_i q
      cases s with
      | frz i => exact ss_frz (i := i) (sSs ss xf h)
      | _ => cases q
    · split at h
      · simp only [Bool.and_eq_true] at h
        exact ss_cons (sS s xf h.1) (sSs ss xf h.2)
      · cases h
end
end
end Br
set_option Elab.async false
set_option linter.all false
set_option maxRecDepth 100000
set_option maxHeartbeats 2000000
namespace Br
open PySem PySem.Spec PyProof.Rows PySem.SeqAt
variable {z : Z} {k : Nat}
def dropDoc : List Stmt → List Stmt
  | .Expr (.Constant (.str _) _ _) _ :: r => r
  | b => b
/-- a def of the row against the IR's -/
inductive FDef (z : Z) (f : Nat) (fn : PF.Fn) : Prop
  | mk {name qual : Str} {params : Arguments} {body : List Stmt} {scope : Scope} {dV kV doc pm cdv ct oc : Value} {an od : Option Addr} {osl : Array (Option Value)} {N : List Str}
    (lk : z.K.lookup (z.φ f) = some ⟨oc, od, .func (PySem.W.fnOf name qual params body scope dV kV doc pm an cdv ct), osl⟩)
    (fd : z.fd f = PySem.W.fnOf name qual params body scope dV kV doc pm an cdv ct)
    (cd : PySem.W.codeIn z.K cdv qual = true) (S : L2.FnScope N (z.ps f) scope) (nl : N.length = fn.ns) (pl : (z.ps f).length = fn.np)
    (ch : chSs z.G N scope fn.body (dropDoc body) = true) : FDef z f fn
theorem start_sr {ρ : List Addr} {M : Addr → Prop} {h : PF.Hp} {H : Hp} {xs : List PF.V} {vs : List L2.V} {N : List Str} {n : Nat} (hr : HR z ρ M h H) (rv : RVs z ρ M H xs vs) (hn : N.length - vs.length = n) :
    SR z ρ noW M (xs.map (fun v => some (.v v)) ++ List.replicate n none) h (L2.start N vs) H := by
  refine ⟨hr, fun i s e => ?_, ?_, fun i b q => (nomatch q), fun i j b q => (nomatch q)⟩
  · unfold L2.start
    by_cases hi : i < xs.length
    · rw [List.getElem?_append_left (by simpa using hi), List.getElem?_map] at e
      rw [List.getElem?_append_left (by simpa [← rv.length] using hi), List.getElem?_map]
      cases hx : xs[i]? with
      | none => rw [hx] at e; cases e
      | some x =>
        rw [hx] at e
        cases e
        obtain ⟨y, g1, g2⟩ := rv.get hx
        exact ⟨y, by rw [g1]; rfl, .v g2⟩
    · rw [List.getElem?_append_right (by simpa using hi), List.getElem?_replicate] at e
      split at e <;> cases e
  · unfold L2.start
    rw [List.length_append, List.length_append, List.length_map, List.length_map, List.length_replicate, List.length_replicate, rv.length, hn]
theorem dropDoc_ok {X : L2.Cx} {body : List Stmt} {r : Rs} (h : SsOk z X (dropDoc body) r) : SsOk z X body r := by
  unfold dropDoc at h
  split at h
  · exact ss_doc h
  · exact h
theorem runF_ok {T : PF.Tab} {cf : Nat → List PF.V → PF.Hp → PF.R PF.X} {fn : PF.Fn} {xs : List PF.V} {h h1 : PF.Hp} {x : PF.X} (e : PF.runF T cf fn xs h = .ok x h1) : xs.length = fn.np ∧ ∃ σ1 fl, PF.execs T cf fn.body (xs.map (fun v => some (.v v)) ++ List.replicate (fn.ns - fn.np) none) h = .ok (σ1, fl) h1 ∧ ((fl = .nx ∧ x = PF.dat .non) ∨ fl = .rt x) := by
  unfold PF.runF at e
  split at e
  · rename_i hl
    obtain ⟨⟨σ1, fl⟩, h2, e1, e2⟩ := bind_ok e
    cases fl with
    | nx => cases e2; exact ⟨hl, σ1, .nx, e1, .inl ⟨rfl, rfl⟩⟩
    | rt y => cases e2; exact ⟨hl, σ1, .rt _, e1, .inr rfl⟩
    | bk => cases e2
    | ct => cases e2
  · cases e
theorem cf_zero : CfOk z k (PF.callF z.T 0) :=
  ⟨fun f xs h x h1 e => (nomatch e), fun base f fn e => ⟨fun vs H Q E q => (by obtain ⟨xs, h, x, h1, ρ, M, e, _⟩ := q; cases e), fun A outer s H args us vs Q E _ _ _ _ q => (by obtain ⟨xs, h, x, h1, ρ, M, e, _⟩ := q; cases e)⟩⟩
theorem cf_step (go : GOk z) (fds : ∀ f fn, z.T.fns f = some fn → FDef z f fn) {d : Nat} (hc : CfOk z k (PF.callF z.T d)) : CfOk z (k + 2) (PF.callF z.T (d + 1)) := by
  refine ⟨fun f xs h x h1 e => ?_, fun base f fn hf => ?_⟩
  · unfold PF.callF at e
    split at e
    · rename_i fn hf; exact ⟨fn, hf⟩
    · cases e
  · obtain ⟨lk, fd, cd, S, nl, pl, ch⟩ := fds f fn hf
    rename_i name qual params body scope dV kV doc pm cdv ct oc an od osl N
    have run : ∀ {xs h x h1}, PF.callF z.T (d + 1) f xs h = .ok x h1 → PF.runF z.T (PF.callF z.T d) fn xs h = .ok x h1 := fun {xs h x h1} e => by
      unfold PF.callF at e
      rw [hf] at e
      exact e
    rw [fd]
    refine L2.fn_of lk cd S (fun vs H Q E ⟨xs, h, x, h1, ρ, M, e, hr, rv, _⟩ => ?_) fun A outer s H vs Q E hroom ⟨xs, h, x, h1, ρ, M, e, hr, rv, c⟩ => ?_
    · rw [← rv.length, (runF_ok (run e)).1, pl]
    · obtain ⟨hl, σ1, fl, e1, e2⟩ := runF_ok (run e)
      have xo : XOk z k N scope (L2.cxOf L2.CX0 z.P z.w z.K z.mg base N qual scope (z.φ f) cdv A outer s H E).nox := ⟨⟨rfl, rfl, rfl, rfl, rfl, hroom, S.nd⟩, rfl, rfl, S.kind⟩
      have xf : XF z k N scope (L2.cxOf L2.CX0 z.P z.w z.K z.mg base N qual scope (z.φ f) cdv A outer s H E).nox := ⟨xo, fun x q => rfl, PassesOwn.never⟩
      have hn : N.length - vs.length = fn.ns - fn.np := by rw [nl, ← rv.length, hl]
      have so := dropDoc_ok (sSs go hc fn.body xf ch)
      refine ⟨_, (pss_wss _ body).nox, so _ _ _ _ _ e1 ρ noW M _ H (start_sr hr rv hn) _ fun ρ1 ω1 M1 σ1' H1 x1 f1 sr1 => ?_⟩
      have fm : Fm ρ M H ρ1 M1 H1 := fun b o q n => by
        obtain ⟨g1, g2, _, g4⟩ := f1 b o q n (fun i q => nomatch q)
        exact ⟨g1, g2, g4⟩
      rcases e2 with ⟨rfl, rfl⟩ | rfl
      · exact c ρ1 M1 H1 .non x1 fm sr1.hr (.v (.d .non)) True.intro
      · intro v rx nw
        refine c ρ1 M1 H1 v x1 fm sr1.hr rx ?_
        cases x with
        | v y => exact True.intro
        | fl ys => exact fun b hb => (nw b hb).elim id fun ⟨i, q⟩ => nomatch q
        | fd ks vs => exact fun b hb => (nw b hb).elim id fun ⟨i, q⟩ => nomatch q
theorem cf_all (go : GOk z) (fds : ∀ f fn, z.T.fns f = some fn → FDef z f fn) : ∀ d, CfOk z (2 * d) (PF.callF z.T d)
  | 0 => cf_zero
  | d + 1 => cf_step go fds (cf_all go fds d)
end Br
set_option Elab.async false
set_option linter.all false
set_option maxRecDepth 100000
namespace Br
open PySem PySem.Spec PyProof.Rows
theorem look_zip : ∀ (ns : List Str) (us : List Value), us.length = ns.length → ∀ n ∈ ns, ((ns.zip us).lookup n).isNone = false
  | [], _, _, n, h => by simp at h
  | a :: ns, [], hl, n, h => by simp at hl
  | a :: ns, u :: us, hl, n, h => by
    rw [List.zip_cons_cons, List.lookup_cons]
    by_cases e : (n == a) = true
    · rw [e]; rfl
    · have e' : (n == a) = false := by simpa using e
      rw [e']
      refine look_zip ns us (by simpa using hl) n ?_
      rcases List.mem_cons.mp h with q | q
      · subst q; simp at e
      · exact q
theorem miss_nil (ns : List Str) (us : List Value) (hl : us.length = ns.length) (k : Nat) : (ns.take k).filter (fun n => ((ns.zip us).lookup n).isNone) = [] := by
  rw [List.filter_eq_nil_iff]
  intro n h
  rw [look_zip ns us hl n (List.mem_of_mem_take h)]
  simp
theorem zip_back : ∀ (ns : List Str) (us : List Value), us.length = ns.length → ns.Nodup → ns.filterMap (fun n => ((ns.zip us).lookup n).map (n, ·)) = ns.zip us
  | [], [], _, _ => rfl
  | [], _ :: _, h, _ => by simp at h
  | _ :: _, [], h, _ => by simp at h
  | a :: ns, u :: us, hl, nd => by
    simp only [List.nodup_cons] at nd
    rw [List.zip_cons_cons, List.filterMap_cons]
    have : ((a, u) :: ns.zip us).lookup a = some u := by simp
    rw [this]
    simp only [Option.map_some]
    congr 1
    have e : ∀ (l : List Str), (∀ n ∈ l, n ∈ ns) → l.filterMap (fun n => (((a, u) :: ns.zip us).lookup n).map (n, ·)) = l.filterMap (fun n => ((ns.zip us).lookup n).map (n, ·)) := by
      intro l
      induction l with
      | nil => intro _; rfl
      | cons n l ih =>
        intro h
        have hne : (n == a) = false := by
          rw [beq_eq_false_iff_ne]; rintro rfl; exact nd.1 (h n List.mem_cons_self)
        rw [List.filterMap_cons, List.filterMap_cons, ih fun m hm => h m (List.mem_cons_of_mem _ hm), List.lookup_cons, hne]
    rw [e ns fun n h => h]
    exact zip_back ns us (by simpa using hl) nd.2
theorem bind_all {as : List Arg} {us : List Value} {x q : Str} {body : List Stmt} {scope : Scope} {kV doc pm cdv ct : Value} {an : Option Addr} (hl : us.length = as.length) (nd : (as.map (·.arg)).Nodup) : bindArgs (PySem.W.fnOf x q ⟨[], as, none, [], [], none, []⟩ body scope .none kV doc pm an cdv ct) ⟨us, []⟩ = pure ((as.map (·.arg)).zip us) := by
  have hl2 : us.length = (as.map (·.arg)).length := by simpa using hl
  have hm := miss_nil (as.map (·.arg)) us hl2
  have hz := zip_back (as.map (·.arg)) us hl2 nd
  have hgt : ¬ (us.length > as.length) := by omega
  unfold bindArgs
  simp [hm, hl, seqItems?]
  have e0 : notAStandIn Value.none = pure () := rfl
  rw [e0, ← List.filterMap_map, hz]
  rfl
end Br
set_option Elab.async false
set_option linter.all false
set_option maxRecDepth 100000
set_option maxHeartbeats 1000000
namespace Br
open PySem PySem.Spec PyProof.Rows
/-! ### a row -/
/-- one def of a row -/
structure RF where
  fn : PF.Fn
  d : He.DefD
  N : List Str
  ps : List Str
/-- one class of a row -/
structure RC where
  name : Str
  C : PF.Cl
/-- a row: its defs, classes, constants by number -/
structure Row where
  fs : List (Nat × RF)
  cs : List (Nat × RC)
  ms : List (Nat × Str)
  as : List (Nat × Str)
  gt : List (Nat × Str × PF.D)
  gc : List (Str × PF.D)
  W : Nat
namespace Row
variable (r : Row)
def nm (o : Option Str) : Str := o.getD ""
def T : PF.Tab := { fns := fun f => (r.fs.lookup f).map (·.fn), cls := fun c => (r.cs.lookup c).map (·.C), gls := fun j => (r.gt.lookup j).map (·.2), W := r.W }
def G : Gm where
  fN := fun f => match r.fs.lookup f with
    | some x => (match x.d.at_.2 with
      | none => x.d.at_.1
      | some _ => "")
    | none => ""
  mN := fun m => (r.ms.lookup m).getD "?"
  cN := fun c => match r.cs.lookup c with
    | some x => x.name
    | none => ""
  aN := fun a => (r.as.lookup a).getD "?"
  gT := fun j => match r.gt.lookup j with
    | some x => x.1
    | none => ""
  gC := fun x => r.gc.lookup x
def plainArgs (a : Arguments) : Bool := a.posonlyargs.isEmpty && a.vararg.isNone && a.kwonlyargs.isEmpty && a.kw_defaults.isEmpty && a.kwarg.isNone && a.defaults.isEmpty
def scopeB (N ps : List Str) (sc : Scope) : Bool := decide (sc.kind = .function) && !sc.isCoroutine && !sc.isGenerator && decide N.Nodup && decide (N.take ps.length = ps) && ps.all (locB sc) && sc.names.all fun y => decide (y.2 ≠ .free)
def fB (x : RF) : Bool := chSs r.G x.N x.d.scope x.fn.body (dropDoc x.d.body) && scopeB x.N x.ps x.d.scope && decide (x.N.length = x.fn.ns) && decide (x.ps.length = x.fn.np) && plainArgs x.d.params && decide (x.d.params.args.map (·.arg) = x.ps) && decide x.ps.Nodup && x.d.dfl.isEmpty && x.d.kwd.isEmpty
/-- the facts that the head tells -/
def factsC (x : RC) : List He.Fa := [.glo x.name, .cls x.name, .mkr x.name] ++ x.C.flds.map (fun a => .noat x.name (r.G.aN a)) ++ x.C.meths.map (fun m => .meth x.name (r.G.mN m.1))
def facts : List He.Fa := bltNames.map .free ++ r.fs.filterMap (fun p => match p.2.d.at_.2 with
  | none => some (.glo p.2.d.at_.1)
  | some _ => none) ++ r.cs.flatMap (fun p => r.factsC p.2) ++ r.gc.filterMap (fun p => match p.2 with
  | .int i => some (.int p.1 i)
  | .str s => some (.str p.1 (sOf s))
  | _ => none) ++ r.gt.map (fun p => .glo p.2.1)
def dv : PF.D → Option He.Dv
  | .int i => some (.int i)
  | .str s => some (.str (sOf s))
  | _ => none
def dvs : List PF.D → Option (List He.Dv)
  | [] => some []
  | d :: ds => (dv d).bind fun x => (dvs ds).map (x :: ·)
/-- the module's tuples -/
def tupsB (K : PySem.W.Frag) : Bool := r.gt.all fun p => match p.2.2 with
  | .tup ds => (match dvs ds with
    | some vs => He.tupB K p.2.1 vs
    | none => false)
  | _ => false
def scB : PF.D → Bool
  | .int _ => true
  | .str _ => true
  | _ => false
def defs : List He.DefD := r.fs.map (·.2.d)
def cB (x : RC) : Bool := decide ((x.C.flds.map r.G.aN).Nodup) && decide (x.C.flds.length ≤ 100) && (match r.fs.lookup x.C.init with
    | some y => decide (y.d.at_ = (x.name, some ("__init__" : Str)))
    | none => false) && x.C.meths.all fun m => (match r.fs.lookup m.2 with
    | some y => decide (y.d.at_ = (x.name, some (r.G.mN m.1)))
    | none => false) && decide (r.G.mN m.1 ∉ x.C.flds.map r.G.aN)
/-- all that is static -/
def ok : Bool := r.fs.all (fun p => r.fB p.2) && r.cs.all (fun p => r.cB p.2) && r.gc.all (fun p => scB p.2)
end Row
end Br
set_option Elab.async false
set_option linter.all false
set_option maxRecDepth 100000
set_option maxHeartbeats 1000000
namespace Br
open PySem PySem.Spec PyProof.Rows
noncomputable section
def fdAt (K : PySem.W.Frag) (a : Addr) (d : FuncData) : FuncData := match K.lookup a with
  | some ⟨_, _, .func fd, _⟩ => fd
  | _ => d
/-- a row's places by its written part -/
def Row.z (r : Row) (P : Program) (w : World) (K : PySem.W.Frag) (mg : Str → Option Value) (d : FuncData) : Z where
  P := P
  w := w
  K := K
  mg := mg
  T := r.T
  G := r.G
  κ := fun c => He.ga K (r.G.cN c)
  φ := fun f => match r.fs.lookup f with
    | some x => He.fAd K x.d.at_
    | none => 0
  fd := fun f => match r.fs.lookup f with
    | some x => fdAt K (He.fAd K x.d.at_) d
    | none => d
  ps := fun f => match r.fs.lookup f with
    | some x => x.ps
    | none => []
  γ := fun _ => 0
end
theorem lookup_mem {α : Type} : ∀ {l : List (Nat × α)} {i : Nat} {x : α}, l.lookup i = some x → (i, x) ∈ l
  | [], _, _, h => by simp at h
  | (j, y) :: l, i, x, h => by
    rw [List.lookup_cons] at h
    cases e : (i == j) with
    | true => rw [e] at h; cases h; rw [beq_iff_eq.mp e]; exact List.mem_cons_self
    | false => rw [e] at h; exact List.mem_cons_of_mem _ (lookup_mem h)
/-! the Hook -/
abbrev AlR : Type := Bool × List He.FnW
def Row.obs (r : Row) (K : PySem.W.Frag) : AlR := ((r.facts.all fun f => f.ok K) && (r.defs.all fun d => d.ok K) && r.tupsB K, r.defs.map fun d => He.fnW K d.at_)
def Row.val (r : Row) : AlR := (true, r.defs.map He.DefD.val)
def Row.Says (r : Row) (K : PySem.W.Frag) : Prop := r.obs K = r.val
def Row.obsG (r : Row) (n : Nat) (g : Addr → Option Obj) : AlR := r.obs (He.frG g (He.asD g n))
def Row.hook (r : Row) (n : Nat) : PySem.W.Hook where
  α := AlR
  obs := fun s => r.obsG n s.heap.get?
  val := fun _ => r.val
  says := fun _ h => ∃ K : PySem.W.Frag, K.In h ∧ r.Says K
  of := fun _ _ e => ⟨_, He.frG_in, e⟩
  keeps := fun _ _ _ ⟨K, hK, c⟩ k => ⟨K, PySem.W.Frag.In.keeps hK k, c⟩
theorem Row.obsG_eq {r : Row} {n : Nat} {g : Addr → Option Obj} {s : Shared} (h : ∀ a, g a = s.heap.get? a) : r.obsG n g = (r.hook n).obs s := by
  have e : g = s.heap.get? := funext h
  rw [e] <;> rfl
section
variable {r : Row} {K : PySem.W.Frag}
theorem Row.Says.fact (c : r.Says K) {f : He.Fa} (h : f ∈ r.facts) : f.ok K = true := by
  have c1 : ((r.facts.all fun f => f.ok K) && (r.defs.all fun d => d.ok K) && r.tupsB K) = true := congrArg (fun z : AlR => z.1) c
  simp only [Bool.and_eq_true] at c1
  exact List.all_eq_true.mp c1.1.1 f h
theorem Row.Says.tups (c : r.Says K) : r.tupsB K = true := by
  have c1 : ((r.facts.all fun f => f.ok K) && (r.defs.all fun d => d.ok K) && r.tupsB K) = true := congrArg (fun z : AlR => z.1) c
  simp only [Bool.and_eq_true] at c1
  exact c1.2
theorem Row.Says.def_ (c : r.Says K) {d : He.DefD} (h : d ∈ r.defs) : ∃ fd, L2.FunD K d.name d.qual d.params d.body d.scope (d.dvs K) (d.kws K) (He.fAd K d.at_) fd := by
  have c1 : ((r.facts.all fun f => f.ok K) && (r.defs.all fun d => d.ok K) && r.tupsB K) = true := congrArg (fun z : AlR => z.1) c
  simp only [Bool.and_eq_true] at c1
  have e : r.defs.map (fun d => He.fnW K d.at_) = r.defs.map He.DefD.val := congrArg (fun z : AlR => z.2) c
  obtain ⟨i, hi, he⟩ := List.getElem_of_mem h
  have e2 : (r.defs.map fun d => He.fnW K d.at_)[i]? = (r.defs.map He.DefD.val)[i]? := by rw [e]
  rw [List.getElem?_map, List.getElem?_map, List.getElem?_eq_getElem hi, he] at e2
  exact He.DefD.funD (Option.some.inj e2) (List.all_eq_true.mp c1.1.2 d h)
end
end Br
set_option Elab.async false
set_option linter.all false
set_option maxRecDepth 100000
set_option maxHeartbeats 1000000
namespace Br
open PySem PySem.Spec PyProof.Rows
section
variable {r : Row} {P : Program} {w : World} {K : PySem.W.Frag} {mg : Str → Option Value} {d : FuncData} {h : Heap}
theorem Row.T_fns {f : Nat} {fn : PF.Fn} (e : r.T.fns f = some fn) : ∃ x, r.fs.lookup f = some x ∧ x.fn = fn := by
  have e1 : (r.fs.lookup f).map (·.fn) = some fn := e
  rw [Option.map_eq_some_iff] at e1
  exact e1
theorem Row.T_cls {c : Nat} {C : PF.Cl} (e : r.T.cls c = some C) : ∃ x, r.cs.lookup c = some x ∧ x.C = C := by
  have e1 : (r.cs.lookup c).map (·.C) = some C := e
  rw [Option.map_eq_some_iff] at e1
  exact e1
theorem Row.ok_f (ok : r.ok = true) {f : Nat} {x : RF} (e : r.fs.lookup f = some x) : r.fB x = true ∧ x.d ∈ r.defs := by
  unfold Row.ok at ok
  simp only [Bool.and_eq_true] at ok
  exact ⟨List.all_eq_true.mp ok.1.1 _ (lookup_mem e), List.mem_map.mpr ⟨_, lookup_mem e, rfl⟩⟩
theorem Row.ok_c (ok : r.ok = true) {c : Nat} {x : RC} (e : r.cs.lookup c = some x) : r.cB x = true ∧ ∀ f ∈ r.factsC x, f ∈ r.facts := by
  unfold Row.ok at ok
  simp only [Bool.and_eq_true] at ok
  refine ⟨List.all_eq_true.mp ok.1.2 _ (lookup_mem e), fun f hf => ?_⟩
  unfold Row.facts
  simp only [List.mem_append, List.mem_flatMap]
  exact .inl (.inl (.inr ⟨_, lookup_mem e, hf⟩))
theorem scopeB_ok {N ps : List Str} {sc : Scope} (e : Row.scopeB N ps sc = true) : L2.FnScope N ps sc := by
  unfold Row.scopeB at e
  simp only [Bool.and_eq_true, decide_eq_true_eq, Bool.not_eq_true'] at e
  obtain ⟨⟨⟨⟨⟨⟨h1, h2⟩, h3⟩, h4⟩, h5⟩, h6⟩, h7⟩ := e
  refine ⟨h1, h2, h3, h4, h5, fun x hx => ?_, fun y hy => ?_⟩
  · have := List.all_eq_true.mp h6 x hx
    exact loc_of this
  · have := List.all_eq_true.mp h7 y hy
    simpa using this
theorem Row.fdef (ok : r.ok = true) (c : r.Says K) {f : Nat} {fn : PF.Fn} (e : r.T.fns f = some fn) : FDef (r.z P w K mg d) f fn ∧ FOk (r.z P w K mg d) f fn := by
  obtain ⟨x, hx, rfl⟩ := Row.T_fns e
  obtain ⟨b, hd⟩ := Row.ok_f ok hx
  obtain ⟨fd, F⟩ := c.def_ hd
  unfold Row.fB at b
  simp only [Bool.and_eq_true, decide_eq_true_eq] at b
  obtain ⟨⟨⟨⟨⟨⟨⟨⟨b1, b2⟩, b3⟩, b4⟩, b5⟩, b6⟩, b7⟩, b8⟩, b9⟩ := b
  have F2 := F
  obtain ⟨oc, od, dV, kV, doc, pm, an, cdv, ct, osl, e1, lk, cd, _, _⟩ := F.ex
  have hφ : (r.z P w K mg d).φ f = He.fAd K x.d.at_ := by unfold Row.z; dsimp only; rw [hx]
  have hfd : (r.z P w K mg d).fd f = fd := by
    unfold Row.z fdAt
    dsimp only
    rw [hx]
    dsimp only
    rw [lk]
  have hps : (r.z P w K mg d).ps f = x.ps := by unfold Row.z; dsimp only; rw [hx]
  refine ⟨⟨(by rw [hφ, ← e1]; exact lk), by rw [hfd]; exact e1, cd, by rw [hps]; exact scopeB_ok b2, b3, by rw [hps]; exact b4, b1⟩, ?_, ?_, by rw [hps]; exact b4⟩
  · rw [hφ]; exact F.kp
  · rw [hfd, hps]
    have hdv : x.d.dvs K = [] := by
      unfold He.DefD.dvs
      rw [List.isEmpty_iff.mp b8]; rfl
    rw [hdv] at F2
    refine L2.FunD.bindsN F2 fun kV doc pm an cdv ct us hl => ?_
    unfold Row.plainArgs at b5
    simp only [Bool.and_eq_true, List.isEmpty_iff, Option.isNone_iff_eq_none] at b5
    obtain ⟨⟨⟨⟨⟨a1, a2⟩, a3⟩, a4⟩, a5⟩, a6⟩ := b5
    have hp : x.d.params = ⟨[], x.d.params.args, none, [], [], none, []⟩ := by
      revert a1 a2 a3 a4 a5 a6
      generalize x.d.params = pp
      obtain ⟨p1, p2, p3, p4, p5, p6, p7⟩ := pp
      rintro rfl rfl rfl rfl rfl rfl
      rfl
    rw [hp, ← b6]
    refine bind_all (by rw [hl, ← b6, List.length_map]) (by rw [b6]; exact b7)
theorem Row.cok (ok : r.ok = true) (c : r.Says K) {i : Nat} {C : PF.Cl} (e : r.T.cls i = some C) : COk (r.z P w K mg d) i C := by
  obtain ⟨x, hx, rfl⟩ := Row.T_cls e
  obtain ⟨b, hf⟩ := Row.ok_c ok hx
  unfold Row.cB at b
  simp only [Bool.and_eq_true, decide_eq_true_eq] at b
  obtain ⟨⟨⟨b1, b2⟩, b3⟩, b4⟩ := b
  have hN : r.G.cN i = x.name := by unfold Row.G; dsimp only; rw [hx]
  have hκ : (r.z P w K mg d).κ i = He.ga K x.name := by show He.ga K (r.G.cN i) = _; rw [hN]
  have fact : ∀ f ∈ r.factsC x, f.ok K = true := fun f q => c.fact (hf f q)
  have hφ : ∀ {j : Nat} {m : Str}, (match r.fs.lookup j with
      | some y => decide (y.d.at_ = (x.name, some m))
      | none => false) = true → (r.z P w K mg d).φ j = He.ma K (He.ga K x.name) m := by
    intro j m q
    cases hj : r.fs.lookup j with
    | none => rw [hj] at q; cases q
    | some y =>
      rw [hj] at q
      have q2 : y.d.at_ = (x.name, some m) := of_decide_eq_true q
      unfold Row.z
      dsimp only
      rw [hj]
      dsimp only
      rw [q2]
      rfl
  refine ⟨?_, ?_, b1, b2, ?_, ?_⟩
  · rw [hκ]
    exact He.cls_ok (fact _ (by unfold Row.factsC; simp))
  · intro a ha
    rw [hκ]
    refine He.noat_ok (fact _ ?_)
    unfold Row.factsC
    simp only [List.mem_append, List.mem_map]
    exact .inl (.inr ⟨a, ha, rfl⟩)
  · rw [hκ, hφ b3]
    exact He.mkr_ok (fact _ (by unfold Row.factsC; simp))
  · intro m f q
    have hm := lookup_mem q
    have b5 := List.all_eq_true.mp b4 _ hm
    simp only [Bool.and_eq_true, decide_eq_true_eq] at b5
    rw [hκ, hφ b5.1]
    refine ⟨He.meth_ok (fact _ ?_), b5.2⟩
    unfold Row.factsC
    simp only [List.mem_append, List.mem_map]
    exact .inr ⟨_, hm, rfl⟩
theorem dvs_rd {z : Z} {M : Addr → Prop} {H : Hp} {K : PySem.W.Frag} : ∀ {ds : List PF.D} {vs : List He.Dv}, Row.dvs ds = some vs → RDs z M H ds (vs.map (He.Dv.v K))
  | [], vs, e => by cases e; exact .nil
  | x :: ds, vs, e => by
    unfold Row.dvs at e
    rw [Option.bind_eq_some_iff] at e
    obtain ⟨v, e1, e⟩ := e
    rw [Option.map_eq_some_iff] at e
    obtain ⟨vs', e2, rfl⟩ := e
    refine .cons ?_ (dvs_rd e2)
    cases x with
    | int i => cases e1; exact .int i
    | str s => cases e1; exact .str s
    | _ => cases e1
theorem tup_k {x : Str} {vs : List He.Dv} (h : He.tupB K x vs = true) : KTup K (He.ga K x) (vs.map (He.Dv.v K)) := by
  unfold He.tupB at h
  cases q : K.lookup (He.ga K x) with
  | none => rw [q] at h; cases h
  | some o =>
    obtain ⟨oc, od, dt, osl⟩ := o
    rw [q] at h
    cases oc with
    | type c =>
      cases dt with
      | seq its n =>
        obtain ⟨h1, h2⟩ := He.ba (show (decide (c = "tuple") && (decide (its.size ≤ sizeLine) && He.relAll (vs.map (He.Dv.v K)) its.toList)) = true from h)
        obtain ⟨h3, h4⟩ := He.ba h2
        exact ⟨_, its, n, q, congrArg Value.type (of_decide_eq_true h1), rfl, of_decide_eq_true h3, He.relAll_ok h4⟩
      | _ => cases h
    | _ => cases dt <;> cases h
theorem slookup_mem {α : Type} : ∀ {l : List (Str × α)} {i : Str} {x : α}, l.lookup i = some x → (i, x) ∈ l
  | [], _, _, h => by simp at h
  | (j, y) :: l, i, x, h => by
    rw [List.lookup_cons] at h
    cases e : (i == j) with
    | true => rw [e] at h; cases h; rw [beq_iff_eq.mp e]; exact List.mem_cons_self
    | false => rw [e] at h; exact List.mem_cons_of_mem _ (slookup_mem h)
theorem Row.gok (ok : r.ok = true) (c : r.Says K) (X : K.In h) (G : h.Ns mainGlobals mg) : GOk (r.z P w K mg d) := by
  refine ⟨⟨fun f fn e => (Row.fdef ok c e).2, fun i C e => Row.cok ok c e⟩, fun f hf => ?_, fun i hi => ?_, fun x hx => ?_, fun x v e => ?_, fun j v e => ?_⟩
  · have hf2 : r.G.fN f ≠ "" := hf
    unfold Row.G at hf2
    dsimp only at hf2
    cases q : r.fs.lookup f with
    | none => rw [q] at hf2; exact absurd rfl hf2
    | some x =>
      rw [q] at hf2
      dsimp only at hf2
      cases q2 : x.d.at_.2 with
      | some m => rw [q2] at hf2; exact absurd rfl hf2
      | none =>
        have e1 : (r.z P w K mg d).G.fN f = x.d.at_.1 := by
          show r.G.fN f = _
          unfold Row.G; dsimp only; rw [q]; dsimp only; rw [q2]
        have e2 : (r.z P w K mg d).φ f = He.ga K x.d.at_.1 := by
          unfold Row.z; dsimp only; rw [q]; dsimp only; unfold He.fAd; rw [q2]
        rw [e1, e2]
        refine He.glo_ok X G (c.fact ?_)
        unfold Row.facts
        simp only [List.mem_append, List.mem_filterMap]
        refine .inl (.inl (.inl (.inr ⟨_, lookup_mem q, ?_⟩)))
        dsimp only
        rw [q2]
  · have hi2 : r.G.cN i ≠ "" := hi
    cases q : r.cs.lookup i with
    | none => unfold Row.G at hi2; dsimp only at hi2; rw [q] at hi2; exact absurd rfl hi2
    | some x =>
      have e1 : r.G.cN i = x.name := by unfold Row.G; dsimp only; rw [q]
      show mg (r.G.cN i) = some (.ref (He.ga K (r.G.cN i)))
      rw [e1]
      exact He.glo_ok X G (c.fact ((Row.ok_c ok q).2 _ (by unfold Row.factsC; simp)))
  · refine He.free_ok X G (c.fact ?_)
    unfold Row.facts
    simp only [List.mem_append, List.mem_map]
    exact .inl (.inl (.inl (.inl ⟨x, hx, rfl⟩)))
  · have e1 : r.gc.lookup x = some v := e
    have hm := slookup_mem e1
    have hs : Row.scB v = true := by
      unfold Row.ok at ok
      simp only [Bool.and_eq_true] at ok
      exact List.all_eq_true.mp ok.2 _ hm
    have hfa : ∀ f, (match v with
      | .int i => some (He.Fa.int x i)
      | .str s => some (He.Fa.str x (sOf s))
      | _ => none) = some f → f.ok K = true := fun f q => c.fact (by
        unfold Row.facts
        simp only [List.mem_append, List.mem_filterMap]
        exact .inl (.inr ⟨_, hm, q⟩))
    cases v with
    | int i =>
      obtain ⟨t, ht⟩ := He.int_ok X G (hfa _ rfl)
      exact ⟨_, .int i, ht, ⟨t, rfl⟩, fun M H => .int i⟩
    | str s =>
      obtain ⟨t, ht⟩ := He.str_ok X G (hfa _ rfl)
      exact ⟨_, .str (sOf s), ht, ⟨t, rfl⟩, fun M H => .str s⟩
    | _ => cases hs
  · have e1 : (r.gt.lookup j).map (·.2) = some v := e
    rw [Option.map_eq_some_iff] at e1
    obtain ⟨⟨nm, v'⟩, q, rfl⟩ := e1
    have hm := lookup_mem q
    have ht := List.all_eq_true.mp c.tups _ hm
    dsimp only at ht ⊢
    have eN : (r.z P w K mg d).G.gT j = nm := by
      show r.G.gT j = _
      unfold Row.G; dsimp only; rw [q]
    rw [eN]
    have hg : mg nm = some (.ref (He.ga K nm)) := by
      refine He.glo_ok X G (c.fact ?_)
      unfold Row.facts
      simp only [List.mem_append, List.mem_map]
      exact .inr ⟨_, hm, rfl⟩
    cases v' with
    | tup ds =>
      dsimp only at ht
      cases q2 : Row.dvs ds with
      | none => rw [q2] at ht; cases ht
      | some vs =>
        rw [q2] at ht
        exact ⟨_, .ref (He.ga K nm), hg, rfl, fun M H => .tup (.inr (tup_k ht)) (dvs_rd q2)⟩
    | _ => cases ht
end
end Br
set_option Elab.async false
set_option linter.all false
set_option maxRecDepth 100000
set_option maxHeartbeats 1000000
namespace Br
open PySem PySem.Spec PyProof.Rows
def cbody (s : Stmt) : List Stmt := match s with
  | .ClassDef _ _ _ b _ _ _ _ _ _ _ => b
  | _ => []
theorem lookup_map {α β : Type} (g : α → β) : ∀ (l : List (Nat × α)) (i : Nat), (l.map fun p => (p.1, g p.2)).lookup i = (l.lookup i).map g
  | [], _ => rfl
  | (j, y) :: l, i => by
    rw [List.map_cons, List.lookup_cons, List.lookup_cons]
    cases e : (i == j) with
    | true => simp
    | false => simpa using lookup_map g l i
theorem Row.T_ofL (r : Row) : r.T = PF.Tab.ofL (r.fs.map fun p => (p.1, p.2.fn)) (r.cs.map fun p => (p.1, p.2.C)) (r.gt.map fun p => (p.1, p.2.2)) r.W := by
  unfold Row.T PF.Tab.ofL
  congr 1
  · funext f; exact (lookup_map (fun x : RF => x.fn) r.fs f).symm
  · funext f; exact (lookup_map (fun x : RC => x.C) r.cs f).symm
  · funext f; exact (lookup_map (fun x : Str × PF.D => x.2) r.gt f).symm
theorem Row.endE {l : PySem.W.OpenLaw} {r : Row} {n : Nat} {w : World} {mg : Str → Option Value} {fa : Addr} {h : Heap} {x : Str} {f d : Nat} {y : RF} (ok : r.ok = true) (hf : r.fs.lookup f = some y) (hy : y.d.at_ = (("law" : Str), none)) (hp : y.ps = [x])
    (pure : ∀ ns : List Int, ns.length ≤ n → ∃ h1, PF.callF r.T d f [.scr ns] [] = .ok (PF.dat (.bl true)) h1)
    (Y : ∃ K : PySem.W.Frag, K.In h ∧ r.Says K) (G : h.Ns mainGlobals mg) (hmg : mg ("law" : Str) = some (.ref fa)) :
    ∃ (K : PySem.W.Frag) (fd : FuncData) (sp : L2.Sp), K.In h ∧ (∀ (s : Shared) (u : Value), BindsTo s fd ⟨[u], []⟩ [(x, u)]) ∧
        (∀ (H : Hp) (a : Addr) (ns : List Int), ns.length ≤ n → L2.Only H → L2.SqL K H a (ns.map L2.V.int) → sp [.ref a] H (fun v _ => v = .bl true) fun _ _ _ => False) ∧
        ∀ base : Heap, K.In base → base.Ns mainGlobals mg → L2.FnOk l.prog w K mg base L2.CX0 (2 * d) fa fd [x] sp := by
  obtain ⟨K, KX, c⟩ := Y
  obtain ⟨b, hd⟩ := Row.ok_f ok hf
  obtain ⟨fd0, F⟩ := c.def_ hd
  have hT : r.T.fns f = some y.fn := by show (r.fs.lookup f).map (·.fn) = _; rw [hf]; rfl
  have go : GOk (r.z l.prog w K mg fd0) := Row.gok ok c KX G
  have fds : ∀ f fn, (r.z l.prog w K mg fd0).T.fns f = some fn → FDef (r.z l.prog w K mg fd0) f fn := fun f fn e => (Row.fdef ok c e).1
  have cf := cf_all go fds d
  have hφ : (r.z l.prog w K mg fd0).φ f = fa := by
    have e1 : (r.z l.prog w K mg fd0).φ f = He.fAd K y.d.at_ := by unfold Row.z; dsimp only; rw [hf]
    have e2 : (r.z l.prog w K mg fd0).G.fN f = "law" := by
      show r.G.fN f = _
      unfold Row.G; dsimp only; rw [hf]; dsimp only; rw [hy]
    have e3 := go.fnm f (by rw [e2]; decide +kernel)
    rw [e2] at e3
    have e4 := e3.symm.trans hmg
    cases e4
    rfl
  have hps : (r.z l.prog w K mg fd0).ps f = [x] := by unfold Row.z; dsimp only; rw [hf]; exact hp
  have hfd : (r.z l.prog w K mg fd0).fd f = fd0 := by
    obtain ⟨oc, od, dV, kV, doc, pm, an, cdv, ct, osl, e1, lk, cd, _, _⟩ := F.ex
    unfold Row.z fdAt
    dsimp only
    rw [hf]
    dsimp only
    rw [lk]
  refine ⟨K, fd0, spF (r.z l.prog w K mg fd0) (PF.callF r.T d) f, KX, fun s u => ?_, fun H a ns hl ho hs => ?_, fun base _ _ => ?_⟩
  · unfold Row.fB at b
    simp only [Bool.and_eq_true, decide_eq_true_eq] at b
    obtain ⟨⟨⟨⟨⟨⟨⟨⟨b1, b2⟩, b3⟩, b4⟩, b5⟩, b6⟩, b7⟩, b8⟩, b9⟩ := b
    have hdv : y.d.dvs K = [] := by
      unfold He.DefD.dvs
      rw [List.isEmpty_iff.mp b8]; rfl
    rw [hdv] at F
    have q := L2.FunD.bindsA (ps := [x]) F (fun kV doc pm an cdv ct us hl => by
      unfold Row.plainArgs at b5
      simp only [Bool.and_eq_true, List.isEmpty_iff, Option.isNone_iff_eq_none] at b5
      obtain ⟨⟨⟨⟨⟨a1, a2⟩, a3⟩, a4⟩, a5⟩, a6⟩ := b5
      have hpp : y.d.params = ⟨[], y.d.params.args, none, [], [], none, []⟩ := by
        revert a1 a2 a3 a4 a5 a6
        generalize y.d.params = pp
        obtain ⟨p1, p2, p3, p4, p5, p6, p7⟩ := pp
        rintro rfl rfl rfl rfl rfl rfl
        rfl
      rw [← hp]
      rw [hpp, ← b6]
      refine bind_all (by rw [hl, ← hp, ← b6, List.length_map]) (by rw [b6]; exact b7)) s [u] rfl
    exact q
  · obtain ⟨h1, e⟩ := pure ns hl
    refine ⟨[.scr ns], [], PF.dat (.bl true), h1, [], fun _ => False, e, ⟨rfl, List.nodup_nil, fun b q => (nomatch q), fun a o b q => (nomatch q)⟩, .cons (.scr ?_) .nil, fun ρ1 M1 H1 v _ _ _ rx _ => ?_⟩
    · rcases hs with (hs | ⟨o, hs⟩) | hs
      · rcases ho a with q | ⟨o, xs, q⟩
        · rw [q] at hs; cases hs
        · rw [q] at hs; cases hs
      · exact .inl ⟨o, hs, fun q => q⟩
      · exact .inr hs
    · cases rx with
      | v r =>
        cases r with
        | d r => cases r; rfl
  · have q := cf.2 base f y.fn hT
    rw [hφ, hps, hfd] at q
    exact q
end Br
set_option Elab.async false
set_option linter.all false
set_option maxRecDepth 100000
set_option maxHeartbeats 0
namespace K
open PySem PF
def top (i : Nat) : Stmt := PySem.Challenge.pw_fuelshare_k03_canonical_sources.main.body.getD i (.Pass ⟨0, 0, 0, 0⟩)
def s0 : Stmt := top 19
def d0 : He.DefD := ⟨("run_length", none), "run_length", "run_length", L2.defArgs s0, L2.defBody s0, L2.defScope s0, [], []⟩
def s1 : Stmt := top 20
def d1 : He.DefD := ⟨("scan_token", none), "scan_token", "scan_token", L2.defArgs s1, L2.defBody s1, L2.defScope s1, [], []⟩
def s2 : Stmt := top 21
def d2 : He.DefD := ⟨("tokenize", none), "tokenize", "tokenize", L2.defArgs s2, L2.defBody s2, L2.defScope s2, [], []⟩
def s3 : Stmt := top 27
def d3 : He.DefD := ⟨("parse", none), "parse", "parse", L2.defArgs s3, L2.defBody s3, L2.defScope s3, [], []⟩
def s4 : Stmt := top 34
def d4 : He.DefD := ⟨("fail", none), "fail", "fail", L2.defArgs s4, L2.defBody s4, L2.defScope s4, [], []⟩
def s5 : Stmt := top 35
def d5 : He.DefD := ⟨("statements_in", none), "statements_in", "statements_in", L2.defArgs s5, L2.defBody s5, L2.defScope s5, [], []⟩
def s6 : Stmt := top 36
def d6 : He.DefD := ⟨("expressions_of", none), "expressions_of", "expressions_of", L2.defArgs s6, L2.defBody s6, L2.defScope s6, [], []⟩
def s7 : Stmt := top 37
def d7 : He.DefD := ⟨("targets_in", none), "targets_in", "targets_in", L2.defArgs s7, L2.defBody s7, L2.defScope s7, [], []⟩
def s8 : Stmt := top 39
def d8 : He.DefD := ⟨("load", none), "load", "load", L2.defArgs s8, L2.defBody s8, L2.defScope s8, [], []⟩
def s48 : Stmt := top 42
def d48 : He.DefD := ⟨("format_expression", none), "format_expression", "format_expression", L2.defArgs s48, L2.defBody s48, L2.defScope s48, [], []⟩
def s49 : Stmt := top 43
def d49 : He.DefD := ⟨("format_call", none), "format_call", "format_call", L2.defArgs s49, L2.defBody s49, L2.defScope s49, [], []⟩
def s50 : Stmt := top 44
def d50 : He.DefD := ⟨("format_simple", none), "format_simple", "format_simple", L2.defArgs s50, L2.defBody s50, L2.defScope s50, [], []⟩
def s51 : Stmt := top 45
def d51 : He.DefD := ⟨("format_body", none), "format_body", "format_body", L2.defArgs s51, L2.defBody s51, L2.defScope s51, [], []⟩
def s52 : Stmt := top 46
def d52 : He.DefD := ⟨("format_functions", none), "format_functions", "format_functions", L2.defArgs s52, L2.defBody s52, L2.defScope s52, [], []⟩
def s53 : Stmt := top 47
def d53 : He.DefD := ⟨("format_source", none), "format_source", "format_source", L2.defArgs s53, L2.defBody s53, L2.defScope s53, [], []⟩
def s10 : Stmt := top 49
def d10 : He.DefD := ⟨("_law_random", none), "_law_random", "_law_random", L2.defArgs s10, L2.defBody s10, L2.defScope s10, [], []⟩
def s11 : Stmt := top 50
def d11 : He.DefD := ⟨("_law_below", none), "_law_below", "_law_below", L2.defArgs s11, L2.defBody s11, L2.defScope s11, [], []⟩
def s12 : Stmt := top 51
def d12 : He.DefD := ⟨("_law_expression", none), "_law_expression", "_law_expression", L2.defArgs s12, L2.defBody s12, L2.defScope s12, [], []⟩
def s13 : Stmt := top 52
def d13 : He.DefD := ⟨("_law_small", none), "_law_small", "_law_small", L2.defArgs s13, L2.defBody s13, L2.defScope s13, [], []⟩
def s14 : Stmt := top 53
def d14 : He.DefD := ⟨("_law_statement", none), "_law_statement", "_law_statement", L2.defArgs s14, L2.defBody s14, L2.defScope s14, [], []⟩
def s15 : Stmt := top 54
def d15 : He.DefD := ⟨("_law_block", none), "_law_block", "_law_block", L2.defArgs s15, L2.defBody s15, L2.defScope s15, [], []⟩
def s16 : Stmt := top 55
def d16 : He.DefD := ⟨("_law_total", none), "_law_total", "_law_total", L2.defArgs s16, L2.defBody s16, L2.defScope s16, [], []⟩
def s17 : Stmt := top 56
def d17 : He.DefD := ⟨("_law_program", none), "_law_program", "_law_program", L2.defArgs s17, L2.defBody s17, L2.defScope s17, [], []⟩
def s18 : Stmt := top 57
def d18 : He.DefD := ⟨("_law_text_of", none), "_law_text_of", "_law_text_of", L2.defArgs s18, L2.defBody s18, L2.defScope s18, [], []⟩
def s19 : Stmt := top 58
def d19 : He.DefD := ⟨("_law_line_of", none), "_law_line_of", "_law_line_of", L2.defArgs s19, L2.defBody s19, L2.defScope s19, [], []⟩
def s20 : Stmt := top 59
def d20 : He.DefD := ⟨("_law_lines", none), "_law_lines", "_law_lines", L2.defArgs s20, L2.defBody s20, L2.defScope s20, [], []⟩
def s21 : Stmt := top 60
def d21 : He.DefD := ⟨("_law_source", none), "_law_source", "_law_source", L2.defArgs s21, L2.defBody s21, L2.defScope s21, [], []⟩
def s22 : Stmt := top 61
def d22 : He.DefD := ⟨("_law_equal", none), "_law_equal", "_law_equal", L2.defArgs s22, L2.defBody s22, L2.defScope s22, [], []⟩
def s54 : Stmt := top 62
def d54 : He.DefD := ⟨("_law_spaced", none), "_law_spaced", "_law_spaced", L2.defArgs s54, L2.defBody s54, L2.defScope s54, [], []⟩
def s55 : Stmt := top 63
def d55 : He.DefD := ⟨("_law_split", none), "_law_split", "_law_split", L2.defArgs s55, L2.defBody s55, L2.defScope s55, [], []⟩
def s23 : Stmt := top 64
def d23 : He.DefD := ⟨("law", none), "law", "law", L2.defArgs s23, L2.defBody s23, L2.defScope s23, [], []⟩
def s24 : Stmt := (Br.cbody (top 18)).getD 0 (.Pass ⟨0, 0, 0, 0⟩)
def d24 : He.DefD := ⟨("Token", some "__init__"), "__init__", "Token.__init__", L2.defArgs s24, L2.defBody s24, L2.defScope s24, [], []⟩
def s25 : Stmt := (Br.cbody (top 25)).getD 0 (.Pass ⟨0, 0, 0, 0⟩)
def d25 : He.DefD := ⟨("Function", some "__init__"), "__init__", "Function.__init__", L2.defArgs s25, L2.defBody s25, L2.defScope s25, [], []⟩
def s26 : Stmt := (Br.cbody (top 26)).getD 0 (.Pass ⟨0, 0, 0, 0⟩)
def d26 : He.DefD := ⟨("Parser", some "__init__"), "__init__", "Parser.__init__", L2.defArgs s26, L2.defBody s26, L2.defScope s26, [], []⟩
def s27 : Stmt := (Br.cbody (top 26)).getD 1 (.Pass ⟨0, 0, 0, 0⟩)
def d27 : He.DefD := ⟨("Parser", some "peek"), "peek", "Parser.peek", L2.defArgs s27, L2.defBody s27, L2.defScope s27, [], []⟩
def s28 : Stmt := (Br.cbody (top 26)).getD 2 (.Pass ⟨0, 0, 0, 0⟩)
def d28 : He.DefD := ⟨("Parser", some "advance"), "advance", "Parser.advance", L2.defArgs s28, L2.defBody s28, L2.defScope s28, [], []⟩
def s29 : Stmt := (Br.cbody (top 26)).getD 3 (.Pass ⟨0, 0, 0, 0⟩)
def d29 : He.DefD := ⟨("Parser", some "fail"), "fail", "Parser.fail", L2.defArgs s29, L2.defBody s29, L2.defScope s29, [], []⟩
def s30 : Stmt := (Br.cbody (top 26)).getD 4 (.Pass ⟨0, 0, 0, 0⟩)
def d30 : He.DefD := ⟨("Parser", some "accept"), "accept", "Parser.accept", L2.defArgs s30, L2.defBody s30, L2.defScope s30, [], []⟩
def s31 : Stmt := (Br.cbody (top 26)).getD 5 (.Pass ⟨0, 0, 0, 0⟩)
def d31 : He.DefD := ⟨("Parser", some "expect"), "expect", "Parser.expect", L2.defArgs s31, L2.defBody s31, L2.defScope s31, [], []⟩
def s32 : Stmt := (Br.cbody (top 26)).getD 6 (.Pass ⟨0, 0, 0, 0⟩)
def d32 : He.DefD := ⟨("Parser", some "expect_kind"), "expect_kind", "Parser.expect_kind", L2.defArgs s32, L2.defBody s32, L2.defScope s32, [], []⟩
def s33 : Stmt := (Br.cbody (top 26)).getD 7 (.Pass ⟨0, 0, 0, 0⟩)
def d33 : He.DefD := ⟨("Parser", some "parse_functions"), "parse_functions", "Parser.parse_functions", L2.defArgs s33, L2.defBody s33, L2.defScope s33, [], []⟩
def s34 : Stmt := (Br.cbody (top 26)).getD 8 (.Pass ⟨0, 0, 0, 0⟩)
def d34 : He.DefD := ⟨("Parser", some "parse_function"), "parse_function", "Parser.parse_function", L2.defArgs s34, L2.defBody s34, L2.defScope s34, [], []⟩
def s35 : Stmt := (Br.cbody (top 26)).getD 9 (.Pass ⟨0, 0, 0, 0⟩)
def d35 : He.DefD := ⟨("Parser", some "parse_block"), "parse_block", "Parser.parse_block", L2.defArgs s35, L2.defBody s35, L2.defScope s35, [], []⟩
def s36 : Stmt := (Br.cbody (top 26)).getD 10 (.Pass ⟨0, 0, 0, 0⟩)
def d36 : He.DefD := ⟨("Parser", some "parse_statement"), "parse_statement", "Parser.parse_statement", L2.defArgs s36, L2.defBody s36, L2.defScope s36, [], []⟩
def s37 : Stmt := (Br.cbody (top 26)).getD 11 (.Pass ⟨0, 0, 0, 0⟩)
def d37 : He.DefD := ⟨("Parser", some "parse_simple"), "parse_simple", "Parser.parse_simple", L2.defArgs s37, L2.defBody s37, L2.defScope s37, [], []⟩
def s38 : Stmt := (Br.cbody (top 26)).getD 12 (.Pass ⟨0, 0, 0, 0⟩)
def d38 : He.DefD := ⟨("Parser", some "parse_call"), "parse_call", "Parser.parse_call", L2.defArgs s38, L2.defBody s38, L2.defScope s38, [], []⟩
def s39 : Stmt := (Br.cbody (top 26)).getD 13 (.Pass ⟨0, 0, 0, 0⟩)
def d39 : He.DefD := ⟨("Parser", some "parse_if"), "parse_if", "Parser.parse_if", L2.defArgs s39, L2.defBody s39, L2.defScope s39, [], []⟩
def s40 : Stmt := (Br.cbody (top 26)).getD 14 (.Pass ⟨0, 0, 0, 0⟩)
def d40 : He.DefD := ⟨("Parser", some "parse_expression"), "parse_expression", "Parser.parse_expression", L2.defArgs s40, L2.defBody s40, L2.defScope s40, [], []⟩
def s41 : Stmt := (Br.cbody (top 26)).getD 15 (.Pass ⟨0, 0, 0, 0⟩)
def d41 : He.DefD := ⟨("Parser", some "parse_term"), "parse_term", "Parser.parse_term", L2.defArgs s41, L2.defBody s41, L2.defScope s41, [], []⟩
def s42 : Stmt := (Br.cbody (top 38)).getD 0 (.Pass ⟨0, 0, 0, 0⟩)
def d42 : He.DefD := ⟨("Checker", some "__init__"), "__init__", "Checker.__init__", L2.defArgs s42, L2.defBody s42, L2.defScope s42, [], []⟩
def s43 : Stmt := (Br.cbody (top 38)).getD 1 (.Pass ⟨0, 0, 0, 0⟩)
def d43 : He.DefD := ⟨("Checker", some "check_headers"), "check_headers", "Checker.check_headers", L2.defArgs s43, L2.defBody s43, L2.defScope s43, [], []⟩
def s44 : Stmt := (Br.cbody (top 38)).getD 2 (.Pass ⟨0, 0, 0, 0⟩)
def d44 : He.DefD := ⟨("Checker", some "check_all"), "check_all", "Checker.check_all", L2.defArgs s44, L2.defBody s44, L2.defScope s44, [], []⟩
def s45 : Stmt := (Br.cbody (top 38)).getD 3 (.Pass ⟨0, 0, 0, 0⟩)
def d45 : He.DefD := ⟨("Checker", some "check_body"), "check_body", "Checker.check_body", L2.defArgs s45, L2.defBody s45, L2.defScope s45, [], []⟩
def s46 : Stmt := (Br.cbody (top 38)).getD 4 (.Pass ⟨0, 0, 0, 0⟩)
def d46 : He.DefD := ⟨("Checker", some "check_call"), "check_call", "Checker.check_call", L2.defArgs s46, L2.defBody s46, L2.defScope s46, [], []⟩
def s47 : Stmt := (Br.cbody (top 38)).getD 5 (.Pass ⟨0, 0, 0, 0⟩)
def d47 : He.DefD := ⟨("Checker", some "check_expression"), "check_expression", "Checker.check_expression", L2.defArgs s47, L2.defBody s47, L2.defScope s47, [], []⟩
def fsL : List (Nat × Br.RF) := [(0, ⟨f_run_length, d0, ["text", "start", "characters", "length"], ["text", "start", "characters"]⟩), (1, ⟨f_scan_token, d1, ["text", "line", "column", "first", "word", "number"], ["text", "line", "column"]⟩), (2, ⟨f_tokenize, d2, ["source", "lines", "tokens", "line", "text", "column"], ["source"]⟩), (3, ⟨f_parse, d3, ["source"], ["source"]⟩), (4, ⟨f_fail, d4, ["reason", "token"], ["reason", "token"]⟩), (5, ⟨f_statements_in, d5, ["body", "found", "statement"], ["body"]⟩), (6, ⟨f_expressions_of, d6, ["statement"], ["statement"]⟩), (7, ⟨f_targets_in, d7, ["body", "found", "statement"], ["body"]⟩), (8, ⟨f_load, d8, ["source", "functions"], ["source"]⟩), (48, ⟨f_format_expression, d48, ["expression", "words", "operator", "token"], ["expression"]⟩), (49, ⟨f_format_call, d49, ["statement", "keyword", "token", "target", "function", "arguments", "numerator", "denominator", "fallback", "inner", "argument", "share", "head"], ["statement"]⟩), (50, ⟨f_format_simple, d50, ["statement"], ["statement"]⟩), (51, ⟨f_format_body, d51, ["body", "indent", "lines", "statement", "left", "right"], ["body", "indent"]⟩), (52, ⟨f_format_functions, d52, ["functions", "lines", "function", "names", "parameter"], ["functions"]⟩), (53, ⟨f_format_source, d53, ["source"], ["source"]⟩), (10, ⟨f_law_random, d10, ["_law_script", "_law_salt", "_law_seed", "_law_cell"], ["_law_script", "_law_salt"]⟩), (11, ⟨f_law_below, d11, ["_law_d", "_law_limit", "_law_result"], ["_law_d", "_law_limit"]⟩), (12, ⟨f_law_expression, d12, ["_law_d", "_law_names", "_law_result", "_law_k", "_law_operator", "_law_kind", "_law_small_here"], ["_law_d", "_law_names"]⟩), (13, ⟨f_law_small, d13, ["_law_d", "_law_names"], ["_law_d", "_law_names"]⟩), (14, ⟨f_law_statement, d14, ["_law_d", "_law_spec", "_law_depth", "_law_names", "_law_targets", "_law_callees", "_law_is_short", "_law_kind", "_law_inputs", "_law_share", "_law_name", "_law_many", "_law_k", "_law_sides", "_law_other", "_law_body", "_law_count"], ["_law_d", "_law_spec", "_law_depth"]⟩), (15, ⟨f_law_block, d15, ["_law_d", "_law_spec", "_law_depth", "_law_k"], ["_law_d", "_law_spec", "_law_depth"]⟩), (16, ⟨f_law_total, d16, ["_law_body", "_law_total_here", "_law_statement_here"], ["_law_body"]⟩), (17, ⟨f_law_program, d17, ["_law_d", "_law_is_short", "_law_headers", "_law_name", "_law_result", "_law_k", "_law_targets", "_law_names", "_law_callees", "_law_spec", "_law_body", "_law_parameters", "_law_one", "_law_target", "_law_few", "_law_statement_here"], ["_law_d", "_law_is_short"]⟩), (18, ⟨f_law_text_of, d18, ["_law_expression_here", "_law_words", "_law_operator", "_law_kind", "_law_value"], ["_law_expression_here"]⟩), (19, ⟨f_law_line_of, d19, ["_law_statement_here", "_law_inner", "_law_share", "_law_words", "_law_one"], ["_law_statement_here"]⟩), (20, ⟨f_law_lines, d20, ["_law_body", "_law_indent", "_law_lines_here", "_law_statement_here", "_law_sides"], ["_law_body", "_law_indent"]⟩), (21, ⟨f_law_source, d21, ["_law_program_here", "_law_lines_here", "_law_name", "_law_parameters", "_law_body"], ["_law_program_here"]⟩), (22, ⟨f_law_equal, d22, ["_law_actual", "_law_expected", "_law_k"], ["_law_actual", "_law_expected"]⟩), (54, ⟨f_law_spaced, d54, ["_law_d", "_law_tokens", "_law_result", "_law_letters", "_law_token", "_law_gap"], ["_law_d", "_law_tokens"]⟩), (55, ⟨f_law_split, d55, ["_law_text", "_law_tokens", "_law_current", "_law_sign", "_law_one"], ["_law_text"]⟩), (23, ⟨f_law, d23, ["_law_script", "_law_d", "_law_step", "_law_program_here", "_law_canonical"], ["_law_script"]⟩), (24, ⟨f_Token___init, d24, ["self", "kind", "text", "line", "column"], ["self", "kind", "text", "line", "column"]⟩), (25, ⟨f_Function___init, d25, ["self", "name", "parameters", "body"], ["self", "name", "parameters", "body"]⟩), (26, ⟨f_Parser___init, d26, ["self", "source"], ["self", "source"]⟩), (27, ⟨f_Parser_peek, d27, ["self"], ["self"]⟩), (28, ⟨f_Parser_advance, d28, ["self"], ["self"]⟩), (29, ⟨f_Parser_fail, d29, ["self"], ["self"]⟩), (30, ⟨f_Parser_accept, d30, ["self", "text"], ["self", "text"]⟩), (31, ⟨f_Parser_expect, d31, ["self", "text"], ["self", "text"]⟩), (32, ⟨f_Parser_expect_kind, d32, ["self", "kind"], ["self", "kind"]⟩), (33, ⟨f_Parser_parse_functions, d33, ["self", "functions"], ["self"]⟩), (34, ⟨f_Parser_parse_function, d34, ["self", "name", "parameters"], ["self"]⟩), (35, ⟨f_Parser_parse_block, d35, ["self", "statements"], ["self"]⟩), (36, ⟨f_Parser_parse_statement, d36, ["self", "token", "statement"], ["self"]⟩), (37, ⟨f_Parser_parse_simple, d37, ["self", "token", "target"], ["self", "token"]⟩), (38, ⟨f_Parser_parse_call, d38, ["self", "token", "target", "function", "arguments", "numerator", "denominator"], ["self", "token"]⟩), (39, ⟨f_Parser_parse_if, d39, ["self", "token", "left", "operator", "right", "body"], ["self", "token"]⟩), (40, ⟨f_Parser_parse_expression, d40, ["self", "terms", "operator"], ["self"]⟩), (41, ⟨f_Parser_parse_term, d41, ["self"], ["self"]⟩), (42, ⟨f_Checker___init, d42, ["self", "functions"], ["self", "functions"]⟩), (43, ⟨f_Checker_check_headers, d43, ["self", "number", "function", "names", "parameter"], ["self"]⟩), (44, ⟨f_Checker_check_all, d44, ["self", "function", "parameter"], ["self"]⟩), (45, ⟨f_Checker_check_body, d45, ["self", "body", "depth", "statement", "expression"], ["self", "body", "depth"]⟩), (46, ⟨f_Checker_check_call, d46, ["self", "statement", "name", "numerator", "denominator"], ["self", "statement"]⟩), (47, ⟨f_Checker_check_expression, d47, ["self", "expression", "operator", "token"], ["self", "expression"]⟩)]
def csL : List (Nat × Br.RC) := [(3, ⟨"Token", { flds := [5, 0, 1, 2], init := 24, meths := [] }⟩), (4, ⟨"Function", { flds := [3, 6, 4], init := 25, meths := [] }⟩), (5, ⟨"Parser", { flds := [7, 8], init := 26, meths := [(2, 27), (4, 28), (3, 29), (8, 30), (6, 31), (7, 32), (0, 33), (5, 34), (9, 35), (10, 36), (11, 37), (14, 38), (12, 39), (13, 40), (15, 41)] }⟩), (6, ⟨"Checker", { flds := [9, 10, 11, 12], init := 42, meths := [(16, 43), (1, 44), (17, 45), (18, 46), (19, 47)] }⟩)]
def row : Br.Row := { fs := fsL, cs := csL, ms := [(8, "accept"), (4, "advance"), (1, "check_all"), (17, "check_body"), (18, "check_call"), (19, "check_expression"), (16, "check_headers"), (6, "expect"), (7, "expect_kind"), (3, "fail"), (9, "parse_block"), (14, "parse_call"), (13, "parse_expression"), (5, "parse_function"), (0, "parse_functions"), (12, "parse_if"), (11, "parse_simple"), (10, "parse_statement"), (15, "parse_term"), (2, "peek")], as := [(10, "arities"), (4, "body"), (2, "column"), (9, "functions"), (5, "kind"), (12, "known"), (1, "line"), (3, "name"), (6, "parameters"), (8, "position"), (0, "text"), (7, "tokens"), (11, "total")], gt := [(0, "KEYWORDS", (.tup [(.str [100, 101, 102]), (.str [115, 101, 116]), (.str [112, 117, 116]), (.str [101, 109, 105, 116]), (.str [114, 101, 116, 117, 114, 110]), (.str [105, 102]), (.str [101, 108, 115, 101]), (.str [108, 111, 111, 112]), (.str [99, 97, 108, 108]), (.str [115, 104, 97, 114, 101])])), (2, "OPERATORS", (.tup [(.str [43]), (.str [45]), (.str [42])])), (1, "COMPARISONS", (.tup [(.str [60]), (.str [61]), (.str [62])]))], gc := [("LOWERCASE", (.str [97, 98, 99, 100, 101, 102, 103, 104, 105, 106, 107, 108, 109, 110, 111, 112, 113, 114, 115, 116, 117, 118, 119, 120, 121, 122])), ("CELLS", (.str [65, 66, 67, 68, 69, 70, 71, 72])), ("DIGITS", (.str [48, 49, 50, 51, 52, 53, 54, 55, 56, 57])), ("SYMBOLS", (.str [40, 41, 123, 125, 61, 59, 44, 47, 60, 62, 43, 45, 42])), ("MAX_LETTERS", (.int 8)), ("MAX_DIGITS", (.int 6)), ("WORD", (.str [119, 111, 114, 100])), ("KEYWORD", (.str [107, 101, 121, 119, 111, 114, 100])), ("CELL", (.str [99, 101, 108, 108])), ("NUMBER", (.str [110, 117, 109, 98, 101, 114])), ("SYMBOL", (.str [115, 121, 109, 98, 111, 108])), ("END", (.str [101, 110, 100])), ("MAX_FUNCTIONS", (.int 12)), ("MAX_PARAMETERS", (.int 4)), ("MAX_STATEMENTS", (.int 60)), ("MAX_DEPTH", (.int 8)), ("MAX_SHARE", (.int 9)), ("INDENT", (.str [32, 32]))], W := 1000000 }
def loose0 : List PySem.Str := ["FuelError", "SyntaxFault", "CheckFault", "LOWERCASE", "CELLS", "DIGITS", "SYMBOLS", "KEYWORDS", "MAX_LETTERS", "MAX_DIGITS", "WORD", "KEYWORD", "CELL", "NUMBER", "SYMBOL", "END", "Token", "run_length", "scan_token", "tokenize", "OPERATORS", "COMPARISONS", "Function", "Parser", "parse", "MAX_FUNCTIONS", "MAX_PARAMETERS", "MAX_STATEMENTS", "MAX_DEPTH", "MAX_SHARE"]
def loose1 : List PySem.Str := ["fail", "statements_in", "expressions_of", "targets_in", "Checker", "load", "INDENT", "format_expression", "format_call", "format_simple", "format_body", "format_functions", "format_source", "_law_random", "_law_below", "_law_expression", "_law_small", "_law_statement", "_law_block", "_law_total", "_law_program", "_law_text_of", "_law_line_of", "_law_lines", "_law_source", "_law_equal", "_law_spaced", "_law_split"]
def loose : List PySem.Str := loose0 ++ loose1
def lawAt : Nat := 64
theorem row_ok : row.ok = true := by decide +kernel
end K
set_option Elab.async false
set_option linter.all false
set_option maxRecDepth 100000
set_option maxHeartbeats 0
namespace K
open PySem PySem.Spec PyProof.Rows PF
abbrev R : PySem.W.OpenRow := PySem.W.OpenLaw.row PySem.Challenge.rw_fuelshare_k03_canonical_sources
abbrev hk : PySem.W.Hook := row.hook 6
def ob (s : PySem.W.SharedT) : Br.AlR := row.obsG 6 (HandSHeadRun.getT s)
theorem ob_eq (s : PySem.W.SharedT) : ob s = hk.obs s.abs := Br.Row.obsG_eq (HandSHeadRun.getT_eq s)
theorem run (w : World) : HandSHeadRun.RunEq R (PySem.W.view R.prog [lawAt]) hk ob 6000 loose w := by
  intro os
  kernel_rfl
end K
set_option Elab.async false
set_option linter.all false
set_option maxRecDepth 100000
set_option maxHeartbeats 0
open PySem PySem.W PySem.Calls PyProof.Rows
theorem K.T_row : K.row.T = K.T := by
  rw [Br.Row.T_ofL]
  rfl
theorem K.holds (pure : ∀ ns : List Int, ns.length ≤ 63 → ∃ h1, PF.callF K.T 100 23 [.scr ns] [] = .ok (PF.dat (.bl true)) h1) : PySem.Challenge.rw_fuelshare_k03_canonical_sources.Holds := by
  w_on; o_law
  refine HandSHeadRun.head_any (r := OpenLaw.row PySem.Challenge.rw_fuelshare_k03_canonical_sources) (q := view (OpenLaw.row PySem.Challenge.rw_fuelshare_k03_canonical_sources).prog [K.lawAt]) (H := K.hk) (ob := K.ob) (M := 6000) (loose := K.loose) (d := HandSHeadRun.topDef (OpenLaw.row PySem.Challenge.rw_fuelshare_k03_canonical_sources).prog K.lawAt) (kwd := []) K.ob_eq
    (by kernel_rfl) (fun s => by kernel_rfl) K.run (by kernel_rfl) (by kernel_rfl) (by kernel_rfl) (by rfl) (by first | assumption | decide +kernel) (by decide +kernel) ⟨rfl, rfl, rfl, rfl, rfl, by decide +kernel⟩ ?hw ?hc
  case hw => w_witness2
  case hc =>
    refine L2.walk_ofE (l := PySem.Challenge.rw_fuelshare_k03_canonical_sources) (n := 63) (k := 2 * 100) (x := "_law_script") (CX := L2.CX0) rfl (by decide) (by kernel_rfl) ⟨rfl, by decide, by decide⟩ ?F (fun _ _ _ _ z => z)
    intro w mg fa h Y G hmg0
    have hmg : mg ("law" : PySem.Str) = some (.ref fa) := by
      have e : (HandSHeadRun.topDef (OpenLaw.row PySem.Challenge.rw_fuelshare_k03_canonical_sources).prog K.lawAt).name = ("law" : PySem.Str) := by kernel_rfl
      rw [← e]
      exact hmg0
    exact Br.Row.endE (f := 23) (d := 100) K.row_ok rfl (by decide +kernel) (by decide +kernel) (by rw [K.T_row]; exact pure) Y G hmg
set_option maxRecDepth 100000 in
set_option maxHeartbeats 0 in
theorem PySem.Challenge.cw_fuelshare_k03_canonical_sources_holds : PySem.Challenge.rw_fuelshare_k03_canonical_sources.Holds := by
  exact K.holds PF.law_pure
