import PyProof.Rows.All
import Wide.All
import OpenK.AllK
import Wide.FinOn
import HandS.ForMost
import HandS.ForExc
import HandS.Conv
import HandS.TupAny
import HandS.TupMul
import HandS.NoneIn
import HandS.IsInst
import HandS.Walk
import HandS.Zip
import HandS.WordsExc
import HandS.Dict
import KE.SortData
import KE.DataMinMax
import HandS.Exc
import HandS.TryMany
import HandS.ExcIs
import HandS.ExcOwn
import HandS.Defaults
import HandS.SortInts
import HandS.More
import KE.KDictPairs
import HandS.ExcBuiltin
import HandS.Iter
import KE.KDictZip
import HandS.HeadHook1
import HandS.HeadHook2
import HandS.Head0
import HandS.Head1
import HandS.Head2
import HandS.HeadEnd
import PyProof.ExcBaseAll.ValueError
import KE.KStateDown
import Lean
import HandS.Ends
import HandS.Words
import PySem.Challenge.RW_fillproof_k56_counts_of_fillings_by_hand
set_option Elab.async false
set_option linter.all false
set_option maxRecDepth 100000
set_option maxHeartbeats 4000000
/-! F1: a small semantics by values. D: values as trees; an expression is a function of two environments (rho: names that are only rebound; mu: names whose object is changed in place). -/
namespace F
inductive D where
  | non | bl (b : Bool) | int (i : Int) | str (s : List Nat) | tup (xs : List D) | lst (xs : List D) | dct (kvs : List (D × D)) | fn (i : Nat) | exv (c : Nat)
  deriving Inhabited
abbrev Env := List (Option D)
inductive RE where | ok (d : D) | exc (c : Nat) | bad
inductive RA where | ok (ds : List D) | exc (c : Nat) | bad
/-- a call: its value, the contents of the objects that were lent -/
inductive RF where | ok (d : D) (outs : List D) | exc (c : Nat) | bad
inductive Fl where | next (r m : Env) | ret (d : D) (m : Env) | brk (r m : Env) | cnt (r m : Env) | exc (c : Nat) (r : Env) | bad
abbrev EX := Env → Env → RE
abbrev EA := Env → Env → RA
abbrev ST := Env → Env → Fl
abbrev Fn := List D → RF
def big : Nat := 16777216
/-! ### environments -/
def getS : Env → Nat → Option D
  | [], _ => none
  | a :: _, 0 => a
  | _ :: r, n + 1 => getS r n
def setS : Env → Nat → Option D → Env
  | [], _, _ => []
  | _ :: r, 0, d => d :: r
  | a :: r, n + 1, d => a :: setS r n d
def wipeS : Env → List Nat → Env
  | r, [] => r
  | r, v :: vs => setS (wipeS r vs) v none
/-! ### plain expressions -/
def eVar (i : Nat) : EX := fun r _ => match getS r i with | some d => .ok d | none => .bad
/-- the value of a name whose object may be changed in place -/
def eMv (i : Nat) : EX := fun _ m => match getS m i with | some d => .ok d | none => .bad
def eCon (d : D) : EX := fun _ _ => .ok d
def e1 (f : D → Option D) (a : EX) : EX := fun r m => match a r m with
  | .ok x => (match f x with | some v => .ok v | none => .bad)
  | z => z
def e2 (f : D → D → Option D) (a b : EX) : EX := fun r m => match a r m with
  | .ok x => (match b r m with
    | .ok y => (match f x y with | some v => .ok v | none => .bad)
    | z => z)
  | z => z
def e3 (f : D → D → D → Option D) (a b c : EX) : EX := fun r m => match a r m with
  | .ok x => (match b r m with
    | .ok y => (match c r m with
      | .ok z => (match f x y z with | some v => .ok v | none => .bad)
      | z => z)
    | z => z)
  | z => z
def aNil : EA := fun _ _ => .ok []
def aCons (a : EX) (t : EA) : EA := fun r m => match a r m with
  | .ok x => (match t r m with | .ok xs => .ok (x :: xs) | z => z)
  | .exc c => .exc c
  | .bad => .bad
def eN (f : List D → Option D) (a : EA) : EX := fun r m => match a r m with
  | .ok xs => (match f xs with | some v => .ok v | none => .bad)
  | .exc c => .exc c
  | .bad => .bad
def eIf (c a b : EX) : EX := fun r m => match c r m with
  | .ok (.bl true) => a r m
  | .ok (.bl false) => b r m
  | .exc c => .exc c
  | _ => .bad
def eAnd (a b : EX) : EX := fun r m => match a r m with
  | .ok (.bl true) => b r m
  | .ok (.bl false) => .ok (.bl false)
  | .exc c => .exc c
  | _ => .bad
def eOr (a b : EX) : EX := fun r m => match a r m with
  | .ok (.bl true) => .ok (.bl true)
  | .ok (.bl false) => b r m
  | .exc c => .exc c
  | _ => .bad
def eNot (a : EX) : EX := fun r m => match a r m with
  | .ok (.bl b) => .ok (.bl (!b))
  | .exc c => .exc c
  | _ => .bad
/-- a f b g c -/
def eChn (f g : D → D → Option D) (a b c : EX) : EX := fun r m => match a r m with
  | .ok x => (match b r m with
    | .ok y => (match f x y with
      | some (.bl true) => (match c r m with
        | .ok z => (match g y z with | some v => .ok v | none => .bad)
        | z => z)
      | some (.bl false) => .ok (.bl false)
      | _ => .bad)
    | z => z)
  | z => z
/-! ### targets -/
inductive G where | n (i : Nat) | t (gs : List G)
/-- several targets, by how one is stored -/
def putL (f : G → D → Env → Option Env) : List G → List D → Env → Option Env
  | [], [], r => some r
  | g :: gs, x :: xs, r => (match f g x r with | some r => putL f gs xs r | none => none)
  | _, _, _ => none
/-- k: how deep targets may lie -/
def put : Nat → G → D → Env → Option Env
  | _, .n i, d, r => some (setS r i (some d))
  | k + 1, .t gs, .tup xs, r => putL (put k) gs xs r
  | k + 1, .t gs, .lst xs, r => putL (put k) gs xs r
  | _, _, _, _ => none
/-! ### loops and comprehensions -/
/-- the items of a comprehension; no exception may come out of it -/
def compGo (g : G) (tt el : EX) (r m : Env) : List D → Nat → Option (List D)
  | [], _ => some []
  | x :: xs, k => (match put 3 g x r with
    | none => none
    | some r1 => (match tt r1 m with
      | .ok (.bl true) => (match el r1 m with
        | .ok y => if Nat.ble big k then none else (match compGo g tt el r m xs (k + 1) with | some ys => some (y :: ys) | none => none)
        | _ => none)
      | .ok (.bl false) => compGo g tt el r m xs k
      | _ => none))
def eComp (g : G) (it : EA) (tt el : EX) (vs : List Nat) : EX := fun r m => match it r m with
  | .ok xs => (match compGo g tt el (wipeS r vs) m xs 0 with | some ys => .ok (.lst ys) | none => .bad)
  | .exc c => .exc c
  | .bad => .bad
def iterD : D → Option (List D)
  | .tup xs => some xs
  | .lst xs => some xs
  | .dct kvs => some (kvs.map (·.1))
  | _ => none
/-- what is walked: a function of the values of the written arguments -/
def iOf (f : List D → Option (List D)) (a : EA) : EA := fun r m => match a r m with
  | .ok xs => (match f xs with | some ys => .ok ys | none => .bad)
  | z => z
def iVal : List D → Option (List D)
  | [x] => iterD x
  | _ => none
def rng : Nat → Int → List D
  | 0, _ => []
  | n + 1, i => .int i :: rng n (i + 1)
def small (i : Int) : Bool := decide (-4611686018427387904 ≤ i) && decide (i < 4611686018427387904)
def iRng1 : List D → Option (List D)
  | [.int n] => if small n then some (rng n.toNat 0) else none
  | _ => none
def iRng2 : List D → Option (List D)
  | [.int a, .int b] => if small a && small b then some (rng (b - a).toNat a) else none
  | _ => none
def enumD : Nat → List D → List D
  | _, [] => []
  | n, x :: r => .tup [.int n, x] :: enumD (n + 1) r
/-- lists and tuples alone -/
def seqD : D → Option (List D)
  | .tup xs => some xs
  | .lst xs => some xs
  | _ => none
def iEnum : List D → Option (List D)
  | [x] => (match seqD x with | some xs => some (enumD 0 xs) | none => none)
  | _ => none
def zipD : List D → List D → List D
  | x :: xs, y :: ys => .tup [x, y] :: zipD xs ys
  | _, _ => []
def iZip : List D → Option (List D)
  | [.lst xs, .lst ys] => some (zipD xs ys)
  | [.tup xs, .tup ys] => some (zipD xs ys)
  | _ => none
/-! ### keys -/
def eqNs : List Nat → List Nat → Bool
  | [], [] => true
  | a :: as, b :: bs => Nat.beq a b && eqNs as bs
  | _, _ => false
def eqI : Int → Int → Bool
  | .ofNat a, .ofNat b => Nat.beq a b
  | .negSucc a, .negSucc b => Nat.beq a b
  | _, _ => false
/-- a key of a dict -/
def isKey : D → Bool
  | .int _ => true
  | .str _ => true
  | _ => false
def eqK : D → D → Bool
  | .int a, .int b => eqI a b
  | .str a, .str b => eqNs a b
  | _, _ => false
def lookK (k : D) : List (D × D) → Option D
  | [] => none
  | (x, v) :: r => if eqK x k then some v else lookK k r
def hasK (k : D) : List (D × D) → Bool
  | [] => false
  | (x, _) :: r => eqK x k || hasK k r
def setK (k v : D) : List (D × D) → List (D × D)
  | [] => []
  | (x, u) :: r => (match eqK x k with | true => (x, v) | false => (x, u)) :: setK k v r
def putK (k v : D) (kvs : List (D × D)) : List (D × D) := if hasK k kvs then setK k v kvs else kvs ++ [(k, v)]
/-! ### statements -/
def sNext : ST := fun r m => .next r m
def sSeq (a b : ST) : ST := fun r m => match a r m with | .next r m => b r m | z => z
def sAsg (g : G) (e : EX) : ST := fun r m => match e r m with
  | .ok d => (match put 3 g d r with | some r => .next r m | none => .bad)
  | .exc c => .exc c r
  | .bad => .bad
/-- a name whose object may be changed in place is bound -/
def sMv (i : Nat) (e : EX) : ST := fun r m => match e r m with
  | .ok d => .next r (setS m i (some d))
  | .exc c => .exc c r
  | .bad => .bad
def sRet (e : EX) : ST := fun r m => match e r m with
  | .ok d => .ret d m
  | .exc c => .exc c r
  | .bad => .bad
def sExpr (e : EX) : ST := fun r m => match e r m with
  | .ok _ => .next r m
  | .exc c => .exc c r
  | .bad => .bad
def sIf (c : EX) (a b : ST) : ST := fun r m => match c r m with
  | .ok (.bl true) => a r m
  | .ok (.bl false) => b r m
  | .exc c => .exc c r
  | _ => .bad
def sCnt : ST := fun r m => .cnt r m
def sBrk : ST := fun r m => .brk r m
/-- two names take two values, both made first; b: the first name's object may be changed in place -/
def sPar (b : Bool) (i j : Nat) (e f : EX) : ST := fun r m => match e r m with
  | .ok d => (match f r m with
    | .ok d2 => (match b with
      | true => .next (setS r j (some d2)) (setS m i (some d))
      | false => .next (setS (setS r i (some d)) j (some d2)) m)
    | .exc c => .exc c r
    | .bad => .bad)
  | .exc c => .exc c r
  | .bad => .bad
def sRaise (c : Nat) : ST := fun r _ => .exc c r
/-- except clauses: the class, the name's slot, the slot that takes (or the end), the word: [word, True] -/
abbrev Hdl := Nat × Nat × Option Nat × List Nat
def findH (c : Nat) : List Hdl → Option (Nat × Option Nat × List Nat)
  | [] => none
  | (k, h) :: r => if Nat.beq c k then some h else findH c r
def empN : Nat → Env
  | 0 => []
  | n + 1 => none :: empN n
def sTry (b : ST) (hs : List Hdl) : ST := fun r m => match b r m with
  | .exc c r => (match findH c hs with
    | some (ie, some i, l) => .next (setS (setS (setS r ie none) i (some (.lst [.str l, .bl true]))) ie none) (empN r.length)
    | some (_, none, l) => .ret (.lst [.str l, .bl true]) (empN r.length)
    | none => .exc c r)
  | z => z
def forGo (g : G) (b : ST) : List D → Env → Env → Fl
  | [], r, m => .next r m
  | x :: xs, r, m => (match put 3 g x r with
    | none => .bad
    | some r => (match b r m with
      | .next r m => forGo g b xs r m
      | .cnt r m => forGo g b xs r m
      | .brk r m => .next r m
      | z => z))
def sFor (g : G) (it : EA) (b : ST) : ST := fun r m => match it r m with
  | .ok xs => forGo g b xs r m
  | .exc c => .exc c r
  | .bad => .bad
def whileGo (c : EX) (b : ST) : Nat → Env → Env → Fl
  | 0, _, _ => .bad
  | n + 1, r, m => (match c r m with
    | .ok (.bl true) => (match b r m with
      | .next r m => whileGo c b n r m
      | .cnt r m => whileGo c b n r m
      | .brk r m => .next r m
      | z => z)
    | .ok (.bl false) => .next r m
    | .exc c => .exc c r
    | _ => .bad)
def sWhile (n : Nat) (c : EX) (b : ST) : ST := fun r m => whileGo c b n r m
/-- the list of slot i is changed, by its content and a value -/
def sMut (i : Nat) (f : List D → D → Option (List D)) (e : EX) : ST := fun r m => match getS m i with
  | some (.lst xs) => (match e r m with
    | .ok d => (match f xs d with | some ys => .next r (setS m i (some (.lst ys))) | none => .bad)
    | .exc c => .exc c r
    | .bad => .bad)
  | _ => .bad
/-- slot i's object [k] = e: e first, then k -/
def sSet (i : Nat) (e k : EX) : ST := fun r m => match e r m with
  | .ok d => (match getS m i with
    | some (.dct kvs) => (match k r m with
      | .ok j => if isKey j then (if Nat.blt (kvs.length) big then .next r (setS m i (some (.dct (putK j d kvs)))) else .bad) else .bad
      | .exc c => .exc c r
      | .bad => .bad)
    | _ => .bad)
  | .exc c => .exc c r
  | .bad => .bad
/-! ### calls -/
/-- f over values -/
def eCall (f : Fn) (a : EA) : EX := fun r m => match a r m with
  | .ok xs => (match f xs with
    | .ok d [] => .ok d
    | .ok _ _ => .bad
    | .exc c => .exc c
    | .bad => .bad)
  | .exc c => .exc c
  | .bad => .bad
/-- a function value, called -/
def eCallV (f : Nat → Fn) (e : EX) (a : EA) : EX := fun r m => match e r m with
  | .ok (.fn i) => (match a r m with
    | .ok xs => (match f i xs with
      | .ok d [] => .ok d
      | .ok _ _ => .bad
      | .exc c => .exc c
      | .bad => .bad)
    | .exc c => .exc c
    | .bad => .bad)
  | .exc c => .exc c
  | _ => .bad
/-- by their places -/
def pick {α : Type} (ix : List Nat) (l : List α) : List α := ix.filterMap fun i => l[i]?
/-- all arguments by keywords: ix puts them in the parameters' order -/
def eCallK (f : Fn) (n : Nat) (ix : List Nat) (a : EA) : EX := fun r m => match a r m with
  | .ok xs => if Nat.beq xs.length n then (match f (pick ix xs) with
    | .ok d [] => .ok d
    | .ok _ _ => .bad
    | .exc c => .exc c
    | .bad => .bad) else .bad
  | .exc c => .exc c
  | .bad => .bad
def emp : Nat → Env
  | 0 => []
  | n + 1 => none :: emp n
def start (k : Nat) : List D → Env
  | [] => emp k
  | x :: r => some x :: start k r
/-- a def of p parameters and k more names, none lent -/
def fnS (p k : Nat) (b : ST) : Fn := fun xs => if Nat.beq xs.length p then (match b (start k xs) (emp (p + k)) with
  | .ret d _ => .ok d []
  | .next _ _ => .ok .non []
  | .exc c _ => .exc c
  | _ => .bad) else .bad
/-! ### operations -/
/-- item by item, all of them -/
def eqL (f : D → D → Option Bool) : List D → List D → Option Bool
  | [], [] => some true
  | a :: as, b :: bs => (match f a b with
    | some x => (match eqL f as bs with | some y => some (x && y) | none => none)
    | none => none)
  | _, _ => some false
def sameLen : List D → List D → Bool
  | [], [] => true
  | _ :: as, _ :: bs => sameLen as bs
  | _, _ => false
/-- ==; none: not told (dicts, functions; too deep) -/
def eqD : Nat → D → D → Option Bool
  | 0, _, _ => none
  | n + 1, a, b => (match a, b with
    | .int a, .int b => some (eqI a b)
    | .tup as, .tup bs => eqL (eqD n) as bs
    | .str a, .str b => some (eqNs a b)
    | .lst as, .lst bs => if sameLen as bs then eqL (eqD n) as bs else some false
    | .bl a, .bl b => some (a == b)
    | .non, .non => some true
    | .non, .bl _ => some false
    | .non, .int _ => some false
    | .non, .str _ => some false
    | .non, .tup _ => some false
    | .non, .lst _ => some false
    | .bl _, .non => some false
    | .bl _, .str _ => some false
    | .bl _, .tup _ => some false
    | .bl _, .lst _ => some false
    | .int _, .non => some false
    | .int _, .str _ => some false
    | .int _, .tup _ => some false
    | .int _, .lst _ => some false
    | .str _, .non => some false
    | .str _, .bl _ => some false
    | .str _, .int _ => some false
    | .str _, .tup _ => some false
    | .str _, .lst _ => some false
    | .tup _, .non => some false
    | .tup _, .bl _ => some false
    | .tup _, .int _ => some false
    | .tup _, .str _ => some false
    | .tup _, .lst _ => some false
    | .lst _, .non => some false
    | .lst _, .bl _ => some false
    | .lst _, .int _ => some false
    | .lst _, .str _ => some false
    | .lst _, .tup _ => some false
    | _, _ => none)
def deep : Nat := 40
def oEq (a b : D) : Option D := match eqD deep a b with | some t => some (.bl t) | none => none
def oNe (a b : D) : Option D := match eqD deep a b with | some t => some (.bl (!t)) | none => none
def isNon : D → Bool
  | .non => true
  | _ => false
def oIs (a b : D) : Option D := match b with
  | .non => some (.bl (isNon a))
  | _ => none
def oIsNot (a b : D) : Option D := match b with
  | .non => some (.bl (!isNon a))
  | _ => none
def leI : Int → Int → Bool
  | .ofNat a, .ofNat b => Nat.ble a b
  | .negSucc _, .ofNat _ => true
  | .ofNat _, .negSucc _ => false
  | .negSucc a, .negSucc b => Nat.ble b a
def oLe : D → D → Option D
  | .int a, .int b => some (.bl (leI a b))
  | _, _ => none
def oGe : D → D → Option D
  | .int a, .int b => some (.bl (leI b a))
  | _, _ => none
/-- may two data be ordered (as the library's alike) -/
def alkL (f : D → D → Bool) : List D → List D → Bool
  | a :: as, b :: bs => f a b && alkL f as bs
  | _, _ => true
def alk : Nat → D → D → Bool
  | 0, _, _ => false
  | n + 1, a, b => (match a, b with
    | .int _, .int _ => true
    | .str _, .str _ => true
    | .tup as, .tup bs => alkL (alk n) as bs
    | _, _ => false)
def ltNs : List Nat → List Nat → Bool
  | [], [] => false
  | [], _ :: _ => true
  | _ :: _, [] => false
  | a :: as, b :: bs => if Nat.beq a b then ltNs as bs else Nat.blt a b
/-- item by item: the first that differ tell -/
def ltL (e : D → D → Option Bool) (f : D → D → Bool) : List D → List D → Bool
  | _, [] => false
  | [], _ :: _ => true
  | a :: as, b :: bs => (match e a b with | some true => ltL e f as bs | _ => f a b)
def ltD : Nat → D → D → Bool
  | 0, _, _ => false
  | n + 1, a, b => (match a, b with
    | .int a, .int b => !leI b a
    | .str a, .str b => ltNs a b
    | .tup as, .tup bs => ltL (eqD n) (ltD n) as bs
    | _, _ => false)
def oLt (a b : D) : Option D := if alk deep a b then some (.bl (ltD deep a b)) else none
def oGt (a b : D) : Option D := match a, b with
  | .int a, .int b => some (.bl (!leI a b))
  | _, _ => none
def lenL : List D → Nat
  | [] => 0
  | _ :: r => lenL r + 1
def okLen (xs : List D) : Bool := Nat.ble (lenL xs) big
def oAdd : D → D → Option D
  | .int a, .int b => some (.int (a + b))
  | .tup a, .tup b => let c := a ++ b; if okLen c then some (.tup c) else none
  | .lst a, .lst b => let c := a ++ b; if okLen c then some (.lst c) else none
  | .str a, .str b => let c := a ++ b; if Nat.ble c.length big then some (.str c) else none
  | _, _ => none
def oSub : D → D → Option D
  | .int a, .int b => some (.int (a - b))
  | _, _ => none
def sm64 : Int → Bool
  | .ofNat a => Nat.blt a 18446744073709551616
  | .negSucc a => Nat.blt a 18446744073709551615
def repL : Nat → List D → List D
  | 0, _ => []
  | n + 1, xs => xs ++ repL n xs
def oMul : D → D → Option D
  | .int a, .int b => if sm64 a || sm64 b then some (.int (a * b)) else none
  | .lst [x], .int n => if leI 0 n && leI n 16777216 then some (.lst (repL n.toNat [x])) else none
  | .tup [x], .int n => if leI 2 n && leI n 1000 then some (.tup (repL n.toNat [x])) else none
  | _, _ => none
def oMod : D → D → Option D
  | .int a, .int b => if leI 1 b then some (.int (a % b)) else none
  | _, _ => none
def oDiv : D → D → Option D
  | .int a, .int b => if leI 1 b && leI b 1073741823 then some (.int (a / b)) else none
  | _, _ => none
def oPow : D → D → Option D
  | .int a, .int b => if sm64 a && leI 0 b && leI b 1000000 then some (.int (a ^ b.toNat)) else none
  | _, _ => none
def oNeg : D → Option D
  | .int a => some (.int (-a))
  | _ => none
/-- x in xs: each item == x, from the left -/
def memL (x : D) : List D → Option Bool
  | [] => some false
  | y :: r => (match eqD deep y x with
    | some a => (match memL x r with | some b => some (a || b) | none => none)
    | none => none)
def oIn (x y : D) : Option D := match y with
  | .tup xs => (match memL x xs with | some t => some (.bl t) | none => none)
  | .lst xs => (match memL x xs with | some t => some (.bl t) | none => none)
  | .dct kvs => if isKey x then some (.bl (hasK x kvs)) else none
  | _ => none
def oNotIn (x y : D) : Option D := match y with
  | .tup xs => (match memL x xs with | some t => some (.bl (!t)) | none => none)
  | .lst xs => (match memL x xs with | some t => some (.bl (!t)) | none => none)
  | .dct kvs => if isKey x then some (.bl (!hasK x kvs)) else none
  | _ => none
def nth : List D → Nat → Option D
  | [], _ => none
  | a :: _, 0 => some a
  | _ :: r, n + 1 => nth r n
def ixL (xs : List D) : Int → Option D
  | .ofNat n => nth xs n
  | .negSucc n => let m := lenL xs; if Nat.blt n m then nth xs (m - (n + 1)) else none
def oIx : D → D → Option D
  | .tup xs, .int i => ixL xs i
  | .lst xs, .int i => ixL xs i
  | .dct kvs, k => if isKey k then lookK k kvs else none
  | _, _ => none
/-! ### built-in functions -/
def bLen : D → Option D
  | .tup xs => some (.int (lenL xs))
  | .lst xs => some (.int (lenL xs))
  | .dct kvs => some (.int kvs.length)
  | .str s => if Nat.ble s.length big then some (.int s.length) else none
  | _ => none
def bTuple (x : D) : Option D := match seqD x with | some xs => some (.tup xs) | none => none
def bList (x : D) : Option D := match seqD x with | some xs => some (.lst xs) | none => none
def sumL : List D → Int → Option D
  | [], a => some (.int a)
  | .int i :: r, a => sumL r (a + i)
  | _, _ => none
def bSum : D → Option D
  | .lst xs => sumL xs 0
  | _ => none
def allL : List D → Option Bool
  | [] => some true
  | .bl b :: r => (match allL r with | some t => some (b && t) | none => none)
  | _ => none
def anyL : List D → Option Bool
  | [] => some false
  | .bl b :: r => (match anyL r with | some t => some (b || t) | none => none)
  | _ => none
def bAll : D → Option D
  | .lst xs => (match allL xs with | some t => some (.bl t) | none => none)
  | _ => none
def bAny : D → Option D
  | .lst xs => (match anyL xs with | some t => some (.bl t) | none => none)
  | _ => none
def insI (x : Int) : List Int → List Int
  | [] => [x]
  | y :: r => if leI x y then x :: y :: r else y :: insI x r
def sortI : List Int → List Int
  | [] => []
  | x :: r => insI x (sortI r)
/-- all of them ints -/
def intsD : List D → Option (List Int)
  | [] => some []
  | .int i :: r => (match intsD r with | some is => some (i :: is) | none => none)
  | _ => none
def intsK : List (D × D) → Option (List Int)
  | [] => some []
  | (.int i, _) :: r => (match intsK r with | some is => some (i :: is) | none => none)
  | _ => none
def bSorted (x : D) : Option D := match x with
  | .lst xs => (match intsD xs with | some is => some (.lst ((sortI is).map .int)) | none => none)
  | .dct kvs => if Nat.blt kvs.length 64 then (match intsK kvs with | some is => some (.lst ((sortI is).map .int)) | none => none) else none
  | _ => none
def pairsK : List D → List (D × D) → Option (List (D × D))
  | [], acc => some acc
  | .tup [k, v] :: r, acc => if isKey k then pairsK r (putK k v acc) else none
  | _, _ => none
def bDict : D → Option D
  | .dct kvs => some (.dct kvs)
  | .lst xs => (match pairsK xs [] with | some kvs => some (.dct kvs) | none => none)
  | .tup xs => (match pairsK xs [] with | some kvs => some (.dct kvs) | none => none)
  | _ => none
/-- dict(zip(x, y)) -/
def dZip (x y : D) : Option D := match iZip [x, y] with
  | some ps => (match pairsK ps [] with | some kvs => some (.dct kvs) | none => none)
  | none => none
def dispK : List D → List (D × D) → Option (List (D × D))
  | [], acc => some acc
  | k :: v :: r, acc => if isKey k then dispK r (putK k v acc) else none
  | _, _ => none
/-- a dict display: keys and values, one after another -/
def oDct (xs : List D) : Option D := match dispK xs [] with | some kvs => if Nat.ble kvs.length 15 then some (.dct kvs) else none | none => none
def bMin2 : D → D → Option D
  | .int a, .int b => some (.int (if leI a b then a else b))
  | _, _ => none
/-- list(range(..)), tuple(range(..)) -/
def lRng (f : List D → Option (List D)) (xs : List D) : Option D := match f xs with
  | some ys => if okLen ys then some (.lst ys) else none
  | none => none
def tRng (f : List D → Option (List D)) (xs : List D) : Option D := match f xs with
  | some ys => if okLen ys then some (.tup ys) else none
  | none => none
/-- kinds: 0 bool, 1 int, 2 str, 3 tuple, 4 list -/
def isKind : D → Nat → Option Bool
  | .bl _, 0 => some true
  | .bl _, 1 => some true
  | .int _, 1 => some true
  | .str _, 2 => some true
  | .tup _, 3 => some true
  | .lst _, 4 => some true
  | .fn _, _ => none
  | .exv _, _ => none
  | _, _ => some false
def bIsi : List Nat → D → Option D
  | [], _ => some (.bl false)
  | k :: r, x => (match isKind x k with | some true => some (.bl true) | some false => bIsi r x | none => none)
/-! ### what is changed in place -/
def muApp (xs : List D) (d : D) : Option (List D) := let ys := xs ++ [d]; if okLen ys then some ys else none
def muExt (xs : List D) (d : D) : Option (List D) := match d with
  | .lst ys => let zs := xs ++ ys; if okLen zs then some zs else none
  | _ => none
/-- a.get(b, c) -/
def eGet (a b c : EX) : EX := fun r m => match a r m with
  | .ok (.dct kvs) => (match b r m with
    | .ok k => (match c r m with
      | .ok v => if isKey k then (match lookK k kvs with | some x => .ok x | none => .ok v) else .bad
      | z => z)
    | z => z)
  | .exc c => .exc c
  | _ => .bad
/-! ### displays -/
def fTup (xs : List D) : Option D := if okLen xs then some (.tup xs) else none
def fLst (xs : List D) : Option D := if okLen xs then some (.lst xs) else none
def fDct0 : D := .dct []
/-- {k: v} -/
def fDct1 (k v : D) : Option D := if isKey k then some (.dct [(k, v)]) else none
/-! ### slices -/
def ixS (n d : Nat) : Option Int → Nat
  | none => d
  | some (.ofNat k) => if Nat.ble k n then k else n
  | some (.negSucc k) => n - (k + 1)
def cutD (xs : List D) (a b : Option Int) : List D := (xs.drop (ixS (lenL xs) 0 a)).take (ixS (lenL xs) (lenL xs) b - ixS (lenL xs) 0 a)
def cutN (x : D) (a b : Option Int) : Option D := match x with
  | .tup xs => some (.tup (cutD xs a b))
  | .lst xs => some (.lst (cutD xs a b))
  | _ => none
def oCutB (x a b : D) : Option D := match a, b with | .int i, .int j => cutN x (some i) (some j) | _, _ => none
def oCutL (x a : D) : Option D := match a with | .int i => cutN x (some i) none | _ => none
def oCutH (x b : D) : Option D := match b with | .int j => cutN x none (some j) | _ => none
end F
/-! F2a: how values stand for objects (Rep), the state (Sim). -/
namespace F
open PySem PySem.Spec PyProof.Rows L2
abbrev Frag := PySem.W.Frag
/-- a key as a value of F1 -/
def keyD : Key → D
  | .inl i => .int i
  | .inr x => .str x.cps.toList
/-- a tuple of the written part -/
def KT (K : Frag) (a : Addr) (xs : List V) : Prop := ∃ (o : Obj) (its : Array Value) (n : Nat), K.lookup a = some o ∧ o.cls = .type "tuple" ∧ o.dict = none ∧ o.data = .seq its n ∧ its.size ≤ sizeLine ∧ Vals xs its.toList
def InL (_ : Frag) (F : Hp) (a : Addr) (xs : List V) : Prop := F a = some (.lst xs)
def InT (K : Frag) (F : Hp) (a : Addr) (xs : List V) : Prop := (∃ o : Obj, o.dict = none ∧ F a = some (.frz o (.tup xs))) ∨ KT K a xs
mutual
def Rep (K : Frag) (fa : Nat → Option Addr) (F : Hp) : D → V → Prop
  | .non, v => v = .non
  | .bl b, v => v = .bl b
  | .int i, v => v = .int i
  | .str s, v => v = .str ⟨s.toArray⟩
  | .tup ds, v => ∃ a vs, v = .ref a ∧ InT K F a vs ∧ RepL K fa F ds vs
  | .lst ds, v => ∃ a vs, v = .ref a ∧ InL K F a vs ∧ RepL K fa F ds vs
  | .dct kvs, v => ∃ a ks, v = .ref a ∧ F a = some (.dK ks) ∧ RepK K fa F kvs ks
  | .fn i, v => ∃ a, v = .ref a ∧ fa i = some a
  | .exv _, v => ∃ a, v = .ref a
def RepL (K : Frag) (fa : Nat → Option Addr) (F : Hp) : List D → List V → Prop
  | [], vs => vs = []
  | d :: ds, vs => ∃ v r, vs = v :: r ∧ Rep K fa F d v ∧ RepL K fa F ds r
def RepK (K : Frag) (fa : Nat → Option Addr) (F : Hp) : List (D × D) → List (Key × V) → Prop
  | [], ks => ks = []
  | (x, d) :: r, ks => ∃ k v t, ks = (k, v) :: t ∧ x = keyD k ∧ Rep K fa F d v ∧ RepK K fa F r t
end
/-- every object of F stands in H (a dict maybe locked) -/
def Sub (F H : Hp) : Prop := ∀ a o, F a = some o → H a = some o ∨ ((∃ kvs, o = .dK kvs) ∧ ∃ od, H a = some (.frz od o))
theorem Sub.rd {F H : Hp} (s : Sub F H) {a : Addr} {o : HO} (e : F a = some o) : Rd H a o := (s a o e).imp id fun z => z.2
theorem Sub.lst {F H : Hp} (s : Sub F H) {a : Addr} {xs : List V} (e : F a = some (.lst xs)) : H a = some (.lst xs) := by
  rcases s a _ e with h | ⟨⟨_, h⟩, _⟩
  · exact h
  · cases h
theorem Sub.tup {F H : Hp} (s : Sub F H) {a : Addr} {xs : List V} (e : F a = some (.tup xs)) : H a = some (.tup xs) := by
  rcases s a _ e with h | ⟨⟨_, h⟩, _⟩
  · exact h
  · cases h
def Le (F G : Hp) : Prop := ∀ a o, F a = some o → G a = some o
theorem Le.refl (F : Hp) : Le F F := fun _ _ h => h
theorem Le.trans {F G H : Hp} (a : Le F G) (b : Le G H) : Le F H := fun x o h => b x o (a x o h)
theorem Le.sub {F H : Hp} (h : Le F H) : Sub F H := fun a o e => .inl (h a o e)
section
variable {K : Frag} {fa : Nat → Option Addr} {F G H : Hp}
theorem InL.mono {a : Addr} {xs : List V} (h : InL K F a xs) (l : Le F G) : InL K G a xs := l _ _ h
theorem InT.mono {a : Addr} {xs : List V} (h : InT K F a xs) (l : Le F G) : InT K G a xs := h.imp (fun ⟨o, e, q⟩ => ⟨o, e, l _ _ q⟩) id
theorem InL.sq {a : Addr} {xs : List V} (h : InL K F a xs) (l : Sub F H) : SqL K H a xs := .inl (l.rd h)
theorem Sub.frz {F H : Hp} (s : Sub F H) {a : Addr} {o : Obj} {xs : List V} (e : F a = some (.frz o (.tup xs))) : H a = some (.frz o (.tup xs)) := by
  rcases s a _ e with h | ⟨⟨_, h⟩, _⟩
  · exact h
  · cases h
theorem InT.sq {a : Addr} {xs : List V} (h : InT K F a xs) (l : Sub F H) : SqT K H a xs := by
  rcases h with ⟨o, _, q⟩ | ⟨o, its, n, h1, h2, _, h3⟩
  · exact .inl (.inr ⟨o, l.frz q⟩)
  · exact .inr ⟨o, its, n, h1, h2, h3⟩
mutual
theorem Rep.mono (l : Le F G) : ∀ (d : D) (v : V), Rep K fa F d v → Rep K fa G d v
  | .non, _, h => h
  | .bl _, _, h => h
  | .int _, _, h => h
  | .str _, _, h => h
  | .tup ds, v, ⟨a, vs, e, h, r⟩ => ⟨a, vs, e, h.mono l, RepL.mono l ds vs r⟩
  | .lst ds, v, ⟨a, vs, e, h, r⟩ => ⟨a, vs, e, h.mono l, RepL.mono l ds vs r⟩
  | .dct kvs, v, ⟨a, ks, e, h, r⟩ => ⟨a, ks, e, l _ _ h, RepK.mono l kvs ks r⟩
  | .fn _, _, h => h
  | .exv _, _, h => h
theorem RepL.mono (l : Le F G) : ∀ (ds : List D) (vs : List V), RepL K fa F ds vs → RepL K fa G ds vs
  | [], _, h => h
  | d :: ds, _, ⟨v, r, e, h, t⟩ => ⟨v, r, e, Rep.mono l d v h, RepL.mono l ds r t⟩
theorem RepK.mono (l : Le F G) : ∀ (ds : List (D × D)) (ks : List (Key × V)), RepK K fa F ds ks → RepK K fa G ds ks
  | [], _, h => h
  | (x, d) :: ds, _, ⟨k, v, r, e, ex, h, t⟩ => ⟨k, v, r, e, ex, Rep.mono l d v h, RepK.mono l ds r t⟩
end
theorem RepL.length : ∀ {ds : List D} {vs : List V}, RepL K fa F ds vs → ds.length = vs.length
  | [], _, h => by rw [show _ = [] from h]; rfl
  | d :: ds, _, ⟨v, r, e, _, t⟩ => by rw [e, List.length_cons, List.length_cons, RepL.length t]
theorem RepL.app : ∀ {ds es : List D} {vs ws : List V}, RepL K fa F ds vs → RepL K fa F es ws → RepL K fa F (ds ++ es) (vs ++ ws)
  | [], _, _, _, h, h2 => by rw [show _ = [] from h]; exact h2
  | d :: ds, es, _, ws, ⟨v, r, e, h, t⟩, h2 => by
    subst e
    exact ⟨v, r ++ ws, rfl, h, RepL.app t h2⟩
theorem RepL.nth : ∀ {ds : List D} {vs : List V} {n : Nat} {d : D}, RepL K fa F ds vs → _root_.F.nth ds n = some d → ∃ v, vs[n]? = some v ∧ Rep K fa F d v
  | [], _, _, _, _, e => by cases e
  | d :: ds, _, 0, _, ⟨v, r, e, h, t⟩, q => by
    cases q; subst e
    exact ⟨v, rfl, h⟩
  | d :: ds, _, n + 1, _, ⟨v, r, e, h, t⟩, q => by
    subst e
    obtain ⟨v', e', h'⟩ := RepL.nth (n := n) t q
    exact ⟨v', by simpa using e', h'⟩
theorem lenL_eq : ∀ ds : List D, lenL ds = ds.length
  | [] => rfl
  | _ :: r => by show lenL r + 1 = r.length + 1; rw [lenL_eq r]
theorem RepL.drop : ∀ {ds : List D} {vs : List V} (n : Nat), RepL K fa F ds vs → RepL K fa F (ds.drop n) (vs.drop n)
  | _, _, 0, h => h
  | [], _, n + 1, h => by rw [show _ = [] from h]; exact rfl
  | d :: ds, _, n + 1, ⟨v, r, e, h, t⟩ => by
    subst e
    exact RepL.drop n t
theorem RepL.take : ∀ {ds : List D} {vs : List V} (n : Nat), RepL K fa F ds vs → RepL K fa F (ds.take n) (vs.take n)
  | _, _, 0, h => rfl
  | [], _, n + 1, h => by rw [show _ = [] from h]; exact rfl
  | d :: ds, _, n + 1, ⟨v, r, e, h, t⟩ => by
    subst e
    exact ⟨v, r.take n, rfl, h, RepL.take n t⟩
end
end F
/-! F2b: == of data. -/
namespace F
open PySem PySem.Spec PyProof.Rows L2
theorem eqI_iff : ∀ a b : Int, eqI a b = true ↔ a = b
  | .ofNat a, .ofNat b => by
    show Nat.beq a b = true ↔ _
    rw [Nat.beq_eq]
    exact ⟨fun h => by rw [h], fun h => Int.ofNat.inj h⟩
  | .negSucc a, .negSucc b => by simp [eqI, Nat.beq_eq]
  | .ofNat a, .negSucc b => by simp [eqI]
  | .negSucc a, .ofNat b => by simp [eqI]
theorem eqI_beq (a b : Int) : eqI a b = (a == b) := by
  rw [Bool.eq_iff_iff, eqI_iff, beq_iff_eq]
theorem eqNs_iff : ∀ a b : List Nat, eqNs a b = true ↔ a = b
  | [], [] => by simp [eqNs]
  | a :: as, b :: bs => by simp [eqNs, Nat.beq_eq, eqNs_iff as bs]
  | [], _ :: _ => by simp [eqNs]
  | _ :: _, [] => by simp [eqNs]
theorem mkStr_inj {a b : List Nat} : (⟨a.toArray⟩ : Str) = ⟨b.toArray⟩ ↔ a = b := by
  constructor
  · intro h
    have := congrArg (fun s : Str => s.cps.toList) h
    simpa using this
  · intro h; rw [h]
theorem eqNs_beq (a b : List Nat) : eqNs a b = ((⟨a.toArray⟩ : Str) == ⟨b.toArray⟩) := by
  rw [Bool.eq_iff_iff, eqNs_iff, beq_iff_eq, mkStr_inj]
theorem sameLen_iff : ∀ a b : List D, sameLen a b = true ↔ a.length = b.length
  | [], [] => by simp [sameLen]
  | _ :: as, _ :: bs => by simp [sameLen, sameLen_iff as bs]
  | [], _ :: _ => by simp [sameLen]
  | _ :: _, [] => by simp [sameLen]
section
variable {X : Cx} {pins : List (Addr × Obj)} {σ : L2.St} {H F : Hp} {s : Shared} {fa : Nat → Option Addr}
theorem isTuple_of {h : Heap} {a : Addr} {its : Array Value} (p : IsTup h a its) : h.IsTuple a its := p
/-- one object: what is told of it is the same -/
theorem eq_self (I : Inv X pins σ H s) (S : Sub F H) : ∀ (n : Nat) (d e : D) (v : V) (t : Bool), Rep X.K fa F d v → Rep X.K fa F e v → eqD n d e = some t → t = true := by
  intro n
  induction n with
  | zero => intro d e v t _ _ h; cases h
  | succ n ih =>
    have items : ∀ (ds es : List D) (vs : List V) (t : Bool), RepL X.K fa F ds vs → RepL X.K fa F es vs → eqL (eqD n) ds es = some t → t = true := by
      intro ds
      induction ds with
      | nil =>
        intro es vs t h1 h2 h
        cases es with
        | nil => exact (Option.some.inj h).symm
        | cons e es =>
          obtain ⟨v, r, e1, _, _⟩ := h2
          rw [show vs = [] from h1] at e1; cases e1
      | cons d ds ihl =>
        intro es vs t h1 h2 h
        obtain ⟨v, r, rfl, hv, hr⟩ := h1
        cases es with
        | nil => cases (show v :: r = [] from h2)
        | cons e es =>
          obtain ⟨v', r', e1, hv', hr'⟩ := h2
          cases e1
          have h : (match eqD n d e with
            | some x => (match eqL (eqD n) ds es with | some y => some (x && y) | none => none)
            | none => none) = some t := h
          cases q : eqD n d e with
          | none => rw [q] at h; cases h
          | some b =>
            have := ih d e v b hv hv' q
            subst this
            rw [q] at h
            cases q2 : eqL (eqD n) ds es with
            | none => rw [q2] at h; cases h
            | some y =>
              rw [q2] at h
              have := ihl es r y hr hr' q2
              subst this
              exact (Option.some.inj h).symm
    intro d e v t h1 h2 h
    cases d with
    | non => subst h1; cases e with
      | non => cases h; rfl
      | tup _ => obtain ⟨_, _, q, _⟩ := h2; cases q
      | lst _ => obtain ⟨_, _, q, _⟩ := h2; cases q
      | dct _ => cases h
      | fn _ => cases h
      | exv _ => cases h
      | _ => cases h2
    | bl b => subst h1; cases e with
      | bl c =>
        cases h2
        have h : some (b == b) = some t := h
        simpa using h.symm
      | tup _ => obtain ⟨_, _, q, _⟩ := h2; cases q
      | lst _ => obtain ⟨_, _, q, _⟩ := h2; cases q
      | dct _ => cases h
      | fn _ => cases h
      | exv _ => cases h
      | _ => cases h2
    | int b => subst h1; cases e with
      | int c =>
        cases h2
        have h : some (eqI b b) = some t := h
        rw [eqI_beq] at h
        simpa using h.symm
      | tup _ => obtain ⟨_, _, q, _⟩ := h2; cases q
      | lst _ => obtain ⟨_, _, q, _⟩ := h2; cases q
      | dct _ => cases h
      | fn _ => cases h
      | exv _ => cases h
      | _ => cases h2
    | str b => subst h1; cases e with
      | str c =>
        have e1 : b = c := mkStr_inj.mp (V.str.inj h2)
        subst e1
        have h : some (eqNs b b) = some t := h
        rw [(eqNs_iff b b).mpr rfl] at h
        exact (Option.some.inj h).symm
      | tup _ => obtain ⟨_, _, q, _⟩ := h2; cases q
      | lst _ => obtain ⟨_, _, q, _⟩ := h2; cases q
      | dct _ => cases h
      | fn _ => cases h
      | exv _ => cases h
      | _ => cases h2
    | tup ds =>
      obtain ⟨a, vs, rfl, hi, hr⟩ := h1
      cases e with
      | tup es =>
        obtain ⟨a', vs', e1, hi', hr'⟩ := h2
        cases e1
        have := I.tuple_inj (hi.sq S) (hi'.sq S)
        subst this
        exact items ds es vs t hr hr' h
      | lst es =>
        obtain ⟨a', vs', e1, hi', hr'⟩ := h2
        cases e1
        obtain ⟨its, _, p, _⟩ := I.tuple (hi.sq S)
        obtain ⟨its', _, p', _⟩ := I.list (hi'.sq S)
        exact absurd rfl (SeqAt.ne_of_list_tuple p'.isList (isTuple_of p))
      | dct _ => cases h
      | fn _ => cases h
      | exv _ => cases h
      | _ => cases h2
    | lst ds =>
      obtain ⟨a, vs, rfl, hi, hr⟩ := h1
      cases e with
      | lst es =>
        obtain ⟨a', vs', e1, hi', hr'⟩ := h2
        cases e1
        have := I.list_inj (hi.sq S) (hi'.sq S)
        subst this
        have hl : sameLen ds es = true := (sameLen_iff _ _).mpr (hr.length.trans hr'.length.symm)
        have h : (if sameLen ds es then eqL (eqD n) ds es else some false) = some t := h
        rw [if_pos hl] at h
        exact items ds es vs t hr hr' h
      | tup es =>
        obtain ⟨a', vs', e1, hi', hr'⟩ := h2
        cases e1
        obtain ⟨its, _, p, _⟩ := I.list (hi.sq S)
        obtain ⟨its', _, p', _⟩ := I.tuple (hi'.sq S)
        exact absurd rfl (SeqAt.ne_of_list_tuple p.isList (isTuple_of p'))
      | dct _ => cases h
      | fn _ => cases h
      | exv _ => cases h
      | _ => cases h2
    | dct _ => cases e <;> cases h
    | fn _ => cases e <;> cases h
    | exv _ => cases e <;> cases h
end
end F
/-! F2c: == of data, run. -/
namespace F
open PySem PySem.Spec PyProof.Rows L2
/-- item by item, as the library's range says it -/
theorem all_range_succ {e : Nat → Bool} {n : Nat} : (List.range (n + 1)).all e = (e 0 && (List.range n).all fun j => e (j + 1)) := by
  rw [List.range_succ_eq_map, List.all_cons, List.all_map]
  rfl
section
variable {X : Cx} {pins : List (Addr × Obj)} {σ : L2.St} {H F : Hp} {s : Shared} {fa : Nat → Option Addr}
/-- from what eqL says to the library's words -/
theorem eqL_run {f : D → D → Option Bool} {A : Around} (ih : ∀ d e x y u w t, Rep X.K fa F d x → Rep X.K fa F e y → RelV x u → RelV y w → f d e = some t → SeqAt.EqAt A s u w t) :
    ∀ (ds es : List D) (xs ys : List V) (us ws : List Value) (t : Bool), RepL X.K fa F ds xs → RepL X.K fa F es ys → Vals xs us → Vals ys ws → eqL f ds es = some t →
      ∃ e : Nat → Bool, (∀ j (h1 : j < us.length) (h2 : j < ws.length), SeqAt.EqAt A s us[j] ws[j] (e j)) ∧ ((List.range (min us.length ws.length)).all e && (us.length == ws.length)) = t
  | [], es, xs, ys, us, ws, t, h1, h2, r1, r2, h => by
    cases (show xs = [] from h1)
    cases r1
    refine ⟨fun _ => true, fun j h => absurd h (Nat.not_lt_zero _), ?_⟩
    cases es with
    | nil =>
      cases (show ys = [] from h2)
      cases r2
      cases h
      rfl
    | cons e es =>
      obtain ⟨v, r, rfl, _, _⟩ := h2
      cases r2
      cases h
      simp
  | d :: ds, es, xs, ys, us, ws, t, h1, h2, r1, r2, h => by
    obtain ⟨v, r, rfl, hv, hr⟩ := h1
    cases r1 with
    | cons q1 q2 =>
      cases es with
      | nil =>
        cases (show ys = [] from h2)
        cases r2
        cases h
        exact ⟨fun _ => true, fun j _ h => absurd h (Nat.not_lt_zero _), by simp⟩
      | cons e es =>
        obtain ⟨v', r', rfl, hv', hr'⟩ := h2
        cases r2 with
        | cons p1 p2 =>
          rename_i u us w ws
          have h : (match f d e with
            | some x => (match eqL f ds es with | some y => some (x && y) | none => none)
            | none => none) = some t := h
          cases q : f d e with
          | none => rw [q] at h; cases h
          | some b =>
            have hb := ih d e v v' u w b hv hv' q1 p1 q
            rw [q] at h
            cases qt : eqL f ds es with
            | none => rw [qt] at h; cases h
            | some y =>
              rw [qt] at h
              obtain ⟨e', he, ht⟩ := eqL_run ih ds es r r' us ws y hr hr' q2 p2 qt
              refine ⟨fun j => match j with | 0 => b | j + 1 => e' j, fun j h1 h2 => ?_, ?_⟩
              · cases j with
                | zero => exact hb
                | succ j => exact he j (Nat.lt_of_succ_lt_succ h1) (Nat.lt_of_succ_lt_succ h2)
              · have e0 : (b && y) = t := Option.some.inj h
                rw [List.length_cons, List.length_cons, Nat.succ_min_succ, all_range_succ, ← e0, ← ht]
                simp [Bool.and_assoc]
/-- == of data, by eqD -/
theorem eq_at (I : Inv X pins σ H s) (S : Sub F H) : ∀ (n : Nat) (A : Around), A.units + n < cLine → ∀ (d e : D) (x y : V) (u w : Value) (t : Bool), Rep X.K fa F d x → Rep X.K fa F e y → RelV x u → RelV y w → eqD n d e = some t → SeqAt.EqAt A s u w t := by
  intro n
  induction n with
  | zero => intro A _ d e x y u w t _ _ _ _ h; cases h
  | succ n ih =>
    intro A hA d e x y u w t h1 h2 r1 r2 h
    have hu : A.units < cLine := by omega
    have hA1 : A.in1.units + n < cLine := by show A.units + 1 + n < cLine; omega
    have tupI : ∀ {ds : List D} {x : V} {u : Value}, Rep X.K fa F (.tup ds) x → RelV x u → ∃ a vs its, x = .ref a ∧ u = .ref a ∧ RepL X.K fa F ds vs ∧ Vals vs its ∧ s.heap.IsTuple a its.toArray := fun h r => by
      obtain ⟨a, vs, rfl, hi, hr⟩ := h
      cases r
      obtain ⟨its, rv, p, _⟩ := I.tuple (hi.sq S)
      exact ⟨a, vs, its, rfl, rfl, hr, rv, isTuple_of p⟩
    have lstI : ∀ {ds : List D} {x : V} {u : Value}, Rep X.K fa F (.lst ds) x → RelV x u → ∃ a vs its, x = .ref a ∧ u = .ref a ∧ RepL X.K fa F ds vs ∧ Vals vs its ∧ s.heap.IsList a its.toArray := fun h r => by
      obtain ⟨a, vs, rfl, hi, hr⟩ := h
      cases r
      obtain ⟨its, rv, p, _⟩ := I.list (hi.sq S)
      exact ⟨a, vs, its, rfl, rfl, hr, rv, p.isList⟩
    cases d with
    | non =>
      subst h1; cases r1
      cases e with
      | non => cases h; subst h2; cases r2; exact SeqAt.EqAt.same _
      | bl _ => cases h; subst h2; cases r2; exact SeqAt.EqAt.none_bool _
      | int _ => cases h; subst h2; obtain ⟨_, rfl⟩ := r2; exact SeqAt.EqAt.none_int _ _
      | str _ => cases h; subst h2; obtain ⟨_, rfl⟩ := r2; exact SeqAt.EqAt.none_str _ _
      | tup _ => cases h; obtain ⟨_, _, _, _, rfl, _, _, p⟩ := tupI h2 r2; exact SeqAt.EqAt.none_tuple p hu
      | lst _ => cases h; obtain ⟨_, _, _, _, rfl, _, _, p⟩ := lstI h2 r2; exact SeqAt.EqAt.none_list p hu
      | dct _ => cases h
      | fn _ => cases h
      | exv _ => cases h
    | bl b =>
      subst h1; cases r1
      cases e with
      | non => cases h; subst h2; cases r2; exact SeqAt.EqAt.bool_none _
      | bl c => cases h; subst h2; cases r2; exact SeqAt.EqAt.bool_bool _ _
      | int _ => cases h
      | str _ => cases h; subst h2; obtain ⟨_, rfl⟩ := r2; exact SeqAt.EqAt.bool_str _ _ _
      | tup _ => cases h; obtain ⟨_, _, _, _, rfl, _, _, p⟩ := tupI h2 r2; exact SeqAt.EqAt.bool_tuple _ p hu
      | lst _ => cases h; obtain ⟨_, _, _, _, rfl, _, _, p⟩ := lstI h2 r2; exact SeqAt.EqAt.bool_list _ p hu
      | dct _ => cases h
      | fn _ => cases h
      | exv _ => cases h
    | int b =>
      subst h1; obtain ⟨_, rfl⟩ := r1
      cases e with
      | non => cases h; subst h2; cases r2; exact SeqAt.EqAt.int_none _ _
      | bl c => cases h
      | int c =>
        subst h2; obtain ⟨_, rfl⟩ := r2
        have h : some (eqI b c) = some t := h
        rw [← Option.some.inj h, eqI_beq]
        exact SeqAt.EqAt.int_int _ _ _ _
      | str _ => cases h; subst h2; obtain ⟨_, rfl⟩ := r2; exact SeqAt.EqAt.int_str _ _ _ _
      | tup _ => cases h; obtain ⟨_, _, _, _, rfl, _, _, p⟩ := tupI h2 r2; exact SeqAt.EqAt.int_tuple _ _ p hu
      | lst _ => cases h; obtain ⟨_, _, _, _, rfl, _, _, p⟩ := lstI h2 r2; exact SeqAt.EqAt.int_list _ _ p hu
      | dct _ => cases h
      | fn _ => cases h
      | exv _ => cases h
    | str b =>
      subst h1; obtain ⟨_, rfl⟩ := r1
      cases e with
      | non => cases h; subst h2; cases r2; exact SeqAt.EqAt.str_none _ _
      | bl c => cases h; subst h2; cases r2; exact SeqAt.EqAt.str_bool _ _ _
      | int c => cases h; subst h2; obtain ⟨_, rfl⟩ := r2; exact SeqAt.EqAt.str_int _ _ _ _
      | str c =>
        subst h2; obtain ⟨_, rfl⟩ := r2
        have h : some (eqNs b c) = some t := h
        rw [← Option.some.inj h, eqNs_beq]
        exact SeqAt.EqAt.str_str _ _ _ _
      | tup _ => cases h; obtain ⟨_, _, _, _, rfl, _, _, p⟩ := tupI h2 r2; exact SeqAt.EqAt.str_tuple _ _ p hu
      | lst _ => cases h; obtain ⟨_, _, _, _, rfl, _, _, p⟩ := lstI h2 r2; exact SeqAt.EqAt.str_list _ _ p hu
      | dct _ => cases h
      | fn _ => cases h
      | exv _ => cases h
    | tup ds =>
      cases e with
      | non => cases h; subst h2; cases r2; obtain ⟨_, _, _, _, rfl, _, _, p⟩ := tupI h1 r1; exact SeqAt.EqAt.tuple_none p hu
      | bl c => cases h; subst h2; cases r2; obtain ⟨_, _, _, _, rfl, _, _, p⟩ := tupI h1 r1; exact SeqAt.EqAt.tuple_bool _ p hu
      | int c => cases h; subst h2; obtain ⟨_, rfl⟩ := r2; obtain ⟨_, _, _, _, rfl, _, _, p⟩ := tupI h1 r1; exact SeqAt.EqAt.tuple_int _ _ p hu
      | str c => cases h; subst h2; obtain ⟨_, rfl⟩ := r2; obtain ⟨_, _, _, _, rfl, _, _, p⟩ := tupI h1 r1; exact SeqAt.EqAt.tuple_str _ _ p hu
      | tup es =>
        obtain ⟨a, vs, its, rfl, rfl, hr, rv, p⟩ := tupI h1 r1
        obtain ⟨b, vs', its', rfl, rfl, hr', rv', p'⟩ := tupI h2 r2
        by_cases hab : a = b
        · subst hab
          rw [eq_self I S (n + 1) _ _ _ t h1 h2 h]
          exact SeqAt.EqAt.same _
        · obtain ⟨e', he, ht⟩ := eqL_run (ih A.in1 hA1) ds es vs vs' its its' t hr hr' rv rv' h
          subst ht
          refine SeqAt.EqAt.of_refs hab ?_
          have := SeqAt.RcAt.tuples (e := e') p p' hu (fun j h1 h2 => by simpa using he j (by simpa using h1) (by simpa using h2))
          simpa using this
      | lst _ => cases h; obtain ⟨_, _, _, _, rfl, _, _, p⟩ := tupI h1 r1; obtain ⟨_, _, _, _, rfl, _, _, p'⟩ := lstI h2 r2; exact SeqAt.EqAt.tuple_list p p' hu
      | dct _ => cases h
      | fn _ => cases h
      | exv _ => cases h
    | lst ds =>
      cases e with
      | non => cases h; subst h2; cases r2; obtain ⟨_, _, _, _, rfl, _, _, p⟩ := lstI h1 r1; exact SeqAt.EqAt.list_none p hu
      | bl c => cases h; subst h2; cases r2; obtain ⟨_, _, _, _, rfl, _, _, p⟩ := lstI h1 r1; exact SeqAt.EqAt.list_bool _ p hu
      | int c => cases h; subst h2; obtain ⟨_, rfl⟩ := r2; obtain ⟨_, _, _, _, rfl, _, _, p⟩ := lstI h1 r1; exact SeqAt.EqAt.list_int _ _ p hu
      | str c => cases h; subst h2; obtain ⟨_, rfl⟩ := r2; obtain ⟨_, _, _, _, rfl, _, _, p⟩ := lstI h1 r1; exact SeqAt.EqAt.list_str _ _ p hu
      | tup _ => cases h; obtain ⟨_, _, _, _, rfl, _, _, p⟩ := lstI h1 r1; obtain ⟨_, _, _, _, rfl, _, _, p'⟩ := tupI h2 r2; exact SeqAt.EqAt.list_tuple p p' hu
      | lst es =>
        obtain ⟨a, vs, its, rfl, rfl, hr, rv, p⟩ := lstI h1 r1
        obtain ⟨b, vs', its', rfl, rfl, hr', rv', p'⟩ := lstI h2 r2
        by_cases hab : a = b
        · subst hab
          rw [eq_self I S (n + 1) _ _ _ t h1 h2 h]
          exact SeqAt.EqAt.same _
        · have h : (if sameLen ds es then eqL (eqD n) ds es else some false) = some t := h
          have l1 : its.length = ds.length := rv.length.symm.trans hr.length.symm
          have l2 : its'.length = es.length := rv'.length.symm.trans hr'.length.symm
          cases q : sameLen ds es with
          | false =>
            rw [q] at h
            cases h
            have hne : ¬ ds.length = es.length := fun z => by rw [(sameLen_iff _ _).mpr z] at q; cases q
            refine SeqAt.EqAt.of_refs hab (SeqAt.RcAt.lists_lengths p p' ?_ hu)
            simp [l1, l2, hne]
          | true =>
            rw [q] at h
            have hl := (sameLen_iff _ _).mp q
            obtain ⟨e', he, ht⟩ := eqL_run (ih A.in1 hA1) ds es vs vs' its its' t hr hr' rv rv' h
            refine SeqAt.EqAt.of_refs hab ?_
            have hz : its.length = its'.length := by rw [l1, l2, hl]
            have := SeqAt.RcAt.lists (e := e') p p' (by simpa using hz) hu (fun j h1 h2 => by simpa using he j (by simpa using h1) (by simpa using h2))
            rw [← ht, ← hz, Nat.min_self]
            simpa using this
      | dct _ => cases h
      | fn _ => cases h
      | exv _ => cases h
    | dct _ => cases e <;> cases h
    | fn _ => cases e <;> cases h
    | exv _ => cases e <;> cases h
end
end F
/-! F2c2: a == b, a != b of data as expressions. -/
namespace F
open PySem PySem.Spec PyProof.Rows L2
section
variable {X : Cx} {pins : List (Addr × Obj)} {σ : L2.St} {H F : Hp} {s : Shared} {fa : Nat → Option Addr}

theorem rc_at (I : Inv X pins σ H s) (S : Sub F H) : ∀ (n : Nat) (A : Around), A.units + n < cLine → ∀ (d e : D) (x y : V) (u w : Value) (t : Bool), Rep X.K fa F d x → Rep X.K fa F e y → RelV x u → RelV y w → eqD n d e = some t → SeqAt.RcAt A s u w t := by
  intro n
  cases n with
  | zero => intro A _ d e x y u w t _ _ _ _ h; cases h
  | succ n =>
    intro A hA d e x y u w t h1 h2 r1 r2 h
    have hu : A.units < cLine := by omega
    have hA1 : A.in1.units + n < cLine := by show A.units + 1 + n < cLine; omega
    have tupI : ∀ {ds : List D} {x : V} {u : Value}, Rep X.K fa F (.tup ds) x → RelV x u → ∃ a vs its, x = .ref a ∧ u = .ref a ∧ RepL X.K fa F ds vs ∧ Vals vs its ∧ s.heap.IsTuple a its.toArray := fun h r => by
      obtain ⟨a, vs, rfl, hi, hr⟩ := h
      cases r
      obtain ⟨its, rv, p, _⟩ := I.tuple (hi.sq S)
      exact ⟨a, vs, its, rfl, rfl, hr, rv, isTuple_of p⟩
    have lstI : ∀ {ds : List D} {x : V} {u : Value}, Rep X.K fa F (.lst ds) x → RelV x u → ∃ a vs its, x = .ref a ∧ u = .ref a ∧ RepL X.K fa F ds vs ∧ Vals vs its ∧ s.heap.IsList a its.toArray := fun h r => by
      obtain ⟨a, vs, rfl, hi, hr⟩ := h
      cases r
      obtain ⟨its, rv, p, _⟩ := I.list (hi.sq S)
      exact ⟨a, vs, its, rfl, rfl, hr, rv, p.isList⟩
    cases d with
    | non =>
      subst h1; cases r1
      cases e with
      | non => cases h; subst h2; cases r2; exact SeqAt.RcAt.none_none
      | bl _ => cases h; subst h2; cases r2; exact SeqAt.RcAt.none_bool _
      | int _ => cases h; subst h2; obtain ⟨_, rfl⟩ := r2; exact SeqAt.RcAt.none_int _ _
      | str _ => cases h; subst h2; obtain ⟨_, rfl⟩ := r2; exact SeqAt.RcAt.none_str _ _
      | tup _ => cases h; obtain ⟨_, _, _, _, rfl, _, _, p⟩ := tupI h2 r2; exact SeqAt.RcAt.none_tuple p hu
      | lst _ => cases h; obtain ⟨_, _, _, _, rfl, _, _, p⟩ := lstI h2 r2; exact SeqAt.RcAt.none_list p hu
      | dct _ => cases h
      | fn _ => cases h
      | exv _ => cases h
    | bl b =>
      subst h1; cases r1
      cases e with
      | non => cases h; subst h2; cases r2; exact SeqAt.RcAt.bool_none _
      | bl c => cases h; subst h2; cases r2; exact SeqAt.RcAt.bool_bool _ _
      | int _ => cases h
      | str _ => cases h; subst h2; obtain ⟨_, rfl⟩ := r2; exact SeqAt.RcAt.bool_str _ _ _
      | tup _ => cases h; obtain ⟨_, _, _, _, rfl, _, _, p⟩ := tupI h2 r2; exact SeqAt.RcAt.bool_tuple _ p hu
      | lst _ => cases h; obtain ⟨_, _, _, _, rfl, _, _, p⟩ := lstI h2 r2; exact SeqAt.RcAt.bool_list _ p hu
      | dct _ => cases h
      | fn _ => cases h
      | exv _ => cases h
    | int b =>
      subst h1; obtain ⟨_, rfl⟩ := r1
      cases e with
      | non => cases h; subst h2; cases r2; exact SeqAt.RcAt.int_none _ _
      | bl c => cases h
      | int c =>
        subst h2; obtain ⟨_, rfl⟩ := r2
        have h : some (eqI b c) = some t := h
        rw [← Option.some.inj h, eqI_beq]
        exact SeqAt.RcAt.int_int _ _ _ _
      | str _ => cases h; subst h2; obtain ⟨_, rfl⟩ := r2; exact SeqAt.RcAt.int_str _ _ _ _
      | tup _ => cases h; obtain ⟨_, _, _, _, rfl, _, _, p⟩ := tupI h2 r2; exact SeqAt.RcAt.int_tuple _ _ p hu
      | lst _ => cases h; obtain ⟨_, _, _, _, rfl, _, _, p⟩ := lstI h2 r2; exact SeqAt.RcAt.int_list _ _ p hu
      | dct _ => cases h
      | fn _ => cases h
      | exv _ => cases h
    | str b =>
      subst h1; obtain ⟨_, rfl⟩ := r1
      cases e with
      | non => cases h; subst h2; cases r2; exact SeqAt.RcAt.str_none _ _
      | bl c => cases h; subst h2; cases r2; exact SeqAt.RcAt.str_bool _ _ _
      | int c => cases h; subst h2; obtain ⟨_, rfl⟩ := r2; exact SeqAt.RcAt.str_int _ _ _ _
      | str c =>
        subst h2; obtain ⟨_, rfl⟩ := r2
        have h : some (eqNs b c) = some t := h
        rw [← Option.some.inj h, eqNs_beq]
        exact SeqAt.RcAt.str_str _ _ _ _
      | tup _ => cases h; obtain ⟨_, _, _, _, rfl, _, _, p⟩ := tupI h2 r2; exact SeqAt.RcAt.str_tuple _ _ p hu
      | lst _ => cases h; obtain ⟨_, _, _, _, rfl, _, _, p⟩ := lstI h2 r2; exact SeqAt.RcAt.str_list _ _ p hu
      | dct _ => cases h
      | fn _ => cases h
      | exv _ => cases h
    | tup ds =>
      cases e with
      | non => cases h; subst h2; cases r2; obtain ⟨_, _, _, _, rfl, _, _, p⟩ := tupI h1 r1; exact SeqAt.RcAt.tuple_none p hu
      | bl c => cases h; subst h2; cases r2; obtain ⟨_, _, _, _, rfl, _, _, p⟩ := tupI h1 r1; exact SeqAt.RcAt.tuple_bool _ p hu
      | int c => cases h; subst h2; obtain ⟨_, rfl⟩ := r2; obtain ⟨_, _, _, _, rfl, _, _, p⟩ := tupI h1 r1; exact SeqAt.RcAt.tuple_int _ _ p hu
      | str c => cases h; subst h2; obtain ⟨_, rfl⟩ := r2; obtain ⟨_, _, _, _, rfl, _, _, p⟩ := tupI h1 r1; exact SeqAt.RcAt.tuple_str _ _ p hu
      | tup es =>
        obtain ⟨a, vs, its, rfl, rfl, hr, rv, p⟩ := tupI h1 r1
        obtain ⟨b, vs', its', rfl, rfl, hr', rv', p'⟩ := tupI h2 r2
        obtain ⟨e', he, ht⟩ := eqL_run (eq_at (fa := fa) I S n A.in1 hA1) ds es vs vs' its its' t hr hr' rv rv' h
        subst ht
        have := SeqAt.RcAt.tuples (e := e') p p' hu (fun j h1 h2 => by simpa using he j (by simpa using h1) (by simpa using h2))
        simpa using this
      | lst _ => cases h; obtain ⟨_, _, _, _, rfl, _, _, p⟩ := tupI h1 r1; obtain ⟨_, _, _, _, rfl, _, _, p'⟩ := lstI h2 r2; exact SeqAt.RcAt.tuple_list p p' hu
      | dct _ => cases h
      | fn _ => cases h
      | exv _ => cases h
    | lst ds =>
      cases e with
      | non => cases h; subst h2; cases r2; obtain ⟨_, _, _, _, rfl, _, _, p⟩ := lstI h1 r1; exact SeqAt.RcAt.list_none p hu
      | bl c => cases h; subst h2; cases r2; obtain ⟨_, _, _, _, rfl, _, _, p⟩ := lstI h1 r1; exact SeqAt.RcAt.list_bool _ p hu
      | int c => cases h; subst h2; obtain ⟨_, rfl⟩ := r2; obtain ⟨_, _, _, _, rfl, _, _, p⟩ := lstI h1 r1; exact SeqAt.RcAt.list_int _ _ p hu
      | str c => cases h; subst h2; obtain ⟨_, rfl⟩ := r2; obtain ⟨_, _, _, _, rfl, _, _, p⟩ := lstI h1 r1; exact SeqAt.RcAt.list_str _ _ p hu
      | tup _ => cases h; obtain ⟨_, _, _, _, rfl, _, _, p⟩ := lstI h1 r1; obtain ⟨_, _, _, _, rfl, _, _, p'⟩ := tupI h2 r2; exact SeqAt.RcAt.list_tuple p p' hu
      | lst es =>
        obtain ⟨a, vs, its, rfl, rfl, hr, rv, p⟩ := lstI h1 r1
        obtain ⟨b, vs', its', rfl, rfl, hr', rv', p'⟩ := lstI h2 r2
        have h : (if sameLen ds es then eqL (eqD n) ds es else some false) = some t := h
        have l1 : its.length = ds.length := rv.length.symm.trans hr.length.symm
        have l2 : its'.length = es.length := rv'.length.symm.trans hr'.length.symm
        cases q : sameLen ds es with
        | false =>
          rw [q] at h
          cases h
          have hne : ¬ ds.length = es.length := fun z => by rw [(sameLen_iff _ _).mpr z] at q; cases q
          refine SeqAt.RcAt.lists_lengths p p' ?_ hu
          simp [l1, l2, hne]
        | true =>
          rw [q] at h
          have hl := (sameLen_iff _ _).mp q
          obtain ⟨e', he, ht⟩ := eqL_run (eq_at (fa := fa) I S n A.in1 hA1) ds es vs vs' its its' t hr hr' rv rv' h
          have hz : its.length = its'.length := by rw [l1, l2, hl]
          have := SeqAt.RcAt.lists (e := e') p p' (by simpa using hz) hu (fun j h1 h2 => by simpa using he j (by simpa using h1) (by simpa using h2))
          rw [← ht, ← hz, Nat.min_self]
          simpa using this
      | dct _ => cases h
      | fn _ => cases h
      | exv _ => cases h
    | dct _ => cases e <;> cases h
    | fn _ => cases e <;> cases h
    | exv _ => cases e <;> cases h

theorem rcne_at (I : Inv X pins σ H s) (S : Sub F H) : ∀ (n : Nat) (A : Around), A.units + n < cLine → ∀ (d e : D) (x y : V) (u w : Value) (t : Bool), Rep X.K fa F d x → Rep X.K fa F e y → RelV x u → RelV y w → eqD n d e = some t → SeqAt.RcNeAt A s u w (!t) := by
  intro n
  cases n with
  | zero => intro A _ d e x y u w t _ _ _ _ h; cases h
  | succ n =>
    intro A hA d e x y u w t h1 h2 r1 r2 h
    have hu : A.units < cLine := by omega
    have hA1 : A.in1.units + n < cLine := by show A.units + 1 + n < cLine; omega
    have tupI : ∀ {ds : List D} {x : V} {u : Value}, Rep X.K fa F (.tup ds) x → RelV x u → ∃ a vs its, x = .ref a ∧ u = .ref a ∧ RepL X.K fa F ds vs ∧ Vals vs its ∧ s.heap.IsTuple a its.toArray := fun h r => by
      obtain ⟨a, vs, rfl, hi, hr⟩ := h
      cases r
      obtain ⟨its, rv, p, _⟩ := I.tuple (hi.sq S)
      exact ⟨a, vs, its, rfl, rfl, hr, rv, isTuple_of p⟩
    have lstI : ∀ {ds : List D} {x : V} {u : Value}, Rep X.K fa F (.lst ds) x → RelV x u → ∃ a vs its, x = .ref a ∧ u = .ref a ∧ RepL X.K fa F ds vs ∧ Vals vs its ∧ s.heap.IsList a its.toArray := fun h r => by
      obtain ⟨a, vs, rfl, hi, hr⟩ := h
      cases r
      obtain ⟨its, rv, p, _⟩ := I.list (hi.sq S)
      exact ⟨a, vs, its, rfl, rfl, hr, rv, p.isList⟩
    cases d with
    | non =>
      subst h1; cases r1
      cases e with
      | non => cases h; subst h2; cases r2; exact SeqAt.RcNeAt.none_none
      | bl _ => cases h; subst h2; cases r2; exact SeqAt.RcNeAt.none_bool _
      | int _ => cases h; subst h2; obtain ⟨_, rfl⟩ := r2; exact SeqAt.RcNeAt.none_int _ _
      | str _ => cases h; subst h2; obtain ⟨_, rfl⟩ := r2; exact SeqAt.RcNeAt.none_str _ _
      | tup _ => cases h; obtain ⟨_, _, _, _, rfl, _, _, p⟩ := tupI h2 r2; exact SeqAt.RcNeAt.none_tuple p hu
      | lst _ => cases h; obtain ⟨_, _, _, _, rfl, _, _, p⟩ := lstI h2 r2; exact SeqAt.RcNeAt.none_list p hu
      | dct _ => cases h
      | fn _ => cases h
      | exv _ => cases h
    | bl b =>
      subst h1; cases r1
      cases e with
      | non => cases h; subst h2; cases r2; exact SeqAt.RcNeAt.bool_none _
      | bl c => cases h; subst h2; cases r2; exact SeqAt.RcNeAt.bool_bool _ _
      | int _ => cases h
      | str _ => cases h; subst h2; obtain ⟨_, rfl⟩ := r2; exact SeqAt.RcNeAt.bool_str _ _ _
      | tup _ => cases h; obtain ⟨_, _, _, _, rfl, _, _, p⟩ := tupI h2 r2; exact SeqAt.RcNeAt.bool_tuple _ p hu
      | lst _ => cases h; obtain ⟨_, _, _, _, rfl, _, _, p⟩ := lstI h2 r2; exact SeqAt.RcNeAt.bool_list _ p hu
      | dct _ => cases h
      | fn _ => cases h
      | exv _ => cases h
    | int b =>
      subst h1; obtain ⟨_, rfl⟩ := r1
      cases e with
      | non => cases h; subst h2; cases r2; exact SeqAt.RcNeAt.int_none _ _
      | bl c => cases h
      | int c =>
        subst h2; obtain ⟨_, rfl⟩ := r2
        have h : some (eqI b c) = some t := h
        rw [← Option.some.inj h, eqI_beq]
        exact SeqAt.RcNeAt.int_int _ _ _ _
      | str _ => cases h; subst h2; obtain ⟨_, rfl⟩ := r2; exact SeqAt.RcNeAt.int_str _ _ _ _
      | tup _ => cases h; obtain ⟨_, _, _, _, rfl, _, _, p⟩ := tupI h2 r2; exact SeqAt.RcNeAt.int_tuple _ _ p hu
      | lst _ => cases h; obtain ⟨_, _, _, _, rfl, _, _, p⟩ := lstI h2 r2; exact SeqAt.RcNeAt.int_list _ _ p hu
      | dct _ => cases h
      | fn _ => cases h
      | exv _ => cases h
    | str b =>
      subst h1; obtain ⟨_, rfl⟩ := r1
      cases e with
      | non => cases h; subst h2; cases r2; exact SeqAt.RcNeAt.str_none _ _
      | bl c => cases h; subst h2; cases r2; exact SeqAt.RcNeAt.str_bool _ _ _
      | int c => cases h; subst h2; obtain ⟨_, rfl⟩ := r2; exact SeqAt.RcNeAt.str_int _ _ _ _
      | str c =>
        subst h2; obtain ⟨_, rfl⟩ := r2
        have h : some (eqNs b c) = some t := h
        rw [← Option.some.inj h, eqNs_beq]
        exact SeqAt.RcNeAt.str_str _ _ _ _
      | tup _ => cases h; obtain ⟨_, _, _, _, rfl, _, _, p⟩ := tupI h2 r2; exact SeqAt.RcNeAt.str_tuple _ _ p hu
      | lst _ => cases h; obtain ⟨_, _, _, _, rfl, _, _, p⟩ := lstI h2 r2; exact SeqAt.RcNeAt.str_list _ _ p hu
      | dct _ => cases h
      | fn _ => cases h
      | exv _ => cases h
    | tup ds =>
      cases e with
      | non => cases h; subst h2; cases r2; obtain ⟨_, _, _, _, rfl, _, _, p⟩ := tupI h1 r1; exact SeqAt.RcNeAt.tuple_none p hu
      | bl c => cases h; subst h2; cases r2; obtain ⟨_, _, _, _, rfl, _, _, p⟩ := tupI h1 r1; exact SeqAt.RcNeAt.tuple_bool _ p hu
      | int c => cases h; subst h2; obtain ⟨_, rfl⟩ := r2; obtain ⟨_, _, _, _, rfl, _, _, p⟩ := tupI h1 r1; exact SeqAt.RcNeAt.tuple_int _ _ p hu
      | str c => cases h; subst h2; obtain ⟨_, rfl⟩ := r2; obtain ⟨_, _, _, _, rfl, _, _, p⟩ := tupI h1 r1; exact SeqAt.RcNeAt.tuple_str _ _ p hu
      | tup es =>
        obtain ⟨a, vs, its, rfl, rfl, hr, rv, p⟩ := tupI h1 r1
        obtain ⟨b, vs', its', rfl, rfl, hr', rv', p'⟩ := tupI h2 r2
        obtain ⟨e', he, ht⟩ := eqL_run (eq_at (fa := fa) I S n A.in1 hA1) ds es vs vs' its its' t hr hr' rv rv' h
        subst ht
        have := SeqAt.RcNeAt.tuples (e := e') p p' hu (fun j h1 h2 => by simpa using he j (by simpa using h1) (by simpa using h2))
        simpa using this
      | lst _ => cases h; obtain ⟨_, _, _, _, rfl, _, _, p⟩ := tupI h1 r1; obtain ⟨_, _, _, _, rfl, _, _, p'⟩ := lstI h2 r2; exact SeqAt.RcNeAt.tuple_list p p' hu
      | dct _ => cases h
      | fn _ => cases h
      | exv _ => cases h
    | lst ds =>
      cases e with
      | non => cases h; subst h2; cases r2; obtain ⟨_, _, _, _, rfl, _, _, p⟩ := lstI h1 r1; exact SeqAt.RcNeAt.list_none p hu
      | bl c => cases h; subst h2; cases r2; obtain ⟨_, _, _, _, rfl, _, _, p⟩ := lstI h1 r1; exact SeqAt.RcNeAt.list_bool _ p hu
      | int c => cases h; subst h2; obtain ⟨_, rfl⟩ := r2; obtain ⟨_, _, _, _, rfl, _, _, p⟩ := lstI h1 r1; exact SeqAt.RcNeAt.list_int _ _ p hu
      | str c => cases h; subst h2; obtain ⟨_, rfl⟩ := r2; obtain ⟨_, _, _, _, rfl, _, _, p⟩ := lstI h1 r1; exact SeqAt.RcNeAt.list_str _ _ p hu
      | tup _ => cases h; obtain ⟨_, _, _, _, rfl, _, _, p⟩ := lstI h1 r1; obtain ⟨_, _, _, _, rfl, _, _, p'⟩ := tupI h2 r2; exact SeqAt.RcNeAt.list_tuple p p' hu
      | lst es =>
        obtain ⟨a, vs, its, rfl, rfl, hr, rv, p⟩ := lstI h1 r1
        obtain ⟨b, vs', its', rfl, rfl, hr', rv', p'⟩ := lstI h2 r2
        have h : (if sameLen ds es then eqL (eqD n) ds es else some false) = some t := h
        have l1 : its.length = ds.length := rv.length.symm.trans hr.length.symm
        have l2 : its'.length = es.length := rv'.length.symm.trans hr'.length.symm
        cases q : sameLen ds es with
        | false =>
          rw [q] at h
          cases h
          have hne : ¬ ds.length = es.length := fun z => by rw [(sameLen_iff _ _).mpr z] at q; cases q
          refine SeqAt.RcNeAt.lists_lengths p p' ?_ hu
          simp [l1, l2, hne]
        | true =>
          rw [q] at h
          have hl := (sameLen_iff _ _).mp q
          obtain ⟨e', he, ht⟩ := eqL_run (eq_at (fa := fa) I S n A.in1 hA1) ds es vs vs' its its' t hr hr' rv rv' h
          have hz : its.length = its'.length := by rw [l1, l2, hl]
          have := SeqAt.RcNeAt.lists (e := e') p p' (by simpa using hz) hu (fun j h1 h2 => by simpa using he j (by simpa using h1) (by simpa using h2))
          rw [← ht, ← hz, Nat.min_self]
          simpa using this
      | dct _ => cases h
      | fn _ => cases h
      | exv _ => cases h
    | dct _ => cases e <;> cases h
    | fn _ => cases e <;> cases h
    | exv _ => cases e <;> cases h
end
end F
/-! F2d: the state: Sim; what may happen to it: Adv; freezing. -/
namespace F
open PySem PySem.Spec PyProof.Rows L2
abbrev St := L2.St
/-- what the context says of the text: the written part, where functions and classes of errors stand -/
structure Gm where
  K : Frag
  fa : Nat → Option Addr
  ea : Nat → Option Addr
/-- the state at a def's entry: heap, frozen part, lent objects -/
structure Base where
  H : Hp
  F : Hp
  L : List Addr
/-- the content of one object, its items frozen -/
def Own1 (g : Gm) (F H : Hp) (a : Addr) : D → Prop
  | .lst ds => ∃ vs, H a = some (.lst vs) ∧ RepL g.K g.fa F ds vs
  | .dct kvs => ∃ ks, H a = some (.dK ks) ∧ RepK g.K g.fa F kvs ks
  | _ => False
def imm : D → Bool
  | .lst _ => false
  | .dct _ => false
  | _ => true
abbrev Rp (g : Gm) (F : Hp) (d : D) (v : V) : Prop := Rep g.K g.fa F d v
/-- a value whose object nobody else knows -/
def OwnS (g : Gm) (B : Base) (F H : Hp) (d : D) (v : V) : Prop := (∃ a, v = .ref a ∧ Own1 g F H a d ∧ F a = none ∧ (B.H a = none ∨ a ∈ B.L)) ∨ (imm d = true ∧ Rp g F d v)
structure Sim (g : Gm) (B : Base) (F : Hp) (mv ow : List Nat) (r m : Env) (σ : St) (H : Hp) : Prop where
  sub : Sub F H
  fr : ∀ a o, B.H a = some o → a ∉ B.L → H a = some o
  ls : ∀ a, a ∈ B.L → B.H a ≠ none → H a ≠ none
  gr : ∀ a, B.H a ≠ none → F a = B.F a
  rr : ∀ i d, getS r i = some d → i ∉ mv ∧ ∃ v, σ[i]? = some (some v) ∧ Rp g F d v
  mm : ∀ i d, getS m i = some d → i ∈ mv ∧ ∃ v, σ[i]? = some (some v) ∧ ((i ∈ ow → OwnS g B F H d v) ∧ (i ∉ ow → Rp g F d v))
  ap : ∀ i j d e a, i ∈ ow → j ∈ ow → i ≠ j → getS m i = some d → getS m j = some e → imm d = false → imm e = false → σ[i]? = some (some (.ref a)) → σ[j]? = some (some (.ref a)) → False
  lr : r.length = σ.length
  lm : m.length = σ.length
/-- objects are only added; what is frozen anew is new -/
structure Adv (F H F' H' : Hp) : Prop where
  sub : Sub F' H'
  keep : ∀ a o, H a = some o → H' a = some o
  grow : ∀ a, H a ≠ none → F' a = F a
theorem Sub.there {F H : Hp} (s : Sub F H) {a : Addr} {o : HO} (e : F a = some o) : H a ≠ none := by
  rcases s a o e with h | ⟨_, u, h⟩ <;> rw [h] <;> exact fun z => by cases z
theorem Adv.le {F H F' H' : Hp} (s : Sub F H) (a : Adv F H F' H') : Le F F' := fun b o e => by
  rw [a.grow b (s.there e)]; exact e
theorem Adv.refl {F H : Hp} (s : Sub F H) : Adv F H F H := ⟨s, fun _ _ h => h, fun _ _ => rfl⟩
theorem Adv.trans {F H F1 H1 F2 H2 : Hp} (a : Adv F H F1 H1) (b : Adv F1 H1 F2 H2) : Adv F H F2 H2 :=
  ⟨b.sub, fun c o h => b.keep c o (a.keep c o h), fun c h => by
    have h1 : H1 c ≠ none := by
      cases q : H c with
      | none => exact absurd q h
      | some o => rw [a.keep c o q]; exact fun z => by cases z
    rw [b.grow c h1, a.grow c h]⟩
/-- an object is laid, and frozen -/
theorem Adv.frozen {F H : Hp} (s : Sub F H) {p : Addr} {o : HO} (n : H p = none) : Adv F H (upd F p o) (upd H p o) := by
  refine ⟨fun a u e => ?_, fun a u e => ?_, fun a h => ?_⟩
  · by_cases q : a = p
    · subst q; rw [upd_same] at e; cases e; exact .inl upd_same
    · rw [upd_ne q] at e
      rcases s a u e with h | ⟨kd, w, h⟩
      · exact .inl (by rw [upd_ne q]; exact h)
      · exact .inr ⟨kd, w, by rw [upd_ne q]; exact h⟩
  · rw [upd_ne (ne_of_none e n)]; exact e
  · have q : a ≠ p := fun z => by subst z; exact h n
    rw [upd_ne q]
/-- an object is laid, and not frozen -/
theorem Adv.laid {F H : Hp} (s : Sub F H) {p : Addr} {o : HO} (n : H p = none) : Adv F H F (upd H p o) := by
  refine ⟨fun a u e => ?_, fun a u e => ?_, fun a h => rfl⟩
  · have q : a ≠ p := fun z => by subst z; exact s.there e n
    rcases s a u e with h | ⟨kd, w, h⟩
    · exact .inl (by rw [upd_ne q]; exact h)
    · exact .inr ⟨kd, w, by rw [upd_ne q]; exact h⟩
  · rw [upd_ne (ne_of_none e n)]; exact e
theorem Sub.none {F H : Hp} (s : Sub F H) {p : Addr} (n : H p = none) : F p = none := by
  cases q : F p with
  | none => rfl
  | some o => exact absurd n (s.there q)
theorem Own1.mono {g : Gm} {F F' H H' : Hp} {a : Addr} {d : D} (h : Own1 g F H a d) (l : Le F F') (k : ∀ o, H a = some o → H' a = some o) : Own1 g F' H' a d := by
  cases d with
  | lst ds => obtain ⟨vs, e, r⟩ := h; exact ⟨vs, k _ e, r.mono l⟩
  | dct kvs => obtain ⟨ks, e, r⟩ := h; exact ⟨ks, k _ e, r.mono l⟩
  | _ => exact h.elim
theorem Own1.there {g : Gm} {F H : Hp} {a : Addr} {d : D} (h : Own1 g F H a d) : H a ≠ none := by
  cases d with
  | lst ds => obtain ⟨vs, e, r⟩ := h; rw [e]; exact fun z => by cases z
  | dct kvs => obtain ⟨ks, e, r⟩ := h; rw [e]; exact fun z => by cases z
  | _ => exact h.elim
theorem Own1.mut {g : Gm} {F H : Hp} {a : Addr} {d : D} (h : Own1 g F H a d) : imm d = false := by
  cases d with
  | lst ds => rfl
  | dct kvs => rfl
  | _ => exact h.elim
/-- frozen where it stands -/
theorem Own1.freeze {g : Gm} {F H : Hp} {a : Addr} {d : D} (h : Own1 g F H a d) (s : Sub F H) (n : F a = none) :
    ∃ o, H a = some o ∧ Sub (upd F a o) H ∧ Le F (upd F a o) ∧ Rp g (upd F a o) d (.ref a) := by
  have le : ∀ o, Le F (upd F a o) := fun o b u e => by
    rw [upd_ne (ne_of_none e n)]; exact e
  have sb : ∀ o, H a = some o → Sub (upd F a o) H := fun o e b u q => by
    by_cases z : b = a
    · subst z; rw [upd_same] at q; cases q; exact .inl e
    · rw [upd_ne z] at q; exact s b u q
  cases d with
  | lst ds =>
    obtain ⟨vs, e, r⟩ := h
    exact ⟨_, e, sb _ e, le _, a, vs, rfl, upd_same, r.mono (le _)⟩
  | dct kvs =>
    obtain ⟨ks, e, r⟩ := h
    exact ⟨_, e, sb _ e, le _, a, ks, rfl, upd_same, r.mono (le _)⟩
  | _ => exact h.elim
section
variable {g : Gm} {B : Base} {F H F' H' : Hp} {mv ow : List Nat} {r m : Env} {σ : St}
theorem OwnS.mono {d : D} {v : V} (h : OwnS g B F H d v) (s : Sub F H) (l : Le F F') (k : ∀ a o, H a = some o → H' a = some o) (n : ∀ a, H a ≠ none → F' a = F a) : OwnS g B F' H' d v := by
  rcases h with ⟨a, e, o, f, b⟩ | ⟨i, p⟩
  · exact .inl ⟨a, e, o.mono l (k a), by rw [n a o.there]; exact f, b⟩
  · exact .inr ⟨i, p.mono l⟩
theorem Sim.bthere (S : Sim g B F mv ow r m σ H) {a : Addr} (h : B.H a ≠ none) : H a ≠ none := by
  by_cases q : a ∈ B.L
  · exact S.ls a q h
  · cases e : B.H a with
    | none => exact absurd e h
    | some o => rw [S.fr a o e q]; exact fun z => by cases z
theorem Sim.step (S : Sim g B F mv ow r m σ H) (a : Adv F H F' H') : Sim g B F' mv ow r m σ H' := by
  have l := a.le S.sub
  refine ⟨a.sub, fun b o e n => a.keep b o (S.fr b o e n), fun b hb h => ?_, fun b h => ?_, fun i d e => ?_, fun i d e => ?_, S.ap, S.lr, S.lm⟩
  · cases q : H b with
    | none => exact absurd q (S.ls b hb h)
    | some o => rw [a.keep b o q]; exact fun z => by cases z
  · rw [a.grow b (S.bthere h), S.gr b h]
  · obtain ⟨q, v, h1, h2⟩ := S.rr i d e
    exact ⟨q, v, h1, h2.mono l⟩
  · obtain ⟨q, v, h1, h2, h3⟩ := S.mm i d e
    exact ⟨q, v, h1, fun z => (h2 z).mono S.sub l a.keep a.grow, fun z => (h3 z).mono l⟩
/-- slot i's object becomes one that others may know -/
theorem Sim.freeze (S : Sim g B F mv ow r m σ H) (i : Nat) (hL : B.L = []) : ∃ F', Le F F' ∧ Sim g B F' mv (ow.filter (· != i)) r m σ H ∧ ∀ a, (∀ d, getS m i = some d → imm d = false → σ[i]? ≠ some (some (.ref a))) → F' a = F a := by
  have mem : ∀ j, j ∈ ow.filter (· != i) ↔ j ∈ ow ∧ j ≠ i := fun j => by simp [List.mem_filter]
  by_cases hi : i ∈ ow
  · cases hm : getS m i with
    | none =>
      refine ⟨F, Le.refl F, ⟨S.sub, S.fr, S.ls, S.gr, S.rr, fun j d e => ?_, fun j k d e a h1 h2 => S.ap j k d e a ((mem j).mp h1).1 ((mem k).mp h2).1, S.lr, S.lm⟩, fun _ _ => rfl⟩
      obtain ⟨q, v, h1, h2, h3⟩ := S.mm j d e
      have hj : j ≠ i := fun z => by subst z; rw [hm] at e; cases e
      exact ⟨q, v, h1, fun z => h2 ((mem j).mp z).1, fun z => h3 fun z' => z ((mem j).mpr ⟨z', hj⟩)⟩
    | some d =>
      obtain ⟨q, v, h1, h2, h3⟩ := S.mm i d hm
      rcases h2 hi with ⟨a, rfl, o, f, b⟩ | ⟨im, p⟩
      · obtain ⟨ob, e, sb, le, rp⟩ := o.freeze S.sub f
        have bn : B.H a = none := by
          rcases b with b | b
          · exact b
          · rw [hL] at b; cases b
        refine ⟨upd F a ob, le, ⟨sb, S.fr, S.ls, fun c h => ?_, fun j d e => ?_, fun j d' e' => ?_, fun j k d e a h1 h2 => S.ap j k d e a ((mem j).mp h1).1 ((mem k).mp h2).1, S.lr, S.lm⟩, fun c h => upd_ne fun z => h d rfl o.mut (by rw [z]; exact h1)⟩
        · have hc : c ≠ a := fun z => by subst z; exact h bn
          rw [upd_ne hc]; exact S.gr c h
        · obtain ⟨q, v, h1, h2⟩ := S.rr j d e
          exact ⟨q, v, h1, h2.mono le⟩
        · obtain ⟨q', v', g1, g2, g3⟩ := S.mm j d' e'
          refine ⟨q', v', g1, fun z => ?_, fun z => ?_⟩
          · obtain ⟨zj, hj⟩ := (mem j).mp z
            rcases g2 zj with ⟨c, rfl, o', f', b'⟩ | ⟨im, p⟩
            · refine .inl ⟨c, rfl, o'.mono le fun _ h => h, ?_, b'⟩
              have hc : c ≠ a := fun z => by
                subst z
                exact S.ap j i d' d c zj hi hj e' hm o'.mut o.mut g1 h1
              rw [upd_ne hc]; exact f'
            · exact .inr ⟨im, p.mono le⟩
          · by_cases hj : j = i
            · subst hj
              rw [hm] at e'; cases e'
              rw [h1] at g1; cases g1
              exact rp
            · exact (g3 fun z' => z ((mem j).mpr ⟨z', hj⟩)).mono le
      · refine ⟨F, Le.refl F, ⟨S.sub, S.fr, S.ls, S.gr, S.rr, fun j d' e' => ?_, fun j k d e a h1 h2 => S.ap j k d e a ((mem j).mp h1).1 ((mem k).mp h2).1, S.lr, S.lm⟩, fun _ _ => rfl⟩
        obtain ⟨q', v', g1, g2, g3⟩ := S.mm j d' e'
        refine ⟨q', v', g1, fun z => g2 ((mem j).mp z).1, fun z => ?_⟩
        by_cases hj : j = i
        · subst hj
          rw [hm] at e'; cases e'
          rw [h1] at g1; cases g1
          exact p
        · exact g3 fun z' => z ((mem j).mpr ⟨z', hj⟩)
  · refine ⟨F, Le.refl F, ⟨S.sub, S.fr, S.ls, S.gr, S.rr, fun j d e => ?_, fun j k d e a h1 h2 => S.ap j k d e a ((mem j).mp h1).1 ((mem k).mp h2).1, S.lr, S.lm⟩, fun _ _ => rfl⟩
    obtain ⟨q, v, h1, h2, h3⟩ := S.mm j d e
    exact ⟨q, v, h1, fun z => h2 ((mem j).mp z).1, fun z => h3 fun z' => z ((mem j).mpr ⟨z', fun w => hi (w ▸ z')⟩)⟩
end
end F
/-! F2t: tuples whose object is known (no dict of their own). -/
namespace F
open PySem PySem.Spec PyProof.Rows L2
/-- a new tuple, in every way it may be known -/
def mkT (xs : List V) (Q : VK) (H : Hp) : Prop := ∀ p o, o.dict = none → H p = none → Q (.ref p) (upd H p (.frz o (.tup xs)))
section
variable {X : Cx} {pins : List (Addr × Obj)} {σ : L2.St} {H : Hp} {s : Shared} {Q : VK}
theorem Inv.laidT {h' : Heap} {t' : Nat} {a : Addr} {xs : List V} {its : List Value} (I : Inv X pins σ H s) (kp : ∀ b u, s.heap.get? b = some u → h'.get? b = some u) (hp : s.heap.objs.size ≤ a) (r : Vals xs its) (z : xs.length ≤ sizeLine)
    (e : h'.get? a = some { cls := .type "tuple", data := .seq its.toArray }) : Inv X pins σ (upd H a (.frz { cls := .type "tuple", data := .seq its.toArray } (.tup xs))) { s with heap := h', toks := t' } :=
  I.laid kp hp ⟨e, z, its, r, _, e, rfl, _, rfl⟩
theorem endT {its : List Value} {xs : List V} (I : Inv X pins σ H s) (r : Vals xs its) (z : xs.length ≤ sizeLine) (q : mkT xs Q H) : EP X pins σ Q (.ref s.heap.objs.size) { s with heap := s.heap.push { cls := .type "tuple", data := .seq its.toArray } } :=
  ⟨.ref s.heap.objs.size, _, Inv.laidT (t' := s.toks) I (fun b u e => Heap.get?_push_of_some _ e) (Nat.le_refl _) r z (Heap.get?_push_size _ rfl), rfl, q _ _ rfl (I.hok.fresh (Nat.le_refl _))⟩
def tTupF (t : TA) : TE := fun σ H Q => t σ H fun xs H1 => xs.length ≤ sizeLine ∧ mkT xs Q H1
theorem pe_tupF {es : List Expr} {t : TA} {k : Nat} {pos : Pos} (h : PA X es t) : PE X (.Tuple es k pos) (tTupF t) := ⟨fun pins s σ H Q I hq =>
  wpAny_Tuple_spliced (thn (h.run pos pins s σ H _ I hq) fun us s1 ⟨xs, H1, I1, r, z, q⟩ => ⟨by rw [← r.length]; exact z, endT I1 r z q⟩)⟩
theorem call_tupleF : CallR X (.type "tuple") (fun xs H Q => ∃ p ys, xs = [.ref p] ∧ ((SqL X.K H p ys ∧ mkT ys Q H) ∨ (SqT X.K H p ys ∧ Q (.ref p) H))) := by
  intro pins s σ H xs us Q I r h
  obtain ⟨p, ys, rfl, h⟩ := h
  obtain ⟨u, rfl, rx⟩ := vals1 r
  cases rx
  rcases h with ⟨hq, q⟩ | ⟨hq, q⟩
  · obtain ⟨its, r', pl, hz⟩ := I.list hq
    refine call_tuple_list pl.isList (fun h' kp => ?_) (by rw [List.size_toArray, ← r'.length]; exact hz)
    have I1 : Inv X pins σ H { s with heap := h' } := I.kept (t' := s.toks) kp
    exact endT I1 r' hz q
  · obtain ⟨its, r', pl, hz⟩ := I.tuple hq
    exact call_tuple_same pl ⟨.ref p, H, I, rfl, q⟩
def rCatF (K : Frag) : R2 := fun x y H Q => ∃ a b xs ys, x = .ref a ∧ y = .ref b ∧ SqT K H a xs ∧ SqT K H b ys ∧ xs.length + ys.length ≤ sizeLine ∧ (xs = [] → Q (.ref b) H) ∧ (xs ≠ [] → ys = [] → Q (.ref a) H) ∧ (xs ≠ [] → ys ≠ [] → mkT (xs ++ ys) Q H)
theorem op_catF : OpR X (binaryOp .Add) (rCatF X.K) := by
  intro pins s σ H x y v u Q I rx ry h
  obtain ⟨a, b, xs, ys, rfl, rfl, ha, hb, hz, q0, q1, q2⟩ := h
  cases rx
  cases ry
  obtain ⟨its, r1, p1, _⟩ := I.tuple ha
  obtain ⟨its2, r2, p2, _⟩ := I.tuple hb
  by_cases hx : xs = []
  · subst hx
    cases r1
    exact cat_tup0 p1 p2 ⟨.ref b, H, I, rfl, q0 rfl⟩
  · refine HT.cat_tup p1 p2 (fun z => hx (r1.nil_iff.mp z)) (fun z => ⟨.ref a, H, I, rfl, q1 hx (r2.nil_iff.mp z)⟩) (fun z => ?_) (by rw [← r1.length, ← r2.length]; exact hz)
    exact endT I (r1.append r2) (by rw [List.length_append]; exact hz) (q2 hx fun w => z (r2.nil_iff.mpr w))
def rSlF (K : Frag) : V → Option Int → Option Int → Hp → VK → Prop := fun x lo hi H Q => ∃ a xs, x = .ref a ∧ SqT K H a xs ∧
  (HT.sIx xs.length 0 lo = 0 ∧ HT.sIx xs.length xs.length hi = xs.length → Q (.ref a) H) ∧ (¬ (HT.sIx xs.length 0 lo = 0 ∧ HT.sIx xs.length xs.length hi = xs.length) → mkT (cutV xs lo hi) Q H)
theorem sl_tupF : SlR X (rSlF X.K) := by
  intro pins s σ H x v vl vu lo hi sl Q I rx hs pl pu h
  obtain ⟨a, xs, rfl, hx, q1, q2⟩ := h
  cases rx
  obtain ⟨its, r, ht, hz⟩ := I.tuple hx
  have hlen : its.toArray.size = xs.length := by rw [List.size_toArray]; exact r.length.symm
  refine ⟨"tuple", _, PyProof.Rows.slot_tuple_getitem.lookup, ht.typeIs, ?_⟩
  by_cases hw : HT.sIx xs.length 0 lo = 0 ∧ HT.sIx xs.length xs.length hi = xs.length
  · exact getItem_tuple_whole ht hs pl pu (by rw [hlen]; exact hw) ⟨.ref a, H, I, rfl, q1 hw⟩
  · refine HT.getItem_tuple_cut ht hs pl pu (by rw [hlen]; exact hw) ?_ (by rw [hlen]; exact hz)
    rw [hlen]
    exact endT I ((r.drop _).take _) (Nat.le_trans (cutV_length xs lo hi) hz) (q2 hw)
def rRepF (K : Frag) : R2 := fun x y H Q => ∃ l k xs, x = .ref l ∧ y = .int k ∧ SqT K H l xs ∧ xs ≠ [] ∧ 2 ≤ k ∧ k ≤ 1000 ∧ xs.length ≤ 1000 ∧ mkT (List.replicate k.toNat xs).flatten Q H
theorem op_repF : OpR X (binaryOp .Mult) (rRepF X.K) := by
  intro pins s σ H x y v u Q I rx ry h
  obtain ⟨l, k, xs, rfl, rfl, hT, hne, k1, k2, hz, q⟩ := h
  cases rx
  obtain ⟨tk, rfl⟩ := ry
  obtain ⟨its, r, ⟨⟨cls, dd, data, sl⟩, ho, hc, n, hd⟩, hs⟩ := I.tuple hT
  simp only at hc hd
  subst hc hd
  have hle : its.length = xs.length := r.length.symm
  have hlen : its.length ≠ 0 := fun z => hne (List.eq_nil_of_length_eq_zero (hle.symm.trans z))
  have he : its.toArray.isEmpty = false := by cases its with
    | nil => exact absurd rfl hlen
    | cons _ _ => rfl
  have hprod : k.toNat * xs.length ≤ 1000 * 1000 := Nat.mul_le_mul (by omega) hz
  have hm : ((its.toArray.size : Nat) : Int) * k ≤ 1000000 := by
    rw [List.size_toArray, hle]
    have := Int.mul_le_mul_of_nonneg_right (a := (xs.length : Int)) (b := 1000) (c := k) (by omega) (by omega)
    omega
  have flen : ∀ {α : Type} (l : List α), l.length = xs.length → (List.replicate k.toNat l).flatten.length ≤ sizeLine := fun l e => by
    rw [PyProof.Rows.lm_len_rep_flat, e, sizeLine_eq]; omega
  refine wpAny_binaryOp_repeat_ref (T := "tuple") (U := "int") (by decide) ⟨_, ho, rfl⟩ (fun s' => typeIs_int s' k tk) noFill_tuple_mul PySem.F.fills_int_mul PySem.F.slot_int_rmul repeat_tuple PySem.F.slot_int_index.lookup
    (call_meets PySem.F.slot_int_rmul (typeIs_int s k tk) PySem.F.entry_int_rmul (PySem.F.args_int_rmul_2 _ _) (int_rmul_tuple k tk l its.toArray n dd sl) ⟨ho, rfl, ⟨_, ho, rfl⟩, call_meets PySem.F.slot_tuple_mul ⟨_, ho, rfl⟩ PySem.F.entry_tuple_mul (PySem.F.args_tuple_mul_2 _ _)
      (tuple_mulW l its.toArray n dd sl k tk (by rw [decide_eq_false (by omega), decide_eq_false (by omega)]; rfl) (by rw [he, Bool.false_or]; exact beq_eq_false_iff_ne.mpr (by omega)) (by rw [he, Bool.or_false]; exact decide_eq_false (by omega)) (by omega)
        (by unfold Builtin.Tuple.tupleTooMany; rw [sizeLine_eq]; exact decide_eq_false (by omega)) (by rw [size_rep, List.size_toArray]; exact flen its hle)) ⟨ho, ?_⟩⟩)
  rw [size_rep]
  exact endT I (r.rep k.toNat) (flen xs rfl) q
end
end F
/-! F2e: operations, by values. -/
namespace F
open PySem PySem.Spec PyProof.Rows L2
/-- a value that is only read: frozen, or an object of a name's own -/
def RepT (g : Gm) (F H : Hp) (d : D) (v : V) : Prop := Rp g F d v ∨ ∃ a, v = .ref a ∧ Own1 g F H a d
/-- a result: o: an object that nobody else knows (or no object to be changed) -/
def Res (g : Gm) (o : Bool) (H F' H' : Hp) (d : D) (v : V) : Prop :=
  if o = true then (∃ a, v = .ref a ∧ H a = none ∧ F' a = none ∧ Own1 g F' H' a d) ∨ (imm d = true ∧ Rp g F' d v) else Rp g F' d v
section
variable {g : Gm} {F H F' H' : Hp} {v x : V}
theorem Res.rp {d : D} (h : Rp g F' d v) : Res g false H F' H' d v := by
  unfold Res; rw [if_neg Bool.false_ne_true]; exact h
theorem Res.imm {d : D} {o : Bool} (h : Rp g F' d v) (i : imm d = true) : Res g o H F' H' d v := by
  unfold Res
  split
  · exact .inr ⟨i, h⟩
  · exact h
theorem Res.own {d : D} {a : Addr} (h : Own1 g F' H' a d) (n : H a = none) (f : F' a = none) : Res g true H F' H' d (.ref a) := by
  unfold Res; rw [if_pos rfl]; exact .inl ⟨a, rfl, n, f, h⟩
theorem RepT.rp {d : D} (h : Rp g F d x) : RepT g F H d x := .inl h
theorem RepT.non (h : RepT g F H .non x) : x = .non := by
  rcases h with h | ⟨_, _, h⟩
  · exact h
  · exact h.elim
theorem RepT.bl {b : Bool} (h : RepT g F H (.bl b) x) : x = .bl b := by
  rcases h with h | ⟨_, _, h⟩
  · exact h
  · exact h.elim
theorem RepT.int {i : Int} (h : RepT g F H (.int i) x) : x = .int i := by
  rcases h with h | ⟨_, _, h⟩
  · exact h
  · exact h.elim
theorem RepT.str {i : List Nat} (h : RepT g F H (.str i) x) : x = .str ⟨i.toArray⟩ := by
  rcases h with h | ⟨_, _, h⟩
  · exact h
  · exact h.elim
theorem RepT.lst {ds : List D} (s : Sub F H) (h : RepT g F H (.lst ds) x) : ∃ a vs, x = .ref a ∧ H a = some (.lst vs) ∧ RepL g.K g.fa F ds vs := by
  rcases h with ⟨a, vs, e, h, r⟩ | ⟨a, e, vs, h, r⟩
  · exact ⟨a, vs, e, s.lst h, r⟩
  · exact ⟨a, vs, e, h, r⟩
theorem RepT.tup {ds : List D} (h : RepT g F H (.tup ds) x) : ∃ a vs, x = .ref a ∧ InT g.K F a vs ∧ RepL g.K g.fa F ds vs := by
  rcases h with ⟨a, vs, e, h, r⟩ | ⟨a, e, h⟩
  · exact ⟨a, vs, e, h, r⟩
  · exact h.elim
theorem RepT.dct {kvs : List (D × D)} (s : Sub F H) (h : RepT g F H (.dct kvs) x) : ∃ a ks, x = .ref a ∧ Rd H a (.dK ks) ∧ RepK g.K g.fa F kvs ks := by
  rcases h with ⟨a, ks, e, h, r⟩ | ⟨a, e, ks, h, r⟩
  · exact ⟨a, ks, e, s.rd h, r⟩
  · exact ⟨a, ks, e, .inl h, r⟩
theorem RepT.fn {i : Nat} (h : RepT g F H (.fn i) x) : ∃ a, x = .ref a ∧ g.fa i = some a := by
  rcases h with h | ⟨_, _, h⟩
  · exact h
  · exact h.elim
theorem RepT.exv {i : Nat} (h : RepT g F H (.exv i) x) : ∃ a, x = .ref a := by
  rcases h with h | ⟨_, _, h⟩
  · exact h
  · exact h.elim
/-- as if frozen -/
theorem RepT.lift {d : D} (s : Sub F H) (h : RepT g F H d x) : ∃ F1, Le F F1 ∧ Sub F1 H ∧ Rp g F1 d x := by
  rcases h with h | ⟨a, rfl, o⟩
  · exact ⟨F, Le.refl F, s, h⟩
  · cases q : F a with
    | none =>
      obtain ⟨ob, _, sb, le, rp⟩ := o.freeze s q
      exact ⟨_, le, sb, rp⟩
    | some u =>
      refine ⟨F, Le.refl F, s, ?_⟩
      cases d with
      | lst ds =>
        obtain ⟨vs, e, r⟩ := o
        rcases s a u q with z | ⟨_, _, z⟩
        · rw [e] at z; cases z; exact ⟨a, vs, rfl, q, r⟩
        · rw [e] at z; cases z
      | dct ds =>
        obtain ⟨ks, e, r⟩ := o
        rcases s a u q with z | ⟨_, _, z⟩
        · rw [e] at z; cases z; exact ⟨a, ks, rfl, q, r⟩
        · rw [e] at z; cases z
      | _ => exact o.elim
theorem RepT.mono {d : D} (l : Le F F') (k : ∀ a o, H a = some o → H' a = some o) (h : RepT g F H d x) : RepT g F' H' d x := by
  rcases h with h | ⟨a, e, o⟩
  · exact .inl (h.mono l)
  · exact .inr ⟨a, e, o.mono l (k a)⟩
end
/-- readings: one, two, three values, a list of values -/
def r1 (g : Gm) (o : Bool) (f : D → Option D) : V → Hp → VK → Prop := fun x H Q => ∃ F dx d, Sub F H ∧ RepT g F H dx x ∧ f dx = some d ∧ ∀ v H' F', Adv F H F' H' → Res g o H F' H' d v → Q v H'
def r2 (g : Gm) (o : Bool) (f : D → D → Option D) : R2 := fun x y H Q => ∃ F dx dy d, Sub F H ∧ RepT g F H dx x ∧ RepT g F H dy y ∧ f dx dy = some d ∧ ∀ v H' F', Adv F H F' H' → Res g o H F' H' d v → Q v H'
section
variable {X : Cx} {fa ea : Nat → Option Addr} {pins : List (Addr × Obj)} {σ : St} {s : Shared} {F H : Hp} {Q : VK}
/-- nothing is laid -/
theorem stays (S : Sub F H) {d : D} {v : V} {o : Bool} (q : ∀ v H' F', Adv F H F' H' → Res (Gm.mk X.K fa ea) o H F' H' d v → Q v H') (h : Rp (Gm.mk X.K fa ea) F d v) (i : imm d = true) : Q v H :=
  q v H F (Adv.refl S) (Res.imm h i)
/-- a new tuple -/
theorem newT (S : Sub F H) {ds : List D} {vs : List V} {o : Bool} (r : RepL X.K fa F ds vs) (q : ∀ v H' F', Adv F H F' H' → Res (Gm.mk X.K fa ea) o H F' H' (.tup ds) v → Q v H') : mkT vs Q H := fun p ob hd n => by
  have a : Adv F H (upd F p (.frz ob (.tup vs))) (upd H p (.frz ob (.tup vs))) := Adv.frozen S n
  exact q _ _ _ a (Res.imm ⟨p, vs, rfl, .inl ⟨ob, hd, upd_same⟩, r.mono (a.le S)⟩ rfl)
/-- a new list, known to nobody else -/
theorem newL (S : Sub F H) {ds : List D} {vs : List V} {p : Addr} (n : H p = none) (r : RepL X.K fa F ds vs) (q : ∀ v H' F', Adv F H F' H' → Res (Gm.mk X.K fa ea) true H F' H' (.lst ds) v → Q v H') : Q (.ref p) (upd H p (.lst vs)) :=
  q _ _ _ (Adv.laid S n) (Res.own ⟨vs, upd_same, r⟩ n (S.none n))
theorem newD (S : Sub F H) {ds : List (D × D)} {vs : List (Key × V)} {p : Addr} (n : H p = none) (r : RepK X.K fa F ds vs) (q : ∀ v H' F', Adv F H F' H' → Res (Gm.mk X.K fa ea) true H F' H' (.dct ds) v → Q v H') : Q (.ref p) (upd H p (.dK vs)) :=
  q _ _ _ (Adv.laid S n) (Res.own ⟨vs, upd_same, r⟩ n (S.none n))
theorem eqD_at (I : Inv X pins σ H s) (S : Sub F H) {n : Nat} {A : Around} (hA : A.units + n < cLine) {d e : D} {x y : V} {u w : Value} {t : Bool} (h1 : RepT (Gm.mk X.K fa ea) F H d x) (h2 : RepT (Gm.mk X.K fa ea) F H e y) (r1 : RelV x u) (r2 : RelV y w) (h : eqD n d e = some t) : SeqAt.EqAt A s u w t := by
  obtain ⟨F1, l1, s1, q1⟩ := h1.lift S
  obtain ⟨F2, l2, s2, q2⟩ := (h2.mono l1 fun _ _ z => z).lift s1
  exact eq_at (fa := fa) I s2 n A hA d e x y u w t (q1.mono l2) q2 r1 r2 h
theorem okLen_le {xs : List D} (h : okLen xs = true) : xs.length ≤ sizeLine := by
  have := Nat.le_of_ble_eq_true h
  rw [lenL_eq] at this
  rw [sizeLine_eq]; exact this
theorem leI_iff : ∀ a b : Int, leI a b = true ↔ a ≤ b
  | .ofNat a, .ofNat b => by
    show Nat.ble a b = true ↔ (a : Int) ≤ (b : Int)
    rw [Nat.ble_eq]
    omega
  | .negSucc a, .ofNat b => by
    show true = true ↔ Int.negSucc a ≤ (b : Int)
    exact ⟨fun _ => by omega, fun _ => rfl⟩
  | .ofNat a, .negSucc b => by
    show false = true ↔ (a : Int) ≤ Int.negSucc b
    constructor
    · intro h; cases h
    · intro h; omega
  | .negSucc a, .negSucc b => by
    show Nat.ble b a = true ↔ Int.negSucc a ≤ Int.negSucc b
    rw [Nat.ble_eq]
    omega
theorem leI_dec (a b : Int) : leI a b = decide (a ≤ b) := by rw [Bool.eq_iff_iff, leI_iff, decide_eq_true_iff]
theorem nleI_dec (a b : Int) : (!leI b a) = decide (a < b) := by
  rw [leI_dec, Bool.eq_iff_iff]
  simp
theorem sm64_iff : ∀ a : Int, sm64 a = true → -(2 ^ 64) < a ∧ a < 2 ^ 64
  | .ofNat a, h => by
    have : a < 18446744073709551616 := by
      have h : Nat.ble (a + 1) 18446744073709551616 = true := h
      have := Nat.le_of_ble_eq_true h
      omega
    have e : Int.ofNat a = (a : Int) := rfl
    rw [e]
    omega
  | .negSucc a, h => by
    have : a < 18446744073709551615 := by
      have h : Nat.ble (a + 1) 18446744073709551615 = true := h
      have := Nat.le_of_ble_eq_true h
      omega
    omega
/-! ### int arithmetic, + -/
theorem op_addD : OpR X (binaryOp .Add) (r2 (Gm.mk X.K fa ea) true oAdd) := by
  intro pins s σ H x y v u Q I rx ry h
  obtain ⟨F, dx, dy, d, S, hx, hy, hf, q⟩ := h
  cases dx with
  | int i =>
    cases dy with
    | int j =>
      cases hf
      exact op_add pins s σ H x y v u Q I rx ry ⟨i, j, hx.int, hy.int, stays S q rfl rfl⟩
    | _ => cases hf
  | tup ds =>
    cases dy with
    | tup es =>
      have hf : (if okLen (ds ++ es) then some (D.tup (ds ++ es)) else none) = some d := hf
      split at hf
      · rename_i hz
        cases hf
        have hz := okLen_le hz
        obtain ⟨a, vs, rfl, ha, hr⟩ := hx.tup
        obtain ⟨b, ws, rfl, hb, hr'⟩ := hy.tup
        have e1 := hr.length
        have e2 := hr'.length
        refine op_catF pins s σ H _ _ v u Q I rx ry ⟨a, b, vs, ws, rfl, rfl, ha.sq S, hb.sq S, ?_, fun e => ?_, fun _ e => ?_, fun _ _ => newT S (hr.app hr') q⟩
        · rw [← e1, ← e2, ← List.length_append]; exact hz
        · subst e
          have : ds = [] := List.eq_nil_of_length_eq_zero e1
          subst this
          exact stays S q ⟨b, ws, rfl, hb, hr'⟩ rfl
        · subst e
          have : es = [] := List.eq_nil_of_length_eq_zero e2
          subst this
          rw [List.append_nil] at q
          exact stays S q ⟨a, vs, rfl, ha, hr⟩ rfl
      · cases hf
    | _ => cases hf
  | lst ds =>
    cases dy with
    | lst es =>
      have hf : (if okLen (ds ++ es) then some (D.lst (ds ++ es)) else none) = some d := hf
      split at hf
      · rename_i hz
        cases hf
        have hz := okLen_le hz
        obtain ⟨a, vs, rfl, ha, hr⟩ := hx.lst S
        obtain ⟨b, ws, rfl, hb, hr'⟩ := hy.lst S
        refine op_cat pins s σ H _ _ v u Q I rx ry ⟨a, b, vs, ws, rfl, rfl, ha, hb, ?_, fun p n => newL S n (hr.app hr') q⟩
        rw [← hr.length, ← hr'.length, ← List.length_append]; exact hz
      · cases hf
    | _ => cases hf
  | str a =>
    cases dy with
    | str b =>
      have hf : (if Nat.ble (a ++ b).length big then some (D.str (a ++ b)) else none) = some d := hf
      split at hf
      · rename_i hz
        cases hf
        have hz := Nat.le_of_ble_eq_true hz
        have e := hx.str
        have e' := hy.str
        refine op_add_str pins s σ H x y v u Q I rx ry ⟨⟨a.toArray⟩, ⟨b.toArray⟩, e, e', ?_, ?_⟩
        · rw [sizeLine_eq]
          have : (a ++ b).length ≤ 16777216 := hz
          simpa [Str.length] using this
        · have e2 : (⟨a.toArray⟩ ++ ⟨b.toArray⟩ : Str) = ⟨(a ++ b).toArray⟩ := by
            show (⟨a.toArray ++ b.toArray⟩ : Str) = _
            simp
          rw [e2]
          exact stays S q rfl rfl
      · cases hf
    | _ => cases hf
  | _ => cases hf
theorem op_subD : OpR X (binaryOp .Sub) (r2 (Gm.mk X.K fa ea) true oSub) := by
  intro pins s σ H x y v u Q I rx ry h
  obtain ⟨F, dx, dy, d, S, hx, hy, hf, q⟩ := h
  cases dx with
  | int i => cases dy with
    | int j => cases hf; exact op_sub pins s σ H x y v u Q I rx ry ⟨i, j, hx.int, hy.int, stays S q rfl rfl⟩
    | _ => cases hf
  | _ => cases hf
theorem op_modD : OpR X (binaryOp .Mod) (r2 (Gm.mk X.K fa ea) true oMod) := by
  intro pins s σ H x y v u Q I rx ry h
  obtain ⟨F, dx, dy, d, S, hx, hy, hf, q⟩ := h
  cases dx with
  | int i => cases dy with
    | int j =>
      have hf : (if leI 1 j then some (D.int (i % j)) else none) = some d := hf
      split at hf
      · rename_i hj
        cases hf
        have := (leI_iff 1 j).mp hj
        exact op_mod pins s σ H x y v u Q I rx ry ⟨i, j, hx.int, hy.int, by show 0 < j; omega, stays S q rfl rfl⟩
      · cases hf
    | _ => cases hf
  | _ => cases hf
theorem op_divD : OpR X (binaryOp .FloorDiv) (r2 (Gm.mk X.K fa ea) true oDiv) := by
  intro pins s σ H x y v u Q I rx ry h
  obtain ⟨F, dx, dy, d, S, hx, hy, hf, q⟩ := h
  cases dx with
  | int i => cases dy with
    | int j =>
      have hf : (if leI 1 j && leI j 1073741823 then some (D.int (i / j)) else none) = some d := hf
      split at hf
      · rename_i hj
        cases hf
        rw [Bool.and_eq_true, leI_iff, leI_iff] at hj
        exact op_fdiv pins s σ H x y v u Q I rx ry ⟨i, j, hx.int, hy.int, ⟨by omega, by omega⟩, stays S q rfl rfl⟩
      · cases hf
    | _ => cases hf
  | _ => cases hf
theorem op_powD : OpR X (binaryOp .Pow) (r2 (Gm.mk X.K fa ea) true oPow) := by
  intro pins s σ H x y v u Q I rx ry h
  obtain ⟨F, dx, dy, d, S, hx, hy, hf, q⟩ := h
  cases dx with
  | int i => cases dy with
    | int j =>
      have hf : (if sm64 i && leI 0 j && leI j 1000000 then some (D.int (i ^ j.toNat)) else none) = some d := hf
      split at hf
      · rename_i hj
        cases hf
        rw [Bool.and_eq_true, Bool.and_eq_true, leI_iff, leI_iff] at hj
        obtain ⟨⟨h1, h2⟩, h3⟩ := hj
        have := sm64_iff i h1
        exact op_pow pins s σ H x y v u Q I rx ry ⟨i, j, hx.int, hy.int, ⟨h2, h3, by omega⟩, stays S q rfl rfl⟩
      · cases hf
    | _ => cases hf
  | _ => cases hf
theorem repL_rep (x : V) : ∀ n : Nat, (List.replicate n [x]).flatten = List.replicate n x
  | 0 => rfl
  | n + 1 => by rw [List.replicate_succ, List.flatten_cons, repL_rep x n, List.replicate_succ]; rfl
theorem RepL.repL {ds : List D} {vs : List V} (r : RepL X.K fa F ds vs) : ∀ n : Nat, RepL X.K fa F (_root_.F.repL n ds) (List.replicate n vs).flatten
  | 0 => rfl
  | n + 1 => by
    rw [List.replicate_succ, List.flatten_cons]
    exact r.app (RepL.repL r n)
theorem op_mulD : OpR X (binaryOp .Mult) (r2 (Gm.mk X.K fa ea) true oMul) := by
  intro pins s σ H x y v u Q I rx ry h
  obtain ⟨F, dx, dy, d, S, hx, hy, hf, q⟩ := h
  cases dx with
  | int i => cases dy with
    | int j =>
      have hf : (if sm64 i || sm64 j then some (D.int (i * j)) else none) = some d := hf
      split at hf
      · rename_i hj
        cases hf
        refine op_mul pins s σ H x y v u Q I rx ry ⟨i, j, hx.int, hy.int, ?_, stays S q rfl rfl⟩
        rcases Bool.or_eq_true_iff.mp hj with h | h
        · exact .inl (sm64_iff i h)
        · exact .inr (sm64_iff j h)
      · cases hf
    | _ => cases hf
  | lst ds => cases dy with
    | int n =>
      cases ds with
      | nil => cases hf
      | cons e r => cases r with
        | nil =>
          have hf : (if leI 0 n && leI n 16777216 then some (D.lst (_root_.F.repL n.toNat [e])) else none) = some d := hf
          split at hf
          · rename_i hj
            cases hf
            rw [Bool.and_eq_true, leI_iff, leI_iff] at hj
            obtain ⟨a, vs, rfl, ha, hr⟩ := hx.lst S
            have hl := hr.length
            refine op_rep pins s σ H _ _ v u Q I rx ry ⟨a, n, vs, rfl, hy.int, ha, by omega, by omega, ?_, fun p np => newL S np (hr.repL n.toNat) q⟩
            rw [← hl, sizeLine_eq]
            show 1 * _ ≤ _
            omega
          · cases hf
        | cons _ _ => cases hf
    | _ => cases ds with
      | nil => cases hf
      | cons e r => cases r <;> cases hf
  | tup ds => cases dy with
    | int n =>
      cases ds with
      | nil => cases hf
      | cons e r => cases r with
        | nil =>
          have hf : (if leI 2 n && leI n 1000 then some (D.tup (_root_.F.repL n.toNat [e])) else none) = some d := hf
          split at hf
          · rename_i hj
            cases hf
            rw [Bool.and_eq_true, leI_iff, leI_iff] at hj
            obtain ⟨a, vs, rfl, ha, hr⟩ := hx.tup
            have hl : 1 = vs.length := hr.length
            refine op_repF pins s σ H _ _ v u Q I rx ry ⟨a, n, vs, rfl, hy.int, ha.sq S, fun e => ?_, hj.1, hj.2, by omega, newT S (hr.repL n.toNat) q⟩
            rw [e] at hl; cases hl
          · cases hf
        | cons _ _ => cases hf
    | _ => cases ds with
      | nil => cases hf
      | cons e r => cases r <;> cases hf
  | _ => cases hf
theorem un_negD : UnR X (unaryOp .USub) (r1 (Gm.mk X.K fa ea) true oNeg) := by
  intro pins s σ H x v Q I rx h
  obtain ⟨F, dx, d, S, hx, hf, q⟩ := h
  cases dx with
  | int i => cases hf; exact un_neg pins s σ H x v Q I rx ⟨i, hx.int, stays S q rfl rfl⟩
  | _ => cases hf
end
end F
/-! F2f: comparisons, in, subscripts, slices. -/
namespace F
open PySem PySem.Spec PyProof.Rows L2
section
variable {K : Frag} {fa : Nat → Option Addr} {F H : Hp}
/-! ### keys -/
theorem isKey_rep {g : Gm} {d : D} {y : V} (k : isKey d = true) (h : RepT g F H d y) : ∃ key : Key, d = keyD key ∧ y = kV key := by
  cases d with
  | int i => exact ⟨.inl i, rfl, h.int⟩
  | str x => exact ⟨.inr ⟨x.toArray⟩, by simp [keyD], h.str⟩
  | _ => cases k
theorem eqK_keyD (a b : Key) : eqK (keyD a) (keyD b) = decide (a = b) := by
  cases a with
  | inl i => cases b with
    | inl j =>
      show eqI i j = _
      rw [Bool.eq_iff_iff, eqI_iff, decide_eq_true_iff]
      exact ⟨fun h => by rw [h], fun h => Sum.inl.inj h⟩
    | inr y => rw [decide_eq_false (fun z => nomatch z)]; rfl
  | inr x => cases b with
    | inl j => rw [decide_eq_false (fun z => nomatch z)]; rfl
    | inr y =>
      show eqNs x.cps.toList y.cps.toList = _
      rw [Bool.eq_iff_iff, eqNs_iff, decide_eq_true_iff]
      constructor
      · intro h
        have : x.cps = y.cps := Array.toList_inj.mp h
        cases x; cases y
        simp only at this
        rw [this]
      · intro h; injection h with h; rw [h]
theorem lookK_rep (k : Key) : ∀ {kvs : List (D × D)} {ks : List (Key × V)}, RepK K fa F kvs ks → (∀ d, lookK (keyD k) kvs = some d → ∃ v, valV ks k = some v ∧ Rep K fa F d v) ∧ (lookK (keyD k) kvs = none → valV ks k = none)
  | [], _, h => by
    cases (show _ = [] from h)
    exact ⟨fun d e => (by cases e), fun _ => rfl⟩
  | (x, d) :: r, _, ⟨q, v, t, e, ex, h, hr⟩ => by
    subst e ex
    obtain ⟨h1, h2⟩ := lookK_rep k hr
    have e : lookK (keyD k) ((keyD q, d) :: r) = if eqK (keyD q) (keyD k) then some d else lookK (keyD k) r := rfl
    rw [e, eqK_keyD]
    by_cases z : q = k
    · rw [decide_eq_true z, if_pos rfl]
      refine ⟨fun d' e' => ?_, fun e' => (by cases e')⟩
      cases e'
      exact ⟨v, valV_pos (p := (q, v)) z, h⟩
    · rw [decide_eq_false z, if_neg Bool.false_ne_true, valV_neg (p := (q, v)) z]
      exact ⟨h1, h2⟩
theorem hasK_rep (k : Key) : ∀ {kvs : List (D × D)} {ks : List (Key × V)}, RepK K fa F kvs ks → hasK (keyD k) kvs = (valV ks k).isSome
  | [], _, h => by
    cases (show _ = [] from h)
    rfl
  | (x, d) :: r, _, ⟨q, v, t, e, ex, h, hr⟩ => by
    subst e ex
    have ih := hasK_rep k hr
    show (eqK (keyD q) (keyD k) || hasK (keyD k) r) = _
    rw [eqK_keyD, ih]
    by_cases z : q = k
    · rw [decide_eq_true z, valV_pos (p := (q, v)) z]; rfl
    · rw [decide_eq_false z, valV_neg (p := (q, v)) z]; rfl
theorem setK_rep (k : Key) {d : D} {v : V} (hd : Rep K fa F d v) : ∀ {kvs : List (D × D)} {ks : List (Key × V)}, RepK K fa F kvs ks → RepK K fa F (setK (keyD k) d kvs) (ks.map fun kv => if kv.1 = k then (kv.1, v) else kv)
  | [], _, h => by
    cases (show _ = [] from h)
    rfl
  | (x, d') :: r, _, ⟨q, v', t, e, ex, h, hr⟩ => by
    subst e ex
    have ih := setK_rep k hd hr
    have e : setK (keyD k) d ((keyD q, d') :: r) = (match eqK (keyD q) (keyD k) with | true => (keyD q, d) | false => (keyD q, d')) :: setK (keyD k) d r := rfl
    rw [e, eqK_keyD, List.map_cons]
    by_cases z : q = k
    · rw [decide_eq_true z, if_pos z]
      exact ⟨q, v, _, rfl, rfl, hd, ih⟩
    · rw [decide_eq_false z, if_neg z]
      exact ⟨q, v', _, rfl, rfl, h, ih⟩
theorem RepK.snoc (k : Key) {d : D} {v : V} (hd : Rep K fa F d v) : ∀ {kvs : List (D × D)} {ks : List (Key × V)}, RepK K fa F kvs ks → RepK K fa F (kvs ++ [(keyD k, d)]) (ks ++ [(k, v)])
  | [], _, h => by
    cases (show _ = [] from h)
    exact ⟨k, v, [], rfl, rfl, hd, rfl⟩
  | (x, d') :: r, _, ⟨q, v', t, e, ex, h, hr⟩ => by
    subst e ex
    exact ⟨q, v', _, rfl, rfl, h, RepK.snoc k hd hr⟩
theorem putK_rep (k : Key) {d : D} {v : V} (hd : Rep K fa F d v) {kvs : List (D × D)} {ks : List (Key × V)} (h : RepK K fa F kvs ks) : RepK K fa F (putK (keyD k) d kvs) (L2.putK ks k v) := by
  unfold putK L2.putK
  rw [hasK_rep k h, valV_any]
  split
  · exact setK_rep k hd h
  · exact h.snoc k hd
theorem RepK.length : ∀ {kvs : List (D × D)} {ks : List (Key × V)}, RepK K fa F kvs ks → kvs.length = ks.length
  | [], _, h => by
    cases (show _ = [] from h)
    rfl
  | (x, d') :: r, _, ⟨q, v', t, e, ex, h, hr⟩ => by
    subst e
    rw [List.length_cons, List.length_cons, RepK.length hr]
end
section
variable {X : Cx} {fa ea : Nat → Option Addr} {pins : List (Addr × Obj)} {σ : St} {s : Shared} {F H : Hp} {Q : VK}
theorem eq_F (hu : X.A.units + 50 < cLine) : OpR X (compareOp .Eq) (r2 (Gm.mk X.K fa ea) true oEq) := by
  intro pins s σ H x y v u Q I rx ry h
  obtain ⟨F, dx, dy, d, S, hx, hy, hf, q⟩ := h
  unfold oEq at hf
  cases e : eqD deep dx dy with
  | none => rw [e] at hf; cases hf
  | some t =>
    rw [e] at hf; cases hf
    obtain ⟨F1, l1, s1, q1⟩ := hx.lift S
    obtain ⟨F2, l2, s2, q2⟩ := (hy.mono l1 fun _ _ z => z).lift s1
    exact rc_at (fa := fa) I s2 deep X.A (by show X.A.units + 40 < _; omega) dx dy x y v u t (q1.mono l2) q2 rx ry e X.prog X.w _ _ ⟨.bl t, H, I, rfl, stays S q rfl rfl⟩
theorem ne_F (hu : X.A.units + 50 < cLine) : OpR X (compareOp .NotEq) (r2 (Gm.mk X.K fa ea) true oNe) := by
  intro pins s σ H x y v u Q I rx ry h
  obtain ⟨F, dx, dy, d, S, hx, hy, hf, q⟩ := h
  unfold oNe at hf
  cases e : eqD deep dx dy with
  | none => rw [e] at hf; cases hf
  | some t =>
    rw [e] at hf; cases hf
    obtain ⟨F1, l1, s1, q1⟩ := hx.lift S
    obtain ⟨F2, l2, s2, q2⟩ := (hy.mono l1 fun _ _ z => z).lift s1
    exact rcne_at (fa := fa) I s2 deep X.A (by show X.A.units + 40 < _; omega) dx dy x y v u t (q1.mono l2) q2 rx ry e X.prog X.w _ _ ⟨.bl (!t), H, I, rfl, stays S q rfl rfl⟩
theorem rep_non {d : D} {x : V} (h : RepT (Gm.mk X.K fa ea) F H d x) : decide (x = .non) = isNon d := by
  cases d with
  | non => have e := h.non; subst e; rfl
  | bl b => have e := h.bl; subst e; rfl
  | int b => have e := h.int; subst e; rfl
  | str b => have e := h.str; subst e; rfl
  | tup b => obtain ⟨a, _, rfl, _⟩ := h.tup; rfl
  | lst b => rcases h with ⟨a, vs, rfl, _⟩ | ⟨a, rfl, _⟩ <;> rfl
  | dct b => rcases h with ⟨a, vs, rfl, _⟩ | ⟨a, rfl, _⟩ <;> rfl
  | fn b => obtain ⟨a, rfl, _⟩ := h.fn; rfl
  | exv b => obtain ⟨a, rfl⟩ := h.exv; rfl
theorem is_F : OpR X (compareOp .Is) (r2 (Gm.mk X.K fa ea) true oIs) := by
  intro pins s σ H x y v u Q I rx ry h
  obtain ⟨F, dx, dy, d, S, hx, hy, hf, q⟩ := h
  cases dy with
  | non =>
    have hf : some (D.bl (isNon dx)) = some d := hf
    refine op_isN pins s σ H x y v u Q I rx ry ⟨hy.non, ?_⟩
    rw [rep_non hx]
    cases hf
    exact stays S q rfl rfl
  | _ => cases hf
theorem isn_F : OpR X (compareOp .IsNot) (r2 (Gm.mk X.K fa ea) true oIsNot) := by
  intro pins s σ H x y v u Q I rx ry h
  obtain ⟨F, dx, dy, d, S, hx, hy, hf, q⟩ := h
  cases dy with
  | non =>
    have hf : some (D.bl (!isNon dx)) = some d := hf
    refine op_notN pins s σ H x y v u Q I rx ry ⟨hy.non, ?_⟩
    rw [rep_non hx]
    cases hf
    exact stays S q rfl rfl
  | _ => cases hf
theorem le_F : OpR X (compareOp .LtE) (r2 (Gm.mk X.K fa ea) true oLe) := by
  intro pins s σ H x y v u Q I rx ry h
  obtain ⟨F, dx, dy, d, S, hx, hy, hf, q⟩ := h
  cases dx with
  | int i => cases dy with
    | int j => cases hf; exact op_le pins s σ H x y v u Q I rx ry ⟨i, j, hx.int, hy.int, by dsimp only; rw [← leI_dec]; exact stays S q rfl rfl⟩
    | _ => cases hf
  | _ => cases hf
theorem ge_F : OpR X (compareOp .GtE) (r2 (Gm.mk X.K fa ea) true oGe) := by
  intro pins s σ H x y v u Q I rx ry h
  obtain ⟨F, dx, dy, d, S, hx, hy, hf, q⟩ := h
  cases dx with
  | int i => cases dy with
    | int j => cases hf; exact op_ge pins s σ H x y v u Q I rx ry ⟨i, j, hx.int, hy.int, by dsimp only; rw [← leI_dec]; exact stays S q rfl rfl⟩
    | _ => cases hf
  | _ => cases hf
theorem gt_F : OpR X (compareOp .Gt) (r2 (Gm.mk X.K fa ea) true oGt) := by
  intro pins s σ H x y v u Q I rx ry h
  obtain ⟨F, dx, dy, d, S, hx, hy, hf, q⟩ := h
  cases dx with
  | int i => cases dy with
    | int j => cases hf; exact op_gt pins s σ H x y v u Q I rx ry ⟨i, j, hx.int, hy.int, by dsimp only; rw [← nleI_dec]; exact stays S q rfl rfl⟩
    | _ => cases hf
  | _ => cases hf
/-! ### in -/
theorem memL_run (I : Inv X pins σ H s) (S : Sub F H) {A : Around} (hA : A.units + deep < cLine) {d : D} {x : V} {u : Value} (hx : Rep X.K fa F d x) (rx : RelV x u) : ∀ {ds : List D} {vs : List V} {us : List Value} {t : Bool}, RepL X.K fa F ds vs → Vals vs us → memL d ds = some t →
    ∃ P : Value → Prop, (∀ y, y ∈ us → P y → SeqAt.EqAt A s y u true) ∧ (∀ y, y ∈ us → ¬ P y → SeqAt.EqAt A s y u false) ∧ ((∃ y, y ∈ us ∧ P y) ↔ t = true)
  | [], vs, us, t, hr, rv, h => by
    cases (show vs = [] from hr)
    cases rv
    cases h
    exact ⟨fun _ => False, fun _ h => (by cases h), fun _ h => (by cases h), ⟨fun ⟨_, h, _⟩ => (by cases h), fun h => (by cases h)⟩⟩
  | e :: ds, vs, us, t, hr, rv, h => by
    obtain ⟨v, r, rfl, hv, hr⟩ := hr
    cases rv with
    | @cons _ w _ ws q1 q2 =>
      have h : (match eqD deep e d with
        | some a => (match memL d ds with | some b => some (a || b) | none => none)
        | none => none) = some t := h
      cases q : eqD deep e d with
      | none => rw [q] at h; cases h
      | some a =>
        rw [q] at h
        cases q' : memL d ds with
        | none => rw [q'] at h; cases h
        | some b =>
          rw [q'] at h
          cases h
          obtain ⟨P, p1, p2, p3⟩ := memL_run I S hA hx rx hr q2 q'
          have h0 := eq_at (fa := fa) I S deep A hA e d v x w u a hv hx q1 rx q
          refine ⟨fun y => (y = w ∧ a = true) ∨ (y ∈ ws ∧ P y), fun y hy hp => ?_, fun y hy hp => ?_, ?_, ?_⟩
          · rcases hp with ⟨rfl, e⟩ | ⟨hy, hp⟩
            · rw [e] at h0; exact h0
            · exact p1 y hy hp
          · rcases List.mem_cons.mp hy with rfl | hy
            · cases a with
              | false => exact h0
              | true => exact absurd (.inl ⟨rfl, rfl⟩) hp
            · exact p2 y hy fun z => hp (.inr ⟨hy, z⟩)
          · rintro ⟨y, hy, hp⟩
            rcases hp with ⟨_, e⟩ | ⟨hy, hp⟩
            · rw [e]; rfl
            · rw [p3.mp ⟨y, hy, hp⟩, Bool.or_true]
          · intro e
            cases a with
            | true => exact ⟨w, List.mem_cons_self, .inl ⟨rfl, rfl⟩⟩
            | false =>
              obtain ⟨y, hy, hp⟩ := p3.mpr (by simpa using e)
              exact ⟨y, List.mem_cons_of_mem _ hy, .inr ⟨hy, hp⟩⟩
open Classical in
theorem mem_fun (I : Inv X pins σ H s) (S : Sub F H) {A : Around} (hA : A.units + deep < cLine) {d : D} {x : V} {u : Value} (hx : Rep X.K fa F d x) (rx : RelV x u) {ds : List D} {vs : List V} {us : List Value} {t : Bool} (hr : RepL X.K fa F ds vs) (rv : Vals vs us) (h : memL d ds = some t) :
    ∃ e : Value → Bool, (∀ y, y ∈ us.toArray → SeqAt.EqAt A s y u (e y)) ∧ us.toArray.any e = t := by
  obtain ⟨P, p1, p2, p3⟩ := memL_run I S hA hx rx hr rv h
  refine ⟨fun y => decide (P y), fun y hy => ?_, ?_⟩
  · have hy : y ∈ us := by simpa using hy
    show SeqAt.EqAt A s y u (decide (P y))
    by_cases z : P y
    · rw [decide_eq_true z]; exact p1 y hy z
    · rw [decide_eq_false z]; exact p2 y hy z
  · rw [Bool.eq_iff_iff, ← p3]
    simp
theorem DGet.of {g : Gm} {F H : Hp} {d k : D} {kvs : List (D × D)} {x y : V} (S : Sub F H) (hx : RepT g F H (.dct kvs) x) (hy : RepT g F H k y) (hk : isKey k = true) :
    ∃ a o, x = .ref a ∧ DGet H a y o ∧ (∀ d, lookK k kvs = some d → ∃ v, o = some v ∧ Rp g F d v) ∧ (lookK k kvs = none → o = none) ∧ hasK k kvs = o.isSome := by
  obtain ⟨a, ks, rfl, hr, rk⟩ := hx.dct S
  obtain ⟨key, rfl, rfl⟩ := isKey_rep hk hy
  obtain ⟨l1, l2⟩ := lookK_rep key rk
  exact ⟨a, valV ks key, rfl, .inl ⟨ks, key, hr, rfl, rfl⟩, l1, l2, hasK_rep key rk⟩
theorem in_F (hu : X.A.units + 50 < cLine) : OpR X (compareOp .In) (r2 (Gm.mk X.K fa ea) true oIn) := by
  intro pins s σ H x y v u Q I rx ry h
  obtain ⟨F, dx, dy, d, S, hx, hy, hf, q⟩ := h
  have hA : X.A.in1.units + deep < cLine := by show X.A.units + 1 + 40 < _; omega
  cases dy with
  | tup ds =>
    have hf : (match memL dx ds with | some t => some (D.bl t) | none => none) = some d := hf
    cases e : memL dx ds with
    | none => rw [e] at hf; cases hf
    | some t =>
      rw [e] at hf; cases hf
      obtain ⟨F1, l1, s1, q1⟩ := hx.lift S
      obtain ⟨a, vs, rfl, ha, hr⟩ := hy.tup
      cases ry
      obtain ⟨its, rv, p, _⟩ := I.tuple (ha.sq S)
      obtain ⟨e', he, ht⟩ := mem_fun (fa := fa) I s1 hA q1 rx (hr.mono l1) rv e
      exact SeqAt.in_tupleAt e' p he (by rw [ht]; exact ⟨.bl t, H, I, rfl, stays S q rfl rfl⟩)
  | lst ds =>
    have hf : (match memL dx ds with | some t => some (D.bl t) | none => none) = some d := hf
    cases e : memL dx ds with
    | none => rw [e] at hf; cases hf
    | some t =>
      rw [e] at hf; cases hf
      obtain ⟨F1, l1, s1, q1⟩ := hx.lift S
      obtain ⟨a, vs, rfl, ha, hr⟩ := hy.lst S
      cases ry
      obtain ⟨its, rv, p, _⟩ := I.list (.inl (.inl ha))
      obtain ⟨e', he, ht⟩ := mem_fun (fa := fa) I s1 hA q1 rx (hr.mono l1) rv e
      exact SeqAt.in_listAt e' p.isList he (by rw [ht]; exact ⟨.bl t, H, I, rfl, stays S q rfl rfl⟩)
  | dct kvs =>
    have hf : (if isKey dx then some (D.bl (hasK dx kvs)) else none) = some d := hf
    split at hf
    · rename_i hk
      cases hf
      obtain ⟨a, o, rfl, g, _, _, e⟩ := DGet.of (d := .non) S hy hx hk
      cases ry
      rw [e] at q
      exact d_in (by omega) I g rx fun s3 I3 => ⟨.bl o.isSome, H, I3, rfl, stays S q rfl rfl⟩
    · cases hf
  | _ => cases hf
theorem nin_F (hu : X.A.units + 50 < cLine) : OpR X (compareOp .NotIn) (r2 (Gm.mk X.K fa ea) true oNotIn) := by
  intro pins s σ H x y v u Q I rx ry h
  obtain ⟨F, dx, dy, d, S, hx, hy, hf, q⟩ := h
  have hA : X.A.in1.units + deep < cLine := by show X.A.units + 1 + 40 < _; omega
  cases dy with
  | tup ds =>
    have hf : (match memL dx ds with | some t => some (D.bl (!t)) | none => none) = some d := hf
    cases e : memL dx ds with
    | none => rw [e] at hf; cases hf
    | some t =>
      rw [e] at hf; cases hf
      obtain ⟨F1, l1, s1, q1⟩ := hx.lift S
      obtain ⟨a, vs, rfl, ha, hr⟩ := hy.tup
      cases ry
      obtain ⟨its, rv, p, _⟩ := I.tuple (ha.sq S)
      obtain ⟨e', he, ht⟩ := mem_fun (fa := fa) I s1 hA q1 rx (hr.mono l1) rv e
      exact SeqAt.notIn_tupleAt e' p he (by rw [ht]; exact ⟨.bl (!t), H, I, rfl, stays S q rfl rfl⟩)
  | lst ds =>
    have hf : (match memL dx ds with | some t => some (D.bl (!t)) | none => none) = some d := hf
    cases e : memL dx ds with
    | none => rw [e] at hf; cases hf
    | some t =>
      rw [e] at hf; cases hf
      obtain ⟨F1, l1, s1, q1⟩ := hx.lift S
      obtain ⟨a, vs, rfl, ha, hr⟩ := hy.lst S
      cases ry
      obtain ⟨its, rv, p, _⟩ := I.list (.inl (.inl ha))
      obtain ⟨e', he, ht⟩ := mem_fun (fa := fa) I s1 hA q1 rx (hr.mono l1) rv e
      exact SeqAt.notIn_listAt e' p.isList he (by rw [ht]; exact ⟨.bl (!t), H, I, rfl, stays S q rfl rfl⟩)
  | dct kvs =>
    have hf : (if isKey dx then some (D.bl (!hasK dx kvs)) else none) = some d := hf
    split at hf
    · rename_i hk
      cases hf
      obtain ⟨a, o, rfl, g, _, _, e⟩ := DGet.of (d := .non) S hy hx hk
      cases ry
      rw [e] at q
      exact d_notIn (by omega) I g rx fun s3 I3 => ⟨.bl (!o.isSome), H, I3, rfl, stays S q rfl rfl⟩
    · cases hf
  | _ => cases hf
/-! ### subscripts -/
theorem ixL_at {K : Frag} {ds : List D} {vs : List V} {i : Int} {d : D} (hr : RepL K fa F ds vs) (h : ixL ds i = some d) : ∃ v, atI vs i = some v ∧ Rep K fa F d v := by
  cases i with
  | ofNat n =>
    obtain ⟨v, e, r⟩ := RepL.nth (n := n) hr h
    exact ⟨v, atI_nat e, r⟩
  | negSucc n =>
    have h : (if Nat.blt n (lenL ds) then nth ds (lenL ds - (n + 1)) else none) = some d := h
    split at h
    · rename_i hn
      have hn : n + 1 ≤ lenL ds := Nat.le_of_ble_eq_true hn
      rw [lenL_eq, hr.length] at hn h
      obtain ⟨v, e, r⟩ := RepL.nth hr h
      refine ⟨v, ?_, r⟩
      unfold atI ixN
      rw [if_neg (by omega), if_pos (by omega)]
      show vs[(Int.negSucc n + (vs.length : Int)).toNat]? = some v
      rw [show (Int.negSucc n + (vs.length : Int)).toNat = vs.length - (n + 1) by omega]
      exact e
    · cases h
theorem ix_F (hu : X.A.units + 50 < cLine) : IxR X (r2 (Gm.mk X.K fa ea) false oIx) := by
  intro value slice pins s σ H x y v u Q I rx ry h hs
  obtain ⟨F, dx, dy, d, S, hx, hy, hf, q⟩ := h
  have fin : ∀ {w : V}, Rp (Gm.mk X.K fa ea) F d w → Q w H := fun r => q _ H F (Adv.refl S) (Res.rp r)
  cases dx with
  | tup ds =>
    cases dy with
    | int i =>
      obtain ⟨a, vs, rfl, ha, hr⟩ := hx.tup
      obtain ⟨w, e, r⟩ := ixL_at hr hf
      exact ix_tup value slice pins s σ H _ y v u Q I rx ry ⟨a, vs, i, w, rfl, hy.int, ha.sq S, e, fin r⟩ hs
    | _ => cases hf
  | lst ds =>
    cases dy with
    | int i =>
      obtain ⟨a, vs, rfl, ha, hr⟩ := hx.lst S
      obtain ⟨w, e, r⟩ := ixL_at hr hf
      exact ix_list value slice pins s σ H _ y v u Q I rx ry ⟨a, vs, i, w, rfl, hy.int, .inl (.inl ha), e, fin r⟩ hs
    | _ => cases hf
  | dct kvs =>
    have hf : (if isKey dy then lookK dy kvs else none) = some d := hf
    split at hf
    · rename_i hk
      obtain ⟨a, o, rfl, g, l1, _, _⟩ := DGet.of (d := .non) S hx hy hk
      obtain ⟨w, rfl, r⟩ := l1 d hf
      cases rx
      exact tail_any (dict_typeIs I g) PySem.F.slot_dict_getitem.lookup (d_getItem (by omega) I g ry fun w' s3 I3 rw' => ⟨w, H, I3, rw', fin r⟩) hs
    · cases hf
  | _ => cases hf
end
end F
/-! F3a: the judgements: SE (expressions), SA (arguments), SX (tests). -/
namespace F
open PySem PySem.Spec PyProof.Rows L2
/-- what is known of a value: an object of nobody else; frozen; read only now -/
inductive Kd | own | rp | rd
def ResK (g : Gm) (k : Kd) (H F' H' : Hp) (d : D) (v : V) : Prop := match k with
  | .own => Res g true H F' H' d v
  | .rp => Rp g F' d v
  | .rd => RepT g F' H' d v
def Ext (H H' : Hp) : Prop := ∀ a o, H a = some o → H' a = some o
theorem Ext.refl (H : Hp) : Ext H H := fun _ _ h => h
theorem Ext.trans {a b c : Hp} (x : Ext a b) (y : Ext b c) : Ext a c := fun p o h => y p o (x p o h)
theorem Ext.there {a b : Hp} (x : Ext a b) {p : Addr} (h : a p ≠ none) : b p ≠ none := by
  cases e : a p with
  | none => exact absurd e h
  | some o => rw [x p o e]; exact fun z => by cases z
theorem Adv.ext {F H F' H' : Hp} (a : Adv F H F' H') : Ext H H' := a.keep
theorem Res.up {g : Gm} {o : Bool} {H H2 F' H' : Hp} {d : D} {v : V} (r : Res g o H2 F' H' d v) (x : Ext H H2) : Res g o H F' H' d v := by
  unfold Res at r ⊢
  split at r
  · rename_i h
    rw [if_pos h]
    rcases r with ⟨a, e, n, f, p⟩ | p
    · refine .inl ⟨a, e, ?_, f, p⟩
      cases q : H a with
      | none => rfl
      | some u => rw [x a u q] at n; cases n
    · exact .inr p
  · rename_i h
    rw [if_neg h]; exact r
theorem ResK.up {g : Gm} {k : Kd} {H H2 F' H' : Hp} {d : D} {v : V} (r : ResK g k H2 F' H' d v) (x : Ext H H2) : ResK g k H F' H' d v := by
  cases k with
  | own => exact Res.up (o := true) r x
  | rp => exact r
  | rd => exact r
theorem ResK.rd {g : Gm} {k : Kd} {H F' H' : Hp} {d : D} {v : V} (r : ResK g k H F' H' d v) : RepT g F' H' d v := by
  cases k with
  | own =>
    have r : Res g true H F' H' d v := r
    unfold Res at r
    rw [if_pos rfl] at r
    rcases r with ⟨a, e, _, _, p⟩ | ⟨_, p⟩
    · exact .inr ⟨a, e, p⟩
    · exact .inl p
  | rp => exact .inl r
  | rd => exact r
theorem ResK.of_imm {g : Gm} {k : Kd} {H F' H' : Hp} {d : D} {v : V} (r : Rp g F' d v) (i : imm d = true) : ResK g k H F' H' d v := by
  cases k with
  | own => exact Res.imm r i
  | rp => exact r
  | rd => exact .inl r
/-- the class of an exception -/
def ExC (g : Gm) (c : Nat) (cls : Value) (dd : Option Addr) : Prop := ∃ a, g.ea c = some a ∧ cls = .ref a ∧ dd = none
def emp' (σ : St) : Env := List.replicate σ.length none
/-- the state with no more known of the objects -/
theorem Sim.drop {g : Gm} {B : Base} {F H : Hp} {mv ow : List Nat} {r m : Env} {σ : St} (S : Sim g B F mv ow r m σ H) : Sim g B F mv [] r (emp' σ) σ H := by
  refine ⟨S.sub, S.fr, S.ls, S.gr, S.rr, fun i d e => ?_, fun i j d e a h => (by cases h), S.lr, by unfold emp'; rw [List.length_replicate]⟩
  exfalso
  have : ∀ (n i : Nat), getS (List.replicate n none) i = none := by
    intro n
    induction n with
    | zero => intro i; rfl
    | succ n ih => intro i; cases i with
      | zero => rfl
      | succ i => exact ih i
  rw [emp', this] at e; cases e
/-- only the places of names, and new objects, are frozen anew -/
def Grow (m : Env) (σ : St) (F H F' : Hp) : Prop := ∀ a, H a ≠ none → (∀ i d, getS m i = some d → imm d = false → σ[i]? ≠ some (some (.ref a))) → F' a = F a
/-- from one state to another, the slots as they were -/
structure Tr (g : Gm) (B : Base) (mv ow : List Nat) (r m : Env) (σ : St) (F H F' H' : Hp) : Prop where
  sim : Sim g B F' mv ow r m σ H'
  le : Le F F'
  ext : Ext H H'
  grow : Grow m σ F H F'
theorem Tr.refl {g : Gm} {B : Base} {mv ow : List Nat} {r m : Env} {σ : St} {F H : Hp} (S : Sim g B F mv ow r m σ H) : Tr g B mv ow r m σ F H F H := ⟨S, Le.refl F, Ext.refl H, fun _ _ _ => rfl⟩
theorem Tr.trans {g : Gm} {B : Base} {mv ow ow' : List Nat} {r m : Env} {σ : St} {F H F1 H1 F2 H2 : Hp} (a : Tr g B mv ow r m σ F H F1 H1) (b : Tr g B mv ow' r m σ F1 H1 F2 H2) : Tr g B mv ow' r m σ F H F2 H2 :=
  ⟨b.sim, a.le.trans b.le, a.ext.trans b.ext, fun c h n => (b.grow c (a.ext.there h) n).trans (a.grow c h n)⟩
theorem Tr.step {g : Gm} {B : Base} {mv ow : List Nat} {r m : Env} {σ : St} {F H F1 H1 F2 H2 : Hp} (a : Tr g B mv ow r m σ F H F1 H1) (b : Adv F1 H1 F2 H2) : Tr g B mv ow r m σ F H F2 H2 :=
  ⟨a.sim.step b, a.le.trans (b.le a.sim.sub), a.ext.trans b.keep, fun c h n => (b.grow c (a.ext.there h)).trans (a.grow c h n)⟩
def okE (g : Gm) (B : Base) (mv ow : List Nat) (r m : Env) (σ : St) (F H : Hp) (k : Kd) (d : D) (Q : VK) : Prop := ∀ v H' F', Tr g B mv ow r m σ F H F' H' → ResK g k H F' H' d v → Q v H'
def exE (g : Gm) (W : WX) (B : Base) (mv : List Nat) (r : Env) (σ : St) (c : Nat) : Prop := ∀ cls dd H' F', ExC g c cls dd → Sim g B F' mv [] r (emp' σ) σ H' → W cls dd σ H'
def tE (g : Gm) (W : WX) (mv ow ow' : List Nat) (k : Kd) (E : EX) : TE := fun σ H Q => ∃ B F r m, B.L = [] ∧ Sim g B F mv ow r m σ H ∧ match E r m with
  | .ok d => okE g B mv ow' r m σ F H k d Q
  | .exc c => exE g W B mv r σ c
  | .bad => False
def tA (g : Gm) (W : WX) (mv ow ow' : List Nat) (k : Kd) (E : EA) : TA := fun σ H Q => ∃ B F r m, B.L = [] ∧ Sim g B F mv ow r m σ H ∧ match E r m with
  | .ok ds => ∀ vs H' F', Tr g B mv ow' r m σ F H F' H' → Paired (fun d v => match k with | .rp => Rp g F' d v | _ => RepT g F' H' d v) ds vs → Q vs H'
  | .exc c => exE g W B mv r σ c
  | .bad => False
def tX (g : Gm) (W : WX) (mv ow ow' : List Nat) (E : EX) : TT := fun σ H Q => ∃ B F r m, B.L = [] ∧ Sim g B F mv ow r m σ H ∧ match E r m with
  | .ok (.bl b) => ∀ H' F', Tr g B mv ow' r m σ F H F' H' → Q b H'
  | .exc c => exE g W B mv r σ c
  | _ => False
abbrev SE (X : Cx) (g : Gm) (W : WX) (mv ow ow' : List Nat) (k : Kd) (e : Expr) (E : EX) : Prop := PE X e (tE g W mv ow ow' k E)
abbrev SX (X : Cx) (g : Gm) (W : WX) (mv ow ow' : List Nat) (e : Expr) (E : EX) : Prop := PT X e (tX g W mv ow ow' E)
abbrev SW (X : Cx) (g : Gm) (W : WX) (mv ow ow' : List Nat) (e : Expr) (E : EX) : Prop := PW X e (tX g W mv ow ow' E)
abbrev SA (X : Cx) (g : Gm) (W : WX) (mv ow ow' : List Nat) (k : Kd) (es : List Expr) (E : EA) : Prop := PA X es (tA g W mv ow ow' k E)
theorem PE.imp {X : Cx} {e : Expr} {t t' : TE} (h : PE X e t) (i : ∀ σ H Q, t' σ H Q → t σ H Q) : PE X e t' := ⟨fun pins s σ H Q I q => h.run pins s σ H Q I (i σ H Q q)⟩
theorem PT.imp {X : Cx} {e : Expr} {t t' : TT} (h : PT X e t) (i : ∀ σ H Q, t' σ H Q → t σ H Q) : PT X e t' := ⟨fun pins s σ H Q I q => h.run pins s σ H Q I (i σ H Q q)⟩
theorem PW.imp {X : Cx} {e : Expr} {t t' : TT} (h : PW X e t) (i : ∀ σ H Q, t' σ H Q → t σ H Q) : PW X e t' := ⟨fun wh pins s σ H Q I q => h.run wh pins s σ H Q I (i σ H Q q)⟩
theorem PA.imp {X : Cx} {e : List Expr} {t t' : TA} (h : PA X e t) (i : ∀ σ H Q, t' σ H Q → t σ H Q) : PA X e t' := ⟨fun pos pins s σ H Q I q => h.run pos pins s σ H Q I (i σ H Q q)⟩
theorem PS.imp {X : Cx} {e : Stmt} {t t' : TS} (h : PS X e t) (i : ∀ D σ H, t' D σ H → t D σ H) : PS X e t' := ⟨fun pins s σ H D I q => h.run pins s σ H D I (i D σ H q)⟩
theorem PSs.imp {X : Cx} {e : List Stmt} {t t' : TS} (h : PSs X e t) (i : ∀ D σ H, t' D σ H → t D σ H) : PSs X e t' := ⟨fun pins s σ H D I q => h.run pins s σ H D I (i D σ H q)⟩
section
variable {X : Cx} {fa ea : Nat → Option Addr} {W : WX} {mv ow ow1 ow2 ow3 : List Nat} {k k1 k2 : Kd} {a b c : Expr} {A Bb C : EX} {pos : Pos}
/-! ### names, constants -/
theorem SE.var {i : Nat} {x : Str} (hN : X.N[i]? = some x) (hv : Vis X.env.scope x) (hd : (x == ("__debug__" : Str)) = false := by decide) (hcd : (x == ("__classdict__" : Str)) = false := by decide) : SE X (Gm.mk X.K fa ea) W mv ow ow .rp (.Name x pos) (eVar i) :=
  PE.imp (pe_var hN hv hd hcd) fun σ H Q ⟨B, F, r, m, hL, S, h⟩ => by
    unfold eVar at h
    cases e : getS r i with
    | none => rw [e] at h; exact h.elim
    | some d =>
      rw [e] at h
      obtain ⟨_, v, h1, h2⟩ := S.rr i d e
      exact ⟨v, h1, h v H F (Tr.refl S) h2⟩
theorem OwnS.rd {g : Gm} {B : Base} {F H : Hp} {d : D} {v : V} (h : OwnS g B F H d v) : RepT g F H d v := by
  rcases h with ⟨a, e, o, _⟩ | ⟨_, p⟩
  · exact .inr ⟨a, e, o⟩
  · exact .inl p
/-- a name whose object is changed in place, read now -/
theorem SE.mvR {i : Nat} {x : Str} (hN : X.N[i]? = some x) (hv : Vis X.env.scope x) (hd : (x == ("__debug__" : Str)) = false := by decide) (hcd : (x == ("__classdict__" : Str)) = false := by decide) : SE X (Gm.mk X.K fa ea) W mv ow ow .rd (.Name x pos) (eMv i) :=
  PE.imp (pe_var hN hv hd hcd) fun σ H Q ⟨B, F, r, m, hL, S, h⟩ => by
    unfold eMv at h
    cases e : getS m i with
    | none => rw [e] at h; exact h.elim
    | some d =>
      rw [e] at h
      obtain ⟨_, v, h1, h2, h3⟩ := S.mm i d e
      refine ⟨v, h1, h v H F (Tr.refl S) ?_⟩
      by_cases hi : i ∈ ow
      · exact (h2 hi).rd
      · exact .inl (h3 hi)
/-- .. given away: frozen -/
theorem SE.mvF {i : Nat} {x : Str} (hN : X.N[i]? = some x) (hv : Vis X.env.scope x) (ho : ow.filter (· != i) = ow1 := by rfl) (hd : (x == ("__debug__" : Str)) = false := by decide) (hcd : (x == ("__classdict__" : Str)) = false := by decide) : SE X (Gm.mk X.K fa ea) W mv ow ow1 .rp (.Name x pos) (eMv i) :=
  PE.imp (pe_var hN hv hd hcd) fun σ H Q ⟨B, F, r, m, hL, S, h⟩ => by
    subst ho
    unfold eMv at h
    cases e : getS m i with
    | none => rw [e] at h; exact h.elim
    | some d =>
      rw [e] at h
      obtain ⟨F', le, S', gw⟩ := S.freeze i hL
      obtain ⟨_, v, h1, h2, h3⟩ := S'.mm i d e
      refine ⟨v, h1, h v H F' ⟨S', le, Ext.refl H, fun a _ n => gw a fun d e' im => n i d e' im⟩ (h3 fun z => ?_)⟩
      have z := (List.mem_filter.mp z).2
      simp at z
theorem SE.con {d : D} {v : V} (h : PE X a (tC v)) (hr : ∀ F, Rp (Gm.mk X.K fa ea) F d v) : SE X (Gm.mk X.K fa ea) W mv ow ow .rp a (eCon d) :=
  PE.imp h fun σ H Q ⟨B, F, r, m, hL, S, h⟩ => h v H F (Tr.refl S) (hr F)
theorem SE.int {i : Int} {j : Nat} : SE X (Gm.mk X.K fa ea) W mv ow ow .rp (.Constant (.int i) j pos) (eCon (.int i)) := SE.con pe_int fun _ => rfl
theorem SE.bl {i : Bool} {j : Nat} : SE X (Gm.mk X.K fa ea) W mv ow ow .rp (.Constant (.bool i) j pos) (eCon (.bl i)) := SE.con pe_bl fun _ => rfl
theorem SE.non {j : Nat} : SE X (Gm.mk X.K fa ea) W mv ow ow .rp (.Constant .none j pos) (eCon .non) := SE.con pe_non fun _ => rfl
theorem SE.str {x : Str} {l : List Nat} {j : Nat} (h : x = ⟨l.toArray⟩ := by rfl) : SE X (Gm.mk X.K fa ea) W mv ow ow .rp (.Constant (.str x) j pos) (eCon (.str l)) := SE.con pe_str fun _ => by subst h; rfl
/-! ### kinds -/
theorem SE.toRd (h : SE X (Gm.mk X.K fa ea) W mv ow ow1 k a A) : SE X (Gm.mk X.K fa ea) W mv ow ow1 .rd a A :=
  PE.imp h fun σ H Q ⟨B, F, r, m, hL, S, h⟩ => ⟨B, F, r, m, hL, S, by
    cases e : A r m with
    | ok d => rw [e] at h; exact fun v H' F' T R => h v H' F' T R.rd
    | exc c => rw [e] at h; exact h
    | bad => rw [e] at h; exact h⟩
/-- the frozen part takes a new object in -/
theorem Sim.take {g : Gm} {B : Base} {F H H0 : Hp} {mv ow : List Nat} {r m : Env} {σ : St} (S : Sim g B F mv ow r m σ H) {p : Addr} {o : HO} (hp : H p = some o) (n : F p = none) (bn : B.H p = none)
    (no : ∀ i d, i ∈ ow → getS m i = some d → imm d = false → σ[i]? ≠ some (some (.ref p))) (sb : Sub (upd F p o) H) (le : Le F (upd F p o)) : Sim g B (upd F p o) mv ow r m σ H := by
  refine ⟨sb, S.fr, S.ls, fun a h => ?_, fun i d e => ?_, fun i d e => ?_, S.ap, S.lr, S.lm⟩
  · have q : a ≠ p := fun z => by subst z; exact h bn
    rw [upd_ne q]; exact S.gr a h
  · obtain ⟨q, v, h1, h2⟩ := S.rr i d e
    exact ⟨q, v, h1, h2.mono le⟩
  · obtain ⟨q, v, h1, h2, h3⟩ := S.mm i d e
    refine ⟨q, v, h1, fun z => ?_, fun z => (h3 z).mono le⟩
    rcases h2 z with ⟨a, rfl, ow', f, b⟩ | ⟨im, pp⟩
    · refine .inl ⟨a, rfl, ow'.mono le fun _ h => h, ?_, b⟩
      have hc : a ≠ p := fun w => by
        subst w
        exact no i d z e ow'.mut h1
      rw [upd_ne hc]; exact f
    · exact .inr ⟨im, pp.mono le⟩
/-- where the own objects stand -/
theorem Sim.slot {g : Gm} {B : Base} {F H : Hp} {mv ow : List Nat} {r m : Env} {σ : St} (S : Sim g B F mv ow r m σ H) {i : Nat} {d : D} (e : getS m i = some d) (im : imm d = false) : ∃ a, σ[i]? = some (some (.ref a)) ∧ H a ≠ none := by
  obtain ⟨_, v, h1, h2, h3⟩ := S.mm i d e
  have rp : Rp g F d v → ∃ a, v = .ref a ∧ H a ≠ none := fun p => by
    cases d with
    | lst ds => obtain ⟨a, vs, rfl, h, _⟩ := p; exact ⟨a, rfl, S.sub.there h⟩
    | dct ds => obtain ⟨a, vs, rfl, h, _⟩ := p; exact ⟨a, rfl, S.sub.there h⟩
    | _ => cases im
  have : ∃ a, v = .ref a ∧ H a ≠ none := by
    by_cases hi : i ∈ ow
    · rcases h2 hi with ⟨a, e, o, _⟩ | ⟨_, p⟩
      · exact ⟨a, e, o.there⟩
      · exact rp p
    · exact rp (h3 hi)
  obtain ⟨a, rfl, h⟩ := this
  exact ⟨a, h1, h⟩
/-- a new value, frozen -/
theorem freezeRes {g : Gm} {B : Base} {F F' H H' : Hp} {mv ow ow' : List Nat} {r m : Env} {σ : St} (S0 : Sim g B F mv ow r m σ H) (S : Sim g B F' mv ow' r m σ H') {k : Kd} (hk : k ≠ .rd) {d : D} {v : V} (R : ResK g k H F' H' d v) : ∃ F2, Le F' F2 ∧ Sim g B F2 mv ow' r m σ H' ∧ Rp g F2 d v ∧ ∀ a, H a ≠ none → F2 a = F' a := by
  cases k with
  | rd => exact absurd rfl hk
  | rp => exact ⟨F', Le.refl _, S, R, fun _ _ => rfl⟩
  | own =>
    have R : Res g true H F' H' d v := R
    unfold Res at R
    rw [if_pos rfl] at R
    rcases R with ⟨a, rfl, n, f, p⟩ | ⟨_, p⟩
    · obtain ⟨o, e, sb, le, rp⟩ := p.freeze S.sub f
      refine ⟨_, le, S.take (H0 := H) e f ?_ (fun i d' hi he hd hs => ?_) sb le, rp, fun c hc => upd_ne fun z => by subst z; exact hc n⟩
      · cases q : B.H a with
        | none => rfl
        | some u => exact absurd n (S0.bthere (by rw [q]; exact fun z => by cases z))
      · obtain ⟨a', h1, h2⟩ := S0.slot he hd
        rw [hs] at h1
        cases h1
        exact h2 n
    · exact ⟨F', Le.refl _, S, p, fun _ _ => rfl⟩
theorem SE.toRp (h : SE X (Gm.mk X.K fa ea) W mv ow ow1 k a A) (hk : k ≠ .rd := by exact fun z => by cases z) : SE X (Gm.mk X.K fa ea) W mv ow ow1 .rp a A :=
  PE.imp h fun σ H Q ⟨B, F, r, m, hL, S, h⟩ => ⟨B, F, r, m, hL, S, by
    cases e : A r m with
    | ok d =>
      rw [e] at h
      exact fun v H' F' T R => by
        obtain ⟨F2, l2, S2, p, gw⟩ := freezeRes S T.sim hk R
        exact h v H' F2 ⟨S2, T.le.trans l2, T.ext, fun c hc n => (gw c hc).trans (T.grow c hc n)⟩ p
    | exc c => rw [e] at h; exact h
    | bad => rw [e] at h; exact h⟩
/-- an object that nobody knows is changed -/
theorem Tr.rewrite {g : Gm} {B : Base} {mv ow ow' : List Nat} {r m : Env} {σ : St} {F H F' H' : Hp} (S0 : Sim g B F mv ow r m σ H) (T : Tr g B mv ow' r m σ F H F' H') {p : Addr} {o o' : HO} (n : H p = none) (hp : H' p = some o) (fp : F' p = none) : Tr g B mv ow' r m σ F H F' (upd H' p o') := by
  have S := T.sim
  have bn : B.H p = none := by
    cases q : B.H p with
    | none => rfl
    | some u => exact absurd n (S0.bthere (by rw [q]; exact fun z => by cases z))
  refine ⟨⟨fun a u e => ?_, fun a u e h => ?_, fun a h1 h2 => ?_, S.gr, S.rr, fun i d e => ?_, S.ap, S.lr, S.lm⟩, T.le, fun a u e => ?_, T.grow⟩
  · have q : a ≠ p := fun z => by subst z; rw [fp] at e; cases e
    rw [upd_ne q]; exact S.sub a u e
  · have q : a ≠ p := fun z => by subst z; rw [bn] at e; cases e
    rw [upd_ne q]; exact S.fr a u e h
  · have q : a ≠ p := fun z => by subst z; exact h2 bn
    rw [upd_ne q]; exact S.ls a h1 h2
  · obtain ⟨q, v, h1, h2, h3⟩ := S.mm i d e
    refine ⟨q, v, h1, fun z => ?_, h3⟩
    rcases h2 z with ⟨a, rfl, w, f, b⟩ | ⟨im, pp⟩
    · refine .inl ⟨a, rfl, ?_, f, b⟩
      obtain ⟨a', e1, e2⟩ := S0.slot e w.mut
      have q : a ≠ p := fun z => by
        subst z
        rw [h1] at e1
        cases e1
        exact e2 n
      exact w.mono (Le.refl _) fun o e => by rw [upd_ne q]; exact e
    · exact .inr ⟨im, pp⟩
  · have q : a ≠ p := fun z => by subst z; rw [n] at e; cases e
    rw [upd_ne q]; exact T.ext a u e
end
end F
/-! F3b: rules for operators, comparisons, and/or/not, displays, arguments. -/
namespace F
open PySem PySem.Spec PyProof.Rows L2
section
variable {X : Cx} {fa ea : Nat → Option Addr} {W : WX} {mv ow ow1 ow2 ow3 : List Nat} {k k1 k2 : Kd} {a b c : Expr} {A Bb C : EX} {pos : Pos}
def kO : Bool → Kd
  | true => .own
  | false => .rp
theorem ResK.ofRes {g : Gm} {o : Bool} {H F' H' : Hp} {d : D} {v : V} (r : Res g o H F' H' d v) : ResK g (kO o) H F' H' d v := by
  cases o with
  | true => exact r
  | false =>
    unfold Res at r
    rw [if_neg Bool.false_ne_true] at r
    exact r
/-- the end of an operation -/
theorem fin_op {g : Gm} {B : Base} {F F2 H H2 : Hp} {mv ow' : List Nat} {r m : Env} {σ : St} {o : Bool} {d : D} {Q : VK} (q : okE g B mv ow' r m σ F H (kO o) d Q) (T : Tr g B mv ow' r m σ F H F2 H2) :
    ∀ v H' F', Adv F2 H2 F' H' → Res g o H2 F' H' d v → Q v H' := fun v H' F' ad R =>
  q v H' F' (T.step ad) (ResK.ofRes (R.up T.ext))
/-- two operands, then an operation -/
theorem two {o : Bool} {f : D → D → Option D} {σ : St} {H : Hp} {Q : VK} (h : tE (Gm.mk X.K fa ea) W mv ow ow2 (kO o) (e2 f A Bb) σ H Q) :
    tOp (r2 (Gm.mk X.K fa ea) o f) (tE (Gm.mk X.K fa ea) W mv ow ow1 .rd A) (tE (Gm.mk X.K fa ea) W mv ow1 ow2 .rd Bb) σ H Q := by
  obtain ⟨B, F, r, m, hL, S, h⟩ := h
  refine ⟨B, F, r, m, hL, S, ?_⟩
  unfold e2 at h
  cases e : A r m with
  | exc c => rw [e] at h; exact h
  | bad => rw [e] at h; exact h.elim
  | ok x =>
    rw [e] at h
    intro v1 H1 F1 T1 R1
    have S1 := T1.sim
    refine ⟨B, F1, r, m, hL, S1, ?_⟩
    cases e' : Bb r m with
    | exc c => simp only [e'] at h; exact h
    | bad => simp only [e'] at h
    | ok y =>
      simp only [e'] at h
      intro v2 H2 F2 T2 R2
      have S2 := T2.sim
      cases e3 : f x y with
      | none => rw [e3] at h; exact h.elim
      | some d =>
        rw [e3] at h
        exact ⟨F2, x, y, d, S2.sub, RepT.mono T2.le T2.ext R1, R2, e3, fin_op h (T1.trans T2)⟩
theorem SE.op {o : Bool} {f : D → D → Option D} {op : Operator} (ho : OpR X (binaryOp op) (r2 (Gm.mk X.K fa ea) o f)) (ha : SE X (Gm.mk X.K fa ea) W mv ow ow1 .rd a A) (hb : SE X (Gm.mk X.K fa ea) W mv ow1 ow2 .rd b Bb) : SE X (Gm.mk X.K fa ea) W mv ow ow2 (kO o) (.BinOp a op b pos) (e2 f A Bb) :=
  PE.imp (pe_op ho ha hb) fun _ _ _ h => two h
theorem SE.cmp {o : Bool} {f : D → D → Option D} {op : CmpOp} (ho : OpR X (compareOp op) (r2 (Gm.mk X.K fa ea) o f)) (ha : SE X (Gm.mk X.K fa ea) W mv ow ow1 .rd a A) (hb : SE X (Gm.mk X.K fa ea) W mv ow1 ow2 .rd b Bb) (hm : behindInMarks op b = false) : SE X (Gm.mk X.K fa ea) W mv ow ow2 (kO o) (.Compare a [op] [b] pos) (e2 f A Bb) :=
  PE.imp (pe_cmpR ho ha hb hm) fun _ _ _ h => two h
/-- a test by a value -/
theorem xE {E : EX} {σ : St} {H : Hp} {Q : Bool → Hp → Prop} (h : tX (Gm.mk X.K fa ea) W mv ow ow1 E σ H Q) : tE (Gm.mk X.K fa ea) W mv ow ow1 k E σ H (fun x H' => ∃ b, x = .bl b ∧ Q b H') := by
  obtain ⟨B, F, r, m, hL, S, h⟩ := h
  refine ⟨B, F, r, m, hL, S, ?_⟩
  cases e : E r m with
  | exc c => rw [e] at h; exact h
  | bad => rw [e] at h; exact h
  | ok d =>
    rw [e] at h
    cases d with
    | bl b => exact fun v H' F' T R => ⟨b, R.rd.bl, h H' F' T⟩
    | _ => exact h.elim
theorem SX.cmp {o : Bool} {f : D → D → Option D} {op : CmpOp} (ho : OpR X (compareOp op) (r2 (Gm.mk X.K fa ea) o f)) (ha : SE X (Gm.mk X.K fa ea) W mv ow ow1 .rd a A) (hb : SE X (Gm.mk X.K fa ea) W mv ow1 ow2 .rd b Bb) (hm : behindInMarks op b = false) : SX X (Gm.mk X.K fa ea) W mv ow ow2 (.Compare a [op] [b] pos) (e2 f A Bb) :=
  PT.imp (pt_cmpR ho ha hb hm) fun σ H Q h => two (o := o) (xE h)
theorem SX.val (h : SE X (Gm.mk X.K fa ea) W mv ow ow1 k a A) (he : ∀ whole, isTrue a X.env whole = (do let v ← whole; standAt a.pos; holding [v] (truthy v)) := by intro _; rfl) : SX X (Gm.mk X.K fa ea) W mv ow ow1 a A :=
  PT.imp (pt_val h he) fun σ H Q h => xE h
theorem chain {f f' : D → D → Option D} {σ : St} {H : Hp} {Q : VK} (h : tE (Gm.mk X.K fa ea) W mv ow ow .own (eChn f f' A Bb C) σ H Q) :
    tChain (r2 (Gm.mk X.K fa ea) true f) (r2 (Gm.mk X.K fa ea) true f') (tE (Gm.mk X.K fa ea) W mv ow ow .rd A) (tE (Gm.mk X.K fa ea) W mv ow ow .rd Bb) (tE (Gm.mk X.K fa ea) W mv ow ow .rd C) σ H Q := by
  obtain ⟨B, F, r, m, hL, S, h⟩ := h
  refine ⟨B, F, r, m, hL, S, ?_⟩
  unfold eChn at h
  cases e : A r m with
  | exc c => rw [e] at h; exact h
  | bad => rw [e] at h; exact h.elim
  | ok x =>
    rw [e] at h
    intro v1 H1 F1 T1 R1
    have S1 := T1.sim
    refine ⟨B, F1, r, m, hL, S1, ?_⟩
    cases e' : Bb r m with
    | exc c => simp only [e'] at h; exact h
    | bad => simp only [e'] at h
    | ok y =>
      simp only [e'] at h
      intro v2 H2 F2 T2 R2
      have S2 := T2.sim
      cases e3 : f x y with
      | none => rw [e3] at h; exact h.elim
      | some d =>
        rw [e3] at h
        cases d with
        | bl t =>
          refine ⟨F2, x, y, .bl t, S2.sub, RepT.mono T2.le T2.ext R1, R2, e3, fun v H' F' ad R => ?_⟩
          have eb : v = .bl t := (ResK.ofRes R).rd.bl
          have T3 := (T1.trans T2).step ad
          refine ⟨t, eb, ?_⟩
          cases t with
          | false =>
            exact h (.bl false) H' F' T3 (Res.imm (o := true) rfl rfl)
          | true =>
            refine ⟨B, F', r, m, hL, T3.sim, ?_⟩
            cases e4 : C r m with
            | exc c => simp only [e4] at h; exact h
            | bad => simp only [e4] at h
            | ok z =>
              simp only [e4] at h
              intro v4 H4 F4 T4 R4
              cases e5 : f' y z with
              | none => rw [e5] at h; exact h.elim
              | some d' =>
                rw [e5] at h
                refine ⟨F4, y, z, d', T4.sim.sub, RepT.mono ((ad.le S2.sub).trans T4.le) (Ext.trans ad.keep T4.ext) R2, R4, e5, fun v5 H5 F5 ad5 R5 => ?_⟩
                exact h v5 H5 F5 ((T3.trans T4).step ad5) (R5.up (T3.trans T4).ext)
        | _ => exact h.elim
theorem SE.chn {f f' : D → D → Option D} {op op' : CmpOp} (ho : OpR X (compareOp op) (r2 (Gm.mk X.K fa ea) true f)) (ho' : OpR X (compareOp op') (r2 (Gm.mk X.K fa ea) true f')) (ha : SE X (Gm.mk X.K fa ea) W mv ow ow .rd a A) (hb : SE X (Gm.mk X.K fa ea) W mv ow ow .rd b Bb) (hc : SE X (Gm.mk X.K fa ea) W mv ow ow .rd c C)
    (hm : lastMarks [op, op'] [b, c] = false := by with_unfolding_all rfl) : SE X (Gm.mk X.K fa ea) W mv ow ow .own (.Compare a [op, op'] [b, c] pos) (eChn f f' A Bb C) :=
  PE.imp (pe_chain ho ho' ha hb hc hm) fun _ _ _ h => chain h
theorem SX.chn {f f' : D → D → Option D} {op op' : CmpOp} (ho : OpR X (compareOp op) (r2 (Gm.mk X.K fa ea) true f)) (ho' : OpR X (compareOp op') (r2 (Gm.mk X.K fa ea) true f')) (ha : SE X (Gm.mk X.K fa ea) W mv ow ow .rd a A) (hb : SE X (Gm.mk X.K fa ea) W mv ow ow .rd b Bb) (hc : SE X (Gm.mk X.K fa ea) W mv ow ow .rd c C)
    (hm : lastMarks [op, op'] [b, c] = false := by with_unfolding_all rfl) : SX X (Gm.mk X.K fa ea) W mv ow ow (.Compare a [op, op'] [b, c] pos) (eChn f f' A Bb C) :=
  PT.imp (pt_chain ho ho' ha hb hc hm) fun _ _ _ h => chain (xE h)
/-! ### one operand -/
theorem one {o : Bool} {f : D → Option D} {σ : St} {H : Hp} {Q : VK} (h : tE (Gm.mk X.K fa ea) W mv ow ow1 (kO o) (e1 f A) σ H Q) : tUn (r1 (Gm.mk X.K fa ea) o f) (tE (Gm.mk X.K fa ea) W mv ow ow1 .rd A) σ H Q := by
  obtain ⟨B, F, r, m, hL, S, h⟩ := h
  refine ⟨B, F, r, m, hL, S, ?_⟩
  unfold e1 at h
  cases e : A r m with
  | exc c => rw [e] at h; exact h
  | bad => rw [e] at h; exact h.elim
  | ok x =>
    simp only [e] at h
    intro v1 H1 F1 T1 R1
    have S1 := T1.sim
    cases e3 : f x with
    | none => rw [e3] at h; exact h.elim
    | some d =>
      rw [e3] at h
      exact ⟨F1, x, d, S1.sub, R1, e3, fin_op h T1⟩
theorem SE.un {o : Bool} {f : D → Option D} {op : UnaryOp} (ho : UnR X (unaryOp op) (r1 (Gm.mk X.K fa ea) o f)) (ha : SE X (Gm.mk X.K fa ea) W mv ow ow1 .rd a A) : SE X (Gm.mk X.K fa ea) W mv ow ow1 (kO o) (.UnaryOp op a pos) (e1 f A) :=
  PE.imp (pe_un ho ha) fun _ _ _ h => one h
/-! ### not, and, or, if -/
theorem SX.not (ha : SX X (Gm.mk X.K fa ea) W mv ow ow1 a A) : SX X (Gm.mk X.K fa ea) W mv ow ow1 (.UnaryOp .Not a pos) (eNot A) :=
  PT.imp (pt_not ha) fun σ H Q ⟨B, F, r, m, hL, S, h⟩ => by
    refine ⟨B, F, r, m, hL, S, ?_⟩
    unfold eNot at h
    cases e : A r m with
    | exc c => rw [e] at h; exact h
    | bad => rw [e] at h; exact h.elim
    | ok d =>
      rw [e] at h
      cases d with
      | bl b => exact h
      | _ => exact h.elim
theorem SE.not (ha : SE X (Gm.mk X.K fa ea) W mv ow ow1 k1 a A) : SE X (Gm.mk X.K fa ea) W mv ow ow1 .own (.UnaryOp .Not a pos) (eNot A) :=
  PE.imp (pe_not ha) fun σ H Q ⟨B, F, r, m, hL, S, h⟩ => by
    refine ⟨B, F, r, m, hL, S, ?_⟩
    unfold eNot at h
    cases e : A r m with
    | exc c => rw [e] at h; exact h
    | bad => rw [e] at h; exact h.elim
    | ok d =>
      rw [e] at h
      cases d with
      | bl b => exact fun v H' F' T R => ⟨b, R.rd.bl, h _ H' F' T (Res.imm (o := true) rfl rfl)⟩
      | _ => exact h.elim
theorem SW.one_and (ha : SX X (Gm.mk X.K fa ea) W mv ow ow1 a A) : SW X (Gm.mk X.K fa ea) W mv ow ow1 (.BoolOp .And [a] pos) A := pw_and1 ha
theorem SW.one_or (ha : SX X (Gm.mk X.K fa ea) W mv ow ow1 a A) : SW X (Gm.mk X.K fa ea) W mv ow ow1 (.BoolOp .Or [a] pos) A := pw_or1 ha
theorem SW.and {rest : List Expr} (ha : SX X (Gm.mk X.K fa ea) W mv ow ow a A) (hb : SW X (Gm.mk X.K fa ea) W mv ow ow (.BoolOp .And (b :: rest) pos) Bb) : SW X (Gm.mk X.K fa ea) W mv ow ow (.BoolOp .And (a :: b :: rest) pos) (eAnd A Bb) :=
  PW.imp (pw_and ha hb) fun σ H Q ⟨B, F, r, m, hL, S, h⟩ => by
    refine ⟨B, F, r, m, hL, S, ?_⟩
    unfold eAnd at h
    cases e : A r m with
    | exc c => rw [e] at h; exact h
    | bad => rw [e] at h; exact h.elim
    | ok d =>
      rw [e] at h
      cases d with
      | bl b =>
        intro H1 F1 T1
        have S1 := T1.sim
        cases b with
        | false => exact h H1 F1 T1
        | true =>
          refine ⟨B, F1, r, m, hL, S1, ?_⟩
          cases e' : Bb r m with
          | exc c => simp only [e'] at h; exact h
          | bad => simp only [e'] at h
          | ok d =>
            simp only [e'] at h
            cases d with
            | bl b => exact fun H' F' T => h H' F' (T1.trans T)
            | _ => exact h.elim
      | _ => exact h.elim
theorem SW.or {rest : List Expr} (ha : SX X (Gm.mk X.K fa ea) W mv ow ow a A) (hb : SW X (Gm.mk X.K fa ea) W mv ow ow (.BoolOp .Or (b :: rest) pos) Bb) : SW X (Gm.mk X.K fa ea) W mv ow ow (.BoolOp .Or (a :: b :: rest) pos) (eOr A Bb) :=
  PW.imp (pw_or ha hb) fun σ H Q ⟨B, F, r, m, hL, S, h⟩ => by
    refine ⟨B, F, r, m, hL, S, ?_⟩
    unfold eOr at h
    cases e : A r m with
    | exc c => rw [e] at h; exact h
    | bad => rw [e] at h; exact h.elim
    | ok d =>
      rw [e] at h
      cases d with
      | bl b =>
        intro H1 F1 T1
        have S1 := T1.sim
        cases b with
        | true => exact h H1 F1 T1
        | false =>
          refine ⟨B, F1, r, m, hL, S1, ?_⟩
          cases e' : Bb r m with
          | exc c => simp only [e'] at h; exact h
          | bad => simp only [e'] at h
          | ok d =>
            simp only [e'] at h
            cases d with
            | bl b => exact fun H' F' T => h H' F' (T1.trans T)
            | _ => exact h.elim
      | _ => exact h.elim
theorem SX.bool (h : SW X (Gm.mk X.K fa ea) W mv ow ow1 a A) : SX X (Gm.mk X.K fa ea) W mv ow ow1 a A := h.pt
theorem SE.one_bop {op} (ha : SE X (Gm.mk X.K fa ea) W mv ow ow1 k a A) : SE X (Gm.mk X.K fa ea) W mv ow ow1 k (.BoolOp op [a] pos) A := pe_one ha
theorem SE.and {rest : List Expr} (ha : SE X (Gm.mk X.K fa ea) W mv ow ow k1 a A) (hb : SE X (Gm.mk X.K fa ea) W mv ow ow k (.BoolOp .And (b :: rest) pos) Bb) : SE X (Gm.mk X.K fa ea) W mv ow ow k (.BoolOp .And (a :: b :: rest) pos) (eAnd A Bb) :=
  PE.imp (pe_and ha hb) fun σ H Q ⟨B, F, r, m, hL, S, h⟩ => by
    refine ⟨B, F, r, m, hL, S, ?_⟩
    unfold eAnd at h
    cases e : A r m with
    | exc c => rw [e] at h; exact h
    | bad => rw [e] at h; exact h.elim
    | ok d =>
      rw [e] at h
      cases d with
      | bl b =>
        intro v1 H1 F1 T1 R1
        have S1 := T1.sim
        refine ⟨b, R1.rd.bl, ?_⟩
        cases b with
        | false => exact h _ H1 F1 T1 (ResK.of_imm rfl rfl)
        | true =>
          refine ⟨B, F1, r, m, hL, S1, ?_⟩
          cases e' : Bb r m with
          | exc c => simp only [e'] at h; exact h
          | bad => simp only [e'] at h
          | ok d =>
            simp only [e'] at h
            exact fun v H' F' T R => h v H' F' (T1.trans T) (R.up T1.ext)
      | _ => exact h.elim
theorem SE.or {rest : List Expr} (ha : SE X (Gm.mk X.K fa ea) W mv ow ow k1 a A) (hb : SE X (Gm.mk X.K fa ea) W mv ow ow k (.BoolOp .Or (b :: rest) pos) Bb) : SE X (Gm.mk X.K fa ea) W mv ow ow k (.BoolOp .Or (a :: b :: rest) pos) (eOr A Bb) :=
  PE.imp (pe_or ha hb) fun σ H Q ⟨B, F, r, m, hL, S, h⟩ => by
    refine ⟨B, F, r, m, hL, S, ?_⟩
    unfold eOr at h
    cases e : A r m with
    | exc c => rw [e] at h; exact h
    | bad => rw [e] at h; exact h.elim
    | ok d =>
      rw [e] at h
      cases d with
      | bl b =>
        intro v1 H1 F1 T1 R1
        have S1 := T1.sim
        refine ⟨b, R1.rd.bl, ?_⟩
        cases b with
        | true => exact h _ H1 F1 T1 (ResK.of_imm rfl rfl)
        | false =>
          refine ⟨B, F1, r, m, hL, S1, ?_⟩
          cases e' : Bb r m with
          | exc c => simp only [e'] at h; exact h
          | bad => simp only [e'] at h
          | ok d =>
            simp only [e'] at h
            exact fun v H' F' T R => h v H' F' (T1.trans T) (R.up T1.ext)
      | _ => exact h.elim
theorem SE.ife (hc : SX X (Gm.mk X.K fa ea) W mv ow ow c C) (ha : SE X (Gm.mk X.K fa ea) W mv ow ow1 k a A) (hb : SE X (Gm.mk X.K fa ea) W mv ow ow1 k b Bb) : SE X (Gm.mk X.K fa ea) W mv ow ow1 k (.IfExp c a b pos) (eIf C A Bb) :=
  PE.imp (pe_ifExp hc ha hb) fun σ H Q ⟨B, F, r, m, hL, S, h⟩ => by
    refine ⟨B, F, r, m, hL, S, ?_⟩
    unfold eIf at h
    cases e : C r m with
    | exc c => rw [e] at h; exact h
    | bad => rw [e] at h; exact h.elim
    | ok d =>
      rw [e] at h
      cases d with
      | bl t =>
        intro H1 F1 T1
        have S1 := T1.sim
        cases t with
        | true =>
          refine ⟨B, F1, r, m, hL, S1, ?_⟩
          cases e' : A r m with
          | exc c => simp only [e'] at h; exact h
          | bad => simp only [e'] at h
          | ok d => simp only [e'] at h; exact fun v H' F' T R => h v H' F' (T1.trans T) (R.up T1.ext)
        | false =>
          refine ⟨B, F1, r, m, hL, S1, ?_⟩
          cases e' : Bb r m with
          | exc c => simp only [e'] at h; exact h
          | bad => simp only [e'] at h
          | ok d => simp only [e'] at h; exact fun v H' F' T R => h v H' F' (T1.trans T) (R.up T1.ext)
      | _ => exact h.elim
/-! ### arguments -/
def kA (g : Gm) (k : Kd) (F' H' : Hp) (d : D) (v : V) : Prop := match k with
  | .rp => Rp g F' d v
  | _ => RepT g F' H' d v
theorem kA.mono {g : Gm} {k : Kd} {F' H' F2 H2 : Hp} {d : D} {v : V} (h : kA g k F' H' d v) (l : Le F' F2) (x : Ext H' H2) : kA g k F2 H2 d v := by
  cases k with
  | rp => exact Rep.mono l _ _ h
  | own => exact RepT.mono l x h
  | rd => exact RepT.mono l x h
theorem SA.nil : SA X (Gm.mk X.K fa ea) W mv ow ow k [] aNil := PA.imp pa_nil fun σ H Q ⟨B, F, r, m, hL, S, h⟩ => h [] H F (Tr.refl S) .nil
theorem SA.cons {es : List Expr} {E : EA} (hk : k = .rp ∨ k = .rd) (ha : SE X (Gm.mk X.K fa ea) W mv ow ow1 k a A) (hr : SA X (Gm.mk X.K fa ea) W mv ow1 ow2 k es E) (hs : starEach (a :: es) X.env = (false, eval a X.env) :: starEach es X.env := by rfl) : SA X (Gm.mk X.K fa ea) W mv ow ow2 k (a :: es) (aCons A E) :=
  PA.imp (pa_cons ha hr hs) fun σ H Q ⟨B, F, r, m, hL, S, h⟩ => by
    refine ⟨B, F, r, m, hL, S, ?_⟩
    unfold aCons at h
    cases e : A r m with
    | exc c => rw [e] at h; exact h
    | bad => rw [e] at h; exact h.elim
    | ok d =>
      simp only [e] at h
      intro v1 H1 F1 T1 R1
      have S1 := T1.sim
      refine ⟨B, F1, r, m, hL, S1, ?_⟩
      cases e' : E r m with
      | exc c => simp only [e'] at h; exact h
      | bad => simp only [e'] at h
      | ok ds =>
        simp only [e'] at h
        intro vs H' F' T R
        refine h (v1 :: vs) H' F' (T1.trans T) (.cons ?_ R)
        have : kA (Gm.mk X.K fa ea) k F1 H1 d v1 := by
          rcases hk with rfl | rfl
          · exact R1
          · exact R1
        exact this.mono T.le T.ext
theorem Paired.repL {g : Gm} {F : Hp} : ∀ {ds : List D} {vs : List V}, Paired (fun d v => Rp g F d v) ds vs → RepL g.K g.fa F ds vs
  | _, _, .nil => rfl
  | _, _, .cons r t => ⟨_, _, rfl, r, Paired.repL t⟩
/-! ### displays -/
theorem SE.tup {es : List Expr} {E : EA} {j : Nat} (ha : SA X (Gm.mk X.K fa ea) W mv ow ow1 .rp es E) : SE X (Gm.mk X.K fa ea) W mv ow ow1 .own (.Tuple es j pos) (eN fTup E) :=
  PE.imp (pe_tupF ha) fun σ H Q ⟨B, F, r, m, hL, S, h⟩ => by
    refine ⟨B, F, r, m, hL, S, ?_⟩
    unfold eN at h
    cases e : E r m with
    | exc c => rw [e] at h; exact h
    | bad => rw [e] at h; exact h.elim
    | ok ds =>
      simp only [e] at h
      intro vs H1 F1 T1 R1
      unfold fTup at h
      cases e3 : okLen ds with
      | false => simp only [e3] at h; exact h.elim
      | true =>
        simp only [e3, if_true] at h
        have R := Paired.repL (g := (Gm.mk X.K fa ea)) R1
        exact ⟨by rw [← R.length]; exact okLen_le e3, newT T1.sim.sub R (fin_op (o := true) h T1)⟩
theorem SE.lst {es : List Expr} {E : EA} (ha : SA X (Gm.mk X.K fa ea) W mv ow ow1 .rp es E) : SE X (Gm.mk X.K fa ea) W mv ow ow1 .own (.List es pos) (eN fLst E) :=
  PE.imp (pe_lst ha) fun σ H Q ⟨B, F, r, m, hL, S, h⟩ => by
    refine ⟨B, F, r, m, hL, S, ?_⟩
    unfold eN at h
    cases e : E r m with
    | exc c => rw [e] at h; exact h
    | bad => rw [e] at h; exact h.elim
    | ok ds =>
      simp only [e] at h
      intro vs H1 F1 T1 R1
      unfold fLst at h
      cases e3 : okLen ds with
      | false => simp only [e3] at h; exact h.elim
      | true =>
        simp only [e3, if_true] at h
        have R := Paired.repL (g := (Gm.mk X.K fa ea)) R1
        exact ⟨by rw [← R.length]; exact okLen_le e3, fun p np => newL T1.sim.sub np R (fin_op (o := true) h T1)⟩
/-! ### subscripts -/
theorem SE.ix (hu : X.A.units + 50 < cLine) (ha : SE X (Gm.mk X.K fa ea) W mv ow ow1 .rd a A) (hb : SE X (Gm.mk X.K fa ea) W mv ow1 ow2 .rd b Bb) (hs : PlainIx b := by intro _ _; rfl) : SE X (Gm.mk X.K fa ea) W mv ow ow2 .rp (.Subscript a b pos) (e2 oIx A Bb) :=
  PE.imp (pe_ix (ix_F hu) ha hb hs) fun _ _ _ h => two (o := false) h
end
end F
/-! F3c: calls of built-ins. -/
namespace F
open PySem PySem.Spec PyProof.Rows L2
/-- one argument; two arguments -/
def c1 (g : Gm) (o : Bool) (f : D → Option D) : List V → Hp → VK → Prop := fun vs H Q => ∃ x, vs = [x] ∧ r1 g o f x H Q
def c2 (g : Gm) (o : Bool) (f : D → D → Option D) : List V → Hp → VK → Prop := fun vs H Q => ∃ x y, vs = [x, y] ∧ r2 g o f x y H Q
section
variable {X : Cx} {fa ea : Nat → Option Addr} {W : WX} {mv ow ow1 ow2 ow3 : List Nat} {k k1 k2 : Kd} {a b c : Expr} {A Bb C : EX} {pos p : Pos} {x : Str} {id : String}
theorem arg1 {o : Bool} {f : D → Option D} {σ : St} {H : Hp} {Q : VK} (h : tE (Gm.mk X.K fa ea) W mv ow ow1 (kO o) (e1 f A) σ H Q) : tCB (c1 (Gm.mk X.K fa ea) o f) (tCons (tE (Gm.mk X.K fa ea) W mv ow ow1 .rd A) tNil) σ H Q := by
  obtain ⟨B, F, r, m, hL, S, h⟩ := one h
  refine ⟨B, F, r, m, hL, S, ?_⟩
  cases e : A r m with
  | exc c => rw [e] at h; exact h
  | bad => rw [e] at h; exact h.elim
  | ok d =>
    rw [e] at h
    exact fun v H' F' T R => ⟨v, rfl, h v H' F' T R⟩
theorem arg2 {o : Bool} {f : D → D → Option D} {σ : St} {H : Hp} {Q : VK} (h : tE (Gm.mk X.K fa ea) W mv ow ow2 (kO o) (e2 f A Bb) σ H Q) : tCB (c2 (Gm.mk X.K fa ea) o f) (tCons (tE (Gm.mk X.K fa ea) W mv ow ow1 .rd A) (tCons (tE (Gm.mk X.K fa ea) W mv ow1 ow2 .rd Bb) tNil)) σ H Q := by
  obtain ⟨B, F, r, m, hL, S, h⟩ := two (ow1 := ow1) h
  refine ⟨B, F, r, m, hL, S, ?_⟩
  cases e : A r m with
  | exc c => rw [e] at h; exact h
  | bad => rw [e] at h; exact h.elim
  | ok d =>
    rw [e] at h
    intro v H1 F1 T1 R1
    obtain ⟨B', F', r', m', hL', S', h'⟩ := h v H1 F1 T1 R1
    refine ⟨B', F', r', m', hL', S', ?_⟩
    cases e' : Bb r' m' with
    | exc c => rw [e'] at h'; exact h'
    | bad => rw [e'] at h'; exact h'.elim
    | ok d =>
      rw [e'] at h'
      exact fun v2 H2 F2 T2 R2 => ⟨v, v2, rfl, h' v2 H2 F2 T2 R2⟩
theorem SE.blt1 {o : Bool} {f : D → Option D} (hc : CallR X (.builtin id) (c1 (Gm.mk X.K fa ea) o f)) (hg : Gl X x) (hm : X.mg x = none) (hv : bootBuiltins x = some (.builtin id)) (ha : SE X (Gm.mk X.K fa ea) W mv ow ow1 .rd a A) (hn : x ≠ "__name__" := by decide) (hdb : (x == ("__debug__" : Str)) = false := by decide)
    (he : starEach [a] X.env = (false, eval a X.env) :: starEach [] X.env := by rfl) (hpl : (backTo pos (starEach [] X.env)).any (·.1) = false := by rfl) : SE X (Gm.mk X.K fa ea) W mv ow ow1 (kO o) (.Call (.Name x p) [a] [] pos) (e1 f A) :=
  PE.imp (pe_callB hc hg hm hv (pa_cons ha pa_nil he) hn hdb he hpl) fun _ _ _ h => arg1 h
theorem SE.ty1 {o : Bool} {f : D → Option D} (hc : CallR X (.type id) (c1 (Gm.mk X.K fa ea) o f)) (hg : Gl X x) (hm : X.mg x = none) (hv : bootBuiltins x = some (.type id)) (ha : SE X (Gm.mk X.K fa ea) W mv ow ow1 .rd a A) (hn : x ≠ "__name__" := by decide) (hdb : (x == ("__debug__" : Str)) = false := by decide)
    (he : starEach [a] X.env = (false, eval a X.env) :: starEach [] X.env := by rfl) (hpl : (backTo pos (starEach [] X.env)).any (·.1) = false := by rfl) : SE X (Gm.mk X.K fa ea) W mv ow ow1 (kO o) (.Call (.Name x p) [a] [] pos) (e1 f A) :=
  PE.imp (pe_callTy hc hg hm hv (pa_cons ha pa_nil he) hn hdb he hpl) fun _ _ _ h => arg1 h
theorem SE.blt2 {o : Bool} {f : D → D → Option D} (hc : CallR X (.builtin id) (c2 (Gm.mk X.K fa ea) o f)) (hg : Gl X x) (hm : X.mg x = none) (hv : bootBuiltins x = some (.builtin id)) (ha : SE X (Gm.mk X.K fa ea) W mv ow ow1 .rd a A) (hb : SE X (Gm.mk X.K fa ea) W mv ow1 ow2 .rd b Bb) (hn : x ≠ "__name__" := by decide) (hdb : (x == ("__debug__" : Str)) = false := by decide)
    (he : starEach [a, b] X.env = (false, eval a X.env) :: starEach [b] X.env := by rfl) (he2 : starEach [b] X.env = (false, eval b X.env) :: starEach [] X.env := by rfl) (hpl : (backTo pos (starEach [b] X.env)).any (·.1) = false := by rfl) : SE X (Gm.mk X.K fa ea) W mv ow ow2 (kO o) (.Call (.Name x p) [a, b] [] pos) (e2 f A Bb) :=
  PE.imp (pe_callB hc hg hm hv (pa_cons ha (pa_cons hb pa_nil he2) he) hn hdb he hpl) fun _ _ _ h => arg2 h
/-! ### len, tuple, list -/
theorem len_F : CallR X (.builtin "len") (c1 (Gm.mk X.K fa ea) true bLen) := by
  intro pins s σ H xs us Q I r h
  obtain ⟨x, rfl, F, dx, d, S, hx, hf, q⟩ := h
  cases dx with
  | tup ds =>
    cases hf
    obtain ⟨a, vs, rfl, ha, hr⟩ := hx.tup
    refine call_len_seq pins s σ H _ us Q I r ⟨a, vs, rfl, .inr (ha.sq S), ?_⟩
    rw [← hr.length, ← lenL_eq]
    exact stays S q rfl rfl
  | lst ds =>
    cases hf
    obtain ⟨a, vs, rfl, ha, hr⟩ := hx.lst S
    refine call_len_seq pins s σ H _ us Q I r ⟨a, vs, rfl, .inl (.inl (.inl ha)), ?_⟩
    rw [← hr.length, ← lenL_eq]
    exact stays S q rfl rfl
  | dct kvs =>
    cases hf
    obtain ⟨a, ks, rfl, ha, hr⟩ := hx.dct S
    obtain ⟨u, rfl, ru⟩ := vals1 r
    cases ru
    obtain ⟨z, hd, vs, rel, dd⟩ := dk_rd I.hok ha
    have e := rel.length
    refine call_len_dict hd dd (by have := line63; rw [← e]; omega) ⟨.int (kvs.length : Nat), H, I.tok _, ⟨s.toks + 1, ?_⟩, stays S q rfl rfl⟩
    rw [hr.length, e]
  | str l =>
    have hf : (if Nat.ble l.length big then some (D.int l.length) else none) = some d := hf
    split at hf
    · rename_i hz
      cases hf
      have hz := Nat.le_of_ble_eq_true hz
      refine call_len_str pins s σ H _ us Q I r ⟨⟨l.toArray⟩, by rw [hx.str], ?_, ?_⟩
      · have : l.length ≤ 16777216 := hz
        rw [sizeLine_eq]; simpa [Str.length] using this
      · have e : (⟨l.toArray⟩ : Str).length = l.length := by simp [Str.length]
        rw [e]
        exact stays S q rfl rfl
    · cases hf
  | _ => cases hf
theorem tuple_F : CallR X (.type "tuple") (c1 (Gm.mk X.K fa ea) true bTuple) := by
  intro pins s σ H xs us Q I r h
  obtain ⟨x, rfl, F, dx, d, S, hx, hf, q⟩ := h
  cases dx with
  | tup ds =>
    cases hf
    obtain ⟨a, vs, rfl, ha, hr⟩ := hx.tup
    exact call_tupleF pins s σ H _ us Q I r ⟨a, vs, rfl, .inr ⟨ha.sq S, stays S q ⟨a, vs, rfl, ha, hr⟩ rfl⟩⟩
  | lst ds =>
    cases hf
    obtain ⟨a, vs, rfl, ha, hr⟩ := hx.lst S
    exact call_tupleF pins s σ H _ us Q I r ⟨a, vs, rfl, .inl ⟨.inl (.inl ha), newT S hr q⟩⟩
  | _ => cases hf
theorem list_F : CallR X (.type "list") (c1 (Gm.mk X.K fa ea) true bList) := by
  intro pins s σ H xs us Q I r h
  obtain ⟨x, rfl, F, dx, d, S, hx, hf, q⟩ := h
  cases dx with
  | tup ds =>
    cases hf
    obtain ⟨a, vs, rfl, ha, hr⟩ := hx.tup
    exact call_list_of pins s σ H _ us Q I r ⟨a, vs, rfl, .inr (ha.sq S), fun l n => newL S n hr q⟩
  | lst ds =>
    cases hf
    obtain ⟨a, vs, rfl, ha, hr⟩ := hx.lst S
    exact call_list_of pins s σ H _ us Q I r ⟨a, vs, rfl, .inl (.inl (.inl ha)), fun l n => newL S n hr q⟩
  | _ => cases hf
/-! ### sum, all, any -/
theorem sumL_ints : ∀ (ds : List D) (a : Int) (d : D), sumL ds a = some d → ∃ ns : List Int, ds = ns.map D.int ∧ d = .int (a + ns.sum)
  | [], a, d, h => by cases h; exact ⟨[], rfl, by simp⟩
  | .int i :: r, a, d, h => by
    obtain ⟨ns, e, e2⟩ := sumL_ints r (a + i) d h
    exact ⟨i :: ns, by rw [e]; rfl, by rw [e2, List.sum_cons, Int.add_assoc]⟩
  | .non :: _, _, _, h => by cases h
  | .bl _ :: _, _, _, h => by cases h
  | .str _ :: _, _, _, h => by cases h
  | .tup _ :: _, _, _, h => by cases h
  | .lst _ :: _, _, _, h => by cases h
  | .dct _ :: _, _, _, h => by cases h
  | .fn _ :: _, _, _, h => by cases h
  | .exv _ :: _, _, _, h => by cases h
theorem repL_ints {F : Hp} : ∀ {ns : List Int} {vs : List V}, RepL X.K fa F (ns.map D.int) vs → vs = ns.map V.int
  | [], vs, h => h
  | n :: ns, vs, ⟨v, r, e, h, t⟩ => by
    rw [e, repL_ints t, show v = V.int n from h]; rfl
theorem repL_bls {F : Hp} : ∀ {ns : List Bool} {vs : List V}, RepL X.K fa F (ns.map D.bl) vs → vs = ns.map V.bl
  | [], vs, h => h
  | n :: ns, vs, ⟨v, r, e, h, t⟩ => by
    rw [e, repL_bls t, show v = V.bl n from h]; rfl
theorem ints_repL {F : Hp} : ∀ (ns : List Int), RepL X.K fa F (ns.map D.int) (ns.map V.int)
  | [] => rfl
  | n :: ns => ⟨_, _, rfl, rfl, ints_repL ns⟩
theorem sum_F (hc : X.calm = true) : CallR X (.builtin "sum") (c1 (Gm.mk X.K fa ea) true bSum) := by
  intro pins s σ H xs us Q I r h
  obtain ⟨x, rfl, F, dx, d, S, hx, hf, q⟩ := h
  cases dx with
  | lst ds =>
    obtain ⟨ns, rfl, rfl⟩ := sumL_ints ds 0 d hf
    obtain ⟨a, vs, rfl, ha, hr⟩ := hx.lst S
    cases repL_ints hr
    refine cr_sum hc pins s σ H _ us Q I r ⟨a, ns, rfl, .inl (.inl ha), ?_⟩
    rw [Int.zero_add] at q
    exact stays S q rfl rfl
  | _ => cases hf
theorem allL_bls : ∀ (ds : List D) (t : Bool), allL ds = some t → ∃ bs : List Bool, ds = bs.map D.bl ∧ t = bs.all _root_.id
  | [], t, h => by cases h; exact ⟨[], rfl, rfl⟩
  | .bl b :: r, t, h => by
    have h : (match allL r with | some t => some (b && t) | none => none) = some t := h
    cases e : allL r with
    | none => rw [e] at h; cases h
    | some u =>
      rw [e] at h; cases h
      obtain ⟨bs, e1, e2⟩ := allL_bls r u e
      exact ⟨b :: bs, by rw [e1]; rfl, by rw [e2]; rfl⟩
  | .non :: _, _, h => by cases h
  | .int _ :: _, _, h => by cases h
  | .str _ :: _, _, h => by cases h
  | .tup _ :: _, _, h => by cases h
  | .lst _ :: _, _, h => by cases h
  | .dct _ :: _, _, h => by cases h
  | .fn _ :: _, _, h => by cases h
  | .exv _ :: _, _, h => by cases h
theorem anyL_bls : ∀ (ds : List D) (t : Bool), anyL ds = some t → ∃ bs : List Bool, ds = bs.map D.bl ∧ t = bs.any _root_.id
  | [], t, h => by cases h; exact ⟨[], rfl, rfl⟩
  | .bl b :: r, t, h => by
    have h : (match anyL r with | some t => some (b || t) | none => none) = some t := h
    cases e : anyL r with
    | none => rw [e] at h; cases h
    | some u =>
      rw [e] at h; cases h
      obtain ⟨bs, e1, e2⟩ := anyL_bls r u e
      exact ⟨b :: bs, by rw [e1]; rfl, by rw [e2]; rfl⟩
  | .non :: _, _, h => by cases h
  | .int _ :: _, _, h => by cases h
  | .str _ :: _, _, h => by cases h
  | .tup _ :: _, _, h => by cases h
  | .lst _ :: _, _, h => by cases h
  | .dct _ :: _, _, h => by cases h
  | .fn _ :: _, _, h => by cases h
  | .exv _ :: _, _, h => by cases h
theorem all_F (hc : X.calm = true) : CallR X (.builtin "all") (c1 (Gm.mk X.K fa ea) true bAll) := by
  intro pins s σ H xs us Q I r h
  obtain ⟨x, rfl, F, dx, d, S, hx, hf, q⟩ := h
  cases dx with
  | lst ds =>
    have hf : (match allL ds with | some t => some (D.bl t) | none => none) = some d := hf
    cases e : allL ds with
    | none => rw [e] at hf; cases hf
    | some t =>
      rw [e] at hf; cases hf
      obtain ⟨bs, rfl, rfl⟩ := allL_bls ds t e
      obtain ⟨a, vs, rfl, ha, hr⟩ := hx.lst S
      cases repL_bls hr
      exact cr_all hc pins s σ H _ us Q I r ⟨a, bs, rfl, .inl (.inl ha), stays S q rfl rfl⟩
  | _ => cases hf
theorem any_F (hc : X.calm = true) : CallR X (.builtin "any") (c1 (Gm.mk X.K fa ea) true bAny) := by
  intro pins s σ H xs us Q I r h
  obtain ⟨x, rfl, F, dx, d, S, hx, hf, q⟩ := h
  cases dx with
  | lst ds =>
    have hf : (match anyL ds with | some t => some (D.bl t) | none => none) = some d := hf
    cases e : anyL ds with
    | none => rw [e] at hf; cases hf
    | some t =>
      rw [e] at hf; cases hf
      obtain ⟨bs, rfl, rfl⟩ := anyL_bls ds t e
      obtain ⟨a, vs, rfl, ha, hr⟩ := hx.lst S
      cases repL_bls hr
      exact cr_any hc pins s σ H _ us Q I r ⟨a, bs, rfl, .inl (.inl ha), stays S q rfl rfl⟩
  | _ => cases hf
/-! ### sorted -/
theorem insI_perm (x : Int) : ∀ l : List Int, (insI x l).Perm (x :: l)
  | [] => .refl _
  | y :: r => by
    show (if leI x y then x :: y :: r else y :: insI x r).Perm _
    split
    · exact .refl _
    · exact ((insI_perm x r).cons y).trans (.swap x y r)
theorem sortI_perm : ∀ l : List Int, (sortI l).Perm l
  | [] => .refl _
  | x :: r => (insI_perm x (sortI r)).trans ((sortI_perm r).cons x)
theorem insI_sorted (x : Int) : ∀ l : List Int, l.Pairwise (· ≤ ·) → (insI x l).Pairwise (· ≤ ·)
  | [], _ => by show [x].Pairwise _; simp
  | y :: r, h => by
    show (if leI x y then x :: y :: r else y :: insI x r).Pairwise _
    rw [List.pairwise_cons] at h
    split
    · rename_i z
      rw [leI_iff] at z
      rw [List.pairwise_cons, List.pairwise_cons]
      exact ⟨fun w hw => by
        rcases List.mem_cons.mp hw with e | hw
        · rw [e]; exact z
        · exact Int.le_trans z (h.1 w hw), h.1, h.2⟩
    · rename_i z
      rw [leI_iff] at z
      rw [List.pairwise_cons]
      refine ⟨fun w hw => ?_, insI_sorted x r h.2⟩
      rcases List.mem_cons.mp ((insI_perm x r).mem_iff.mp hw) with e | hw
      · rw [e]; omega
      · exact h.1 w hw
theorem sortI_sorted : ∀ l : List Int, (sortI l).Pairwise (· ≤ ·)
  | [] => .nil
  | x :: r => insI_sorted x _ (sortI_sorted r)
theorem sortI_eq {l ys : List Int} (p : ys.Perm l) (h : ys.Pairwise (· ≤ ·)) : ys = sortI l :=
  List.Perm.eq_of_pairwise (fun a b _ _ h1 h2 => Int.le_antisymm h1 h2) h (sortI_sorted l) (p.trans (sortI_perm l).symm)
theorem intsD_eq : ∀ {ds : List D} {is : List Int}, intsD ds = some is → ds = is.map D.int
  | [], _, h => by cases h; rfl
  | .int i :: r, is, h => by
    have h : (match intsD r with | some is => some (i :: is) | none => none) = some is := h
    cases e : intsD r with
    | none => rw [e] at h; cases h
    | some u => rw [e] at h; cases h; rw [intsD_eq e]; rfl
  | .non :: _, _, h => by cases h
  | .bl _ :: _, _, h => by cases h
  | .str _ :: _, _, h => by cases h
  | .tup _ :: _, _, h => by cases h
  | .lst _ :: _, _, h => by cases h
  | .dct _ :: _, _, h => by cases h
  | .fn _ :: _, _, h => by cases h
  | .exv _ :: _, _, h => by cases h
theorem intsK_eq {F : Hp} : ∀ {kvs : List (D × D)} {is : List Int} {ks : List (Key × V)}, intsK kvs = some is → RepK X.K fa F kvs ks → ks.map (·.1) = is.map Sum.inl
  | [], _, _, h, r => by cases h; rw [show _ = [] from r]; rfl
  | (.int i, d) :: r, is, _, h, ⟨k, v, t, e, ex, hd, hr⟩ => by
    have h : (match intsK r with | some is => some (i :: is) | none => none) = some is := h
    subst e
    cases e : intsK r with
    | none => rw [e] at h; cases h
    | some u =>
      rw [e] at h; cases h
      rw [List.map_cons, intsK_eq e hr, List.map_cons]
      cases k with
      | inl j => cases ex; rfl
      | inr j => cases ex
  | (.non, _) :: _, _, _, h, _ => by cases h
  | (.bl _, _) :: _, _, _, h, _ => by cases h
  | (.str _, _) :: _, _, _, h, _ => by cases h
  | (.tup _, _) :: _, _, _, h, _ => by cases h
  | (.lst _, _) :: _, _, _, h, _ => by cases h
  | (.dct _, _) :: _, _, _, h, _ => by cases h
  | (.fn _, _) :: _, _, _, h, _ => by cases h
  | (.exv _, _) :: _, _, _, h, _ => by cases h
theorem sorted_F (hc : X.calm = true) : CallR X (.builtin "sorted") (c1 (Gm.mk X.K fa ea) true bSorted) := by
  intro pins s σ H xs us Q I r h
  obtain ⟨x, rfl, F, dx, d, S, hx, hf, q⟩ := h
  cases dx with
  | lst ds =>
    have hf : (match intsD ds with | some is => some (D.lst ((sortI is).map .int)) | none => none) = some d := hf
    cases e : intsD ds with
    | none => rw [e] at hf; cases hf
    | some is =>
      rw [e] at hf; cases hf
      cases intsD_eq e
      obtain ⟨a, vs, rfl, ha, hr⟩ := hx.lst S
      cases repL_ints hr
      refine cr_sortedI pins s σ H _ us Q I r ⟨a, is, rfl, .inl (.inl ha), fun ys p h1 h2 n => ?_⟩
      rw [sortI_eq h1 h2]
      exact newL S n (ints_repL _) q
  | dct kvs =>
    have hf : (if Nat.blt kvs.length 64 then (match intsK kvs with | some is => some (D.lst ((sortI is).map .int)) | none => none) else none) = some d := hf
    split at hf
    · rename_i h64
      cases e : intsK kvs with
      | none => rw [e] at hf; cases hf
      | some is =>
        rw [e] at hf; cases hf
        obtain ⟨a, ks, rfl, ha, hr⟩ := hx.dct S
        have em := intsK_eq e hr
        refine call_sortedDI hc pins s σ H _ us Q I r ⟨a, ks, is, rfl, ha, em, ?_, fun ys p h1 h2 n => ?_⟩
        · have l1 := congrArg List.length em
          rw [List.length_map, List.length_map] at l1
          have : kvs.length + 1 ≤ 64 := Nat.le_of_ble_eq_true h64
          rw [hr.length] at this
          omega
        · rw [sortI_eq h1 h2]
          exact newL S n (ints_repL _) q
    · cases hf
  | _ => cases hf
/-! ### min -/
theorem min2_F (hc : X.calm = true) : CallR X (.builtin "min") (c2 (Gm.mk X.K fa ea) true bMin2) := by
  intro pins s σ H xs us Q I r h
  obtain ⟨x, y, rfl, F, dx, dy, d, S, hx, hy, hf, q⟩ := h
  cases dx with
  | int i => cases dy with
    | int j =>
      cases hf
      refine call_min2 hc pins s σ H _ us Q I r ⟨i, j, by rw [hx.int, hy.int], ?_⟩
      have e : (if j < i then j else i) = (if leI i j then i else j) := by
        by_cases z : i ≤ j
        · rw [(leI_iff i j).mpr z, if_neg (by omega)]; rfl
        · have : leI i j = false := by
            cases w : leI i j with
            | false => rfl
            | true => exact absurd ((leI_iff i j).mp w) z
          rw [this, if_pos (by omega)]; rfl
      rw [e]
      exact stays S q rfl rfl
    | _ => cases hf
  | _ => cases hf
end
end F
/-! F3d: isinstance, dict(..), d.get, slices, dict displays. -/
namespace F
open PySem PySem.Spec PyProof.Rows L2
def tyN : D → String
  | .non => "NoneType" | .bl _ => "bool" | .int _ => "int" | .str _ => "str" | .tup _ => "tuple" | .lst _ => "list" | .dct _ => "dict" | _ => ""
def kdN : Nat → String
  | 0 => "bool" | 1 => "int" | 2 => "str" | 3 => "tuple" | _ => "list"
theorem kit_kind (d : D) (k : Nat) (hk : k < 5) (b : Bool) (h : isKind d k = some b) : kitB (tyN d) (kdN k) = some b := by
  have hk : k = 0 ∨ k = 1 ∨ k = 2 ∨ k = 3 ∨ k = 4 := by omega
  cases d <;> rcases hk with rfl | rfl | rfl | rfl | rfl
  all_goals first
    | (cases h; done)
    | (cases h; simp only [tyN, kdN]; decide +kernel)
section
variable {X : Cx} {fa ea : Nat → Option Addr} {W : WX} {mv ow ow1 ow2 ow3 : List Nat} {k k1 k2 : Kd} {a b c : Expr} {A Bb C : EX} {pos p p2 : Pos} {x : Str} {id : String}
theorem ty_rep {F H : Hp} {d : D} {v : V} (S : Sub F H) (h : RepT (Gm.mk X.K fa ea) F H d v) {k : Nat} {t : Bool} (hk : isKind d k = some t) : TyX X.K H v (.type (tyN d)) := by
  cases d with
  | non => have e := h.non; subst e; exact .base .non
  | bl b => have e := h.bl; subst e; exact .base (.bl b)
  | int b => have e := h.int; subst e; exact .base (.int b)
  | str b => have e := h.str; subst e; exact .base (.str _)
  | tup ds =>
    obtain ⟨a, vs, rfl, hi, _⟩ := h.tup
    rcases hi with ⟨o, _, e⟩ | ⟨o, its, n, e, c, _⟩
    · exact .fTuple (S.frz e)
    · exact .kTuple e c
  | lst ds =>
    obtain ⟨a, vs, rfl, e, _⟩ := h.lst S
    exact .base (.lst e)
  | dct ds =>
    obtain ⟨a, vs, rfl, e, _⟩ := h.dct S
    rcases e with e | ⟨o, e⟩
    · exact .base (.dK e)
    · exact .fDict e
  | fn i => cases hk
  | exv i => cases hk
theorem isi_ok {F H : Hp} {d r : D} {v : V} (S : Sub F H) (h : RepT (Gm.mk X.K fa ea) F H d v) : ∀ {ks : List Nat}, (∀ k ∈ ks, k < 5) → bIsi ks d = some r → ks ≠ [] → ∃ t, r = .bl t ∧ TyX X.K H v (.type (tyN d)) ∧ PySem.W.kitAny X.K (.type (tyN d)) (ks.map fun k => .type (kdN k)) = some t
  | [], _, _, h => absurd rfl h
  | k :: ks, hk, hb, _ => by
    have hb : (match isKind d k with | some true => some (D.bl true) | some false => bIsi ks d | none => none) = some r := hb
    cases e : isKind d k with
    | none => rw [e] at hb; cases hb
    | some t =>
      have ty := ty_rep S h e
      have kk := kit_ty (K := X.K) (kit_kind d k (hk k List.mem_cons_self) t e)
      rw [e] at hb
      cases t with
      | true => cases hb; exact ⟨true, rfl, ty, kitAny_cons kk (fun z => by cases z) fun _ => rfl⟩
      | false =>
        cases ks with
        | nil =>
          cases hb
          exact ⟨false, rfl, ty, kitAny_cons kk (fun _ => kitAny_nil) fun z => by cases z⟩
        | cons k' ks =>
          obtain ⟨t, e1, _, e3⟩ := isi_ok (r := r) S h (ks := k' :: ks) (fun q hq => hk q (List.mem_cons_of_mem _ hq)) hb (fun z => by cases z)
          exact ⟨t, e1, ty, kitAny_cons kk (fun _ => e3) fun z => by cases z⟩
/-- isinstance(a, T) -/
theorem SE.isi {y : Str} {k : Nat} (hk : k < 5 := by decide) (hg : Gl X "isinstance") (hm : X.mg "isinstance" = none) (hgy : Gl X y) (hmy : X.mg y = none) (hvy : bootBuiltins y = some (.type (kdN k)))
    (ha : SE X (Gm.mk X.K fa ea) W mv ow ow1 .rd a A) (hn : y ≠ "__name__" := by decide) (hdb : (y == ("__debug__" : Str)) = false := by decide)
    (he : starEach [a, .Name y p2] X.env = (false, eval a X.env) :: starEach [.Name y p2] X.env := by rfl) (he2 : starEach [.Name y p2] X.env = (false, eval (.Name y p2) X.env) :: starEach [] X.env := by rfl) (hpl : (backTo pos (starEach [.Name y p2] X.env)).any (·.1) = false := by rfl) :
    SE X (Gm.mk X.K fa ea) W mv ow ow1 .own (.Call (.Name "isinstance" p) [a, .Name y p2] [] pos) (e1 (bIsi [k]) A) :=
  PE.imp (pe_callB call_isi hg hm boot_isinstance (pa_cons ha (pa_cons (pe_bltn hgy hmy hvy (v := .ty (kdN k)) rfl hn hdb) pa_nil he2) he) (by decide) (by decide) he hpl) fun σ H Q h => by
    obtain ⟨B, F, r, m, hL, S, h⟩ := one (o := true) h
    refine ⟨B, F, r, m, hL, S, ?_⟩
    cases e : A r m with
    | exc c => rw [e] at h; exact h
    | bad => rw [e] at h; exact h.elim
    | ok d =>
      rw [e] at h
      intro v H' F' T R
      obtain ⟨F2, dx, d2, S2, hx, hf, q⟩ := h v H' F' T R
      obtain ⟨t, rfl, ty, kk⟩ := isi_ok S2 hx (fun q hq => by rw [List.mem_singleton.mp hq]; exact hk) hf (fun z => by cases z)
      refine ⟨v, .ty (kdN k), _, .type (kdN k), t, rfl, .ty _, ty, ?_, stays (fa := fa) (ea := ea) S2 q rfl rfl⟩
      unfold PySem.W.kitAny at kk
      cases e1 : PySem.W.kitOne X.K (.type (tyN dx)) (.type (kdN k)) with
      | none => simp only [List.map, e1] at kk; cases kk
      | some b =>
        simp only [List.map, e1] at kk
        cases b with
        | true => exact kk
        | false => exact kk
/-- isinstance(a, (T, U)) -/
theorem SE.isi2 {y z : Str} {k k' j : Nat} {p3 p4 : Pos} (hk : k < 5 := by decide) (hk' : k' < 5 := by decide) (hg : Gl X "isinstance") (hm : X.mg "isinstance" = none) (hgy : Gl X y) (hmy : X.mg y = none) (hvy : bootBuiltins y = some (.type (kdN k)))
    (hgz : Gl X z) (hmz : X.mg z = none) (hvz : bootBuiltins z = some (.type (kdN k')))
    (ha : SE X (Gm.mk X.K fa ea) W mv ow ow1 .rd a A) (hn : y ≠ "__name__" := by decide) (hdb : (y == ("__debug__" : Str)) = false := by decide) (hnz : z ≠ "__name__" := by decide) (hdz : (z == ("__debug__" : Str)) = false := by decide)
    (he : starEach [a, .Tuple [.Name y p2, .Name z p3] j p4] X.env = (false, eval a X.env) :: starEach [.Tuple [.Name y p2, .Name z p3] j p4] X.env := by rfl) (he2 : starEach [.Tuple [.Name y p2, .Name z p3] j p4] X.env = (false, eval (.Tuple [.Name y p2, .Name z p3] j p4) X.env) :: starEach [] X.env := by rfl) (hpl : (backTo pos (starEach [.Tuple [.Name y p2, .Name z p3] j p4] X.env)).any (·.1) = false := by rfl) :
    SE X (Gm.mk X.K fa ea) W mv ow ow1 .own (.Call (.Name "isinstance" p) [a, .Tuple [.Name y p2, .Name z p3] j p4] [] pos) (e1 (bIsi [k, k']) A) :=
  PE.imp (pe_callB call_isiT hg hm boot_isinstance (pa_cons ha (pa_cons (pe_tup (pa_cons (pe_bltn hgy hmy hvy (v := .ty (kdN k)) rfl hn hdb) (pa_cons (pe_bltn hgz hmz hvz (v := .ty (kdN k')) rfl hnz hdz) pa_nil))) pa_nil he2) he) (by decide) (by decide) he hpl) fun σ H Q h => by
    obtain ⟨B, F, r, m, hL, S, h⟩ := one (o := true) h
    refine ⟨B, F, r, m, hL, S, ?_⟩
    cases e : A r m with
    | exc c => rw [e] at h; exact h
    | bad => rw [e] at h; exact h.elim
    | ok d =>
      rw [e] at h
      intro v H' F' T R
      refine ⟨by rw [sizeLine_eq]; show 2 ≤ _; decide, fun q hq => ?_⟩
      have ad : Adv F' H' F' (upd H' q (.tup [.ty (kdN k), .ty (kdN k')])) := Adv.laid T.sim.sub hq
      obtain ⟨F2, dx, d2, S2, hx, hf, q'⟩ := h v _ F' (T.step ad) (by
        have := RepT.mono (g := (Gm.mk X.K fa ea)) (Le.refl F') ad.keep R.rd
        exact this)
      obtain ⟨t, rfl, ty, kk⟩ := isi_ok S2 hx (fun q hq => by
        rcases List.mem_cons.mp hq with e | hq
        · rw [e]; exact hk
        · rw [List.mem_singleton.mp hq]; exact hk') hf (fun z => by cases z)
      exact ⟨v, q, [.ty (kdN k), .ty (kdN k')], _, [.type (kdN k), .type (kdN k')], t, rfl, upd_same, .cons (.ty _) (.cons (.ty _) .nil), ty, kk, stays (fa := fa) (ea := ea) S2 q' rfl rfl⟩
/-! ### d.get -/
theorem SE.get (hu : X.A.units + 50 < cLine) {ap : Pos} (ha : SE X (Gm.mk X.K fa ea) W mv ow ow1 .rd a A) (hb : SE X (Gm.mk X.K fa ea) W mv ow1 ow1 .rp b Bb) (hc : SE X (Gm.mk X.K fa ea) W mv ow1 ow1 .rp c C) (mm : M2 X a "get" ap b c pos) :
    SE X (Gm.mk X.K fa ea) W mv ow ow1 .rp (.Call (.Attribute a "get" ap) [b, c] [] pos) (eGet A Bb C) :=
  PE.imp (pe_dget2 (by omega) ha hb hc mm) fun σ H Q ⟨B, F, r, m, hL, S, h⟩ => by
    refine ⟨B, F, r, m, hL, S, ?_⟩
    unfold eGet at h
    cases e : A r m with
    | exc c => rw [e] at h; exact h
    | bad => rw [e] at h; exact h.elim
    | ok d =>
      rw [e] at h
      cases d with
      | dct kvs =>
        intro v1 H1 F1 T1 R1
        have S1 := T1.sim
        obtain ⟨da, ks, rfl, hr, rk⟩ := RepT.dct S1.sub R1
        refine ⟨da, rfl, .inl ⟨ks, hr⟩, B, F1, r, m, hL, S1, ?_⟩
        cases e2 : Bb r m with
        | exc c => simp only [e2] at h; exact h
        | bad => simp only [e2] at h
        | ok dk =>
          simp only [e2] at h
          intro v2 H2 F2 T2 R2
          have S2 := T2.sim
          refine ⟨B, F2, r, m, hL, S2, ?_⟩
          cases e3 : C r m with
          | exc c => simp only [e3] at h; exact h
          | bad => simp only [e3] at h
          | ok dv =>
            simp only [e3] at h
            intro v3 H3 F3 T3 R3
            have S3 := T3.sim
            cases hk : isKey dk with
            | false => simp only [hk] at h; exact h.elim
            | true =>
              simp only [hk, if_true] at h
              have R1' := RepT.mono (g := (Gm.mk X.K fa ea)) (T2.le.trans T3.le) (Ext.trans T2.ext T3.ext) R1
              have R2' : RepT (Gm.mk X.K fa ea) F3 H3 dk v2 := .inl (Rep.mono T3.le _ _ R2)
              obtain ⟨a', o, ea', g, k1, k2, _⟩ := DGet.of (d := .non) S3.sub R1' R2' hk
              cases ea'
              refine ⟨o, g, ?_⟩
              cases ek : lookK dk kvs with
              | some d =>
                rw [ek] at h
                obtain ⟨w, rfl, rw'⟩ := k1 d ek
                exact h w H3 F3 ((T1.trans T2).trans T3) rw'
              | none =>
                rw [ek] at h
                rw [k2 ek]
                exact h v3 H3 F3 ((T1.trans T2).trans T3) R3
      | _ => exact h.elim
/-! ### slices -/
theorem cut_sIx (n d : Nat) (o : Option Int) : ixS n d o = HT.sIx n d o := by
  cases o with
  | none => rfl
  | some i => cases i with
    | ofNat k =>
      show (if Nat.ble k n then k else n) = HT.sIx n d (some (k : Int))
      rw [HT.sIx_nat]
      split
      · rename_i h; have := Nat.le_of_ble_eq_true h; omega
      · rename_i h
        have : ¬ k ≤ n := fun z => h (Nat.ble_eq.mpr z)
        omega
    | negSucc k =>
      show n - (k + 1) = if Int.negSucc k < 0 then (Int.negSucc k + (n : Int)).toNat else _
      rw [if_pos (by omega)]
      omega
theorem cutN_rep {F H : Hp} {dx d : D} {x : V} {lo hi : Option Int} {Q : VK} (S : Sub F H) (hx : RepT (Gm.mk X.K fa ea) F H dx x) (hf : cutN dx lo hi = some d) (q : ∀ v H' F', Adv F H F' H' → Res (Gm.mk X.K fa ea) true H F' H' d v → Q v H') :
    rSlF X.K x lo hi H Q ∨ rSlL X.K x lo hi H Q := by
  cases dx with
  | tup ds =>
    obtain ⟨a, vs, rfl, ha, hr⟩ := hx.tup
    left
    cases hf
    unfold cutD at q
    rw [cut_sIx, cut_sIx, lenL_eq, hr.length] at q
    refine ⟨a, vs, rfl, ha.sq S, fun ⟨w1, w2⟩ => ?_, fun _ => newT S ((hr.drop _).take _) q⟩
    rw [w1, w2, List.drop_zero, Nat.sub_zero, ← hr.length, List.take_length] at q
    exact stays S q ⟨a, vs, rfl, ha, hr⟩ rfl
  | lst ds =>
    obtain ⟨a, vs, rfl, ha, hr⟩ := hx.lst S
    right
    cases hf
    unfold cutD at q
    rw [cut_sIx, cut_sIx, lenL_eq, hr.length] at q
    exact ⟨a, vs, rfl, .inl (.inl ha), fun p n => newL S n ((hr.drop _).take _) q⟩
  | _ => cases hf
theorem SE.cutL (ha : SE X (Gm.mk X.K fa ea) W mv ow ow1 .rd a A) (hb : SE X (Gm.mk X.K fa ea) W mv ow1 ow1 .rd b Bb) : SE X (Gm.mk X.K fa ea) W mv ow ow1 .own (.Subscript a (.Slice (some b) none none p2) pos) (e2 oCutL A Bb) :=
  PE.imp (pe_slice (SlR.or sl_tupF sl_list) ha (po_some hb) po_none) fun σ H Q h => by
    obtain ⟨B, F, r, m, hL, S, h⟩ := two (o := true) (ow1 := ow1) h
    refine ⟨B, F, r, m, hL, S, ?_⟩
    cases e : A r m with
    | exc c => rw [e] at h; exact h
    | bad => rw [e] at h; exact h.elim
    | ok d =>
      rw [e] at h
      intro v1 H1 F1 T1 R1
      have S1 := T1.sim
      obtain ⟨B', F', r', m', hL', S', h'⟩ := h v1 H1 F1 T1 R1
      refine ⟨B', F', r', m', hL', S', ?_⟩
      cases e' : Bb r' m' with
      | exc c => rw [e'] at h'; exact h'
      | bad => rw [e'] at h'; exact h'.elim
      | ok d =>
        rw [e'] at h'
        intro v2 H2 F2 T2 R2
        have S2 := T2.sim
        obtain ⟨F3, dx, dy, d, S3, hx, hy, hf, q⟩ := h' v2 H2 F2 T2 R2
        cases dy with
        | int i => exact ⟨i, hy.int, cutN_rep S3 hx hf q⟩
        | _ => cases hf
theorem SE.cutH (ha : SE X (Gm.mk X.K fa ea) W mv ow ow1 .rd a A) (hb : SE X (Gm.mk X.K fa ea) W mv ow1 ow1 .rd b Bb) : SE X (Gm.mk X.K fa ea) W mv ow ow1 .own (.Subscript a (.Slice none (some b) none p2) pos) (e2 oCutH A Bb) :=
  PE.imp (pe_slice (SlR.or sl_tupF sl_list) ha po_none (po_some hb)) fun σ H Q h => by
    obtain ⟨B, F, r, m, hL, S, h⟩ := two (o := true) (ow1 := ow1) h
    refine ⟨B, F, r, m, hL, S, ?_⟩
    cases e : A r m with
    | exc c => rw [e] at h; exact h
    | bad => rw [e] at h; exact h.elim
    | ok d =>
      rw [e] at h
      intro v1 H1 F1 T1 R1
      have S1 := T1.sim
      obtain ⟨B', F', r', m', hL', S', h'⟩ := h v1 H1 F1 T1 R1
      refine ⟨B', F', r', m', hL', S', ?_⟩
      cases e' : Bb r' m' with
      | exc c => rw [e'] at h'; exact h'
      | bad => rw [e'] at h'; exact h'.elim
      | ok d =>
        rw [e'] at h'
        intro v2 H2 F2 T2 R2
        have S2 := T2.sim
        obtain ⟨F3, dx, dy, d, S3, hx, hy, hf, q⟩ := h' v2 H2 F2 T2 R2
        cases dy with
        | int i => exact ⟨i, hy.int, cutN_rep S3 hx hf q⟩
        | _ => cases hf
/-! ### dict displays -/
theorem SE.dct0 : SE X (Gm.mk X.K fa ea) W mv ow ow .own (.Dict [] [] pos) (eCon fDct0) :=
  PE.imp pe_dnewK fun σ H Q ⟨B, F, r, m, hL, S, h⟩ p n => by
    have h : okE (Gm.mk X.K fa ea) B mv ow r m σ F H .own fDct0 Q := h
    exact newD (fa := fa) (ea := ea) (Q := Q) (ds := []) S.sub n rfl fun v H' F' ad R => h v H' F' ((Tr.refl S).step ad) R
theorem SE.dct1 (ha : SE X (Gm.mk X.K fa ea) W mv ow ow .rp a A) (hb : SE X (Gm.mk X.K fa ea) W mv ow ow .rp b Bb) : SE X (Gm.mk X.K fa ea) W mv ow ow .own (.Dict [some a] [b] pos) (e2 fDct1 A Bb) :=
  PE.imp (pe_disp (pps_cons ha hb pps_nil) rfl rfl (fun z => by cases z) (by show 1 ≤ 15; decide)) fun σ H Q ⟨B, F, r, m, hL, S, h⟩ p n => by
    have ad : Adv F H F (upd H p (.dK [])) := Adv.laid S.sub n
    have S0 := S.step ad
    have fp : F p = none := S.sub.none n
    refine ⟨B, F, r, m, hL, S0, ?_⟩
    unfold e2 at h
    cases e : A r m with
    | exc c => rw [e] at h; exact h
    | bad => rw [e] at h; exact h.elim
    | ok x =>
      simp only [e] at h
      intro v1 H1 F1 T1 R1
      have S1 := T1.sim
      refine ⟨B, F1, r, m, hL, S1, ?_⟩
      cases e' : Bb r m with
      | exc c => simp only [e'] at h; exact h
      | bad => simp only [e'] at h
      | ok y =>
        simp only [e'] at h
        intro v2 H2 F2 T2 R2
        have S2 := T2.sim
        have hp : H2 p = some (.dK []) := T2.ext _ _ (T1.ext _ _ upd_same)
        refine ⟨hp, ?_⟩
        unfold fDct1 at h
        cases hk : isKey x with
        | false => simp only [hk] at h; exact h.elim
        | true =>
          simp only [hk, if_true] at h
          have R1' : RepT (Gm.mk X.K fa ea) F2 H2 x v1 := .inl (Rep.mono T2.le _ _ R1)
          obtain ⟨key, rfl, rfl⟩ := isKey_rep hk R1'
          refine ⟨[(key, v2)], rfl, by show 1 ≤ 15; decide, ?_⟩
          have T := ((Tr.refl S).step ad).trans (T1.trans T2)
          have fp2 : F2 p = none := by
            have := (T1.trans T2).grow p (by rw [upd_same]; exact fun z => by cases z) fun i d e' im => fun z => by
              obtain ⟨a', h1, h2⟩ := S.slot e' im
              rw [z] at h1
              cases h1
              exact h2 n
            rw [this]; exact fp
          exact h _ _ F2 (Tr.rewrite S T n hp fp2) (Res.own (a := p) ⟨[(key, v2)], upd_same, key, v2, [], rfl, rfl, R2, rfl⟩ n fp2)
end
end F
/-! F3e: calls of the text's own defs. -/
namespace F
open PySem PySem.Spec PyProof.Rows L2
/-- what a def promises: o: its result is an object of nobody else (or no object to be changed) -/
def spF (g : Gm) (n : Nat) (o : Bool) (f : Fn) : Sp := fun vs H Q E => vs.length = n ∧ ∃ F ds, Sub F H ∧ Paired (fun d v => Rp g F d v) ds vs ∧ match f ds with
  | .ok d [] => ∀ v H' F', Adv F H F' H' → Res g o H F' H' d v → Q v H'
  | .exc c => ∀ cls dd H' F', ExC g c cls dd → Adv F H F' H' → E cls dd H'
  | _ => False
section
variable {X : Cx} {fa ea : Nat → Option Addr} {W : WX} {mv ow ow1 ow2 ow3 : List Nat} {k k1 k2 : Kd} {a b c : Expr} {A Bb C : EX} {pos p p2 : Pos} {x : Str} {id : String}
/-- the callee runs, what it lets out is taken -/
theorem run_at {n : Nat} {f : Addr} {fd : FuncData} {ps : List Str} {sp : Sp} {pins : List (Addr × Obj)} {σ : St} {H : Hp} {s : Shared} {Q : VK} {us : List Value} {vs : List V} (F : FnOk X.prog X.w X.K X.mg X.base (L2.CX X.prog X.w) n f fd ps sp) (hr : Room n X.A)
    (hb : Binds X.K fd ps []) (tk : L2.Takes X W) (I : Inv X pins σ H s) (r : Vals vs us) (h : sp vs H Q fun cls d H' => W cls d σ H') : wpAny (model X.prog X.w) X.A (call (.ref f) us) (EP X pins σ Q) X.xe s := by
  have hl : (us ++ []).length = ps.length := by rw [List.append_nil, ← r.length]; exact F.len _ _ _ _ h
  have hbt := hb s us I.kIn hl
  rw [List.append_nil] at hbt
  refine wpAny_call (codeAny_mono (F.run X.A X.stack s H ⟨us, []⟩ us vs Q _ hr I.env0 hbt r h) fun r s' hq => ?_)
  cases r with
  | error e => exact tk e s' (L2.XE.of_call I (fun _ _ _ w => w) hq)
  | ok fl =>
    cases fl with
    | ret u => exact I.after hq
    | next => exact False.elim hq
    | brk => exact False.elim hq
    | cont => exact False.elim hq
/-- from the arguments' reading to the callee's promise -/
theorem argsF {n : Nat} {o : Bool} {f : Fn} {E : EA} {σ : St} {H : Hp} {Q : VK} (hn : ∀ ds, f ds ≠ .bad → ds.length = n) (h : tE (Gm.mk X.K fa ea) W mv ow ow1 (kO o) (eCall f E) σ H Q) :
    tA (Gm.mk X.K fa ea) W mv ow ow1 .rp E σ H fun vs H1 => spF (Gm.mk X.K fa ea) n o f vs H1 Q fun cls d H' => W cls d σ H' := by
  obtain ⟨B, F, r, m, hL, S, h⟩ := h
  refine ⟨B, F, r, m, hL, S, ?_⟩
  unfold eCall at h
  cases e : E r m with
  | exc c => rw [e] at h; exact h
  | bad => rw [e] at h; exact h.elim
  | ok ds =>
    simp only [e] at h
    intro vs H1 F1 T1 R1
    have hl : ds.length = vs.length := Paired.length R1
    refine ⟨?_, F1, ds, T1.sim.sub, R1, ?_⟩
    · rw [← hl]
      refine hn ds fun z => ?_
      rw [z] at h; exact h
    · cases e2 : f ds with
      | bad => rw [e2] at h; exact h.elim
      | exc c =>
        rw [e2] at h
        exact fun cls dd H' F' hc ad => h cls dd H' F' hc (T1.sim.step ad).drop
      | ok d outs =>
        rw [e2] at h
        cases outs with
        | nil => exact fin_op h T1
        | cons _ _ => exact h.elim
theorem SE.call {n m : Nat} {o : Bool} {f : Fn} {E : EA} {fx : Addr} {fd : FuncData} {ps : List Str} {es : List Expr} (Fk : FnOk X.prog X.w X.K X.mg X.base (L2.CX X.prog X.w) m fx fd ps (spF (Gm.mk X.K fa ea) n o f)) (hr : Room m X.A) (hb : Binds X.K fd ps [])
    (hn : ∀ ds, f ds ≠ .bad → ds.length = n) (tk : L2.Takes X W) (hg : Gl X x) (hm : X.mg x = some (.ref fx)) (hk : PySem.W.keepIn X.K (.ref fx) = true) (ha : SA X (Gm.mk X.K fa ea) W mv ow ow1 .rp (a :: es) E)
    (hdb : (x == ("__debug__" : Str)) = false := by decide) (he : starEach (a :: es) X.env = (false, eval a X.env) :: starEach es X.env := by rfl) (hpl : (backTo pos (starEach es X.env)).any (·.1) = false := by rfl) :
    SE X (Gm.mk X.K fa ea) W mv ow ow1 (kO o) (.Call (.Name x p) (a :: es) [] pos) (eCall f E) := by
  refine ⟨fun pins s σ H Q I h => ?_⟩
  refine wpAny_Call_Name_kw (ld_glob I hg hm ?_ hdb)
  refine PySem.W.callWith_K (h₀ := X.base) I.ok.mod.kin hk (thn (ha.run pos pins s σ H _ I (argsF hn h)) fun us s1 ⟨vs, H1, I1, r, q⟩ => ⟨I1.kIn, ?_⟩) he hpl
  exact run_at Fk hr hb tk I1 r q
theorem SE.call0 {m : Nat} {o : Bool} {f : Fn} {fx : Addr} {fd : FuncData} {ps : List Str} (Fk : FnOk X.prog X.w X.K X.mg X.base (L2.CX X.prog X.w) m fx fd ps (spF (Gm.mk X.K fa ea) 0 o f)) (hr : Room m X.A) (hb : Binds X.K fd ps [])
    (tk : L2.Takes X W) (hg : Gl X x) (hm : X.mg x = some (.ref fx)) (hk : PySem.W.keepIn X.K (.ref fx) = true) (hdb : (x == ("__debug__" : Str)) = false := by decide) :
    SE X (Gm.mk X.K fa ea) W mv ow ow (kO o) (.Call (.Name x p) [] [] pos) (eCall f aNil) := by
  refine ⟨fun pins s σ H Q I h => ?_⟩
  refine wpAny_Call_Name_kw (ld_glob I hg hm ?_ hdb)
  have h2 : spF (Gm.mk X.K fa ea) 0 o f [] H Q fun cls d H' => W cls d σ H' := by
    obtain ⟨B, F, r, m, hL, S, h⟩ := h
    refine ⟨rfl, F, [], S.sub, .nil, ?_⟩
    unfold eCall aNil at h
    cases e2 : f [] with
    | bad => simp only [e2] at h
    | exc c =>
      simp only [e2] at h
      exact fun cls dd H' F' hc ad => h cls dd H' F' hc (S.step ad).drop
    | ok d outs =>
      cases outs with
      | nil => simp only [e2] at h; exact fin_op h (Tr.refl S)
      | cons _ _ => simp only [e2] at h
  exact PySem.W.callWith_K0 I.kIn hk (run_at (us := []) Fk hr hb tk I .nil h2)
/-! ### keywords -/
theorem Paired.get {α β : Type} {R : α → β → Prop} : ∀ {l : List α} {l' : List β}, Paired R l l' → ∀ i : Nat, (∀ a, l[i]? = some a → ∃ b, l'[i]? = some b ∧ R a b) ∧ (l[i]? = none → l'[i]? = none)
  | _, _, .nil, i => ⟨fun a e => by simp at e, fun _ => by simp⟩
  | _, _, .cons (b := b) r t, 0 => ⟨fun a e => by simp at e; subst e; exact ⟨b, rfl, r⟩, fun e => by simp at e⟩
  | _, _, .cons r t, i + 1 => by
    have := Paired.get t i
    simpa using this
theorem Paired.pick {α β : Type} {R : α → β → Prop} {l : List α} {l' : List β} (r : Paired R l l') : ∀ ix : List Nat, Paired R (pick ix l) (pick ix l')
  | [] => .nil
  | i :: ix => by
    unfold _root_.F.pick
    rw [List.filterMap_cons, List.filterMap_cons]
    obtain ⟨h1, h2⟩ := Paired.get r i
    cases e : l[i]? with
    | none => rw [h2 e]; exact Paired.pick r ix
    | some a =>
      obtain ⟨b, e2, h⟩ := h1 a e
      rw [e2]
      exact .cons h (Paired.pick r ix)
/-- the keywords' values -/
abbrev SK (X : Cx) (g : Gm) (W : WX) (mv ow ow' : List Nat) (kws : List Keyword) (E : EA) : Prop := PK X kws (tA g W mv ow ow' .rp E)
theorem SK.nil : SK X (Gm.mk X.K fa ea) W mv ow ow [] aNil := ⟨fun pos pins s σ H Q I ⟨B, F, r, m, hL, S, h⟩ => pk_nil.run pos pins s σ H Q I (h [] H F (Tr.refl S) .nil)⟩
theorem SK.cons {nm : Option Str} {kpos : Pos} {kws : List Keyword} {E : EA} (ha : SE X (Gm.mk X.K fa ea) W mv ow ow1 .rp a A) (hr : SK X (Gm.mk X.K fa ea) W mv ow1 ow2 kws E) : SK X (Gm.mk X.K fa ea) W mv ow ow2 (⟨nm, a, kpos⟩ :: kws) (aCons A E) :=
  ⟨fun pos pins s σ H Q I ⟨B, F, r, m, hL, S, h⟩ => (pk_cons ha hr).run pos pins s σ H Q I (by
    refine ⟨B, F, r, m, hL, S, ?_⟩
    unfold aCons at h
    cases e : A r m with
    | exc c => rw [e] at h; exact h
    | bad => rw [e] at h; exact h.elim
    | ok d =>
      simp only [e] at h
      intro v1 H1 F1 T1 R1
      refine ⟨B, F1, r, m, hL, T1.sim, ?_⟩
      cases e' : E r m with
      | exc c => simp only [e'] at h; exact h
      | bad => simp only [e'] at h
      | ok ds =>
        simp only [e'] at h
        intro vs H' F' T R
        exact h (v1 :: vs) H' F' (T1.trans T) (.cons (Rep.mono T.le _ _ R1) R))⟩
theorem SE.callK {n m : Nat} {o : Bool} {f : Fn} {E : EA} {fx : Addr} {fd : FuncData} {ps ks : List Str} {ix : List Nat} {kws : List Keyword} (Fk : FnOk X.prog X.w X.K X.mg X.base (L2.CX X.prog X.w) m fx fd ps (spF (Gm.mk X.K fa ea) n o f)) (hr : Room m X.A)
    (hb : ∀ (s : Shared) (ws : List Value), X.K.In s.heap → ws.length = ks.length → BindsTo s fd ⟨[], ks.zip ws⟩ (ps.zip (pick ix ws)))
    (hn : ∀ ds, f ds ≠ .bad → ds.length = n) (tk : L2.Takes X W) (hg : Gl X x) (hm : X.mg x = some (.ref fx)) (hk : PySem.W.keepIn X.K (.ref fx) = true) (ha : SK X (Gm.mk X.K fa ea) W mv ow ow1 kws E)
    (hall : (backToKw pos (keywordEach kws X.env)).all (·.1.isSome) = true := by rfl) (hks : (backToKw pos (keywordEach kws X.env)).filterMap (·.1) = ks := by rfl)
    (hdb : (x == ("__debug__" : Str)) = false := by decide) (hpl : ((backTo pos (starEach [] X.env)).any (·.1) || (backToKw pos (keywordEach kws X.env)).any (·.1.isNone)) = false := by rfl) :
    SE X (Gm.mk X.K fa ea) W mv ow ow1 (kO o) (.Call (.Name x p) [] kws pos) (eCallK f ks.length ix E) := by
  refine ⟨fun pins s σ H Q I h => ?_⟩
  refine wpAny_Call_Name_kw (ld_glob I hg hm ?_ hdb)
  have h2 : tA (Gm.mk X.K fa ea) W mv ow ow1 .rp E σ H fun vs H1 => vs.length = ks.length ∧ spF (Gm.mk X.K fa ea) n o f (pick ix vs) H1 Q fun cls d H' => W cls d σ H' := by
    obtain ⟨B, F, r, m, hL, S, h⟩ := h
    refine ⟨B, F, r, m, hL, S, ?_⟩
    unfold eCallK at h
    cases e : E r m with
    | exc c => rw [e] at h; exact h
    | bad => rw [e] at h; exact h.elim
    | ok ds =>
      simp only [e] at h
      intro vs H1 F1 T1 R1
      have hl : ds.length = vs.length := Paired.length R1
      have R2 := Paired.pick R1 ix
      cases eb : Nat.beq ds.length ks.length with
      | false => simp only [eb] at h; exact h.elim
      | true =>
        simp only [eb, if_true] at h
        refine ⟨by rw [← hl]; exact Nat.eq_of_beq_eq_true eb, ?_, F1, pick ix ds, T1.sim.sub, R2, ?_⟩
        · have l2 : (pick ix ds).length = (pick ix vs).length := Paired.length R2
          rw [← l2]
          refine hn _ fun z => ?_
          rw [z] at h; exact h
        · cases e2 : f (pick ix ds) with
          | bad => rw [e2] at h; exact h.elim
          | exc c =>
            rw [e2] at h
            exact fun cls dd H' F' hc ad => h cls dd H' F' hc (T1.sim.step ad).drop
          | ok d outs =>
            rw [e2] at h
            cases outs with
            | nil => exact fin_op h T1
            | cons _ _ => exact h.elim
  refine PySem.W.callWith_KW0 (h₀ := X.base) I.ok.mod.kin hk hall (thn (ha.run pos pins s σ H _ I h2) fun ws s2 ⟨zs, H2, I2, rz, l2, q2⟩ => ⟨I2.kIn, ?_⟩) hpl
  rw [hks]
  have r2 : Vals (pick ix zs) (pick ix ws) := Paired.pick rz ix
  refine wpAny_call (codeAny_mono (Fk.run X.A X.stack s2 H2 ⟨[] ++ [], ks.zip ws⟩ (pick ix ws) (pick ix zs) Q _ hr I2.env0 (hb s2 ws I2.kIn (by rw [← rz.length]; exact l2)) r2 q2) fun r s' hq => ?_)
  cases r with
  | error e => exact tk e s' (L2.XE.of_call I2 (fun _ _ _ w => w) hq)
  | ok fl =>
    cases fl with
    | ret u => exact I2.after hq
    | next => exact False.elim hq
    | brk => exact False.elim hq
    | cont => exact False.elim hq
/-! ### a function out of a list -/
theorem spF_weak {g : Gm} {n : Nat} {f : Fn} (vs : List V) (H : Hp) (Q : VK) (E : XK) (h : spF g n false f vs H Q E) : spF g n true f vs H Q E := by
  obtain ⟨hl, F, ds, S, R, h⟩ := h
  refine ⟨hl, F, ds, S, R, ?_⟩
  cases e : f ds with
  | bad => rw [e] at h; exact h
  | exc c => rw [e] at h; exact h
  | ok d outs =>
    rw [e] at h
    cases outs with
    | cons _ _ => exact h
    | nil =>
      intro v H' F' ad R
      unfold Res at R
      rw [if_pos rfl] at R
      rcases R with ⟨a, rfl, n, f, p⟩ | ⟨_, p⟩
      · obtain ⟨o, e, sb, le, rp⟩ := p.freeze ad.sub f
        exact h _ H' (upd F' a o) ⟨sb, ad.keep, fun c hc => by rw [upd_ne (fun z => by subst z; exact hc n)]; exact ad.grow c hc⟩ (Res.rp rp)
      · exact h _ H' F' ad (Res.rp p)
/-- every function that may be a value keeps its promise -/
def TabOk (X : Cx) (fa ea : Nat → Option Addr) (m : Nat) (T : Nat → Fn) : Prop := ∀ i a, fa i = some a → ∃ fd ps n, FnOk X.prog X.w X.K X.mg X.base (L2.CX X.prog X.w) m a fd ps (spF (Gm.mk X.K fa ea) n false (T i)) ∧ Binds X.K fd ps [] ∧ (∀ ds, T i ds ≠ .bad → ds.length = n) ∧ PySem.W.keepIn X.K (.ref a) = true
theorem SE.callV {m : Nat} {T : Nat → Fn} {e : Expr} {G : EX} {E : EA} {es : List Expr} (tab : TabOk X fa ea m T) (hr : Room m X.A) (tk : L2.Takes X W) (hf : SE X (Gm.mk X.K fa ea) W mv ow ow .rp e G) (ha : SA X (Gm.mk X.K fa ea) W mv ow ow1 .rp (a :: es) E)
    (he : starEach (a :: es) X.env = (false, eval a X.env) :: starEach es X.env := by rfl) (hpl : (backTo pos (starEach es X.env)).any (·.1) = false := by rfl)
    (hc : ∀ {M : Model} {A : Around} {s : Shared} {E : Value → Shared → Prop} {Q : Value → Shared → Prop}, wpAny M A (eval e X.env) (fun v s1 => wpAny M A (callWith pos v [] (backTo pos (starEach (a :: es) X.env)) []) Q E s1) E s → wpAny M A (eval (.Call e (a :: es) [] pos) X.env) Q E s) :
    SE X (Gm.mk X.K fa ea) W mv ow ow1 .rp (.Call e (a :: es) [] pos) (eCallV T G E) := by
  refine ⟨fun pins s σ H Q I h => hc ?_⟩
  have h2 : tE (Gm.mk X.K fa ea) W mv ow ow .rp G σ H fun x H1 => ∃ i f, x = .ref f ∧ fa i = some f ∧ tE (Gm.mk X.K fa ea) W mv ow ow1 (kO false) (eCall (T i) E) σ H1 Q := by
    obtain ⟨B, F, r, m, hL, S, h⟩ := h
    refine ⟨B, F, r, m, hL, S, ?_⟩
    unfold eCallV at h
    cases e : G r m with
    | exc c => rw [e] at h; exact h
    | bad => rw [e] at h; exact h.elim
    | ok d =>
      rw [e] at h
      cases d with
      | fn i =>
        intro v H1 F1 T1 R1
        obtain ⟨f, ev, ef⟩ := RepT.fn (ResK.rd R1)
        refine ⟨i, f, ev, ef, B, F1, r, m, hL, T1.sim, ?_⟩
        unfold eCall
        cases e1 : E r m with
        | exc c => simp only [e1] at h ⊢; exact h
        | bad => simp only [e1] at h
        | ok xs =>
          simp only [e1] at h ⊢
          cases e2 : T i xs with
          | bad => simp only [e2] at h
          | exc c => simp only [e2] at h ⊢; exact h
          | ok d outs =>
            cases outs with
            | cons _ _ => simp only [e2] at h
            | nil =>
              simp only [e2] at h ⊢
              exact fun v' H' F' T' R' => h v' H' F' (T1.trans T') (R'.up T1.ext)
      | _ => exact h.elim
  refine thn (hf.run pins s σ H _ I h2) fun u s1 ⟨x, H1, I1, r1, i, f, ex, ef, q1⟩ => ?_
  subst ex
  cases r1
  obtain ⟨fd, ps, n, Fk, hb, hn, kp⟩ := tab i f ef
  refine PySem.W.callWith_K (h₀ := X.base) I.ok.mod.kin kp (thn (ha.run pos pins s1 σ H1 _ I1 (argsF hn q1)) fun us s2 ⟨vs, H2, I2, r2, q2⟩ => ⟨I2.kIn, ?_⟩) he hpl
  exact run_at Fk hr hb tk I2 r2 q2
end
end F
/-! F3f: what is walked. -/
namespace F
open PySem PySem.Spec PyProof.Rows L2
/-- an object that is locked while it is walked -/
abbrev Lk := Option (Addr × HO)
def GW (lk : Lk) (F0 H : Hp) : Prop := (∃ F2, Le F0 F2 ∧ Sub F2 H) ∧ ∀ d o, lk = some (d, o) → H d = some o
/-- a value, or a tuple that is only taken apart -/
def RpW (g : Gm) (w : Prop) (F H : Hp) (d : D) (v : V) : Prop := Rp g F d v ∨ w ∧ ∃ ds a vs, d = .tup ds ∧ v = .ref a ∧ H a = some (.tup vs) ∧ RepL g.K g.fa F ds vs
/-- a walk over the values xs -/
structure WalkD (g : Gm) (wk : Bool) (lk : Lk) (F0 : Hp) (J : It) (xs : List D) : Prop where
  go : ∀ i H, i < xs.length → GW lk F0 H → J.go i H
  stop : ∀ H, GW lk F0 H → J.stop xs.length H
  yld : ∀ i H x H', i < xs.length → GW lk F0 H → J.yld i H x H' → ∀ F2, Le F0 F2 → Sub F2 H → ∃ d F3, xs[i]? = some d ∧ Adv F2 H F3 H' ∧ RpW g (wk = true) F3 H' d x
section
variable {X : Cx} {fa ea : Nat → Option Addr} {F0 : Hp}
theorem RepL.get {K : Frag} {F : Hp} : ∀ {ds : List D} {vs : List V} {i : Nat} {v : V}, RepL K fa F ds vs → vs[i]? = some v → ∃ d, ds[i]? = some d ∧ Rep K fa F d v
  | [], _, i, v, h, e => by rw [show _ = [] from h] at e; simp at e
  | d :: ds, _, 0, v, ⟨w, r, e, h, t⟩, q => by subst e; simp at q; subst q; exact ⟨d, rfl, h⟩
  | d :: ds, _, i + 1, v, ⟨w, r, e, h, t⟩, q => by
    subst e
    obtain ⟨d', e', h'⟩ := RepL.get (i := i) t (by simpa using q)
    exact ⟨d', by simpa using e', h'⟩
theorem RepL.getD {K : Frag} {F : Hp} {ds : List D} {vs : List V} {i : Nat} (r : RepL K fa F ds vs) (h : i < ds.length) : ∃ v, vs[i]? = some v := by
  rw [r.length] at h
  exact ⟨vs[i], by simp [h]⟩
theorem walkD_list {a : Addr} {vs : List V} {xs : List D} (hi : InL X.K F0 a vs) (r : RepL X.K fa F0 xs vs) : WalkD (Gm.mk X.K fa ea) false none F0 (Itl X.K a) xs where
  go := fun i H h ⟨⟨F2, l, s⟩, _⟩ => by
    rw [r.length] at h
    exact walk_list.goes i H h ((hi.mono l).sq s)
  stop := fun H ⟨⟨F2, l, s⟩, _⟩ => by rw [r.length]; exact walk_list.stops H ((hi.mono l).sq s)
  yld := fun i H x H' h ⟨⟨F2, l, s⟩, _⟩ y F3 l3 s3 => by
    have h' := h
    rw [r.length] at h'
    obtain ⟨e, ex⟩ := walk_list.yields i H x H' h' ((hi.mono l).sq s) y
    obtain ⟨d, ed, rd⟩ := RepL.get r ex
    subst e
    exact ⟨d, F3, ed, Adv.refl s3, .inl (rd.mono l3)⟩
theorem walkD_tup {a : Addr} {vs : List V} {xs : List D} (hi : InT X.K F0 a vs) (r : RepL X.K fa F0 xs vs) : WalkD (Gm.mk X.K fa ea) false none F0 (Itt X.K a) xs where
  go := fun i H h ⟨⟨F2, l, s⟩, _⟩ => by
    rw [r.length] at h
    exact walk_tup.goes i H h ((hi.mono l).sq s)
  stop := fun H ⟨⟨F2, l, s⟩, _⟩ => by rw [r.length]; exact walk_tup.stops H ((hi.mono l).sq s)
  yld := fun i H x H' h ⟨⟨F2, l, s⟩, _⟩ y F3 l3 s3 => by
    have h' := h
    rw [r.length] at h'
    obtain ⟨e, ex⟩ := walk_tup.yields i H x H' h' ((hi.mono l).sq s) y
    obtain ⟨d, ed, rd⟩ := RepL.get r ex
    subst e
    exact ⟨d, F3, ed, Adv.refl s3, .inl (rd.mono l3)⟩
theorem RepK.key {K : Frag} {F : Hp} : ∀ {kvs : List (D × D)} {ks : List (Key × V)} {i : Nat} {k : Key} {v : V}, RepK K fa F kvs ks → ks[i]? = some (k, v) → (kvs.map (·.1))[i]? = some (keyD k)
  | [], _, i, k, v, h, e => by rw [show _ = [] from h] at e; simp at e
  | (x, d) :: kvs, _, 0, k, v, ⟨q, w, r, e, ex, h, t⟩, z => by subst e ex; simp at z; obtain ⟨rfl, rfl⟩ := z; rfl
  | (x, d) :: kvs, _, i + 1, k, v, ⟨q, w, r, e, ex, h, t⟩, z => by
    subst e
    have := RepK.key (i := i) t (by simpa using z)
    simpa using this
theorem keyD_rep {F : Hp} (k : Key) : Rep X.K fa F (keyD k) (kV k) := by
  cases k with
  | inl i => rfl
  | inr x => show V.str x = V.str ⟨x.cps.toList.toArray⟩; simp
theorem walkD_keys {a : Addr} {o : Obj} {ks : List (Key × V)} {kvs : List (D × D)} (r : RepK X.K fa F0 kvs ks) : WalkD (Gm.mk X.K fa ea) false (some (a, .frz o (.dK ks))) F0 (Itk a o ks) (kvs.map (·.1)) where
  go := fun i H h ⟨_, hl⟩ => by
    rw [List.length_map, r.length] at h
    exact walk_keys.goes i H h (hl _ _ rfl)
  stop := fun H ⟨_, hl⟩ => by rw [List.length_map, r.length]; exact walk_keys.stops H (hl _ _ rfl)
  yld := fun i H x H' h ⟨_, hl⟩ y F3 l3 s3 => by
    have h' := h
    rw [List.length_map, r.length] at h'
    obtain ⟨e, k, v, ex, exk⟩ := walk_keys.yields i H x H' h' (hl _ _ rfl) y
    subst e exk
    exact ⟨keyD k, F3, RepK.key r ex, Adv.refl s3, .inl (keyD_rep k)⟩
theorem rng_get : ∀ (n : Nat) (lo : Int) (i : Nat), i < n → (rng n lo)[i]? = some (.int (lo + i))
  | 0, _, _, h => by omega
  | n + 1, lo, 0, _ => by simp [rng]
  | n + 1, lo, i + 1, h => by
    have := rng_get n (lo + 1) i (by omega)
    have e : lo + 1 + (i : Int) = lo + ((i + 1 : Nat) : Int) := by omega
    rw [e] at this
    simpa [rng] using this
theorem rng_length : ∀ (n : Nat) (lo : Int), (rng n lo).length = n
  | 0, _ => rfl
  | n + 1, lo => by show (rng n (lo + 1)).length + 1 = _; rw [rng_length n]
theorem walkD_range {lo : Int} {n : Nat} : WalkD (Gm.mk X.K fa ea) false none F0 (Itr lo n) (rng n lo) where
  go := fun i H h _ => by rw [rng_length] at h; exact h
  stop := fun H _ => by rw [rng_length]; exact Nat.le_refl _
  yld := fun i H x H' h _ y F3 l3 s3 => by
    rw [rng_length] at h
    obtain ⟨e, ex⟩ := y
    subst e ex
    exact ⟨_, F3, rng_get n lo i h, Adv.refl s3, .inl rfl⟩
theorem zip_get : ∀ (xs ys : List D) (i : Nat) (a b : D), xs[i]? = some a → ys[i]? = some b → (zipD xs ys)[i]? = some (.tup [a, b])
  | [], _, _, _, _, h, _ => by simp at h
  | _ :: _, [], _, _, _, _, h => by simp at h
  | x :: xs, y :: ys, 0, a, b, h1, h2 => by simp at h1 h2; subst h1 h2; rfl
  | x :: xs, y :: ys, i + 1, a, b, h1, h2 => by
    have := zip_get xs ys i a b (by simpa using h1) (by simpa using h2)
    simpa [zipD] using this
theorem zip_length : ∀ (xs ys : List D), (zipD xs ys).length = min xs.length ys.length
  | [], _ => by simp [zipD]
  | _ :: _, [] => by simp [zipD]
  | x :: xs, y :: ys => by
    have := zip_length xs ys
    simp [zipD, this, Nat.succ_min_succ]
theorem pair_new {F2 H H' : Hp} {T : Addr} {d e : D} {x y : V} (s : Sub F2 H) (n : H T = none) (eh : H' = upd H T (.tup [x, y])) (hx : Rp (Gm.mk X.K fa ea) F2 d x) (hy : Rp (Gm.mk X.K fa ea) F2 e y) : ∃ F3, Adv F2 H F3 H' ∧ RpW (Gm.mk X.K fa ea) (true = true) F3 H' (.tup [d, e]) (.ref T) := by
  subst eh
  have ad : Adv F2 H F2 (upd H T (.tup [x, y])) := Adv.laid s n
  exact ⟨F2, ad, .inr ⟨rfl, _, T, [x, y], rfl, rfl, upd_same, x, [y], rfl, hx, y, [], rfl, hy, rfl⟩⟩
theorem walkD_zipL {a b : Addr} {vs ws : List V} {xs ys : List D} (hi : InL X.K F0 a vs) (r : RepL X.K fa F0 xs vs) (hi2 : InL X.K F0 b ws) (r2 : RepL X.K fa F0 ys ws) : WalkD (Gm.mk X.K fa ea) true none F0 (Itz X.K a b) (zipD xs ys) where
  go := fun i H h ⟨⟨F2, l, s⟩, _⟩ => by
    rw [zip_length] at h
    obtain ⟨v, e⟩ := RepL.getD r (show i < xs.length by omega)
    obtain ⟨w, e2⟩ := RepL.getD r2 (show i < ys.length by omega)
    exact ⟨vs, ws, v, w, (hi.mono l).sq s, (hi2.mono l).sq s, e, e2⟩
  stop := fun H ⟨⟨F2, l, s⟩, _⟩ => by
    rw [zip_length, r.length, r2.length]
    exact ⟨vs, ws, (hi.mono l).sq s, (hi2.mono l).sq s, by omega⟩
  yld := fun i H x H' h ⟨⟨F2, l, s⟩, _⟩ y F3 l3 s3 => by
    obtain ⟨T, u, w, e1, n, eh, q1, q2⟩ := y
    obtain ⟨d, ed, rd⟩ := RepL.get r (q1 vs ((hi.mono l).sq s))
    obtain ⟨e, ee, re⟩ := RepL.get r2 (q2 ws ((hi2.mono l).sq s))
    obtain ⟨F4, ad, rr⟩ := pair_new (X := X) (fa := fa) (ea := ea) s3 n eh (rd.mono l3) (re.mono l3)
    subst e1
    exact ⟨_, F4, zip_get _ _ _ _ _ ed ee, ad, rr⟩
theorem walkD_zipT {a b : Addr} {vs ws : List V} {xs ys : List D} (hi : InT X.K F0 a vs) (r : RepL X.K fa F0 xs vs) (hi2 : InT X.K F0 b ws) (r2 : RepL X.K fa F0 ys ws) : WalkD (Gm.mk X.K fa ea) true none F0 (RZ.ItzT X.K a b) (zipD xs ys) where
  go := fun i H h ⟨⟨F2, l, s⟩, _⟩ => by
    rw [zip_length] at h
    obtain ⟨v, e⟩ := RepL.getD r (show i < xs.length by omega)
    obtain ⟨w, e2⟩ := RepL.getD r2 (show i < ys.length by omega)
    exact ⟨vs, ws, v, w, (hi.mono l).sq s, (hi2.mono l).sq s, e, e2⟩
  stop := fun H ⟨⟨F2, l, s⟩, _⟩ => by
    rw [zip_length, r.length, r2.length]
    exact ⟨vs, ws, (hi.mono l).sq s, (hi2.mono l).sq s, by omega⟩
  yld := fun i H x H' h ⟨⟨F2, l, s⟩, _⟩ y F3 l3 s3 => by
    obtain ⟨T, u, w, e1, n, eh, q1, q2⟩ := y
    obtain ⟨d, ed, rd⟩ := RepL.get r (q1 vs ((hi.mono l).sq s))
    obtain ⟨e, ee, re⟩ := RepL.get r2 (q2 ws ((hi2.mono l).sq s))
    obtain ⟨F4, ad, rr⟩ := pair_new (X := X) (fa := fa) (ea := ea) s3 n eh (rd.mono l3) (re.mono l3)
    subst e1
    exact ⟨_, F4, zip_get _ _ _ _ _ ed ee, ad, rr⟩
/-! ### the base while a dict is locked -/
def reB (B : Base) (F : Hp) (lk : Lk) : Base := match lk with
  | none => B
  | some (d, o) => ⟨upd B.H d o, upd B.F d (match F d with | some u => u | none => o), B.L⟩
/-- a list, a tuple, a dict (locked, or to be locked) is walked -/
def iAny (X : Cx) (te : TE) : TI := fun σ H R => te σ H fun x H1 => (∃ a xs, x = .ref a ∧ SqL X.K H1 a xs ∧ R (Itl X.K a) H1) ∨ (∃ a xs, x = .ref a ∧ SqT X.K H1 a xs ∧ R (Itt X.K a) H1) ∨
  (∃ a o kvs, x = .ref a ∧ H1 a = some (.frz o (.dK kvs)) ∧ R (Itk a o kvs) H1) ∨ ∃ a kvs, x = .ref a ∧ H1 a = some (.dK kvs) ∧ ∀ od, (∀ o' u', X.H_0 a ≠ some (.frz o' u')) → R (Itk a od kvs) (upd H1 a (.frz od (.dK kvs)))
theorem pi_any {tg e : Expr} {te : TE} (he : PE X e te) : PI X tg e (iAny X te) := by
  refine ⟨fun pins s σ H R I h => thn (he.run pins s σ H _ I h) fun v s1 ⟨x, H1, I1, r1, q1⟩ => ?_⟩
  rcases q1 with ⟨a, xs, rfl, hq, q⟩ | ⟨a, xs, rfl, hq, q⟩ | ⟨a, o, kvs, rfl, hd, q⟩ | ⟨a, kvs, rfl, hd, q⟩
  · cases r1
    obtain ⟨its, rv, p, hz⟩ := I1.list hq
    exact wpAny_pyIter_list p.isList (pi_one (tk := s1.toks) I1 _ (turn_list a _) ⟨_, Heap.get?_push_size _ rfl, rfl, rfl⟩ q)
  · cases r1
    obtain ⟨its, rv, p, hz⟩ := I1.tuple hq
    exact wpAny_pyIter_tuple (show s1.heap.IsTuple a its.toArray from p) (pi_one (tk := s1.toks) I1 _ (turn_tuple a _) ⟨_, Heap.get?_push_size _ rfl, rfl, rfl⟩ q)
  · cases r1
    obtain ⟨hs, hgd, hx, es, ep, vs, hdt, hsz, kv, hm⟩ := I1.frzK hd
    refine iter_keys hs hgd hx hdt (pi_one (tk := s1.toks) I1 _ (turn_keys _ hdt) ⟨_, Heap.get?_push_size _ rfl, rfl, ?_⟩ q)
    rw [hsz] <;> rfl
  · cases r1
    have nf := I1.nofrz hd True.intro
    obtain ⟨od, I2⟩ := I1.lock hd True.intro
    obtain ⟨hs, hgd, hx, es, ep, vs, hdt, hsz, kv, hm⟩ := I2.frzK upd_same
    refine iter_keys hs hgd hx hdt (pi_one (tk := s1.toks) I2 _ (turn_keys _ hdt) ⟨_, Heap.get?_push_size _ rfl, rfl, ?_⟩ (q od nf))
    rw [hsz] <;> rfl
end
end F
/-! F3g: targets, walks by values, comprehensions. -/
namespace F
open PySem PySem.Spec PyProof.Rows L2
/-! ### environments -/
theorem setS_length : ∀ (r : Env) (i : Nat) (x : Option D), (setS r i x).length = r.length
  | [], _, _ => rfl
  | _ :: _, 0, _ => rfl
  | a :: r, i + 1, x => by show (setS r i x).length + 1 = _; rw [setS_length r i x]; rfl
theorem getS_same : ∀ (r : Env) (i : Nat) (x : Option D) (d : D), getS (setS r i x) i = some d → x = some d
  | [], _, _, _, h => by cases h
  | _ :: _, 0, x, d, h => h
  | a :: r, i + 1, x, d, h => getS_same r i x d h
theorem getS_other : ∀ (r : Env) (i j : Nat) (x : Option D), j ≠ i → getS (setS r i x) j = getS r j
  | [], _, _, _, _ => rfl
  | _ :: _, 0, 0, x, h => absurd rfl h
  | _ :: _, 0, j + 1, x, _ => rfl
  | a :: r, i + 1, 0, x, _ => rfl
  | a :: r, i + 1, j + 1, x, h => getS_other r i j x fun z => h (by rw [z])
section
variable {g : Gm} {B : Base} {F H : Hp} {mv ow : List Nat} {r m : Env} {σ : St}
theorem Sim.setR (S : Sim g B F mv ow r m σ H) {i : Nat} {d : D} {v : V} (hi : i ∉ mv) (hl : i < σ.length) (hd : Rp g F d v) : Sim g B F mv ow (setS r i (some d)) m (σ.set i (some v)) H := by
  refine ⟨S.sub, S.fr, S.ls, S.gr, fun j e h => ?_, fun j e h => ?_, fun j k d' e' a h1 h2 h3 h4 h5 h6 h7 h8 h9 => ?_, by rw [setS_length, List.length_set]; exact S.lr, by rw [List.length_set]; exact S.lm⟩
  · by_cases q : j = i
    · subst q
      cases getS_same r j _ e h
      exact ⟨hi, v, by rw [List.getElem?_set_self hl], hd⟩
    · rw [getS_other r i j _ q] at h
      obtain ⟨h1, w, h2, h3⟩ := S.rr j e h
      exact ⟨h1, w, by rw [List.getElem?_set_ne (Ne.symm q)]; exact h2, h3⟩
  · obtain ⟨h1, w, h2, h3⟩ := S.mm j e h
    have q : i ≠ j := fun z => hi (z ▸ h1)
    exact ⟨h1, w, by rw [List.getElem?_set_ne q]; exact h2, h3⟩
  · obtain ⟨q1, _⟩ := S.mm j d' h4
    obtain ⟨q2, _⟩ := S.mm k e' h5
    rw [List.getElem?_set_ne (fun z => hi (by rw [z]; exact q1))] at h8
    rw [List.getElem?_set_ne (fun z => hi (by rw [z]; exact q2))] at h9
    exact S.ap j k d' e' a h1 h2 h3 h4 h5 h6 h7 h8 h9
theorem wipeS_get {vs : List Nat} {i : Nat} {d : D} : getS (wipeS r vs) i = some d → getS r i = some d ∧ i ∉ vs := by
  induction vs with
  | nil => intro h; exact ⟨h, by simp⟩
  | cons v vs ih =>
    intro h
    have h : getS (setS (wipeS r vs) v none) i = some d := h
    by_cases q : i = v
    · subst q
      have := getS_same _ _ _ _ h
      cases this
    · rw [getS_other _ _ _ _ q] at h
      obtain ⟨h1, h2⟩ := ih h
      exact ⟨h1, by simp [q, h2]⟩
theorem wipeS_length : ∀ vs : List Nat, (wipeS r vs).length = r.length
  | [] => rfl
  | v :: vs => by show (setS (wipeS r vs) v none).length = _; rw [setS_length, wipeS_length vs]
theorem Sim.wipe (S : Sim g B F mv ow r m σ H) {vs : List Nat} (hv : ∀ i ∈ vs, i ∉ mv) : Sim g B F mv ow (wipeS r vs) m (L2.wipe σ vs) H := by
  refine ⟨S.sub, S.fr, S.ls, S.gr, fun j e h => ?_, fun j e h => ?_, fun j k d' e' a h1 h2 h3 h4 h5 h6 h7 h8 h9 => ?_, by rw [wipeS_length, wipe_length]; exact S.lr, by rw [wipe_length]; exact S.lm⟩
  · obtain ⟨h, hn⟩ := wipeS_get h
    obtain ⟨h1, w, h2, h3⟩ := S.rr j e h
    exact ⟨h1, w, by rw [wipe_out hn]; exact h2, h3⟩
  · obtain ⟨h1, w, h2, h3⟩ := S.mm j e h
    exact ⟨h1, w, by rw [wipe_out fun z => hv j z h1]; exact h2, h3⟩
  · obtain ⟨q1, _⟩ := S.mm j d' h4
    obtain ⟨q2, _⟩ := S.mm k e' h5
    rw [wipe_out fun z => hv j z q1] at h8
    rw [wipe_out fun z => hv k z q2] at h9
    exact S.ap j k d' e' a h1 h2 h3 h4 h5 h6 h7 h8 h9
end
theorem wipe_eq {σ σ2 : St} {vs : List Nat} (hl : σ2.length = σ.length) (h : ∀ i, i ∉ vs → σ2[i]? = σ[i]?) : L2.wipe σ2 vs = L2.wipe σ vs := by
  have at_ : ∀ (τ : St) (ws : List Nat) (i : Nat), i ∈ ws → (L2.wipe τ ws)[i]? = if i < τ.length then some none else none := by
    intro τ ws
    induction ws with
    | nil => intro i h; cases h
    | cons w ws ih =>
      intro i hi
      show ((L2.wipe τ ws).set w none)[i]? = _
      by_cases q : w = i
      · subst q
        by_cases hl : w < τ.length
        · rw [List.getElem?_set_self (by rw [wipe_length]; exact hl), if_pos hl]
        · rw [List.getElem?_eq_none (by rw [List.length_set, wipe_length]; omega), if_neg hl]
      · rw [List.getElem?_set_ne q]
        rcases List.mem_cons.mp hi with e | hi
        · exact absurd e.symm q
        · exact ih i hi
  apply List.ext_getElem?
  intro i
  by_cases hi : i ∈ vs
  · rw [at_ σ2 vs i hi, at_ σ vs i hi, hl]
  · rw [wipe_out hi, wipe_out hi, h i hi]
/-! ### targets -/
mutual
def namesG : G → List Nat
  | .n i => [i]
  | .t gs => namesGs gs
def namesGs : List G → List Nat
  | [] => []
  | g :: gs => namesG g ++ namesGs gs
end
def tG (g : Gm) (mv : List Nat) (k : Nat) (G0 : G) : TG := fun v σ H Q => ∃ B F ow r m d r', Sim g B F mv ow r m σ H ∧ RpW g (∃ gs, G0 = .t gs) F H d v ∧ put k G0 d r = some r' ∧ ∀ σ', Sim g B F mv ow r' m σ' H → σ'.length = σ.length → (∀ i, i ∉ namesG G0 → σ'[i]? = σ[i]?) → Q σ' H
def tGs (g : Gm) (mv : List Nat) (k : Nat) (gs : List G) : TGs := fun vs σ H Q => ∃ B F ow r m ds r', Sim g B F mv ow r m σ H ∧ RepL g.K g.fa F ds vs ∧ putL (put k) gs ds r = some r' ∧ ∀ σ', Sim g B F mv ow r' m σ' H → σ'.length = σ.length → (∀ i, i ∉ namesGs gs → σ'[i]? = σ[i]?) → Q σ' H
theorem PG.imp {X : Cx} {e : Expr} {t t' : TG} (h : PG X e t) (i : ∀ v σ H Q, t' v σ H Q → t v σ H Q) : PG X e t' := ⟨fun pins s σ H v u Q I r q => h.run pins s σ H v u Q I r (i v σ H Q q)⟩
theorem PGs.imp {X : Cx} {e : List Expr} {t t' : TGs} (h : PGs X e t) (i : ∀ v σ H Q, t' v σ H Q → t v σ H Q) : PGs X e t' := ⟨fun pins s σ H v u Q I r q => h.run pins s σ H v u Q I r (i v σ H Q q)⟩
section
variable {X : Cx} {fa ea : Nat → Option Addr} {W : WX} {mv ow ow1 ow2 ow3 : List Nat} {k k1 k2 : Kd} {a b c : Expr} {A Bb C : EX} {pos p p2 : Pos} {x : Str} {id : String}
abbrev SG (X : Cx) (g : Gm) (mv : List Nat) (k : Nat) (e : Expr) (G0 : G) : Prop := PG X e (tG g mv k G0)
abbrev SGs (X : Cx) (g : Gm) (mv : List Nat) (k : Nat) (es : List Expr) (gs : List G) : Prop := PGs X es (tGs g mv k gs)
theorem SG.name {i k : Nat} {x : Str} (hN : X.N.Nodup) (hi : X.N[i]? = some x) (hx : Loc X.env.scope x) (hm : i ∉ mv) (hl : i < X.N.length) (hf : X.fn x = true ∨ X.env.scope.names.lookup x = some .local := by first | exact .inl rfl | exact .inr rfl | assumption) : SG X (Gm.mk X.K fa ea) mv k (.Name x pos) (.n i) :=
  ⟨fun pins s σ H v u Q I r ⟨B, F, ow, rr, m, d, r', S, hd, hp, q⟩ => (pg_name hN hi hx hf).run pins s σ H v u Q I r (by
    have e : r' = setS rr i (some d) := by
      cases k with
      | zero => exact (Option.some.inj hp).symm
      | succ k => exact (Option.some.inj hp).symm
    subst e
    have hl' : i < σ.length := by rw [I.len]; exact hl
    rcases hd with hd | hd
    rotate_left
    · obtain ⟨⟨_, z⟩, _⟩ := hd; cases z
    exact q _ (S.setR hm hl' hd) (by simp) fun j hj => by
      have : i ≠ j := fun z => hj (by rw [z]; exact List.mem_singleton.mpr rfl)
      rw [List.getElem?_set_ne this])⟩
theorem SGs.nil {k : Nat} : SGs X (Gm.mk X.K fa ea) mv k [] [] :=
  PGs.imp pgs_nil fun vs σ H Q ⟨B, F, ow, r, m, ds, r', S, hd, hp, q⟩ => by
    cases ds with
    | nil =>
      cases hp
      exact ⟨hd, q σ S rfl fun _ _ => rfl⟩
    | cons _ _ => cases hp
theorem SGs.cons {k : Nat} {e : Expr} {es : List Expr} {G0 : G} {gs : List G} (h1 : SG X (Gm.mk X.K fa ea) mv k e G0) (h2 : SGs X (Gm.mk X.K fa ea) mv k es gs) (hs : (assignEach (e :: es) X.env).map (·.2) = assign e X.env :: (assignEach es X.env).map (·.2) := by rfl) : SGs X (Gm.mk X.K fa ea) mv k (e :: es) (G0 :: gs) :=
  PGs.imp (pgs_cons h1 h2 hs) fun vs σ H Q ⟨B, F, ow, r, m, ds, r', S, hd, hp, q⟩ => by
    cases ds with
    | nil => cases hp
    | cons d ds =>
      obtain ⟨v, vr, rfl, hv, hr⟩ := hd
      have hp : (match put k G0 d r with | some r => putL (put k) gs ds r | none => none) = some r' := hp
      cases e1 : put k G0 d r with
      | none => rw [e1] at hp; cases hp
      | some r1 =>
        rw [e1] at hp
        refine ⟨v, vr, rfl, B, F, ow, r, m, d, r1, S, .inl hv, e1, fun σ' S' l' k' => ⟨B, F, ow, r1, m, ds, r', S', hr, hp, fun σ2 S2 l2 k2 => q σ2 S2 (l2.trans l') fun i hi => ?_⟩⟩
        have hi : i ∉ namesG G0 ++ namesGs gs := hi
        rw [List.mem_append, not_or] at hi
        rw [k2 i hi.2, k' i hi.1]
theorem SG.tup {k n : Nat} {es : List Expr} {gs : List G} {j : Nat} (hc : X.calm = true) (h : SGs X (Gm.mk X.K fa ea) mv k es gs) (hn : (assignEach es X.env).length = gs.length := by rfl) (hst : (assignEach es X.env).findIdx? (·.1) = none := by rfl) : SG X (Gm.mk X.K fa ea) mv (k + 1) (.Tuple es j pos) (.t gs) :=
  ⟨fun pins s σ H v u Q I r ⟨B, F, ow, rr, m, d, r', S, hd, hp, q⟩ => by
    have len : ∀ (gs : List G) (ds : List D) (r r' : Env), putL (put k) gs ds r = some r' → ds.length = gs.length := by
      intro gs
      induction gs with
      | nil => intro ds r r' h; cases ds with
        | nil => rfl
        | cons _ _ => cases h
      | cons g0 gs ih => intro ds r r' h; cases ds with
        | nil => cases h
        | cons d ds =>
          have h : (match put k g0 d r with | some r => putL (put k) gs ds r | none => none) = some r' := h
          cases e : put k g0 d r with
          | none => rw [e] at h; cases h
          | some r1 => rw [e] at h; rw [List.length_cons, List.length_cons, ih ds r1 r' h]
    rcases hd with hd | ⟨_, ds, a, vs, rfl, rfl, ha, hr⟩
    · cases d with
      | tup ds =>
        have hp : putL (put k) gs ds rr = some r' := hp
        obtain ⟨a, vs, rfl, hi, hr⟩ := hd
        exact (pg_tup hc h hn hst).run pins s σ H _ u Q I r ⟨a, vs, rfl, hi.sq S.sub, by rw [← hr.length, len _ _ _ _ hp], B, F, ow, rr, m, ds, r', S, hr, hp, q⟩
      | lst ds =>
        have hp : putL (put k) gs ds rr = some r' := hp
        obtain ⟨a, vs, rfl, hi, hr⟩ := hd
        exact (pg_unl hc h hn hst).run pins s σ H _ u Q I r ⟨a, vs, rfl, hi.sq S.sub, by rw [← hr.length, len _ _ _ _ hp], B, F, ow, rr, m, ds, r', S, hr, hp, q⟩
      | _ => cases hp
    · have hp : putL (put k) gs ds rr = some r' := hp
      exact (pg_tup hc h hn hst).run pins s σ H _ u Q I r ⟨a, vs, rfl, .inl (.inl ha), by rw [← hr.length, len _ _ _ _ hp], B, F, ow, rr, m, ds, r', S, hr, hp, q⟩⟩
/-! ### what is walked, by values -/
/-- the heap as it is while it is walked -/
def LkOk (X : Cx) (F' H1 H' : Hp) (lk : Lk) : Prop := match lk with
  | none => H' = H1
  | some (d, o) => ∃ od ks, o = .frz od (.dK ks) ∧ F' d = some (.dK ks) ∧ ((H1 d = some o ∧ H' = H1) ∨ (H1 d = some (.dK ks) ∧ (∀ o' u', X.H_0 d ≠ some (.frz o' u')) ∧ H' = upd H1 d o))
def tI (X : Cx) (g : Gm) (wk : Bool) (W : WX) (mv ow ow' : List Nat) (E : EA) : TI := fun σ H R => ∃ B F r m, B.L = [] ∧ Sim g B F mv ow r m σ H ∧ match E r m with
  | .ok xs => ∀ J H1 H' F' lk, Tr g B mv ow' r m σ F H F' H1 → LkOk X F' H1 H' lk → WalkD g wk lk F' J xs → R J H'
  | .exc c => exE g W B mv r σ c
  | .bad => False
theorem PI.imp {X : Cx} {tg e : Expr} {t t' : TI} (h : PI X tg e t) (i : ∀ σ H R, t' σ H R → t σ H R) : PI X tg e t' := ⟨fun pins s σ H R I q => h.run pins s σ H R I (i σ H R q)⟩
theorem SI.any {tg : Expr} (ha : SE X (Gm.mk X.K fa ea) W mv ow ow1 .rp a A) : PI X tg a (tI X (Gm.mk X.K fa ea) false W mv ow ow1 (iOf iVal (aCons A aNil))) :=
  PI.imp (pi_any ha) fun σ H R ⟨B, F, r, m, hL, S, h⟩ => by
    refine ⟨B, F, r, m, hL, S, ?_⟩
    unfold iOf aCons aNil at h
    cases e : A r m with
    | exc c => simp only [e] at h; exact h
    | bad => simp only [e] at h
    | ok d =>
      simp only [e] at h
      intro v H1 F1 T1 R1
      have S1 := T1.sim
      cases d with
      | lst ds =>
        obtain ⟨q, vs, rfl, hi, hr⟩ := R1
        exact .inl ⟨q, vs, rfl, hi.sq S1.sub, h _ H1 H1 F1 none T1 rfl (walkD_list hi hr)⟩
      | tup ds =>
        obtain ⟨q, vs, rfl, hi, hr⟩ := R1
        exact .inr (.inl ⟨q, vs, rfl, hi.sq S1.sub, h _ H1 H1 F1 none T1 rfl (walkD_tup hi hr)⟩)
      | dct kvs =>
        obtain ⟨q, ks, rfl, hi, hr⟩ := R1
        rcases S1.sub q _ hi with hq | ⟨_, od, hq⟩
        · exact .inr (.inr (.inr ⟨q, ks, rfl, hq, fun od nf => h _ H1 _ F1 (some (q, .frz od (.dK ks))) T1 ⟨od, ks, rfl, hi, .inr ⟨hq, nf, rfl⟩⟩ (walkD_keys hr)⟩))
        · exact .inr (.inr (.inl ⟨q, od, ks, rfl, hq, h _ H1 H1 F1 (some (q, .frz od (.dK ks))) T1 ⟨od, ks, rfl, hi, .inl ⟨hq, rfl⟩⟩ (walkD_keys hr)⟩))
      | _ => exact h.elim
theorem SI.args {E : EA} {f : List D → Option (List D)} {σ : St} {H : Hp} {R : It → Hp → Prop} {P : List V → Hp → Prop} {wk : Bool} (h : tI X (Gm.mk X.K fa ea) wk W mv ow ow1 (iOf f E) σ H R)
    (hp : ∀ ds xs vs H1 F1 B F r m, f ds = some xs → Paired (fun d v => Rp (Gm.mk X.K fa ea) F1 d v) ds vs → Tr (Gm.mk X.K fa ea) B mv ow1 r m σ F H F1 H1 → (∀ J, WalkD (Gm.mk X.K fa ea) wk none F1 J xs → R J H1) → P vs H1) : tA (Gm.mk X.K fa ea) W mv ow ow1 .rp E σ H P := by
  obtain ⟨B, F, r, m, hL, S, h⟩ := h
  refine ⟨B, F, r, m, hL, S, ?_⟩
  unfold iOf at h
  cases e : E r m with
  | exc c => rw [e] at h; exact h
  | bad => rw [e] at h; exact h
  | ok ds =>
    rw [e] at h
    intro vs H1 F1 T1 R1
    cases e2 : f ds with
    | none => simp only [e2] at h
    | some xs =>
      simp only [e2] at h
      exact hp ds xs vs H1 F1 B F r m e2 R1 T1 fun J w => h J H1 H1 F1 none T1 rfl w
theorem small_iff (i : Int) : small i = true ↔ -(2 ^ 62) ≤ i ∧ i < 2 ^ 62 := by
  unfold small
  rw [Bool.and_eq_true, decide_eq_true_iff, decide_eq_true_iff]
  omega
theorem iRng1_eq {g : Gm} {F : Hp} {ds xs : List D} {vs : List V} (h : iRng1 ds = some xs) (r : Paired (fun d v => Rp g F d v) ds vs) : ∃ j : Int, vs = [.int j] ∧ -(2 ^ 62) ≤ j ∧ j < 2 ^ 62 ∧ xs = rng j.toNat 0 := by
  unfold iRng1 at h
  split at h
  · rename_i n
    cases r with
    | @cons _ v _ _ r t =>
      cases t
      split at h
      · rename_i hs
        cases h
        have := (small_iff n).mp hs
        exact ⟨n, by rw [show v = V.int n from r], this.1, this.2, rfl⟩
      · cases h
  · cases h
theorem iRng2_eq {g : Gm} {F : Hp} {ds xs : List D} {vs : List V} (h : iRng2 ds = some xs) (r : Paired (fun d v => Rp g F d v) ds vs) : ∃ i j : Int, vs = [.int i, .int j] ∧ (-(2 ^ 62) ≤ i ∧ i < 2 ^ 62 ∧ -(2 ^ 62) ≤ j ∧ j < 2 ^ 62) ∧ xs = rng (j - i).toNat i := by
  unfold iRng2 at h
  split at h
  · rename_i n1 n2
    cases r with
    | @cons _ v _ _ r t =>
      cases t with
      | @cons _ v' _ _ r' t' =>
        cases t'
        split at h
        · rename_i hs
          cases h
          rw [Bool.and_eq_true, small_iff, small_iff] at hs
          exact ⟨n1, n2, by rw [show v = V.int n1 from r, show v' = V.int n2 from r'], ⟨hs.1.1, hs.1.2, hs.2.1, hs.2.2⟩, rfl⟩
        · cases h
  · cases h
theorem SI.range1 {tg : Expr} {E : EA} (hg : Gl X "range") (hm : X.mg "range" = none) (ha : SA X (Gm.mk X.K fa ea) W mv ow ow1 .rp [a] E) (hs : starEach [a] X.env = [(false, eval a X.env)] := by rfl) : PI X tg (.Call (.Name "range" p) [a] [] pos) (tI X (Gm.mk X.K fa ea) false W mv ow ow1 (iOf iRng1 E)) :=
  PI.imp (pi_range1 hg hm ha hs) fun σ H R h => SI.args h fun ds xs vs H1 F1 B F r m e R1 T1 q => by
    obtain ⟨j, ev, h1, h2, ex⟩ := iRng1_eq e R1
    subst ex
    exact ⟨j, ev, h1, h2, q _ walkD_range⟩
theorem SI.range2 {tg : Expr} {E : EA} (hg : Gl X "range") (hm : X.mg "range" = none) (ha : SA X (Gm.mk X.K fa ea) W mv ow ow1 .rp [a, b] E) (hs : starEach [a, b] X.env = [(false, eval a X.env), (false, eval b X.env)] := by rfl) (hs2 : starEach [b] X.env = [(false, eval b X.env)] := by rfl) : PI X tg (.Call (.Name "range" p) [a, b] [] pos) (tI X (Gm.mk X.K fa ea) false W mv ow ow1 (iOf iRng2 E)) :=
  PI.imp (pi_range2 hg hm ha hs hs2) fun σ H R h => SI.args h fun ds xs vs H1 F1 B F r m e R1 T1 q => by
    obtain ⟨i, j, ev, hh, ex⟩ := iRng2_eq e R1
    subst ex
    exact ⟨i, j, ev, hh, q _ walkD_range⟩
theorem SI.zip {E : EA} {elts : List Expr} {kk : Nat} {tpos : Pos} (hg : Gl X "zip") (hm : X.mg "zip" = none) (ha : SA X (Gm.mk X.K fa ea) W mv ow ow1 .rp [a, b] E) (hs : starEach [a, b] X.env = (false, eval a X.env) :: starEach [b] X.env := by rfl) (hpl : (backTo pos (starEach [b] X.env)).any (·.1) = false := by rfl) :
    PI X (.Tuple elts kk tpos) (.Call (.Name "zip" p) [a, b] [] pos) (tI X (Gm.mk X.K fa ea) true W mv ow ow1 (iOf iZip E)) :=
  PI.imp (RZ.pi_zipA hg hm ha hs hpl) fun σ H R h => SI.args h fun ds xs vs H1 F1 B F r m e R1 T1 q => by
    have S1 := T1.sim
    unfold iZip at e
    split at e
    · cases e
      cases R1 with
      | @cons _ v _ _ r t =>
        cases t with
        | @cons _ v' _ _ r' t' =>
          cases t'
          obtain ⟨q1, vs, rfl, hi, hr⟩ := r
          obtain ⟨q2, ws, rfl, hi2, hr2⟩ := r'
          exact ⟨q1, q2, vs, ws, rfl, .inl ⟨hi.sq S1.sub, hi2.sq S1.sub, q _ (walkD_zipL hi hr hi2 hr2)⟩⟩
    · cases e
      cases R1 with
      | @cons _ v _ _ r t =>
        cases t with
        | @cons _ v' _ _ r' t' =>
          cases t'
          obtain ⟨q1, vs, rfl, hi, hr⟩ := r
          obtain ⟨q2, ws, rfl, hi2, hr2⟩ := r'
          exact ⟨q1, q2, vs, ws, rfl, .inr ⟨hi.sq S1.sub, hi2.sq S1.sub, q _ (walkD_zipT hi hr hi2 hr2)⟩⟩
    · cases e
end
/-! ### locks -/
def UnlR (X : Cx) (H H' : Hp) : Prop := H' = H ∨ ∃ d od u, H d = some (.frz od u) ∧ Mut (some u) ∧ (∀ o' u', X.H_0 d ≠ some (.frz o' u')) ∧ H' = upd H d u
theorem UnlR.inv {X : Cx} {pins : List (Addr × Obj)} {σ : St} {H H' : Hp} {s : Shared} (I : Inv X pins σ H s) (u : UnlR X H H') : Inv X pins σ H' s := by
  rcases u with rfl | ⟨d, od, u, h, mu, nf, rfl⟩
  · exact I
  · exact I.unlock h nf
theorem pe_unl {X : Cx} {e : Expr} {t : TE} (h : PE X e t) : PE X e (fun σ H Q => t σ H fun v H' => ∃ H'', UnlR X H' H'' ∧ Q v H'') := ⟨fun pins s σ H Q I q =>
  thn (h.run pins s σ H _ I q) fun v s1 ⟨x, H1, I1, r1, H2, u, q1⟩ => ⟨x, H2, u.inv I1, r1, q1⟩⟩
def unlD (X : Cx) (D : Ends) : Ends where
  nx := fun σ H => ∃ H', UnlR X H H' ∧ D.nx σ H'
  rt := fun v H => ∃ H', UnlR X H H' ∧ D.rt v H'
  bk := fun σ H => ∃ H', UnlR X H H' ∧ D.bk σ H'
  ct := fun σ H => ∃ H', UnlR X H H' ∧ D.ct σ H'
theorem ps_unl {X : Cx} {e : Stmt} {t : TS} (h : PS X e t) : PS X e (fun D σ H => t (unlD X D) σ H) := ⟨fun pins s σ H D I q =>
  thn (h.run pins s σ H _ I q) fun f s1 q1 => by
    cases f with
    | next => obtain ⟨σ', H1, I1, H2, u, q1⟩ := q1; exact ⟨σ', H2, u.inv I1, q1⟩
    | brk => obtain ⟨σ', H1, I1, H2, u, q1⟩ := q1; exact ⟨σ', H2, u.inv I1, q1⟩
    | cont => obtain ⟨σ', H1, I1, H2, u, q1⟩ := q1; exact ⟨σ', H2, u.inv I1, q1⟩
    | ret v => obtain ⟨x, σ', H1, I1, r1, H2, u, q1⟩ := q1; exact ⟨x, σ', H2, u.inv I1, r1, q1⟩⟩
theorem takes_unl {X : Cx} {W : WX} (tk : L2.Takes X W) : L2.Takes X (fun cls d σ H => ∃ H', UnlR X H H' ∧ W cls d σ H') := fun u s' ⟨a, B, sI, pins, σ, H, cls, d, e, I, nb, up, sky, na, os, ag, H', ul, w⟩ => by
  refine tk u s' ⟨a, B, sI, pins, σ, H', cls, d, e, ul.inv I, nb, up, sky, ?_, os, ag, w⟩
  rcases ul with rfl | ⟨p, od, u, h, mu, nf, rfl⟩
  · exact na
  · rw [upd_ne (fun z => by subst z; rw [na] at h; cases h)]; exact na
section
variable {X : Cx} {g : Gm} {B : Base} {F' F2 H1 H' H2 : Hp} {mv ow ow2 : List Nat} {r m r2 m2 : Env} {σ σ2 : St} {lk : Lk}
theorem Sim.relock (S : Sim g B F' mv ow r m σ H1) (hL : B.L = []) (k : LkOk X F' H1 H' lk) : (reB B F' lk).L = [] ∧ Sim g (reB B F' lk) F' mv ow r m σ H' := by
  cases lk with
  | none => cases (show H' = H1 from k); exact ⟨hL, S⟩
  | some q =>
    obtain ⟨d, o⟩ := q
    obtain ⟨od, ks, rfl, hd, hk⟩ := k
    have he : reB B F' (some (d, .frz od (.dK ks))) = ⟨upd B.H d (.frz od (.dK ks)), upd B.F d (.dK ks), B.L⟩ := by
      unfold reB; simp only [hd]
    rw [he]
    have h' : H' = upd H1 d (.frz od (.dK ks)) := by
      rcases hk with ⟨e, rfl⟩ | ⟨_, _, e⟩
      · funext a
        by_cases z : a = d
        · subst z; rw [upd_same, e]
        · rw [upd_ne z]
      · exact e
    subst h'
    refine ⟨hL, fun a u e => ?_, fun a u e n => ?_, fun a n => ?_, fun a n => ?_, S.rr, fun i e h => ?_, S.ap, S.lr, S.lm⟩
    · by_cases z : a = d
      · subst z
        rw [hd] at e; cases e
        exact .inr ⟨⟨ks, rfl⟩, od, upd_same⟩
      · rw [upd_ne z]; exact S.sub a u e
    · have e : upd B.H d (.frz od (.dK ks)) a = some u := e
      by_cases z : a = d
      · subst z; rw [upd_same] at e ⊢; exact e
      · rw [upd_ne z] at e ⊢; exact S.fr a u e n
    · have n : a ∈ B.L := n
      rw [hL] at n; cases n
    · have n : upd B.H d (.frz od (.dK ks)) a ≠ none := n
      show F' a = upd B.F d (.dK ks) a
      by_cases z : a = d
      · subst z; rw [upd_same]; exact hd
      · rw [upd_ne z] at n ⊢; exact S.gr a n
    · obtain ⟨h1, v, h2, h3, h4⟩ := S.mm i e h
      refine ⟨h1, v, h2, fun hi => ?_, h4⟩
      rcases h3 hi with ⟨a, rfl, w, f, b⟩ | p
      · have z : a ≠ d := fun z => by subst z; rw [hd] at f; cases f
        refine .inl ⟨a, rfl, w.mono (Le.refl _) fun o e => by rw [upd_ne z]; exact e, f, ?_⟩
        rcases b with b | b
        · exact .inl (by show upd B.H d (.frz od (.dK ks)) a = none; rw [upd_ne z]; exact b)
        · exact .inr b
      · exact .inr p
theorem Sim.unlock (S : Sim g B F' mv ow r m σ H1) (hL : B.L = []) (k : LkOk X F' H1 H' lk) (S2 : Sim g (reB B F' lk) F2 mv ow2 r2 m2 σ2 H2) : ∃ H3, UnlR X H2 H3 ∧ Sim g B F2 mv ow2 r2 m2 σ2 H3 ∧ (Ext H' H2 → Ext H1 H3) ∧ (∀ a, H3 a = none → H2 a = none) ∧ (∀ a o, H2 a = some o → F2 a = none → H3 a = some o) ∧ ∀ d, lk = some d → F2 d.1 ≠ none := by
  cases lk with
  | none => cases (show H' = H1 from k); exact ⟨H2, .inl rfl, S2, id, fun _ h => h, fun _ _ h _ => h, fun _ e => by cases e⟩
  | some q =>
    obtain ⟨d, o⟩ := q
    obtain ⟨od, ks, rfl, hd, hk⟩ := k
    have he : reB B F' (some (d, .frz od (.dK ks))) = ⟨upd B.H d (.frz od (.dK ks)), upd B.F d (.dK ks), B.L⟩ := by
      unfold reB; simp only [hd]
    rw [he] at S2
    have h2d : H2 d = some (.frz od (.dK ks)) := S2.fr d _ upd_same (by show d ∉ B.L; rw [hL]; exact fun z => by cases z)
    have f2d : F2 d = some (.dK ks) := by
      have := S2.gr d (by show upd B.H d (.frz od (.dK ks)) d ≠ none; rw [upd_same]; exact fun z => by cases z)
      rw [this]; exact upd_same
    have bF : B.H d ≠ none → B.F d = some (.dK ks) := fun h => by rw [← S.gr d h]; exact hd
    rcases hk with ⟨e1, rfl⟩ | ⟨e1, nf, rfl⟩
    · refine ⟨H2, .inl rfl, ⟨S2.sub, fun a u e n => ?_, fun a n => ?_, fun a n => ?_, S2.rr, fun i e h => ?_, S2.ap, S2.lr, S2.lm⟩, id, fun _ h => h, fun _ _ h _ => h, fun q e => by cases e; rw [f2d]; exact fun z => by cases z⟩
      · by_cases z : a = d
        · subst z
          have := S.fr a u e (by rw [hL]; exact fun z => by cases z)
          rw [e1] at this; cases this
          exact h2d
        · exact S2.fr a u (by show upd B.H d _ a = _; rw [upd_ne z]; exact e) n
      · rw [hL] at n; cases n
      · by_cases z : a = d
        · subst z; rw [f2d, bF n]
        · have := S2.gr a (by show upd B.H d _ a ≠ _; rw [upd_ne z]; exact n)
          rw [this]; exact upd_ne z
      · obtain ⟨h1, v, h2, h3, h4⟩ := S2.mm i e h
        refine ⟨h1, v, h2, fun hi => ?_, h4⟩
        rcases h3 hi with ⟨a, rfl, w, f, b⟩ | p
        · have z : a ≠ d := fun z => by subst z; rw [f2d] at f; cases f
          refine .inl ⟨a, rfl, w, f, ?_⟩
          rcases b with b | b
          · have b : upd B.H d (.frz od (.dK ks)) a = none := b
            rw [upd_ne z] at b; exact .inl b
          · exact .inr b
        · exact .inr p
    · refine ⟨upd H2 d (.dK ks), .inr ⟨d, od, .dK ks, h2d, True.intro, nf, rfl⟩, ⟨fun a u e => ?_, fun a u e n => ?_, fun a n => ?_, fun a n => ?_, S2.rr, fun i e h => ?_, S2.ap, S2.lr, S2.lm⟩, fun x a u e => ?_, fun a h => ?_, fun a u h f => ?_, fun q e => by cases e; rw [f2d]; exact fun z => by cases z⟩
      · by_cases z : a = d
        · subst z
          rw [f2d] at e; cases e
          exact .inl upd_same
        · rw [upd_ne z]; exact S2.sub a u e
      · by_cases z : a = d
        · subst z
          have := S.fr a u e (by rw [hL]; exact fun z => by cases z)
          rw [e1] at this; cases this
          exact upd_same
        · rw [upd_ne z]; exact S2.fr a u (by show upd B.H d _ a = _; rw [upd_ne z]; exact e) n
      · rw [hL] at n; cases n
      · by_cases z : a = d
        · subst z; rw [f2d, bF n]
        · have := S2.gr a (by show upd B.H d _ a ≠ _; rw [upd_ne z]; exact n)
          rw [this]; exact upd_ne z
      · obtain ⟨h1, v, h2, h3, h4⟩ := S2.mm i e h
        refine ⟨h1, v, h2, fun hi => ?_, h4⟩
        rcases h3 hi with ⟨a, rfl, w, f, b⟩ | p
        · have z : a ≠ d := fun z => by subst z; rw [f2d] at f; cases f
          refine .inl ⟨a, rfl, w.mono (Le.refl _) fun o e => by rw [upd_ne z]; exact e, f, ?_⟩
          rcases b with b | b
          · have b : upd B.H d (.frz od (.dK ks)) a = none := b
            rw [upd_ne z] at b; exact .inl b
          · exact .inr b
        · exact .inr p
      · by_cases z : a = d
        · subst z
          rw [e1] at e; cases e
          exact upd_same
        · rw [upd_ne z]
          exact x a u (by rw [upd_ne z]; exact e)
      · by_cases z : a = d
        · subst z; rw [upd_same] at h; cases h
        · rw [upd_ne z] at h; exact h
      · have z : a ≠ d := fun z => by subst z; rw [f2d] at f; cases f
        rw [upd_ne z]; exact h
end
end F
/-! F3h: list comprehensions. -/
namespace F
open PySem PySem.Spec PyProof.Rows L2
theorem reB_at {B : Base} {F' : Hp} {lk : Lk} {d : Addr} {o : HO} (h : lk = some (d, o)) : (reB B F' lk).H d = some o := by
  subst h; exact upd_same
theorem LkOk.there {X : Cx} {F' H1 H' : Hp} {lk : Lk} (k : LkOk X F' H1 H' lk) (a : Addr) : H' a = none ↔ H1 a = none := by
  cases lk with
  | none => cases (show H' = H1 from k); exact Iff.rfl
  | some q =>
    obtain ⟨d, o⟩ := q
    obtain ⟨od, ks, rfl, hd, hk⟩ := k
    rcases hk with ⟨_, rfl⟩ | ⟨e, _, rfl⟩
    · exact Iff.rfl
    · by_cases z : a = d
      · subst z; rw [upd_same, e]; exact ⟨(fun h => nomatch h), (fun h => nomatch h)⟩
      · rw [upd_ne z]
section
variable {g : Gm} {B : Base} {F H F4 H4 : Hp} {mv ow : List Nat} {r m r1 : Env} {σ σ2 : St}
/-- other slots, the same objects -/
theorem Sim.swap (S : Sim g B F mv ow r m σ H) (S4 : Sim g B F4 mv ow r1 m σ2 H4) (l : Le F F4) (h : ∀ i, i ∈ mv → σ2[i]? = σ[i]?) : Sim g B F4 mv ow r m σ H4 :=
  ⟨S4.sub, S4.fr, S4.ls, S4.gr, fun i d e => by
    obtain ⟨q, v, h1, h2⟩ := S.rr i d e
    exact ⟨q, v, h1, h2.mono l⟩, fun i d e => by
    obtain ⟨q, v, h1, h2⟩ := S4.mm i d e
    exact ⟨q, v, by rw [← h i q]; exact h1, h2⟩, S.ap, S.lr, S.lm⟩
theorem Tr.swap (S : Sim g B F mv ow r m σ H) (T : Tr g B mv ow r1 m σ2 F H F4 H4) (h : ∀ i, i ∈ mv → σ2[i]? = σ[i]?) : Tr g B mv ow r m σ F H F4 H4 :=
  ⟨S.swap T.sim T.le h, T.le, T.ext, fun a ha n => T.grow a ha fun i d e im => by
    obtain ⟨q, _⟩ := S.mm i d e
    rw [h i q]
    exact n i d e im⟩
end
def W0 : WX := fun _ _ _ _ => False
section
variable {X : Cx} {fa ea : Nat → Option Addr} {W : WX} {mv ow ow1 : List Nat} {pos : Pos}
theorem comp_reads {elt tg iter : Expr} {ifs : List Expr} {scope : Scope} {own : List (Str × Nat)} {vs : List Nat} {It : EA} {G0 : G} {TT EL : EX} {wk : Bool} (hi : PI X tg iter (tI X (Gm.mk X.K fa ea) wk W mv ow ow1 It))
    (hg : ∀ (s : Shared) (H : Hp) (C : Addr) (cl : List (Str × Addr)) (fp : List Addr), SG (X.blk s H scope (compEnvC scope cl C X.env) fp) (Gm.mk X.K fa ea) mv 3 tg G0)
    (ht : ∀ (s : Shared) (H : Hp) (C : Addr) (cl : List (Str × Addr)) (fp : List Addr), PTs (X.blk s H scope (compEnvC scope cl C X.env) fp) ifs (tX (Gm.mk X.K fa ea) W0 mv ow1 ow1 TT))
    (he : ∀ (s : Shared) (H : Hp) (C : Addr) (cl : List (Str × Addr)) (fp : List Addr), SE (X.blk s H scope (compEnvC scope cl C X.env) fp) (Gm.mk X.K fa ea) W0 mv ow1 ow1 .rp elt EL)
    (hvs : own.map (·.2) = vs) (hv : ∀ i ∈ vs, i ∉ mv) (hng : ∀ i ∈ namesG G0, i ∈ vs) (hw : wk = true → ∃ gs, G0 = .t gs) {σ : St} {H : Hp} {Q : VK}
    (h0 : tE (Gm.mk X.K fa ea) W mv ow ow1 .own (eComp G0 It TT EL vs) σ H Q) :
    tLc (tI X (Gm.mk X.K fa ea) wk W mv ow ow1 It) (tG (Gm.mk X.K fa ea) mv 3 G0) (tX (Gm.mk X.K fa ea) W0 mv ow1 ow1 TT) (tE (Gm.mk X.K fa ea) W0 mv ow1 ow1 .rp EL) (own.map (·.2)) σ H (fun v H' => ∃ H'', UnlR X H' H'' ∧ Q v H'') := by
    obtain ⟨B, F, r, m, hL, S, h⟩ := h0
    subst hvs
    refine ⟨B, F, r, m, hL, S, ?_⟩
    unfold eComp at h
    cases e : It r m with
    | exc c => rw [e] at h; exact h
    | bad => rw [e] at h; exact h
    | ok xs =>
      simp only [e] at h
      intro J H1 H' F' lk T0 hk wd
      cases eg : compGo G0 TT EL (wipeS r (own.map (·.2))) m xs 0 with
      | none => simp only [eg] at h
      | some yf =>
        simp only [eg] at h
        obtain ⟨hL1, S'⟩ := T0.sim.relock hL hk
        intro Dd nD
        have nslot : ∀ i d, getS m i = some d → imm d = false → σ[i]? ≠ some (some (.ref Dd)) := fun i d e' im z => by
          obtain ⟨a', h1, h2⟩ := S'.slot e' im
          rw [z] at h1
          cases h1
          exact h2 nD
        have W : Walk J xs.length (GW lk F') (fun i H x H2 => ∀ F2, Le F' F2 → Sub F2 H → ∃ d F3, xs[i]? = some d ∧ Adv F2 H F3 H2 ∧ RpW (Gm.mk X.K fa ea) (wk = true) F3 H2 d x) := ⟨wd.go, wd.stop, fun i H x H2 hi hG y F2 l s => wd.yld i H x H2 hi hG y F2 l s⟩
        refine lc_it W (fun i Hc => ∃ Fc ys ws zs, Tr (Gm.mk X.K fa ea) (reB B F' lk) mv ow1 r m σ F' H' Fc Hc ∧ Hc Dd = some (.lst ws) ∧ Fc Dd = none ∧ RepL X.K fa Fc ys ws ∧ compGo G0 TT EL (wipeS r (own.map (·.2))) m (xs.drop i) ys.length = some zs ∧ yf = ys ++ zs) ?_ ?_ ?_ ?_
        · exact ⟨F', [], [], yf, (Tr.refl S').step (Adv.laid S'.sub nD), upd_same, S'.sub.none nD, rfl, eg, rfl⟩
        · rintro i Hc hi ⟨Fc, ys, ws, zs, T, _⟩
          exact ⟨⟨Fc, T.le, T.sim.sub⟩, fun d o e => T.sim.fr d o (reB_at e) (by rw [hL1]; exact fun z => by cases z)⟩
        · rintro i x Hc H2 hi ⟨Fc, ys, ws, zs, T, hD, fD, rD, ec, ey⟩ y
          obtain ⟨d, F3, ed, ad, rd⟩ := y Fc T.le T.sim.sub
          have T2 := T.step ad
          have edrop : xs.drop i = d :: xs.drop (i + 1) := by
            rw [List.drop_eq_getElem_cons hi]
            have : xs[i] = d := by
              rw [List.getElem?_eq_getElem hi] at ed
              exact Option.some.inj ed
            rw [this]
          rw [edrop] at ec
          unfold compGo at ec
          cases ep : put 3 G0 d (wipeS r (own.map (·.2))) with
          | none => rw [ep] at ec; cases ec
          | some r1 =>
            simp only [ep] at ec
            refine ⟨reB B F' lk, F3, ow1, _, m, d, r1, T2.sim.wipe hv, rd.imp id fun z => ⟨hw z.1, z.2⟩, ep, fun σ2 S2 l2 k2 => ?_⟩
            have ks : ∀ i, i ∉ own.map (·.2) → σ2[i]? = σ[i]? := fun i hi => by
              rw [k2 i fun z => hi (hng i z), wipe_out hi]
            have km : ∀ i, i ∈ mv → σ2[i]? = σ[i]? := fun i hi => ks i fun z => hv i z hi
            refine ⟨wipe_eq (l2.trans (wipe_length _ _)) ks, reB B F' lk, F3, r1, m, hL1, S2, ?_⟩
            cases et : TT r1 m with
            | exc c => simp only [et] at ec; cases ec
            | bad => simp only [et] at ec; cases ec
            | ok db =>
              cases db with
              | bl b =>
                intro H4 F4 T4
                have T4' := T2.trans (Tr.swap T2.sim T4 km)
                have h4D : H4 Dd = some (.lst ws) := T4.ext _ _ (ad.keep _ _ hD)
                have f3D : F3 Dd = none := by rw [ad.grow Dd (by rw [hD]; exact fun z => by cases z)]; exact fD
                have f4D : F4 Dd = none := by
                  rw [(Tr.swap T2.sim T4 km).grow Dd (by rw [ad.keep _ _ hD]; exact fun z => by cases z) nslot]; exact f3D
                cases b with
                | false =>
                  simp only [et] at ec
                  exact ⟨F4, ys, ws, zs, T4', h4D, f4D, RepL.mono ((ad.le T.sim.sub).trans T4.le) _ _ rD, ec, ey⟩
                | true =>
                  simp only [et] at ec
                  refine ⟨reB B F' lk, F4, r1, m, hL1, T4.sim, ?_⟩
                  cases ee : EL r1 m with
                  | exc c => simp only [ee] at ec; cases ec
                  | bad => simp only [ee] at ec; cases ec
                  | ok dy =>
                    simp only [ee] at ec
                    intro yv H5 F5 T5 R5
                    have T5' := T4'.trans (Tr.swap T4'.sim T5 km)
                    have h5D : H5 Dd = some (.lst ws) := T5.ext _ _ h4D
                    have f5D : F5 Dd = none := by
                      rw [(Tr.swap T4'.sim T5 km).grow Dd (by rw [h4D]; exact fun z => by cases z) nslot]; exact f4D
                    have rD5 := RepL.mono (((ad.le T.sim.sub).trans T4.le).trans T5.le) _ _ rD
                    cases eb : Nat.ble big ys.length with
                    | true => simp only [eb, if_true] at ec; cases ec
                    | false =>
                      simp only [eb] at ec
                      cases er : compGo G0 TT EL (wipeS r (own.map (·.2))) m (xs.drop (i + 1)) (ys.length + 1) with
                      | none => simp only [er] at ec; cases ec
                      | some zs' =>
                        simp only [er] at ec
                        have ezs : dy :: zs' = zs := by simpa using ec
                        refine ⟨ws, h5D, ?_, F5, ys ++ [dy], ws ++ [yv], zs', Tr.rewrite S' T5' nD h5D f5D, upd_same, f5D, rD5.app ⟨yv, [], rfl, R5, rfl⟩, ?_, ?_⟩
                        · have : ¬ big ≤ ys.length := fun z => by rw [Nat.ble_eq.mpr z] at eb; cases eb
                          rw [← rD.length, sizeLine_eq]
                          have hb : big = 16777216 := rfl
                          omega
                        · rw [List.length_append]; exact er
                        · rw [ey, ← ezs, List.append_assoc]; rfl
              | _ => simp only [et] at ec; cases ec
        · rintro Hc ⟨Fc, ys, ws, zs, T, hD, fD, rD, ec, ey⟩
          rw [List.drop_length] at ec
          have ez : zs = [] := by
            unfold compGo at ec
            exact (Option.some.inj ec).symm
          subst ez
          rw [List.append_nil] at ey
          subst ey
          obtain ⟨H3, ul, S3, ex, _, keep, _⟩ := T0.sim.unlock hL hk T.sim
          refine ⟨H3, ul, h (.ref Dd) H3 Fc ⟨S3, T0.le.trans T.le, T0.ext.trans (ex T.ext), fun a ha n => ?_⟩ ?_⟩
          · have h1 := T0.ext.there ha
            rw [T.grow a (fun z => h1 ((hk.there a).mp z)) n]
            exact T0.grow a ha n
          · have nH : H Dd = none := by
              cases q : H Dd with
              | none => rfl
              | some o =>
                have := T0.ext Dd o q
                rw [(hk.there Dd).mp nD] at this; cases this
            exact Res.own (a := Dd) ⟨ws, keep _ _ hD fD, rD⟩ nH fD
theorem SE.comp {elt tg iter : Expr} {ifs : List Expr} {scope : Scope} {own : List (Str × Nat)} {vs : List Nat} {It : EA} {G0 : G} {TT EL : EX} (hc : X.calm = true) (hN : X.N.Nodup) {wk : Bool} (hi : PI X tg iter (tI X (Gm.mk X.K fa ea) wk W mv ow ow1 It)) (ok : BlkOk X.N X.env.scope scope own)
    (hg : ∀ (s : Shared) (H : Hp) (C : Addr) (cl : List (Str × Addr)) (fp : List Addr), SG (X.blk s H scope (compEnvC scope cl C X.env) fp) (Gm.mk X.K fa ea) mv 3 tg G0)
    (ht : ∀ (s : Shared) (H : Hp) (C : Addr) (cl : List (Str × Addr)) (fp : List Addr), PTs (X.blk s H scope (compEnvC scope cl C X.env) fp) ifs (tX (Gm.mk X.K fa ea) W0 mv ow1 ow1 TT))
    (he : ∀ (s : Shared) (H : Hp) (C : Addr) (cl : List (Str × Addr)) (fp : List Addr), SE (X.blk s H scope (compEnvC scope cl C X.env) fp) (Gm.mk X.K fa ea) W0 mv ow1 ow1 .rp elt EL)
    (hvs : own.map (·.2) = vs := by rfl) (hv : ∀ i ∈ vs, i ∉ mv := by decide) (hng : ∀ i ∈ namesG G0, i ∈ vs := by decide) (hw : wk = true → ∃ gs, G0 = .t gs := by first | exact (fun h => nomatch h) | exact fun _ => ⟨_, rfl⟩) (hs : ∀ x, foldedSetIterable iter X.env x = pure x := by intro _; rfl) :
    SE X (Gm.mk X.K fa ea) W mv ow ow1 .own (.ListComp elt [⟨tg, iter, ifs, 0⟩] scope pos) (eComp G0 It TT EL vs) :=
  PE.imp (pe_unl (pe_lc hc hN hi ok hg ht he hs)) fun σ H Q h => comp_reads hi hg ht he hvs hv hng hw h
/-- tests of a comprehension -/
theorem ST.nil : PTs X [] (tX (Gm.mk X.K fa ea) W mv ow ow (eCon (.bl true))) := ⟨fun pins s σ H Q I ⟨B, F, r, m, hL, S, h⟩ => pts_nil.run pins s σ H Q I (h H F (Tr.refl S))⟩
theorem ST.one {c : Expr} {C : EX} (h : SX X (Gm.mk X.K fa ea) W mv ow ow1 c C) : PTs X [c] (tX (Gm.mk X.K fa ea) W mv ow ow1 C) := pts_one h
end
end F
/-! F3i: statements. -/
namespace F
open PySem PySem.Spec PyProof.Rows L2
def tS (g : Gm) (W : WX) (mv ow owN owL : List Nat) (kr : Kd) (S : ST) : TS := fun Dn σ H => ∃ B F r m, B.L = [] ∧ Sim g B F mv ow r m σ H ∧ match S r m with
  | .next r' m' => ∀ σ' H' F', Sim g B F' mv owN r' m' σ' H' → Dn.nx σ' H'
  | .brk r' m' => ∀ σ' H' F', Sim g B F' mv owL r' m' σ' H' → Dn.bk σ' H'
  | .cnt r' m' => ∀ σ' H' F', Sim g B F' mv owL r' m' σ' H' → Dn.ct σ' H'
  | .ret d _ => ∀ v H' F', Adv B.F B.H F' H' → ResK g kr B.H F' H' d v → Dn.rt v H'
  | .exc c r' => ∀ cls dd σ' H' F', ExC g c cls dd → Sim g B F' mv [] r' (emp' σ') σ' H' → W cls dd σ' H'
  | .bad => False
theorem Sim.frm {g : Gm} {B : Base} {F H : Hp} {mv ow : List Nat} {r m : Env} {σ : St} (S : Sim g B F mv ow r m σ H) (hL : B.L = []) : Adv B.F B.H F H :=
  ⟨S.sub, fun a o h => S.fr a o h (by rw [hL]; exact fun z => by cases z), S.gr⟩
section
variable {X : Cx} {fa ea : Nat → Option Addr} {W : WX} {mv ow ow1 ow2 owN owL : List Nat} {k kr : Kd} {a b c e : Expr} {A Bb C E : EX} {pos p p2 : Pos} {st : Stmt} {sts : List Stmt} {S0 S1 S2 : ST}
abbrev SS (X : Cx) (g : Gm) (W : WX) (mv ow owN owL : List Nat) (kr : Kd) (st : Stmt) (S : ST) : Prop := PS X st (tS g W mv ow owN owL kr S)
abbrev SSs (X : Cx) (g : Gm) (W : WX) (mv ow owN owL : List Nat) (kr : Kd) (sts : List Stmt) (S : ST) : Prop := PSs X sts (tS g W mv ow owN owL kr S)
theorem SS.pass : SS X (Gm.mk X.K fa ea) W mv ow ow owL kr (.Pass pos) sNext := PS.imp ps_pass fun D σ H ⟨B, F, r, m, hL, S, h⟩ => h σ H F S
theorem SS.brk : SS X (Gm.mk X.K fa ea) W mv ow owN ow kr (.Break pos) sBrk := PS.imp ps_break fun D σ H ⟨B, F, r, m, hL, S, h⟩ => h σ H F S
theorem SS.cnt : SS X (Gm.mk X.K fa ea) W mv ow owN ow kr (.Continue pos) sCnt := PS.imp ps_continue fun D σ H ⟨B, F, r, m, hL, S, h⟩ => h σ H F S
theorem SSs.nil : SSs X (Gm.mk X.K fa ea) W mv ow ow owL kr [] sNext := PSs.imp pss_nil fun D σ H ⟨B, F, r, m, hL, S, h⟩ => h σ H F S
theorem SSs.one (h : SS X (Gm.mk X.K fa ea) W mv ow owN owL kr st S0) : SSs X (Gm.mk X.K fa ea) W mv ow owN owL kr [st] S0 := pss_one h
theorem SSs.cons (h : SS X (Gm.mk X.K fa ea) W mv ow ow1 owL kr st S1) (h2 : SSs X (Gm.mk X.K fa ea) W mv ow1 owN owL kr sts S2) : SSs X (Gm.mk X.K fa ea) W mv ow owN owL kr (st :: sts) (sSeq S1 S2) :=
  PSs.imp (pss_cons h h2) fun D σ H ⟨B, F, r, m, hL, S, h⟩ => by
    refine ⟨B, F, r, m, hL, S, ?_⟩
    unfold sSeq at h
    cases e : S1 r m with
    | next r' m' =>
      rw [e] at h
      intro σ' H' F' S'
      refine ⟨B, F', r', m', hL, S', ?_⟩
      cases e2 : S2 r' m' with
      | next r2 m2 => simp only [e2] at h; exact h
      | brk r2 m2 => simp only [e2] at h; exact h
      | cnt r2 m2 => simp only [e2] at h; exact h
      | ret d m2 => simp only [e2] at h; exact h
      | exc c r2 => simp only [e2] at h; exact h
      | bad => simp only [e2] at h
    | brk r' m' => rw [e] at h; exact h
    | cnt r' m' => rw [e] at h; exact h
    | ret d m' => rw [e] at h; exact h
    | exc c r' => rw [e] at h; exact h
    | bad => rw [e] at h; exact h
/-- an exception of an expression -/
theorem exS {g : Gm} {B : Base} {r : Env} {σ : St} {c : Nat} (h : ∀ cls dd σ' H' F', ExC g c cls dd → Sim g B F' mv [] r (emp' σ') σ' H' → W cls dd σ' H') : exE g W B mv r σ c :=
  fun cls dd H' F' hc S => h cls dd σ H' F' hc S
theorem SS.ret (he : SE X (Gm.mk X.K fa ea) W mv ow ow1 k e E) (hk : ∀ {B : Base} {H F' H' : Hp} {d : D} {v : V}, B.L = [] → (∀ a, B.H a ≠ none → H a ≠ none) → ResK (Gm.mk X.K fa ea) k H F' H' d v → ResK (Gm.mk X.K fa ea) kr B.H F' H' d v) : SS X (Gm.mk X.K fa ea) W mv ow owN owL kr (.Return (some e) pos) (sRet E) :=
  PS.imp (ps_ret he) fun D σ H ⟨B, F, r, m, hL, S, h⟩ => by
    refine ⟨B, F, r, m, hL, S, ?_⟩
    unfold sRet at h
    cases ee : E r m with
    | exc c => rw [ee] at h; exact exS h
    | bad => rw [ee] at h; exact h
    | ok d =>
      rw [ee] at h
      exact fun v H' F' T R => h v H' F' (T.sim.frm hL) (hk (B := B) hL (fun a ha => S.bthere ha) R)
/-- the kinds of results -/
theorem rk_rp {g : Gm} {B : Base} {H F' H' : Hp} {d : D} {v : V} (_ : B.L = []) (_ : ∀ a, B.H a ≠ none → H a ≠ none) (R : ResK g .rp H F' H' d v) : ResK g .rp B.H F' H' d v := R
theorem rk_own {g : Gm} {B : Base} {H F' H' : Hp} {d : D} {v : V} (_ : B.L = []) (hB : ∀ a, B.H a ≠ none → H a ≠ none) (R : ResK g .own H F' H' d v) : ResK g .own B.H F' H' d v := by
  have R : Res g true H F' H' d v := R
  show Res g true B.H F' H' d v
  unfold Res at R ⊢
  rw [if_pos rfl] at R ⊢
  rcases R with ⟨a, e, n, r⟩ | R
  · refine .inl ⟨a, e, ?_, r⟩
    cases q : B.H a with
    | none => rfl
    | some o => exact absurd n (hB a (by rw [q]; exact fun z => by cases z))
  · exact .inr R
theorem SS.retRp (he : SE X (Gm.mk X.K fa ea) W mv ow ow1 .rp e E) : SS X (Gm.mk X.K fa ea) W mv ow owN owL .rp (.Return (some e) pos) (sRet E) := SS.ret he fun h1 h2 R => rk_rp h1 h2 R
theorem SS.retOwn (he : SE X (Gm.mk X.K fa ea) W mv ow ow1 .own e E) : SS X (Gm.mk X.K fa ea) W mv ow owN owL .own (.Return (some e) pos) (sRet E) := SS.ret he fun h1 h2 R => rk_own h1 h2 R
/-- a name's own object is the result -/
theorem SS.retMv {i : Nat} {x : Str} {p' : Pos} (hN : X.N[i]? = some x) (hv : Vis X.env.scope x) (hi : i ∈ ow) (hd : (x == ("__debug__" : Str)) = false := by decide) (hcd : (x == ("__classdict__" : Str)) = false := by decide) : SS X (Gm.mk X.K fa ea) W mv ow owN owL .own (.Return (some (.Name x p')) pos) (sRet (eMv i)) :=
  PS.imp (ps_ret (pe_var hN hv hd hcd)) fun D σ H ⟨B, F, r, m, hL, S, h⟩ => by
    unfold sRet eMv at h
    cases e : getS m i with
    | none => simp only [e] at h
    | some d =>
      simp only [e] at h
      obtain ⟨_, v, h1, h2, _⟩ := S.mm i d e
      refine ⟨v, h1, h v H F (S.frm hL) ?_⟩
      show Res (Gm.mk X.K fa ea) true B.H F H d v
      unfold Res
      rw [if_pos rfl]
      rcases h2 hi with ⟨q, ev, o, f, b⟩ | p
      · refine .inl ⟨q, ev, ?_, f, o⟩
        rcases b with b | b
        · exact b
        · rw [hL] at b; cases b
      · exact .inr p
theorem SS.retN : SS X (Gm.mk X.K fa ea) W mv ow owN owL kr (.Return none pos) (sRet (eCon .non)) :=
  PS.imp ps_retN fun D σ H ⟨B, F, r, m, hL, S, h⟩ => h .non H F (S.frm hL) (ResK.of_imm rfl rfl)
/-! ### assignments -/
theorem SS.asg {G0 : G} {tg : Expr} (he : SE X (Gm.mk X.K fa ea) W mv ow ow1 .rp e E) (hg : SG X (Gm.mk X.K fa ea) mv 3 tg G0) (hs : swapsWithSole [tg] e pos.line X.env = pure false := by rfl) (hw : swappedStores [tg] e X.env = pure none := by rfl) (h1 : (assignEach [tg] X.env).map (·.2) = [assign tg X.env] := by rfl) :
    SS X (Gm.mk X.K fa ea) W mv ow ow1 owL kr (.Assign [tg] e pos) (sAsg G0 E) :=
  PS.imp (ps_asg he hg hs hw h1) fun D σ H ⟨B, F, r, m, hL, S, h⟩ => by
    refine ⟨B, F, r, m, hL, S, ?_⟩
    unfold sAsg at h
    cases ee : E r m with
    | exc c => rw [ee] at h; exact exS h
    | bad => rw [ee] at h; exact h
    | ok d =>
      rw [ee] at h
      intro v H1 F1 T1 R1
      cases ep : put 3 G0 d r with
      | none => simp only [ep] at h
      | some r' =>
        simp only [ep] at h
        exact ⟨B, F1, ow1, r, m, d, r', T1.sim, .inl R1, ep, fun σ' S' _ _ => h σ' H1 F1 S'⟩
/-- a name takes an object of its own -/
theorem Sim.setM {g : Gm} {B : Base} {F H F1 H1 : Hp} {r m : Env} {σ : St} (S : Sim g B F mv ow r m σ H) (S1 : Sim g B F1 mv ow1 r m σ H1) {i : Nat} {d : D} {v : V} (hi : i ∈ mv) (hl : i < σ.length) (R : ResK g .own H F1 H1 d v) :
    Sim g B F1 mv (i :: ow1.filter (· != i)) r (setS m i (some d)) (σ.set i (some v)) H1 := by
  have mem : ∀ j, j ∈ i :: ow1.filter (· != i) ↔ j = i ∨ (j ∈ ow1 ∧ j ≠ i) := fun j => by simp [List.mem_filter]
  have R : Res g true H F1 H1 d v := R
  unfold Res at R
  rw [if_pos rfl] at R
  have slotne : ∀ j d' a, getS m j = some d' → imm d' = false → σ[j]? = some (some (.ref a)) → H a ≠ none := fun j d' a e im es => by
    obtain ⟨a', h1, h2⟩ := S.slot e im
    rw [es] at h1; cases h1
    exact h2
  refine ⟨S1.sub, S1.fr, S1.ls, S1.gr, fun j e h => ?_, fun j e h => ?_, fun j k d' e' a h1 h2 h3 h4 h5 h6 h7 h8 h9 => ?_, by rw [List.length_set]; exact S1.lr, by rw [setS_length, List.length_set]; exact S1.lm⟩
  · obtain ⟨q, w, h1, h2⟩ := S1.rr j e h
    have ne : i ≠ j := fun z => q (z ▸ hi)
    exact ⟨q, w, by rw [List.getElem?_set_ne ne]; exact h1, h2⟩
  · by_cases q : j = i
    · subst q
      cases getS_same m j _ e h
      refine ⟨hi, v, by rw [List.getElem?_set_self hl], fun _ => ?_, fun z => absurd ((mem j).mpr (.inl rfl)) z⟩
      rcases R with ⟨a, ev, n, f, o⟩ | p
      · refine .inl ⟨a, ev, o, f, .inl ?_⟩
        cases qb : B.H a with
        | none => rfl
        | some u => exact absurd n (S.bthere (by rw [qb]; exact fun z => by cases z))
      · exact .inr p
    · rw [getS_other m i j _ q] at h
      obtain ⟨q1, w, h1, h2, h3⟩ := S1.mm j e h
      refine ⟨q1, w, by rw [List.getElem?_set_ne (Ne.symm q)]; exact h1, fun z => h2 ?_, fun z => h3 fun z' => z ((mem j).mpr (.inr ⟨z', q⟩))⟩
      rcases (mem j).mp z with z | z
      · exact absurd z q
      · exact z.1
  · have new : ∀ a, σ.length > i → (σ.set i (some v))[i]? = some (some (.ref a)) → v = .ref a := fun a _ h => by
      rw [List.getElem?_set_self hl] at h
      exact Option.some.inj (Option.some.inj h)
    have clash : ∀ j d', getS m j = some d' → imm d' = false → j ≠ i → (σ.set i (some v))[j]? = some (some (.ref a)) → v = .ref a → imm d = false → False := fun j d' e im ne es ev imd => by
      rw [List.getElem?_set_ne (Ne.symm ne)] at es
      have ha := slotne j d' a e im es
      rcases R with ⟨a', ev', n, _⟩ | ⟨im', _⟩
      · rw [ev] at ev'; cases ev'; exact ha n
      · rw [imd] at im'; cases im'
    by_cases qj : j = i
    · subst qj
      have qk : k ≠ j := fun z => h3 z.symm
      have ed := getS_same m j _ d' h4
      cases ed
      rw [getS_other m j k _ qk] at h5
      exact clash k e' h5 h7 qk h9 (new a hl h8) h6
    · by_cases qk : k = i
      · subst qk
        have ed := getS_same m k _ e' h5
        cases ed
        rw [getS_other m k j _ qj] at h4
        exact clash j d' h4 h6 qj h8 (new a hl h9) h7
      · rw [getS_other m i j _ qj] at h4
        rw [getS_other m i k _ qk] at h5
        rw [List.getElem?_set_ne (Ne.symm qj)] at h8
        rw [List.getElem?_set_ne (Ne.symm qk)] at h9
        rcases (mem j).mp h1 with z | z
        · exact qj z
        · rcases (mem k).mp h2 with w | w
          · exact qk w
          · exact S1.ap j k d' e' a z.1 w.1 h3 h4 h5 h6 h7 h8 h9
theorem SS.asgMv {i : Nat} {x : Str} {p' : Pos} (hN : X.N.Nodup) (hx : X.N[i]? = some x) (hv : Loc X.env.scope x) (hm : i ∈ mv) (hl : i < X.N.length) (he : SE X (Gm.mk X.K fa ea) W mv ow ow1 .own e E) (ho : i :: ow1.filter (· != i) = ow2 := by rfl)
    (hs : swapsWithSole [.Name x p'] e pos.line X.env = pure false := by rfl) (hw : swappedStores [.Name x p'] e X.env = pure none := by rfl) (h1 : (assignEach [.Name x p'] X.env).map (·.2) = [assign (.Name x p') X.env] := by rfl)
    (hf : X.fn x = true ∨ X.env.scope.names.lookup x = some .local := by first | exact .inl rfl | exact .inr rfl | assumption) : SS X (Gm.mk X.K fa ea) W mv ow ow2 owL kr (.Assign [.Name x p'] e pos) (sMv i E) :=
  ⟨fun pins s σ H D I ⟨B, F, r, m, hL, S, h⟩ => (ps_asg he (pg_name hN hx hv hf) hs hw h1).run pins s σ H D I (by
    subst ho
    refine ⟨B, F, r, m, hL, S, ?_⟩
    unfold sMv at h
    cases ee : E r m with
    | exc c => rw [ee] at h; exact exS h
    | bad => rw [ee] at h; exact h
    | ok d =>
      rw [ee] at h
      exact fun v H1 F1 T1 R1 => h _ H1 F1 (S.setM T1.sim hm (by rw [I.len]; exact hl) R1))⟩
theorem SS.expr (he : SE X (Gm.mk X.K fa ea) W mv ow ow1 k e E) (hs : swapsWith e none pos.line X.env = pure false := by rfl) : SS X (Gm.mk X.K fa ea) W mv ow ow1 owL kr (.Expr e pos) (sExpr E) :=
  PS.imp (ps_expr he hs) fun D σ H ⟨B, F, r, m, hL, S, h⟩ => by
    refine ⟨B, F, r, m, hL, S, ?_⟩
    unfold sExpr at h
    cases ee : E r m with
    | exc c => rw [ee] at h; exact exS h
    | bad => rw [ee] at h; exact h
    | ok d => rw [ee] at h; exact fun v H1 F1 T1 R1 => h σ H1 F1 T1.sim
theorem SS.ite (hc : SX X (Gm.mk X.K fa ea) W mv ow ow c C) {sa sb : List Stmt} (ha : SSs X (Gm.mk X.K fa ea) W mv ow owN owL kr sa S1) (hb : SSs X (Gm.mk X.K fa ea) W mv ow owN owL kr sb S2) : SS X (Gm.mk X.K fa ea) W mv ow owN owL kr (.If c sa sb pos) (sIf C S1 S2) :=
  PS.imp (ps_if hc ha hb) fun D σ H ⟨B, F, r, m, hL, S, h⟩ => by
    refine ⟨B, F, r, m, hL, S, ?_⟩
    unfold sIf at h
    have go : ∀ (S0 : ST) H1 F1, Tr (Gm.mk X.K fa ea) B mv ow r m σ F H F1 H1 → (match S0 r m with
        | .next r' m' => ∀ σ' H' F', Sim (Gm.mk X.K fa ea) B F' mv owN r' m' σ' H' → D.nx σ' H'
        | .brk r' m' => ∀ σ' H' F', Sim (Gm.mk X.K fa ea) B F' mv owL r' m' σ' H' → D.bk σ' H'
        | .cnt r' m' => ∀ σ' H' F', Sim (Gm.mk X.K fa ea) B F' mv owL r' m' σ' H' → D.ct σ' H'
        | .ret d _ => ∀ v H' F', Adv B.F B.H F' H' → ResK (Gm.mk X.K fa ea) kr B.H F' H' d v → D.rt v H'
        | .exc c r' => ∀ cls dd σ' H' F', ExC (Gm.mk X.K fa ea) c cls dd → Sim (Gm.mk X.K fa ea) B F' mv [] r' (emp' σ') σ' H' → W cls dd σ' H'
        | .bad => False) → tS (Gm.mk X.K fa ea) W mv ow owN owL kr S0 D σ H1 := fun S0 H1 F1 T1 h => by
      refine ⟨B, F1, r, m, hL, T1.sim, ?_⟩
      cases e2 : S0 r m with
      | next r2 m2 => rw [e2] at h; exact h
      | brk r2 m2 => rw [e2] at h; exact h
      | cnt r2 m2 => rw [e2] at h; exact h
      | ret d m2 => rw [e2] at h; exact h
      | exc c r2 => rw [e2] at h; exact h
      | bad => rw [e2] at h; exact h
    cases ec : C r m with
    | exc c => rw [ec] at h; exact exS h
    | bad => rw [ec] at h; exact h
    | ok d =>
      cases d with
      | bl t =>
        rw [ec] at h
        intro H1 F1 T1
        cases t with
        | true => exact go S1 H1 F1 T1 h
        | false => exact go S2 H1 F1 T1 h
      | _ => rw [ec] at h; exact h.elim
/-! ### what is changed in place -/
theorem Sim.mutate {g : Gm} {B : Base} {F H : Hp} {r m : Env} {σ : St} (S : Sim g B F mv ow r m σ H) (hL : B.L = []) {i : Nat} {d n : D} {p : Addr} {o : HO} (hi : i ∈ ow) (e : getS m i = some d) (im : imm d = false) (hs : σ[i]? = some (some (.ref p)))
    (fp : F p = none) (bp : B.H p = none) (ho : Own1 g F (upd H p o) p n) : Sim g B F mv ow r (setS m i (some n)) σ (upd H p o) := by
  refine ⟨fun a u h => ?_, fun a u h hn => ?_, fun a h1 h2 => ?_, S.gr, S.rr, fun j e' h => ?_, fun j k d' e' a h1 h2 h3 h4 h5 h6 h7 h8 h9 => ?_, S.lr, by rw [setS_length]; exact S.lm⟩
  · have q : a ≠ p := fun z => by subst z; rw [fp] at h; cases h
    rw [upd_ne q]; exact S.sub a u h
  · have q : a ≠ p := fun z => by subst z; rw [bp] at h; cases h
    rw [upd_ne q]; exact S.fr a u h hn
  · rw [hL] at h1; cases h1
  · by_cases q : j = i
    · subst q
      cases getS_same m j _ e' h
      obtain ⟨q1, _⟩ := S.mm j d e
      exact ⟨q1, .ref p, hs, fun _ => .inl ⟨p, rfl, ho, fp, .inl bp⟩, fun z => absurd hi z⟩
    · rw [getS_other m i j _ q] at h
      obtain ⟨q1, v, h1, h2, h3⟩ := S.mm j e' h
      refine ⟨q1, v, h1, fun z => ?_, h3⟩
      rcases h2 z with ⟨a, rfl, w, f, b⟩ | pp
      · have ne : a ≠ p := fun z' => by
          subst z'
          exact S.ap j i e' d a z hi q h e w.mut im h1 hs
        exact .inl ⟨a, rfl, w.mono (Le.refl _) fun u hu => by rw [upd_ne ne]; exact hu, f, b⟩
      · exact .inr pp
  · have back : ∀ j d', getS (setS m i (some n)) j = some d' → imm d' = false → ∃ d2, getS m j = some d2 ∧ imm d2 = false := fun j d' h hm => by
      by_cases q : j = i
      · subst q; exact ⟨d, e, im⟩
      · rw [getS_other m i j _ q] at h; exact ⟨d', h, hm⟩
    obtain ⟨d2, x1, x2⟩ := back j d' h4 h6
    obtain ⟨e2, y1, y2⟩ := back k e' h5 h7
    exact S.ap j k d2 e2 a h1 h2 h3 x1 y1 x2 y2 h8 h9
theorem mutL {i : Nat} {f : List D → D → Option (List D)} {D : Ends} {σ : St} {H : Hp} {rr : V → List V → Hp → VK → Prop} (hi : i ∈ ow) (hi1 : i ∈ ow1)
    (hr : ∀ F H1 p vs xs ys d v, Sub F H1 → H1 p = some (.lst vs) → F p = none → RepL X.K fa F xs vs → Rp (Gm.mk X.K fa ea) F d v → f xs d = some ys → ∀ Q : VK, (∀ ws, RepL X.K fa F ys ws → Q .non (upd H1 p (.lst ws))) → rr (.ref p) [v] H1 Q)
    (h : tS (Gm.mk X.K fa ea) W mv ow ow1 owL kr (sMut i f E) D σ H) : tVar i σ H fun x H1 => tyV X.K "list" x H1 ∧ tCons (tE (Gm.mk X.K fa ea) W mv ow ow1 .rp E) tNil σ H1 fun xs H2 => rr x xs H2 fun _ H3 => D.nx σ H3 := by
  obtain ⟨B, F, r, m, hL, S, h⟩ := h
  unfold sMut at h
  cases em : getS m i with
  | none => simp only [em] at h
  | some d0 =>
    cases d0 with
    | lst xs =>
      simp only [em] at h
      obtain ⟨_, v0, hs, h2, _⟩ := S.mm i _ em
      rcases h2 hi with ⟨q, rfl, ⟨vs, hq, _⟩, _⟩ | ⟨z, _⟩
      · refine ⟨.ref q, hs, .inl ⟨rfl, vs, .inl (.inl hq)⟩, B, F, r, m, hL, S, ?_⟩
        cases ee : E r m with
        | exc c => simp only [ee] at h; exact exS h
        | bad => simp only [ee] at h
        | ok d =>
          simp only [ee] at h
          intro v H1 F1 T1 R1
          cases ef : f xs d with
          | none => simp only [ef] at h
          | some ys =>
            simp only [ef] at h
            obtain ⟨_, v1, hs1, h21, _⟩ := T1.sim.mm i _ em
            rcases h21 hi1 with ⟨q1, rfl, ⟨vs1, hq1, rq1⟩, fq, bq⟩ | ⟨z, _⟩
            · rw [hs] at hs1
              cases hs1
              have bq : B.H q = none := by
                rcases bq with b | b
                · exact b
                · rw [hL] at b; cases b
              exact hr F1 H1 q vs1 xs ys d v T1.sim.sub hq1 fq rq1 R1 ef _ fun ws rw' => h σ _ F1 (T1.sim.mutate hL hi1 em rfl hs fq bq ⟨ws, upd_same, rw'⟩)
            · cases z
      · cases z
    | _ => simp only [em] at h
theorem SS.app {i : Nat} {x : Str} {p' ap : Pos} (hN : X.N[i]? = some x) (hv : Vis X.env.scope x) (hi : i ∈ ow) (hi1 : i ∈ ow1) (he : SE X (Gm.mk X.K fa ea) W mv ow ow1 .rp e E) (hd : (x == ("__debug__" : Str)) = false := by decide) (hcd : (x == ("__classdict__" : Str)) = false := by decide)
    (hbase : attributeBase (.Name x p') "append" X.env (eval (.Name x p') X.env) = eval (.Name x p') X.env := by rfl)
    (hfew : ((backTo p2 (starEach [e] X.env)).all (fun x => !x.1) && (backToKw p2 (keywordEach [] X.env)).all (fun x => x.1.isSome) && decide (([e] : List Expr).length + ([] : List Keyword).length + (if ([] : List Keyword).isEmpty then 0 else 1) < 30)) = true := by rfl)
    (hline : (ap.endLine == p2.line) = true := by rfl) (hs : starEach [e] X.env = (false, eval e X.env) :: starEach [] X.env := by rfl) (hplain : (backTo p2 (starEach [] X.env)).any (·.1) = false := by rfl)
    (hsw : swapsWith (.Call (.Attribute (.Name x p') "append" ap) [e] [] p2) none pos.line X.env = pure false := by rfl) :
    SS X (Gm.mk X.K fa ea) W mv ow ow1 owL kr (.Expr (.Call (.Attribute (.Name x p') "append" ap) [e] [] p2) pos) (sMut i muApp E) :=
  PS.imp (ps_expr (pe_bm PySem.F.plainAttrs_list PySem.F.slot_list_append PySem.F.type_list_append mt_append (pe_var hN hv hd hcd) (pa_cons he pa_nil hs) hbase hfew hline hs hplain) hsw) fun D σ H h => by
    refine mutL hi hi1 (fun F H1 p vs xs ys d v S hp fp rx rd ef Q q => ?_) h
    unfold muApp at ef
    simp only at ef
    split at ef
    · rename_i hz
      cases ef
      have hz := okLen_le hz
      rw [List.length_append, rx.length] at hz
      exact ⟨p, vs, v, rfl, rfl, hp, hz, q _ (rx.app ⟨v, [], rfl, rd, rfl⟩)⟩
    · cases ef
/-! ### extend, with a list -/
theorem SS.ext {i : Nat} {x : Str} {p' ap : Pos} (hN : X.N[i]? = some x) (hv : Vis X.env.scope x) (hi : i ∈ ow) (hi1 : i ∈ ow1) (he : SE X (Gm.mk X.K fa ea) W mv ow ow1 .rp e E) (hd : (x == ("__debug__" : Str)) = false := by decide) (hcd : (x == ("__classdict__" : Str)) = false := by decide)
    (hbase : attributeBase (.Name x p') "extend" X.env (eval (.Name x p') X.env) = eval (.Name x p') X.env := by rfl)
    (hfew : ((backTo p2 (starEach [e] X.env)).all (fun x => !x.1) && (backToKw p2 (keywordEach [] X.env)).all (fun x => x.1.isSome) && decide (([e] : List Expr).length + ([] : List Keyword).length + (if ([] : List Keyword).isEmpty then 0 else 1) < 30)) = true := by rfl)
    (hline : (ap.endLine == p2.line) = true := by rfl) (hs : starEach [e] X.env = (false, eval e X.env) :: starEach [] X.env := by rfl) (hplain : (backTo p2 (starEach [] X.env)).any (·.1) = false := by rfl)
    (hsw : swapsWith (.Call (.Attribute (.Name x p') "extend" ap) [e] [] p2) none pos.line X.env = pure false := by rfl) :
    SS X (Gm.mk X.K fa ea) W mv ow ow1 owL kr (.Expr (.Call (.Attribute (.Name x p') "extend" ap) [e] [] p2) pos) (sMut i muExt E) :=
  PS.imp (ps_expr (pe_bm PySem.F.plainAttrs_list PySem.F.slot_list_extend PySem.F.type_list_extend mt_extend (pe_var hN hv hd hcd) (pa_cons he pa_nil hs) hbase hfew hline hs hplain) hsw) fun D σ H h => by
    refine mutL hi hi1 (fun F H1 p vs xs ys d v S hp fp rx rd ef Q q => ?_) h
    cases d with
    | lst zs =>
      have ef : (if okLen (xs ++ zs) then some (xs ++ zs) else none) = some ys := ef
      split at ef
      · rename_i hz
        cases ef
        have hz := okLen_le hz
        obtain ⟨b, ws, rfl, hb, rz⟩ := rd
        rw [List.length_append, rx.length, rz.length] at hz
        exact ⟨p, b, vs, ws, rfl, rfl, hp, S.lst hb, hz, q _ (rx.app rz)⟩
      · cases ef
    | _ => cases ef
/-! ### d[k] = e -/
theorem SS.put (hu : X.A.units + 50 < cLine) {i : Nat} {x : Str} {p' : Pos} (hN : X.N[i]? = some x) (hv : Vis X.env.scope x) (hi : i ∈ ow2) (he : SE X (Gm.mk X.K fa ea) W mv ow ow1 .rp e E) (hk : SE X (Gm.mk X.K fa ea) W mv ow1 ow2 .rp c C) (hd : (x == ("__debug__" : Str)) = false := by decide) (hcd : (x == ("__classdict__" : Str)) = false := by decide)
    (hs : swapsWith e (some (.Subscript (.Name x p') c p)) pos.line X.env = pure false := by rfl) :
    SS X (Gm.mk X.K fa ea) W mv ow ow2 owL kr (.Assign [.Subscript (.Name x p') c p] e pos) (sSet i E C) :=
  PS.imp (ps_dput (by omega) (pe_var hN hv hd hcd) hk he hs) fun D σ H ⟨B, F, r, m, hL, S, h⟩ => by
    refine ⟨B, F, r, m, hL, S, ?_⟩
    unfold sSet at h
    cases ee : E r m with
    | exc c => rw [ee] at h; exact exS h
    | bad => rw [ee] at h; exact h
    | ok d =>
      simp only [ee] at h
      intro v H1 F1 T1 R1
      cases em : getS m i with
      | none => simp only [em] at h
      | some d0 =>
        cases d0 with
        | dct kvs =>
          simp only [em] at h
          obtain ⟨_, v0, hs0, _⟩ := T1.sim.mm i _ em
          refine ⟨v0, hs0, B, F1, r, m, hL, T1.sim, ?_⟩
          cases ec : C r m with
          | exc c => simp only [ec] at h; exact exS h
          | bad => simp only [ec] at h
          | ok j =>
            simp only [ec] at h
            intro vk H2 F2 T2 R2
            cases hk : isKey j with
            | false => simp only [hk] at h; exact h.elim
            | true =>
              simp only [hk, if_true] at h
              cases hb : Nat.blt kvs.length big with
              | false => simp only [hb] at h; exact h.elim
              | true =>
                simp only [hb, if_true] at h
                have S2 := T2.sim
                obtain ⟨_, v1, hs1, h21, _⟩ := S2.mm i _ em
                rw [hs0] at hs1
                cases hs1
                rcases h21 hi with ⟨q, rfl, ⟨ks, hq, rq⟩, fq, bq⟩ | ⟨z, _⟩
                · have bq : B.H q = none := by
                    rcases bq with b | b
                    · exact b
                    · rw [hL] at b; cases b
                  have R2' : RepT (Gm.mk X.K fa ea) F2 H2 j vk := .inl R2
                  obtain ⟨key, rfl, rfl⟩ := isKey_rep hk R2'
                  have hlen : ks.length < sizeLine := by
                    have : kvs.length + 1 ≤ big := Nat.le_of_ble_eq_true hb
                    rw [rq.length] at this
                    rw [sizeLine_eq]
                    exact this
                  refine ⟨q, _, rfl, .inl ⟨ks, key, hq, rfl, hlen, rfl⟩, ?_⟩
                  exact h σ _ F2 (S2.mutate hL hi em rfl hs0 fq bq ⟨_, upd_same, putK_rep key (Rep.mono T2.le _ _ R1) rq⟩)
                · cases z
        | _ => simp only [em] at h
end
end F
/-! F3j: for, raise, freezing between statements, a def. -/
namespace F
open PySem PySem.Spec PyProof.Rows L2
/-- the slots that are frozen, one after another -/
def frz (rm : List Nat) (ow : List Nat) : List Nat := rm.foldl (fun o i => o.filter (· != i)) ow
section
variable {g : Gm} {B : Base} {F H : Hp} {mv : List Nat} {r m : Env} {σ : St}
theorem Sim.frz (hL : B.L = []) : ∀ (rm : List Nat) {ow : List Nat} {F : Hp}, Sim g B F mv ow r m σ H → ∃ F', Le F F' ∧ Sim g B F' mv (_root_.F.frz rm ow) r m σ H
  | [], ow, F, S => ⟨F, Le.refl F, S⟩
  | i :: rm, ow, F, S => by
    obtain ⟨F1, l1, S1, _⟩ := S.freeze i hL
    obtain ⟨F2, l2, S2⟩ := Sim.frz hL rm S1
    exact ⟨F2, l1.trans l2, S2⟩
end
section
variable {X : Cx} {fa ea : Nat → Option Addr} {W : WX} {mv ow ow1 ow2 owN owL owN1 owL1 : List Nat} {k kr : Kd} {a b c e : Expr} {A Bb C E : EX} {pos p p2 : Pos} {st : Stmt} {sts : List Stmt} {S0 S1 S2 : ST}
/-- freeze ahead of a block -/
theorem SSs.fin (rm : List Nat) (h : SSs X (Gm.mk X.K fa ea) W mv ow1 owN owL kr sts S0) (ho : frz rm ow = ow1 := by rfl) : SSs X (Gm.mk X.K fa ea) W mv ow owN owL kr sts S0 :=
  PSs.imp h fun D σ H ⟨B, F, r, m, hL, S, h⟩ => by
    obtain ⟨F', l, S'⟩ := Sim.frz hL rm S
    rw [ho] at S'
    refine ⟨B, F', r, m, hL, S', ?_⟩
    cases e2 : S0 r m with
    | next r2 m2 => rw [e2] at h; exact h
    | brk r2 m2 => rw [e2] at h; exact h
    | cnt r2 m2 => rw [e2] at h; exact h
    | ret d m2 => rw [e2] at h; exact h
    | exc c r2 => rw [e2] at h; exact h
    | bad => rw [e2] at h; exact h
/-- freeze behind a block -/
theorem SSs.out (rmN rmL : List Nat) (h : SSs X (Gm.mk X.K fa ea) W mv ow owN1 owL1 kr sts S0) (ho : frz rmN owN1 = owN := by rfl) (ho2 : frz rmL owL1 = owL := by rfl) : SSs X (Gm.mk X.K fa ea) W mv ow owN owL kr sts S0 :=
  PSs.imp h fun D σ H ⟨B, F, r, m, hL, S, h⟩ => by
    refine ⟨B, F, r, m, hL, S, ?_⟩
    cases e2 : S0 r m with
    | next r2 m2 =>
      rw [e2] at h
      intro σ2 H2 F2 q
      obtain ⟨F', l, S'⟩ := Sim.frz hL rmN q
      rw [ho] at S'
      exact h σ2 H2 F' S'
    | brk r2 m2 =>
      rw [e2] at h
      intro σ2 H2 F2 q
      obtain ⟨F', l, S'⟩ := Sim.frz hL rmL q
      rw [ho2] at S'
      exact h σ2 H2 F' S'
    | cnt r2 m2 =>
      rw [e2] at h
      intro σ2 H2 F2 q
      obtain ⟨F', l, S'⟩ := Sim.frz hL rmL q
      rw [ho2] at S'
      exact h σ2 H2 F' S'
    | ret d m2 => rw [e2] at h; exact h
    | exc c r2 => rw [e2] at h; exact h
    | bad => rw [e2] at h; exact h
theorem SS.fin (rm : List Nat) (h : SS X (Gm.mk X.K fa ea) W mv ow1 owN owL kr st S0) (ho : frz rm ow = ow1 := by rfl) : SS X (Gm.mk X.K fa ea) W mv ow owN owL kr st S0 :=
  PS.imp h fun D σ H ⟨B, F, r, m, hL, S, h⟩ => by
    obtain ⟨F', l, S'⟩ := Sim.frz hL rm S
    rw [ho] at S'
    refine ⟨B, F', r, m, hL, S', ?_⟩
    cases e2 : S0 r m with
    | next r2 m2 => rw [e2] at h; exact h
    | brk r2 m2 => rw [e2] at h; exact h
    | cnt r2 m2 => rw [e2] at h; exact h
    | ret d m2 => rw [e2] at h; exact h
    | exc c r2 => rw [e2] at h; exact h
    | bad => rw [e2] at h; exact h
/-! ### for -/
theorem nbF (G0 : G) (S0 : ST) (xs : List D) : ∀ r m : Env, (∀ r' m', forGo G0 S0 xs r m ≠ .brk r' m') ∧ ∀ r' m', forGo G0 S0 xs r m ≠ .cnt r' m' := by
  induction xs with
  | nil => intro r m; exact ⟨(fun _ _ h => by cases h), (fun _ _ h => by cases h)⟩
  | cons x xs ih =>
    intro r m
    unfold forGo
    cases put 3 G0 x r with
    | none => exact ⟨(fun _ _ h => by cases h), (fun _ _ h => by cases h)⟩
    | some r1 =>
      dsimp only
      cases S0 r1 m with
      | next r2 m2 => exact ih r2 m2
      | cnt r2 m2 => exact ih r2 m2
      | brk r2 m2 => exact ⟨(fun _ _ h => by cases h), (fun _ _ h => by cases h)⟩
      | ret d m2 => exact ⟨(fun _ _ h => by cases h), (fun _ _ h => by cases h)⟩
      | exc c r2 => exact ⟨(fun _ _ h => by cases h), (fun _ _ h => by cases h)⟩
      | bad => exact ⟨(fun _ _ h => by cases h), (fun _ _ h => by cases h)⟩
end
/-- the base of a loop: what is frozen at its start stays -/
def wB (B : Base) (F' H' : Hp) : Base := ⟨fun a => match F' a with | none => B.H a | some _ => H' a, fun a => match F' a with | none => B.F a | some u => some u, B.L⟩
theorem wB_none {B : Base} {F' H' : Hp} {a : Addr} (h : F' a = none) : (wB B F' H').H a = B.H a ∧ (wB B F' H').F a = B.F a := by
  unfold wB; simp only [h]; exact ⟨trivial, trivial⟩
theorem wB_some {B : Base} {F' H' : Hp} {a : Addr} {o : HO} (h : F' a = some o) : (wB B F' H').H a = H' a ∧ (wB B F' H').F a = some o := by
  unfold wB; simp only [h]; exact ⟨trivial, trivial⟩
section
variable {X : Cx} {g : Gm} {B : Base} {F' F2 H1 H' H2 : Hp} {mv ow ow2 : List Nat} {r m r2 m2 : Env} {σ σ2 : St} {lk : Lk}
theorem Sim.rebase (S : Sim g B F' mv ow r m σ H1) (hL : B.L = []) (k : LkOk X F' H1 H' lk) : (wB B F' H').L = [] ∧ Sim g (wB B F' H') F' mv ow r m σ H' := by
  obtain ⟨_, S'⟩ := S.relock hL k
  have same : ∀ a, F' a = none → H' a = H1 a := fun a f => by
    cases lk with
    | none => cases (show H' = H1 from k); rfl
    | some q =>
      obtain ⟨d, o⟩ := q
      obtain ⟨od, ks, rfl, hd, hk⟩ := k
      rcases hk with ⟨_, rfl⟩ | ⟨_, _, rfl⟩
      · rfl
      · exact upd_ne fun z => by subst z; rw [hd] at f; cases f
  refine ⟨hL, S'.sub, fun a o e n => ?_, fun a h => (by have h : a ∈ B.L := h; rw [hL] at h; cases h), fun a n => ?_, S'.rr, fun i e h => ?_, S'.ap, S'.lr, S'.lm⟩
  · cases q : F' a with
    | none =>
      rw [(wB_none q).1] at e
      rw [same a q]
      exact S.fr a o e (by rw [hL]; exact fun z => by cases z)
    | some u => rw [(wB_some q).1] at e; exact e
  · cases q : F' a with
    | none =>
      rw [(wB_none q).1] at n
      rw [(wB_none q).2, ← S.gr a n, q]
    | some u => rw [(wB_some q).2]
  · obtain ⟨h1, v, h2, h3, h4⟩ := S.mm i e h
    refine ⟨h1, v, h2, fun hi => ?_, h4⟩
    rcases h3 hi with ⟨a, rfl, w, f, b⟩ | p
    · refine .inl ⟨a, rfl, w.mono (Le.refl _) fun o e => by rw [same a f]; exact e, f, ?_⟩
      rcases b with b | b
      · exact .inl (by rw [(wB_none f).1]; exact b)
      · exact .inr b
    · exact .inr p
theorem Sim.le_of (S' : Sub F' H') (S2 : Sim g (wB B F' H') F2 mv ow2 r2 m2 σ2 H2) : Le F' F2 := fun a o e => by
  have n : (wB B F' H').H a ≠ none := by rw [(wB_some e).1]; exact S'.there e
  rw [S2.gr a n, (wB_some e).2]
theorem Sim.unbase (S : Sim g B F' mv ow r m σ H1) (hL : B.L = []) (k : LkOk X F' H1 H' lk) (S' : Sub F' H') (S2 : Sim g (wB B F' H') F2 mv ow2 r2 m2 σ2 H2) : ∃ H3, UnlR X H2 H3 ∧ Sim g B F2 mv ow2 r2 m2 σ2 H3 ∧ (∀ a o, H2 a = some o → F2 a = none → H3 a = some o) ∧ ∀ a, F2 a = none → (wB B F' H').H a = none → B.H a = none := by
  have le := Sim.le_of S' S2
  have own : ∀ a, F2 a = none → (wB B F' H').H a = none → B.H a = none := fun a f n => by
    cases q : F' a with
    | none => rw [(wB_none q).1] at n; exact n
    | some u => rw [le a u q] at f; cases f
  -- the base B again, at a heap H3 that is as H2 but for the lock
  have fin : ∀ H3, (∀ a, (∀ d, lk = some d → a ≠ d.1) → H3 a = H2 a) → Sub F2 H3 → (∀ d o, lk = some (d, o) → B.H d ≠ none → ∀ o', B.H d = some o' → H3 d = some o') → Sim g B F2 mv ow2 r2 m2 σ2 H3 := fun H3 ne sb at_ => by
    have dF : ∀ d, lk = some d → F2 d.1 ≠ none := fun d e => by
      cases lk with
      | none => cases e
      | some q =>
        cases e
        obtain ⟨od, ks, _, hd, _⟩ := k
        rw [le _ _ hd]; exact fun z => by cases z
    refine ⟨sb, fun a u e n => ?_, fun a h => (by rw [hL] at h; cases h), fun a n => ?_, S2.rr, fun i e h => ?_, S2.ap, S2.lr, S2.lm⟩
    · by_cases z : ∀ d, lk = some d → a ≠ d.1
      · rw [ne a z]
        refine S2.fr a u ?_ n
        cases q : F' a with
        | none => rw [(wB_none q).1]; exact e
        | some w =>
          rw [(wB_some q).1]
          have h1 := S.fr a u e n
          cases lk with
          | none => cases (show H' = H1 from k); exact h1
          | some q =>
            obtain ⟨od, ks, _, hd, hk⟩ := k
            rcases hk with ⟨_, e9⟩ | ⟨_, _, e9⟩
            · rw [e9]; exact h1
            · rw [e9, upd_ne (z _ rfl)]; exact h1
      · have z : ∃ d, lk = some d ∧ a = d.1 := by
          refine Classical.byContradiction fun w => z fun d e q => w ⟨d, e, q⟩
        obtain ⟨⟨d, o⟩, e1, e2⟩ := z
        have e2 : a = d := e2
        subst e2
        exact at_ a o e1 (by rw [e]; exact fun z => by cases z) u e
    · cases q : F' a with
      | none =>
        have := S2.gr a (by rw [(wB_none q).1]; exact n)
        rw [this, (wB_none q).2]
      | some w => rw [le a w q, ← S.gr a n, q]
    · obtain ⟨h1, v, h2, h3, h4⟩ := S2.mm i e h
      refine ⟨h1, v, h2, fun hi => ?_, h4⟩
      rcases h3 hi with ⟨a, rfl, w, f, b⟩ | p
      · refine .inl ⟨a, rfl, w.mono (Le.refl _) fun o e => ?_, f, ?_⟩
        · rw [ne a fun d e2 z => by subst z; exact dF d e2 f]; exact e
        · rcases b with b | b
          · exact .inl (own a f b)
          · exact .inr b
      · exact .inr p
  cases lk with
  | none => exact ⟨H2, .inl rfl, fin H2 (fun _ _ => rfl) S2.sub (fun d o e => by cases e), fun _ _ h _ => h, own⟩
  | some q =>
    obtain ⟨d, o⟩ := q
    have k0 := k
    obtain ⟨od, ks, rfl, hd, hk⟩ := k0
    have f2d : F2 d = some (.dK ks) := le d _ hd
    have h2d : H2 d = some (.frz od (.dK ks)) := by
      refine S2.fr d _ ?_ (by show d ∉ B.L; rw [hL]; exact fun z => by cases z)
      rw [(wB_some hd).1]
      rcases hk with ⟨e, rfl⟩ | ⟨_, _, rfl⟩
      · exact e
      · exact upd_same
    rcases hk with ⟨e1, rfl⟩ | ⟨e1, nf, rfl⟩
    · refine ⟨H2, .inl rfl, fin H2 (fun _ _ => rfl) S2.sub (fun d' o' e n o2 eb => ?_), fun _ _ h _ => h, own⟩
      cases e
      have := S.fr _ _ eb (by rw [hL]; exact fun z => by cases z)
      rw [e1] at this; cases this
      exact h2d
    · refine ⟨upd H2 d (.dK ks), .inr ⟨d, od, .dK ks, h2d, True.intro, nf, rfl⟩, fin _ (fun a h => upd_ne (h _ rfl)) (fun a u e => ?_) (fun d' o' e n o2 eb => ?_), fun a u h f => ?_, own⟩
      · by_cases z : a = d
        · subst z
          rw [f2d] at e; cases e
          exact .inl upd_same
        · rw [upd_ne z]; exact S2.sub a u e
      · cases e
        have := S.fr _ _ eb (by rw [hL]; exact fun z => by cases z)
        rw [e1] at this; cases this
        exact upd_same
      · have z : a ≠ d := fun z => by subst z; rw [f2d] at f; cases f
        rw [upd_ne z]; exact h
end
section
variable {X : Cx} {fa ea : Nat → Option Addr} {W : WX} {mv ow ow1 ow2 owN owL owN1 owL1 : List Nat} {k kr : Kd} {a b c e : Expr} {A Bb C E : EX} {pos p p2 : Pos} {st : Stmt} {sts : List Stmt} {S0 S1 S2 : ST}
/-- the wish while something may be locked -/
def Wu (X : Cx) (W : WX) : WX := fun cls d σ H => ∃ H', UnlR X H H' ∧ W cls d σ H'
theorem UnlR.trans {H1 H2 H3 : Hp} (a : UnlR X H1 H2) (b : H3 = H2) : UnlR X H1 H3 := b ▸ a
theorem SS.for_ (hkr : kr ≠ .rd) {tg iter : Expr} {body : List Stmt} {It : EA} {G0 : G} (hp : PassesOwn (model X.prog X.w) X.A X.env X.xe) (hc : X.calm = true) {wk : Bool} (hi : PI X tg iter (tI X (Gm.mk X.K fa ea) wk W mv ow ow1 It)) (hg : SG X (Gm.mk X.K fa ea) mv 3 tg G0)
    (hb : SSs X (Gm.mk X.K fa ea) (Wu X W) mv ow1 ow1 ow1 kr body S0) (hs : ∀ x, foldedSetIterable iter X.env x = pure x := by intro _; rfl) (hw : wk = true → ∃ gs, G0 = .t gs := by first | exact (fun h => nomatch h) | exact fun _ => ⟨_, rfl⟩) : SS X (Gm.mk X.K fa ea) W mv ow ow1 owL kr (.For tg iter body [] pos) (sFor G0 It S0) :=
  PS.imp (ps_unl (ps_for hp hc hi hg hb hs)) fun D σ H ⟨B, F, r, m, hL, S, h⟩ => by
    refine ⟨B, F, r, m, hL, S, ?_⟩
    unfold sFor at h
    cases e : It r m with
    | exc c => rw [e] at h; exact exS h
    | bad => rw [e] at h; exact h
    | ok xs =>
      rw [e] at h
      intro J H1 H' F' lk T0 hk wd
      obtain ⟨hL1, S'⟩ := T0.sim.rebase hL hk
      have Wk : Walk J xs.length (GW lk F') (fun i H x H2 => ∀ F2, Le F' F2 → Sub F2 H → ∃ d F3, xs[i]? = some d ∧ Adv F2 H F3 H2 ∧ RpW (Gm.mk X.K fa ea) (wk = true) F3 H2 d x) := ⟨wd.go, wd.stop, fun i H x H2 hi hG y F2 l s => wd.yld i H x H2 hi hG y F2 l s⟩
      refine for_it Wk (fun i σc Hc => ∃ Fc rc mc, Sim (Gm.mk X.K fa ea) (wB B F' H') Fc mv ow1 rc mc σc Hc ∧ match forGo G0 S0 (xs.drop i) rc mc with
        | .next r' m' => ∀ σ' H' F', Sim (Gm.mk X.K fa ea) B F' mv ow1 r' m' σ' H' → D.nx σ' H'
        | .brk r' m' => False
        | .cnt r' m' => False
        | .ret d _ => ∀ v H' F', Adv B.F B.H F' H' → ResK (Gm.mk X.K fa ea) kr B.H F' H' d v → D.rt v H'
        | .exc c r' => ∀ cls dd σ' H' F', ExC (Gm.mk X.K fa ea) c cls dd → Sim (Gm.mk X.K fa ea) B F' mv [] r' (emp' σ') σ' H' → W cls dd σ' H'
        | .bad => False) ?_ ?_ ?_ ?_
      · refine ⟨F', r, m, S', ?_⟩
        rw [List.drop_zero]
        have nb := nbF G0 S0
        cases ef : forGo G0 S0 xs r m with
        | brk r' m' => exact absurd ef ((nb xs r m).1 r' m')
        | cnt r' m' => exact absurd ef ((nb xs r m).2 r' m')
        | next r' m' => simp only [ef] at h; exact h
        | ret d m' => simp only [ef] at h; exact h
        | exc c r' => simp only [ef] at h; exact h
        | bad => simp only [ef] at h
      · rintro i σc Hc hi ⟨Fc, rc, mc, Sc, _⟩
        refine ⟨⟨Fc, Sim.le_of S'.sub Sc, Sc.sub⟩, fun d o e => Sc.fr d o ?_ (by rw [hL1]; exact fun z => by cases z)⟩
        subst e
        obtain ⟨od, ks, rfl, hd, hk2⟩ := hk
        rw [(wB_some hd).1]
        rcases hk2 with ⟨e, rfl⟩ | ⟨_, _, rfl⟩
        · exact e
        · exact upd_same
      · rintro i x σc Hc H2 hi ⟨Fc, rc, mc, Sc, hf⟩ y
        have lc := Sim.le_of S'.sub Sc
        obtain ⟨d, F3, ed, ad, rd⟩ := y Fc lc Sc.sub
        have S3 := Sc.step ad
        have edrop : xs.drop i = d :: xs.drop (i + 1) := by
          rw [List.drop_eq_getElem_cons hi]
          have : xs[i] = d := by
            rw [List.getElem?_eq_getElem hi] at ed
            exact Option.some.inj ed
          rw [this]
        rw [edrop] at hf
        unfold forGo at hf
        cases ep : _root_.F.put 3 G0 d rc with
        | none => rw [ep] at hf; exact hf.elim
        | some r1 =>
          simp only [ep] at hf
          refine ⟨wB B F' H', F3, ow1, rc, mc, d, r1, S3, rd.imp id fun z => ⟨hw z.1, z.2⟩, ep, fun σ2 S2 _ _ => ⟨wB B F' H', F3, r1, mc, hL1, S2, ?_⟩⟩
          -- how a turn ends
          have endN : ∀ r2 m2, (match forGo G0 S0 (xs.drop (i + 1)) r2 m2 with
              | .next r' m' => ∀ σ' H' F', Sim (Gm.mk X.K fa ea) B F' mv ow1 r' m' σ' H' → D.nx σ' H'
              | .brk r' m' => False
              | .cnt r' m' => False
              | .ret d _ => ∀ v H' F', Adv B.F B.H F' H' → ResK (Gm.mk X.K fa ea) kr B.H F' H' d v → D.rt v H'
              | .exc c r' => ∀ cls dd σ' H' F', ExC (Gm.mk X.K fa ea) c cls dd → Sim (Gm.mk X.K fa ea) B F' mv [] r' (emp' σ') σ' H' → W cls dd σ' H'
              | .bad => False) → ∀ σ' H4 F4, Sim (Gm.mk X.K fa ea) (wB B F' H') F4 mv ow1 r2 m2 σ' H4 → ∃ Fc rc mc, Sim (Gm.mk X.K fa ea) (wB B F' H') Fc mv ow1 rc mc σ' H4 ∧ match forGo G0 S0 (xs.drop (i + 1)) rc mc with
              | .next r' m' => ∀ σ' H' F', Sim (Gm.mk X.K fa ea) B F' mv ow1 r' m' σ' H' → D.nx σ' H'
              | .brk r' m' => False
              | .cnt r' m' => False
              | .ret d _ => ∀ v H' F', Adv B.F B.H F' H' → ResK (Gm.mk X.K fa ea) kr B.H F' H' d v → D.rt v H'
              | .exc c r' => ∀ cls dd σ' H' F', ExC (Gm.mk X.K fa ea) c cls dd → Sim (Gm.mk X.K fa ea) B F' mv [] r' (emp' σ') σ' H' → W cls dd σ' H'
              | .bad => False := fun r2 m2 hf σ' H4 F4 S4 => ⟨F4, r2, m2, S4, hf⟩
          cases eb : S0 r1 mc with
          | next r2 m2 => simp only [eb] at hf; exact endN r2 m2 hf
          | cnt r2 m2 => simp only [eb] at hf; exact endN r2 m2 hf
          | brk r2 m2 =>
            simp only [eb] at hf
            intro σ' H4 F4 S4
            obtain ⟨H5, ul, S5, _⟩ := T0.sim.unbase hL hk S'.sub S4
            exact ⟨H5, ul, hf σ' H5 F4 S5⟩
          | ret d' m2 =>
            simp only [eb] at hf
            intro v H4 F4 ad4 R4
            -- the frame, by a state with no slots
            have S4 : Sim (Gm.mk X.K fa ea) (wB B F' H') F4 mv [] [] [] [] H4 := ⟨ad4.sub, (fun a o h _ => ad4.keep a o h), (fun a h => by rw [hL1] at h; cases h), ad4.grow, (fun i d h => by cases h), (fun i d h => by cases h), (fun i j d e a h => by cases h), rfl, rfl⟩
            obtain ⟨H5, ul, S5, keep, own⟩ := T0.sim.unbase hL hk S'.sub S4
            refine ⟨H5, ul, hf v H5 F4 (S5.frm hL) ?_⟩
            cases kr with
            | rp => exact R4
            | rd => exact absurd rfl hkr
            | own =>
              have R4 : Res (Gm.mk X.K fa ea) true (wB B F' H').H F4 H4 d' v := R4
              show Res (Gm.mk X.K fa ea) true B.H F4 H5 d' v
              unfold Res at R4 ⊢
              rw [if_pos rfl] at R4 ⊢
              rcases R4 with ⟨a, ev, n, f, o⟩ | R4
              · exact .inl ⟨a, ev, own a f n, f, o.mono (Le.refl _) fun u hu => keep a u hu f⟩
              · exact .inr R4
          | exc c' r2 =>
            simp only [eb] at hf
            intro cls dd σ' H4 F4 hx S4
            obtain ⟨H5, ul, S5, _⟩ := T0.sim.unbase hL hk S'.sub S4
            exact ⟨H5, ul, hf cls dd σ' H5 F4 hx S5⟩
          | bad => simp only [eb] at hf
      · rintro σc Hc ⟨Fc, rc, mc, Sc, hf⟩
        rw [List.drop_length] at hf
        unfold forGo at hf
        obtain ⟨H5, ul, S5, _⟩ := T0.sim.unbase hL hk S'.sub Sc
        exact ⟨H5, ul, hf σc H5 Fc S5⟩
end
end F
/-! F3k: raise, two names at once, a whole def. -/
namespace F
open PySem PySem.Spec PyProof.Rows L2
section
variable {X : Cx} {fa ea : Nat → Option Addr} {W : WX} {mv ow ow1 ow2 owN owL owN1 owL1 : List Nat} {k kr : Kd} {a b c e : Expr} {A Bb C E : EX} {pos p p2 : Pos} {st : Stmt} {sts : List Stmt} {S0 S1 S2 : ST}
/-- X() -/
theorem pmk_own0 {x : Str} {C : Addr} {bmB : List Value} {B newId initId : String} (Fx : ExcBaseFacts B newId initId bmB) (q : PySem.W.excIn X.K C bmB newId = true) (gC : X.mg x = some (.ref C)) (kC : PySem.W.keepIn X.K (.ref C) = true) (r : Raises X (.ref C)) (hg : Gl X x)
    (hdb : (x == ("__debug__" : Str)) = false := by decide) : PMk X (.Call (.Name x p) [] [] pos) (fun _ H Q => Q (.ref C) none H) := by
  intro pins s σ H Q I h
  refine wpAny_Call_Name_kw (ld_glob I hg gC ?_ hdb)
  refine PySem.W.callWith_K0 I.kIn kC ?_
  obtain ⟨bm, N, nm, qn, bs, hdct, sn, sub, ab, col, dd, k0, k1, k2, k3, k5, mN, hC, hN, hni, T⟩ := exc_obj I.kIn q
  exact wpAny_call_exc_subT Fx T hC hN hni (fun h' e hm => mk_of I hm r h (I.hok.gone hm.new)) (by show 0 ≤ sizeLine; exact Nat.zero_le _)
theorem SS.raise {x : Str} {Cc : Addr} {n : Nat} (hc : X.calm = true) (tk : L2.Takes X W) (pm : PMk X e (fun _ H Q => Q (.ref Cc) none H)) (he : ea n = some Cc) : SS X (Gm.mk X.K fa ea) W mv ow owN owL kr (.Raise (some e) none pos) (sRaise n) :=
  PS.imp (ps_raise hc tk pm) fun D σ H ⟨B, F, r, m, hL, S, h⟩ => h (.ref Cc) none σ H F ⟨Cc, he, rfl, rfl⟩ S.drop
/-! ### two names -/
def owB (b : Bool) (i : Nat) (ow : List Nat) : List Nat := match b with
  | true => i :: ow.filter (· != i)
  | false => ow
theorem keepOwn {g : Gm} {B : Base} {F H F1 H1 F2 H2 : Hp} {r m : Env} {σ : St} (S : Sim g B F mv ow r m σ H) (S1 : Sim g B F1 mv ow1 r m σ H1) {d : D} {v : V} (R : ResK g .own H F1 H1 d v) (T : Tr g B mv ow2 r m σ F1 H1 F2 H2) : ResK g .own H F2 H2 d v := by
  have R : Res g true H F1 H1 d v := R
  show Res g true H F2 H2 d v
  unfold Res at R ⊢
  rw [if_pos rfl] at R ⊢
  rcases R with ⟨a, ev, n, f, o⟩ | ⟨i, p⟩
  · refine .inl ⟨a, ev, n, ?_, o.mono T.le (T.ext a)⟩
    rw [T.grow a o.there fun i d' e im z => ?_]
    · exact f
    · obtain ⟨a', h1, h2⟩ := S.slot e im
      rw [z] at h1; cases h1
      exact h2 n
  · exact .inr ⟨i, Rep.mono T.le _ _ p⟩
theorem par_end {D : Ends} {σ : St} {H : Hp} {i j : Nat} {b1 : Bool} (hij : i ≠ j) (hi : i < X.N.length) (hj : j < X.N.length) (hl : σ.length = X.N.length) (hjm : j ∉ mv) (him : b1 = true → i ∈ mv) (him' : b1 = false → i ∉ mv) (ho : owB b1 i ow2 = owN)
    (P : V → V → Hp → Prop) (h : tS (Gm.mk X.K fa ea) W mv ow owN owL kr (sPar b1 i j A Bb) D σ H)
    (fin : ∀ v w H2, D.nx ((σ.set i (some v)).set j (some w)) H2 → (∀ p, H2 p = none → D.nx ((σ.set i (some v)).set j (some w)) (upd H2 p (.tup [v, w]))) → P v w H2) :
    tE (Gm.mk X.K fa ea) W mv ow ow1 (kO b1) A σ H fun v H1 => tE (Gm.mk X.K fa ea) W mv ow1 ow2 .rp Bb σ H1 fun w H2 => P v w H2 := by
  obtain ⟨B, F, r, m, hL, S, h⟩ := h
  refine ⟨B, F, r, m, hL, S, ?_⟩
  unfold sPar at h
  cases ee : A r m with
  | exc c => rw [ee] at h; exact exS h
  | bad => rw [ee] at h; exact h
  | ok d =>
    simp only [ee] at h
    intro v H1 F1 T1 R1
    refine ⟨B, F1, r, m, hL, T1.sim, ?_⟩
    cases e2 : Bb r m with
    | exc c => simp only [e2] at h; exact exS h
    | bad => simp only [e2] at h
    | ok d2 =>
      simp only [e2] at h
      intro w H2 F2 T2 R2
      cases b1 with
      | true =>
        simp only at h
        have S3 := (S.setM T2.sim (him rfl) (by rw [hl]; exact hi) (keepOwn S T1.sim (show ResK (Gm.mk X.K fa ea) .own H F1 H1 d v from R1) T2)).setR hjm (by rw [List.length_set, hl]; exact hj) R2
        rw [show i :: ow2.filter (· != i) = owN from ho] at S3
        exact fin v w H2 (h _ H2 F2 S3) fun p n => h _ _ F2 (S3.step (Adv.laid S3.sub n))
      | false =>
        simp only at h
        have ho : ow2 = owN := ho
        subst ho
        have S3 := (T2.sim.setR (him' rfl) (by rw [hl]; exact hi) (Rep.mono T2.le _ _ (show Rp (Gm.mk X.K fa ea) F1 d v from R1))).setR hjm (by rw [List.length_set, hl]; exact hj) R2
        exact fin v w H2 (h _ H2 F2 S3) fun p n => h _ _ F2 (S3.step (Adv.laid S3.sub n))
/-- both local -/
theorem SS.parL {i j : Nat} {x y : Str} {px py pt : Pos} {kt k2 : Nat} {pt2 : Pos} {b1 : Bool} (hc : X.calm = true) (hN : X.N.Nodup) (hx : X.N[i]? = some x) (hy : X.N[j]? = some y) (hij : i ≠ j) (hi : i < X.N.length) (hj : j < X.N.length) (hlx : X.env.scope.names.lookup x = some .local) (hly : X.env.scope.names.lookup y = some .local)
    (hjm : j ∉ mv) (him : b1 = true → i ∈ mv) (him' : b1 = false → i ∉ mv)
    (ha : SE X (Gm.mk X.K fa ea) W mv ow ow1 (kO b1) a A) (hb : SE X (Gm.mk X.K fa ea) W mv ow1 ow2 .rp b Bb) (ho : owB b1 i ow2 = owN)
    (hs1 : starEach (a :: [b]) X.env = (false, eval a X.env) :: starEach [b] X.env := by rfl) (hs2 : starEach (b :: []) X.env = (false, eval b X.env) :: starEach [] X.env := by rfl)
    (hw : swappedStores [.Tuple [.Name x px, .Name y py] kt pt] (.Tuple [a, b] k2 pt2) X.env = pure (some [x, y])) (hs : swapsWithSole [.Tuple [.Name x px, .Name y py] kt pt] (.Tuple [a, b] k2 pt2) pos.line X.env = pure false := by rfl) :
    SS X (Gm.mk X.K fa ea) W mv ow owN owL kr (.Assign [.Tuple [.Name x px, .Name y py] kt pt] (.Tuple [a, b] k2 pt2) pos) (sPar b1 i j A Bb) :=
  ⟨fun pins s σ H D I h => (ps_par hc hN hx hy hij hlx hly (pa_cons ha (pa_cons hb pa_nil hs2) hs1) hw hs).run pins s σ H D I
    (par_end hij hi hj I.len hjm him him' ho (fun v w H2 => ∃ v' w', [v, w] = [v', w'] ∧ D.nx ((σ.set i (some v')).set j (some w')) H2) h fun v w H2 q _ => ⟨v, w, rfl, q⟩)⟩
/-- one of them a cell: by a tuple -/
theorem SS.parC {i j : Nat} {x y : Str} {px py pt : Pos} {kt k2 : Nat} {pt2 : Pos} {b1 : Bool} (hc : X.calm = true) (hN : X.N.Nodup) (hx : X.N[i]? = some x) (hy : X.N[j]? = some y) (hij : i ≠ j) (hi : i < X.N.length) (hj : j < X.N.length) (hlx : Loc X.env.scope x) (hly : Loc X.env.scope y)
    (hjm : j ∉ mv) (him : b1 = true → i ∈ mv) (him' : b1 = false → i ∉ mv)
    (ha : SE X (Gm.mk X.K fa ea) W mv ow ow1 (kO b1) a A) (hb : SE X (Gm.mk X.K fa ea) W mv ow1 ow2 .rp b Bb) (ho : owB b1 i ow2 = owN)
    (hfx : X.fn x = true ∨ X.env.scope.names.lookup x = some .local := by first | exact .inl rfl | exact .inr rfl | assumption) (hfy : X.fn y = true ∨ X.env.scope.names.lookup y = some .local := by first | exact .inl rfl | exact .inr rfl | assumption)
    (hs1 : starEach (a :: [b]) X.env = (false, eval a X.env) :: starEach [b] X.env := by rfl) (hs2 : starEach (b :: []) X.env = (false, eval b X.env) :: starEach [] X.env := by rfl)
    (hw : swappedStores [.Tuple [.Name x px, .Name y py] kt pt] (.Tuple [a, b] k2 pt2) X.env = pure none := by rfl) (hs : swapsWithSole [.Tuple [.Name x px, .Name y py] kt pt] (.Tuple [a, b] k2 pt2) pos.line X.env = pure false := by rfl)
    (h1 : (assignEach [.Tuple [.Name x px, .Name y py] kt pt] X.env).map (·.2) = [assign (.Tuple [.Name x px, .Name y py] kt pt) X.env] := by rfl)
    (hn : (assignEach [.Name x px, .Name y py] X.env).length = 2 := by rfl) (hst : (assignEach [.Name x px, .Name y py] X.env).findIdx? (·.1) = none := by rfl)
    (ha1 : (assignEach (.Name x px :: [.Name y py]) X.env).map (·.2) = assign (.Name x px) X.env :: (assignEach [.Name y py] X.env).map (·.2) := by rfl) (ha2 : (assignEach (.Name y py :: []) X.env).map (·.2) = assign (.Name y py) X.env :: (assignEach [] X.env).map (·.2) := by rfl) :
    SS X (Gm.mk X.K fa ea) W mv ow owN owL kr (.Assign [.Tuple [.Name x px, .Name y py] kt pt] (.Tuple [a, b] k2 pt2) pos) (sPar b1 i j A Bb) :=
  ⟨fun pins s σ H D I h => (ps_asg (pe_tup (pa_cons ha (pa_cons hb pa_nil hs2) hs1)) (pg_tup hc (pgs_cons (pg_name hN hx hlx hfx) (pgs_cons (pg_name hN hy hly hfy) pgs_nil ha2) ha1) hn hst) hs hw h1).run pins s σ H D I
    (par_end hij hi hj I.len hjm him him' ho (fun v w H2 => [v, w].length ≤ sizeLine ∧ ∀ p, H2 p = none → gTup X.K 2 (gCons (gName i) (gCons (gName j) gNil)) (.ref p) σ (upd H2 p (.tup [v, w])) D.nx) h fun v w H2 _ q =>
      ⟨by rw [sizeLine_eq]; show 2 ≤ _; decide, fun p n => ⟨p, [v, w], rfl, .inl (.inl upd_same), rfl, v, [w], rfl, w, [], rfl, rfl, q p n⟩⟩)⟩
end
/-! ### a def -/
theorem emp_none : ∀ n i, getS (emp n) i = none
  | 0, _ => rfl
  | n + 1, 0 => rfl
  | n + 1, i + 1 => emp_none n i
theorem emp_length : ∀ n, (emp n).length = n
  | 0 => rfl
  | n + 1 => by show (emp n).length + 1 = _; rw [emp_length n]
theorem start_length (k : Nat) : ∀ ds, (start k ds).length = ds.length + k
  | [] => by show (emp k).length = _; rw [emp_length]; simp
  | d :: ds => by show (start k ds).length + 1 = _; rw [start_length k ds, List.length_cons]; omega
theorem start_get {g : Gm} {F : Hp} {k : Nat} : ∀ {ds : List D} {vs : List V} {i : Nat} {d : D}, Paired (fun d v => Rp g F d v) ds vs → getS (start k ds) i = some d → i < ds.length ∧ ∃ v, vs[i]? = some v ∧ Rp g F d v
  | [], _, i, d, _, h => by
    have h : getS (emp k) i = some d := h
    rw [emp_none] at h; cases h
  | e :: ds, _, 0, d, .cons (b := v) r _, h => by
    cases h
    exact ⟨by simp, v, rfl, r⟩
  | e :: ds, _, i + 1, d, .cons r t, h => by
    obtain ⟨h1, v, h2, h3⟩ := start_get (i := i) t h
    exact ⟨by simp; omega, v, by simpa using h2, h3⟩
def kOf : Kd → Bool
  | .own => true
  | _ => false
theorem fn_ok {P : Program} {w : World} {K : Frag} {mg : Str → Option Value} {base : Heap} {fa ea : Nat → Option Addr} {n p k : Nat} {x qual : Str} {params : Arguments} {body : List Stmt} {scope : Scope} {f : Addr} {fd : FuncData} {N ps : List Str} {mv owN owL : List Nat} {kr : Kd} {S : ST}
    (Fd : FunD K x qual params body scope [] [] f fd) (Sc : FnScope N ps scope) (hp : ps.length = p) (hN : N.length = p + k) (hmv : ∀ i ∈ mv, p ≤ i) (hkr : kr ≠ .rd)
    (hb : ∀ (cdv : Value) (A : Around) (outer : List PySem.Env) (s : Shared) (H : Hp) (E : XK), Room n (A.deeper (envOfC qual scope s.heap.objs.size f cdv)) →
      SSs (cxOf (L2.CX P w) P w K mg base N qual scope f cdv A outer s H E) (Gm.mk K fa ea) (fun cls d _ H => E cls d H) mv [] owN owL kr body S) :
    FnOk P w K mg base (L2.CX P w) (n + 1) f fd ps (spF (Gm.mk K fa ea) p (kOf kr) (fnS p k S)) := by
  refine Fd.ok Sc (fun vs H Q E h => by rw [hp]; exact h.1) (fun cdv A outer s H vs Q E hr h => ⟨_, hb cdv A outer s H E hr, ?_⟩)
  obtain ⟨hl, F, ds, Sb, R, h⟩ := h
  have hds : ds.length = vs.length := Paired.length R
  have S0 : Sim (Gm.mk K fa ea) ⟨H, F, []⟩ F mv [] (_root_.F.start k ds) (emp (p + k)) (L2.start N vs) H := by
    refine ⟨Sb, fun a o e _ => e, fun a h => (by cases h), fun a _ => rfl, fun i d e => ?_, fun i d e => (by rw [emp_none] at e; cases e), fun i j d e a h => (by cases h), ?_, ?_⟩
    · obtain ⟨h1, v, h2, h3⟩ := start_get R e
      refine ⟨fun z => ?_, v, ?_, h3⟩
      · have := hmv i z
        omega
      · unfold L2.start
        have hlt : i < vs.length := by omega
        rw [List.getElem?_append_left (by simpa using hlt), List.getElem?_map, h2]
        rfl
    · rw [start_length]
      unfold L2.start
      rw [List.length_append, List.length_map, List.length_replicate]
      omega
    · rw [emp_length]
      unfold L2.start
      rw [List.length_append, List.length_map, List.length_replicate]
      omega
  refine ⟨⟨H, F, []⟩, F, _root_.F.start k ds, emp (p + k), rfl, S0, ?_⟩
  unfold fnS at h
  have eb : Nat.beq ds.length p = true := by rw [hds, hl]; exact Nat.beq_refl p
  rw [eb, if_pos rfl] at h
  have res : ∀ {d : D} {v : V} {H' F' : Hp}, ResK (Gm.mk K fa ea) kr H F' H' d v → Res (Gm.mk K fa ea) (kOf kr) H F' H' d v := fun R => by
    cases kr with
    | own => exact R
    | rp => exact Res.rp R
    | rd => exact absurd rfl hkr
  cases e : S (_root_.F.start k ds) (emp (p + k)) with
  | next r m => rw [e] at h; exact fun σ' H' F' S' => h .non H' F' (S'.frm rfl) (Res.imm rfl rfl)
  | brk r m => rw [e] at h; exact h.elim
  | cnt r m => rw [e] at h; exact h.elim
  | ret d m => rw [e] at h; exact fun v H' F' ad R => h v H' F' ad (res R)
  | exc c r => rw [e] at h; exact fun cls dd σ' H' F' hc S' => h cls dd H' F' hc (S'.frm rfl)
  | bad => rw [e] at h; exact h.elim
/-- no promise at depth none -/
theorem fn_bad {P : Program} {w : World} {K : Frag} {mg : Str → Option Value} {base : Heap} {CX : CXT} {n : Nat} {g : Gm} {f : Addr} {fd : FuncData} {ps : List Str} {p : Nat} {o : Bool} {b : Fn} (hb : ∀ ds, b ds = .bad) : FnOk P w K mg base CX n f fd ps (spF g p o b) :=
  ⟨fun vs H Q E ⟨_, F, ds, _, _, h⟩ => (by rw [hb] at h; exact h.elim), fun A outer s H args us vs Q E _ _ _ _ ⟨_, F, ds, _, _, h⟩ => (by rw [hb] at h; exact h.elim)⟩
end F
/-! F3l: try with several named except clauses. -/
namespace F
open PySem PySem.Spec PyProof.Rows L2
/-- the ends of a suite whose name (slot i) goes -/
def endI (D : Ends) (i : Nat) : Ends where
  nx := fun τ G => D.nx (τ.set i none) G
  rt := D.rt
  bk := fun τ G => D.bk (τ.set i none) G
  ct := fun τ G => D.ct (τ.set i none) G
abbrev Clause := Value × Nat × (Addr → Value → Option Addr → TS)
def wAll (K : Frag) (Wo : WX) (D : Ends) : List Clause → WX
  | [] => Wo
  | (c, i, ts) :: r => fun cls d τ G => ∃ b, PySem.W.exmOne K cls c = some b ∧ (b = true → ∀ a, G a = none → ts a cls d (endI D i) (τ.set i (some (.ref a))) G) ∧ (b = false → wAll K Wo D r cls d τ G)
inductive ClsOk (X : Cx) : List ExceptHandler → List Clause → Prop
  | nil : ClsOk X [] []
  | cons {x n : Str} {c : Value} {i : Nat} {ts : Addr → Value → Option Addr → TS} {b0 : Stmt} {su : List Stmt} {np hp : Pos} {hs : List ExceptHandler} {l : List Clause} (hi : X.N[i]? = some n) (hl : X.env.kindOf n = some .local) (hc : Names X x c)
      (hsu : ∀ (a : Addr) (oe : Obj) (cls : Value) (d : Option Addr) (pn : List (Addr × Obj)), Zc cls d oe → (∃ vs, oe.data = .fields vs) → PSs (X.suite a ((a, oe) :: pn)) (b0 :: su) (ts a cls d)) (r : ClsOk X hs l) :
      ClsOk X (.ExceptHandler (some (.Name x np)) (some n) (b0 :: su) hp :: hs) ((c, i, ts) :: l)
section
variable {X : Cx} {body : List Stmt} {h0 : ExceptHandler} {hs : List ExceptHandler} {l : List Clause} {pos : Pos} {tb : WX → TS} {Wo : WX}
theorem ps_tryAll (hst : X.stack = X.env :: X.outer) (hfm : X.env.frame = some X.env.locals) (hNd : X.N.Nodup) (tk : L2.Takes X Wo)
    (hb : ∀ (W : WX) (pn : List (Addr × Obj)) (xe : Value → Shared → Prop), L2.Takes (X.tr pn xe) W → PassesOwn (model X.prog X.w) X.A X.env xe → PSs (X.tr pn xe) body (tb W))
    (hh : ClsOk X (h0 :: hs) l) : PS X (.Try body (h0 :: hs) [] [] pos) (fun D τ G => tb (fun cls d τ G => τ.length = X.N.length → wAll X.K Wo D l cls d τ G) D τ G) := by
  refine ⟨fun pins s τ G D Iv hw => ?_⟩
  have okx := Iv.ok
  have hfs : X.A.frames = some (X.env :: X.outer) := by rw [okx.frames, hst]
  refine wpAny_Try_except (wpAny_mono ((hb (fun cls d τ G => τ.length = X.N.length → wAll X.K Wo D l cls d τ G) (X.pn ++ pins) (fun e s1 => wpAny (model X.prog X.w) X.A (noteFrame e X.env) (fun _ s2 => wpAny (model X.prog X.w) X.A (setFlight e none) (fun _ s3 =>
    wpAny (model X.prog X.w) X.A (handleBy e X.env (h0 :: hs)) (SP X pins D) X.xe s3) X.xe s2) X.xe s1) (fun u t xx => ?_) PassesOwn.looking).run [] s τ G D (Iv.toTry _) hw) (fun f t hsp => ?_) (fun e t he => he))
  · obtain ⟨a, Bh, sI, pins2, τ2, G2, cls, d, rfl, Jt, nb, up, sky, na, os, ag, wl⟩ := xx
    have Ja : Inv X pins τ2 G2 sI := Jt.ofTry okx
    have sky2 : Sky Bh (X.env :: X.outer) a (Zc cls d) X.env.locals t.heap := by rw [← hst]; exact sky
    show wpAny (model X.prog X.w) X.A (noteFrame (.ref a) X.env) _ _ _
    refine Sky.land Zc.steady hfs hfm sky2 fun g3 fl3 up3 => ?_
    have Jb : Inv X pins τ2 G2 { t with heap := g3 } := Ja.landed nb fl3.1 (up.trans up3) os ag
    obtain ⟨oe3, vs3, he3, hz3, hd3⟩ := fl3.there
    have nfr : a ∉ frs (X.env :: X.outer) := fun hm => by
      obtain ⟨_, oq, eq, hnf⟩ := fl3.2.2.1.mem hm
      rw [he3] at eq; cases eq
      exact hnf _ hd3
    have nLoc : a ≠ X.env.locals := fun z => nfr (List.mem_filterMap.mpr ⟨X.env, List.mem_cons_self, by rw [hfm, z]⟩)
    have nOut : a ∉ X.fs := fun hm => by
      obtain ⟨en, hen, q⟩ := List.mem_filterMap.mp hm
      exact nfr (List.mem_filterMap.mpr ⟨en, List.mem_cons_of_mem _ hen, q⟩)
    have Sa := Jb.suite he3 hd3 na nLoc nOut
    have go : ∀ {hs2 : List ExceptHandler} {l2 : List Clause}, ClsOk X hs2 l2 → wAll X.K Wo D l2 cls d τ2 G2 → wpAny (model X.prog X.w) X.A (handleBy (.ref a) X.env hs2) (SP X pins D) X.xe { t with heap := g3 } := by
      intro hs2 l2 hk
      induction hk with
      | nil =>
        intro wn
        refine wpAny_handleBy_nil ?_
        obtain ⟨q1, q2, q3, oe, vs, Ta, oT, tz, he, hz, hd, hv1, hr⟩ := id fl3
        unfold PySem.passOn
        refine wpAny_bind (wpAny_field he hd hv1 ?_)
        rw [if_neg (show ¬ ((Value.ref Ta == Value.none) = true) from by simp)]
        have fin : wpAny (model X.prog X.w) X.A (setFlight (.ref a) X.env.frame) (fun _ s4 => wpAny (model X.prog X.w) X.A (throw (.ref a) : Sem Flow) (SP X pins D) X.xe s4) X.xe { t with heap := g3 } := by
          rw [hfm]
          refine HandSPX.setFlight_upZ fl3 fun g4 hh4 up4 => wpAny_throw (tk _ _ ⟨a, Bh, sI, pins, τ2, G2, cls, d, rfl, Ja, nb, (up.trans up3).trans up4, .inr (.inr (by rw [hst]; exact hh4)), na, os, ag, wn⟩)
        first
          | exact wpAny_bind (wpAny_pure (wpAny_bind fin))
          | exact wpAny_bind fin
      | @cons x n c i ts b0 su np hp hds2 lr hi hl hc hsu r ih =>
        intro wc
        obtain ⟨b, hb1, hyes, hno⟩ := wc
        refine wpAny_handleBy_cons (codeAny_handlers_test ?_) (by intro q; cases q)
        have LT : PySem.W.Looks (model X.prog X.w) g3 (typeOf (.ref a)) cls := fun A Q E s k q => wpAny_typeOf_ref (k _ _ he3) (by rw [hz3.1]; exact q)
        have tst : ∀ {Q : Value → Shared → Prop} {E : Value → Shared → Prop}, Q c { t with heap := g3 } → wpAny (model X.prog X.w) (X.A.mark (some (.ref a))) (eval (.Name x np) X.env) Q E { t with heap := g3 } := fun {Q E} q => by
          obtain ⟨hgl, hdb, hm | ⟨hm, hv, hnn⟩⟩ := hc
          · exact ld_glob (X := X.suite a ((a, oe3) :: (X.pn ++ pins))) Sa hgl hm q hdb
          · exact ld_blt (X := X.suite a ((a, oe3) :: (X.pn ++ pins))) Sa hgl hm hv q hnn hdb
        refine tst ((PySem.W.exm_one (M := model X.prog X.w) Jb.kIn LT hb1).here ?_)
        cases b with
        | true =>
          refine codeAny_handlers_suite_as (HandSPX.lands_againZ fl3 fun g4 fl4 up4 => ?_)
          have Jc : Inv X pins τ2 G2 { t with heap := g4 } := Ja.landed nb fl4.1 ((up.trans up3).trans up4) os ag
          obtain ⟨oe4, vs4, he4, hz4, hd4⟩ := fl4.there
          have Sb := Jc.suite he4 hd4 na nLoc nOut
          refine store_ok (X := X.suite a ((a, oe4) :: (X.pn ++ pins))) (v := .ref a) Sb hNd hi (.inl hl) rfl (fun s5 Sc => ?_) (.inr hl)
          refine wpAny_mono ((hsu a oe4 cls d (X.pn ++ pins) hz4 ⟨_, hd4⟩).run [] s5 _ G2 _ Sc (hyes rfl a na)) (fun f s6 hq => ?_) (fun _ _ z => False.elim z)
          have goes : ∀ {τ6 : St} {G6 : Hp} {Q : Shared → Prop}, Inv (X.suite a ((a, oe4) :: (X.pn ++ pins))) [] τ6 G6 s6 → (∀ s7, Inv X pins (τ6.set i none) G6 s7 → Q s7) → wpAny (model X.prog X.w) X.A (do bindName X.env n .none; unbindBehindTheSuite X.env n hp) (fun _ s7 => Q s7) X.xe s6 :=
            fun {τ6 G6 Q} Sd hq => gone_ok (Sd.unsuite okx) hNd hi hl hq
          cases f with
          | next => obtain ⟨τ6, G6, Sd, q6⟩ := hq; exact goes Sd fun s7 J7 => ⟨_, _, J7, q6⟩
          | brk => obtain ⟨τ6, G6, Sd, q6⟩ := hq; exact goes Sd fun s7 J7 => ⟨_, _, J7, q6⟩
          | cont => obtain ⟨τ6, G6, Sd, q6⟩ := hq; exact goes Sd fun s7 J7 => ⟨_, _, J7, q6⟩
          | ret u => obtain ⟨v6, τ6, G6, Sd, r6, q6⟩ := hq; exact goes Sd fun s7 J7 => ⟨_, _, _, J7, r6, q6⟩
        | false => exact ih (hno rfl)
    exact go hh (wl Ja.len)
  · cases f with
    | next => obtain ⟨τ2, G2, Jt, q⟩ := hsp; exact wpAny_execs_nil ⟨τ2, G2, Jt.ofTry okx, q⟩
    | brk => obtain ⟨τ2, G2, Jt, q⟩ := hsp; exact ⟨τ2, G2, Jt.ofTry okx, q⟩
    | cont => obtain ⟨τ2, G2, Jt, q⟩ := hsp; exact ⟨τ2, G2, Jt.ofTry okx, q⟩
    | ret u => obtain ⟨v, τ2, G2, Jt, rv, q⟩ := hsp; exact ⟨v, τ2, G2, Jt.ofTry okx, rv, q⟩
end
end F
/-! F3m: try, by values. -/
namespace F
open PySem PySem.Spec PyProof.Rows L2
theorem empN_none : ∀ n i, getS (empN n) i = none
  | 0, _ => rfl
  | n + 1, 0 => rfl
  | n + 1, i + 1 => empN_none n i
theorem empN_length : ∀ n, (empN n).length = n
  | 0 => rfl
  | n + 1 => by show (empN n).length + 1 = _; rw [empN_length n]
section
variable {g : Gm} {B : Base} {F H : Hp} {mv ow : List Nat} {r m : Env} {σ : St}
/-- a slot that is told of no more -/
theorem Sim.hide (S : Sim g B F mv ow r m σ H) {i : Nat} {o : Option V} (hi : i ∉ mv) : Sim g B F mv ow (setS r i none) m (σ.set i o) H := by
  refine ⟨S.sub, S.fr, S.ls, S.gr, fun j e h => ?_, fun j e h => ?_, fun j k d' e' a h1 h2 h3 h4 h5 h6 h7 h8 h9 => ?_, by rw [setS_length, List.length_set]; exact S.lr, by rw [List.length_set]; exact S.lm⟩
  · by_cases q : j = i
    · subst q
      cases getS_same r j _ e h
    · rw [getS_other r i j _ q] at h
      obtain ⟨h1, w, h2, h3⟩ := S.rr j e h
      exact ⟨h1, w, by rw [List.getElem?_set_ne (Ne.symm q)]; exact h2, h3⟩
  · obtain ⟨h1, w, h2, h3⟩ := S.mm j e h
    have q : i ≠ j := fun z => hi (z ▸ h1)
    exact ⟨h1, w, by rw [List.getElem?_set_ne q]; exact h2, h3⟩
  · obtain ⟨q1, _⟩ := S.mm j d' h4
    obtain ⟨q2, _⟩ := S.mm k e' h5
    rw [List.getElem?_set_ne (fun z => hi (by rw [z]; exact q1))] at h8
    rw [List.getElem?_set_ne (fun z => hi (by rw [z]; exact q2))] at h9
    exact S.ap j k d' e' a h1 h2 h3 h4 h5 h6 h7 h8 h9
/-- no objects of names: any of them may be said to be own -/
theorem Sim.bare (S : Sim g B F mv ow r m σ H) (n : Nat) (hn : n = σ.length) (ow' : List Nat) : Sim g B F mv ow' r (empN n) σ H :=
  ⟨S.sub, S.fr, S.ls, S.gr, S.rr, (fun i d e => by rw [empN_none] at e; cases e), (fun i j d e a _ _ _ h => by rw [empN_none] at h; cases h), S.lr, by rw [empN_length]; exact hn⟩
end
section
variable {X : Cx} {fa ea : Nat → Option Addr} {W : WX} {mv ow owN owL : List Nat} {kr : Kd} {pos : Pos} {Sb : ST}
/-- what is known of a class that a clause names -/
structure EcF (K : Frag) (ea : Nat → Option Addr) (j : Nat) (Cj : Addr) : Prop where
  at_ : ea j = some Cj
  exm : ∀ c Cc, ea c = some Cc → PySem.W.exmOne K (.ref Cc) (.ref Cj) = some (Nat.beq c j)
  is : ExcC K Cj
  ve : PySem.W.kitOne K (.ref Cj) (.type "ValueError") = some true
/-- ["word", isinstance(name, ValueError)] of the exception at a -/
def tWord (X : Cx) (Cj a : Addr) (ie : Nat) (l : Str) : TE := tLst (tCons (tC (.str l)) (tCons (tCB (rIsE X.K Cj a) (tCons (tVar ie) (tCons (tC (.ty "ValueError")) tNil))) tNil))
theorem pe_word {a : Addr} {oe : Obj} {pn : List (Addr × Obj)} {Cj : Addr} {ie : Nat} {n : Str} {l : Str} {k0 : Nat} {q1 q2 q3 q4 q5 q6 : Pos} (C : ExcC X.K Cj) (hz : Zc (.ref Cj) none oe) (hf : ∃ vs, oe.data = .fields vs) (hi : X.N[ie]? = some n) (hl : X.env.scope.names.lookup n = some .local)
    (gI : Gl X "isinstance") (mI : X.mg "isinstance" = none) (gV : Gl X "ValueError") (mV : X.mg "ValueError" = none) (hd : (n == ("__debug__" : Str)) = false) (hcd : (n == ("__classdict__" : Str)) = false)
    (hs1 : starEach [.Name n q3, .Name "ValueError" q4] X.env = (false, eval (.Name n q3) X.env) :: starEach [.Name "ValueError" q4] X.env) (hs2 : starEach [.Name "ValueError" q4] X.env = (false, eval (.Name "ValueError" q4) X.env) :: starEach [] X.env)
    (hpl : (backTo q5 (starEach [.Name "ValueError" q4] X.env)).any (·.1) = false)
    (hs3 : starEach [.Constant (.str l) k0 q1, .Call (.Name "isinstance" q2) [.Name n q3, .Name "ValueError" q4] [] q5] X.env = (false, eval (.Constant (.str l) k0 q1) X.env) :: starEach [.Call (.Name "isinstance" q2) [.Name n q3, .Name "ValueError" q4] [] q5] X.env)
    (hs4 : starEach [.Call (.Name "isinstance" q2) [.Name n q3, .Name "ValueError" q4] [] q5] X.env = (false, eval (.Call (.Name "isinstance" q2) [.Name n q3, .Name "ValueError" q4] [] q5) X.env) :: starEach [] X.env) :
    PE (X.suite a ((a, oe) :: pn)) (.List [.Constant (.str l) k0 q1, .Call (.Name "isinstance" q2) [.Name n q3, .Name "ValueError" q4] [] q5] q6) (tWord X Cj a ie l) :=
  pe_lst (pa_cons pe_str (pa_cons (pe_callB (call_isE C hz hf) gI mI boot_isinstance (pa_cons (pe_var hi (.inl hl) hd hcd) (pa_cons (pe_bltn gV mV boot_ValueError (v := .ty "ValueError") rfl) pa_nil hs2) hs1) (by decide) (by decide) hs1 hpl) pa_nil hs4) hs3)
theorem word_reads {Cj a : Addr} {ie : Nat} {l : List Nat} {σ : St} {H : Hp} {Q : VK} (ve : PySem.W.kitOne X.K (.ref Cj) (.type "ValueError") = some true) (hs : σ[ie]? = some (some (.ref a)))
    (q : ∀ p, H p = none → Q (.ref p) (upd H p (.lst [.str ⟨l.toArray⟩, .bl true]))) : tWord X Cj a ie ⟨l.toArray⟩ σ H Q :=
  ⟨.ref a, hs, .ty "ValueError", .type "ValueError", true, rfl, (fun u r => r), ve, by rw [sizeLine_eq]; show 2 ≤ _; decide, q⟩
/-- clauses of this form -/
inductive HdD (X : Cx) (ea : Nat → Option Addr) (mv : List Nat) (kr : Kd) : List ExceptHandler → List Hdl → Prop
  | nil : HdD X ea mv kr [] []
  | asg {x n y : Str} {j ie i : Nat} {Cj : Addr} {l : List Nat} {k0 : Nat} {np hp q0 q1 q2 q3 q4 q5 q6 q7 : Pos} {hs : List ExceptHandler} {L : List Hdl} (ec : EcF X.K ea j Cj) (hi : X.N[ie]? = some n) (hl : X.env.scope.names.lookup n = some .local) (hc : Names X x (.ref Cj)) (him : ie ∉ mv)
      (hy : X.N[i]? = some y) (hly : X.env.scope.names.lookup y = some .local) (hyl : i < X.N.length) (hym : i ∉ mv) (hne : ie < X.N.length)
      (w : ∀ (a : Addr) (oe : Obj) (pn : List (Addr × Obj)), Zc (.ref Cj) none oe → (∃ vs, oe.data = .fields vs) → PE (X.suite a ((a, oe) :: pn)) (.List [.Constant (.str ⟨l.toArray⟩) k0 q1, .Call (.Name "isinstance" q2) [.Name n q3, .Name "ValueError" q4] [] q5] q6) (tWord X Cj a ie ⟨l.toArray⟩))
      (hsw : swapsWithSole [.Name y q0] (.List [.Constant (.str ⟨l.toArray⟩) k0 q1, .Call (.Name "isinstance" q2) [.Name n q3, .Name "ValueError" q4] [] q5] q6) q7.line X.env = pure false) (hw : swappedStores [.Name y q0] (.List [.Constant (.str ⟨l.toArray⟩) k0 q1, .Call (.Name "isinstance" q2) [.Name n q3, .Name "ValueError" q4] [] q5] q6) X.env = pure none)
      (h1 : (assignEach [.Name y q0] X.env).map (·.2) = [assign (.Name y q0) X.env]) (r : HdD X ea mv kr hs L) :
      HdD X ea mv kr (.ExceptHandler (some (.Name x np)) (some n) [.Assign [.Name y q0] (.List [.Constant (.str ⟨l.toArray⟩) k0 q1, .Call (.Name "isinstance" q2) [.Name n q3, .Name "ValueError" q4] [] q5] q6) q7] hp :: hs) ((j, ie, some i, l) :: L)
  | ret {x n : Str} {j ie : Nat} {Cj : Addr} {l : List Nat} {k0 : Nat} {np hp q1 q2 q3 q4 q5 q6 q7 : Pos} {hs : List ExceptHandler} {L : List Hdl} (hk : kr = .rp) (ec : EcF X.K ea j Cj) (hi : X.N[ie]? = some n) (hl : X.env.scope.names.lookup n = some .local) (hc : Names X x (.ref Cj)) (him : ie ∉ mv) (hne : ie < X.N.length)
      (w : ∀ (a : Addr) (oe : Obj) (pn : List (Addr × Obj)), Zc (.ref Cj) none oe → (∃ vs, oe.data = .fields vs) → PE (X.suite a ((a, oe) :: pn)) (.List [.Constant (.str ⟨l.toArray⟩) k0 q1, .Call (.Name "isinstance" q2) [.Name n q3, .Name "ValueError" q4] [] q5] q6) (tWord X Cj a ie ⟨l.toArray⟩))
      (r : HdD X ea mv kr hs L) :
      HdD X ea mv kr (.ExceptHandler (some (.Name x np)) (some n) [.Return (some (.List [.Constant (.str ⟨l.toArray⟩) k0 q1, .Call (.Name "isinstance" q2) [.Name n q3, .Name "ValueError" q4] [] q5] q6)) q7] hp :: hs) ((j, ie, none, l) :: L)
theorem HdD.ok (hN : X.N.Nodup) {hs : List ExceptHandler} {L : List Hdl} (h : HdD X ea mv kr hs L) : ∃ cl, ClsOk X hs cl ∧ ∀ (B : Base) (F H : Hp) (r : Env) (σ : St) (c : Nat) (cls : Value) (dd : Option Addr) (D : Ends), B.L = [] → σ.length = X.N.length → ExC (Gm.mk X.K fa ea) c cls dd → Sim (Gm.mk X.K fa ea) B F mv [] r (emp' σ) σ H →
    (match findH c L with
      | some (ie, some i, l) => ∀ σ' H' F', Sim (Gm.mk X.K fa ea) B F' mv owN (setS (setS (setS r ie none) i (some (.lst [.str l, .bl true]))) ie none) (empN r.length) σ' H' → D.nx σ' H'
      | some (_, none, l) => ∀ v H' F', Adv B.F B.H F' H' → ResK (Gm.mk X.K fa ea) kr B.H F' H' (.lst [.str l, .bl true]) v → D.rt v H'
      | none => W cls dd σ H) → wAll X.K W D cl cls dd σ H := by
  induction h with
  | nil => exact ⟨[], .nil, fun B F H r σ c cls dd D _ _ _ _ h => h⟩
  | @asg x n y j ie i Cj l k0 np hp q0 q1 q2 q3 q4 q5 q6 q7 hs L ec hi hl hc him hy hly hyl hym hne w hsw hw h1 r ih =>
    obtain ⟨cl, ok, hcl⟩ := ih
    refine ⟨(.ref Cj, ie, fun a cls d D σ H => cls = .ref Cj ∧ d = none ∧ tAsg (tWord X Cj a ie ⟨l.toArray⟩) (gName i) D σ H) :: cl, .cons hi hl hc (fun a oe cls d pn hz hf => pss_one ⟨fun pins s σ H D I ⟨e1, e2, h⟩ => ?_⟩) ok, ?_⟩
    · subst e1 e2
      exact (ps_asg (X := X.suite a ((a, oe) :: pn)) (w a oe pn hz hf) (pg_name hN hy (.inl hly) (.inr hly)) hsw hw h1).run pins s σ H D I h
    · intro B F H r σ c cls dd D hL hlen hx S h
      obtain ⟨Cc, e1, rfl, rfl⟩ := hx
      have e1 : ea c = some Cc := e1
      refine ⟨Nat.beq c j, ec.exm c Cc e1, fun eb a na => ?_, fun eb => hcl B F H r σ c _ none D hL hlen ⟨Cc, e1, rfl, rfl⟩ S ?_⟩
      · have ej : c = j := Nat.eq_of_beq_eq_true eb
        subst ej
        rw [ec.at_] at e1
        cases e1
        have ef : findH c ((c, ie, some i, l) :: L) = some (ie, some i, l) := by unfold findH; rw [Nat.beq_refl, if_pos rfl]
        rw [ef] at h
        have S1 := S.hide (i := ie) (o := some (.ref a)) him
        refine ⟨rfl, rfl, word_reads ec.ve (by rw [List.getElem?_set_self (by rw [hlen]; exact hne)]) fun p np => ?_⟩
        have ad : Adv F H (upd F p (.lst [.str ⟨l.toArray⟩, .bl true])) (upd H p (.lst [.str ⟨l.toArray⟩, .bl true])) := Adv.frozen S.sub np
        have S2 := (S1.step ad).setR (i := i) (d := .lst [.str l, .bl true]) (v := .ref p) hym (by rw [List.length_set, hlen]; exact hyl) ⟨p, _, rfl, upd_same, .str ⟨l.toArray⟩, [.bl true], rfl, rfl, .bl true, [], rfl, rfl, rfl⟩
        have S3 := S2.hide (i := ie) (o := none) him
        exact h _ _ _ (S3.bare r.length (by rw [List.length_set, List.length_set, List.length_set]; exact S.lr) owN)
      · have ef : findH c ((j, ie, some i, l) :: L) = findH c L := by
          show (if Nat.beq c j then _ else _) = _
          rw [eb]; rfl
        rw [ef] at h; exact h
  | @ret x n j ie Cj l k0 np hp q1 q2 q3 q4 q5 q6 q7 hs L hk ec hi hl hc him hne w r ih =>
    obtain ⟨cl, ok, hcl⟩ := ih
    refine ⟨(.ref Cj, ie, fun a cls d D σ H => cls = .ref Cj ∧ d = none ∧ tRet (tWord X Cj a ie ⟨l.toArray⟩) D σ H) :: cl, .cons hi hl hc (fun a oe cls d pn hz hf => pss_one ⟨fun pins s σ H D I ⟨e1, e2, h⟩ => ?_⟩) ok, ?_⟩
    · subst e1 e2
      exact (ps_ret (X := X.suite a ((a, oe) :: pn)) (w a oe pn hz hf)).run pins s σ H D I h
    · intro B F H r σ c cls dd D hL hlen hx S h
      obtain ⟨Cc, e1, rfl, rfl⟩ := hx
      have e1 : ea c = some Cc := e1
      refine ⟨Nat.beq c j, ec.exm c Cc e1, fun eb a na => ?_, fun eb => hcl B F H r σ c _ none D hL hlen ⟨Cc, e1, rfl, rfl⟩ S ?_⟩
      · have ej : c = j := Nat.eq_of_beq_eq_true eb
        subst ej
        rw [ec.at_] at e1
        cases e1
        have ef : findH c ((c, ie, none, l) :: L) = some (ie, none, l) := by unfold findH; rw [Nat.beq_refl, if_pos rfl]
        rw [ef] at h
        refine ⟨rfl, rfl, word_reads ec.ve (by rw [List.getElem?_set_self (by rw [hlen]; exact hne)]) fun p np => ?_⟩
        have ad : Adv F H (upd F p (.lst [.str ⟨l.toArray⟩, .bl true])) (upd H p (.lst [.str ⟨l.toArray⟩, .bl true])) := Adv.frozen S.sub np
        subst hk
        exact h _ _ _ ((S.frm hL).trans ad) ⟨p, _, rfl, upd_same, .str ⟨l.toArray⟩, [.bl true], rfl, rfl, .bl true, [], rfl, rfl, rfl⟩
      · have ef : findH c ((j, ie, none, l) :: L) = findH c L := by
          show (if Nat.beq c j then _ else _) = _
          rw [eb]; rfl
        rw [ef] at h; exact h
theorem SS.tryA {body : List Stmt} {h0 : ExceptHandler} {hds : List ExceptHandler} {L : List Hdl} (hst : X.stack = X.env :: X.outer) (hfm : X.env.frame = some X.env.locals) (hN : X.N.Nodup) (tk : L2.Takes X W) (hh : HdD X ea mv kr (h0 :: hds) L)
    (hb : ∀ (W' : WX) (pn : List (Addr × Obj)) (xe : Value → Shared → Prop), L2.Takes (X.tr pn xe) W' → PassesOwn (model X.prog X.w) X.A X.env xe → SSs (X.tr pn xe) (Gm.mk X.K fa ea) W' mv ow owN owL kr body Sb) : SS X (Gm.mk X.K fa ea) W mv ow owN owL kr (.Try body (h0 :: hds) [] [] pos) (sTry Sb L) := by
  obtain ⟨cl, ok, hcl⟩ := HdD.ok (W := W) (fa := fa) (owN := owN) hN hh
  refine ⟨fun pins s σ H D I ⟨B, F, r, m, hL, S, h⟩ => (ps_tryAll hst hfm hN tk (tb := fun W' => tS (Gm.mk X.K fa ea) W' mv ow owN owL kr Sb) hb ok).run pins s σ H D I ⟨B, F, r, m, hL, S, ?_⟩⟩
  unfold sTry at h
  cases e : Sb r m with
  | next r' m' => rw [e] at h; exact h
  | brk r' m' => rw [e] at h; exact h
  | cnt r' m' => rw [e] at h; exact h
  | ret d m' => rw [e] at h; exact h
  | bad => rw [e] at h; exact h
  | exc c r' =>
    rw [e] at h
    exact fun cls dd σ' H' F' hx S' hl => hcl B F' H' r' σ' c cls dd D hL hl hx S' (by
      cases ef : findH c L with
      | none => simp only [ef] at h ⊢; exact h cls dd σ' H' F' hx S'
      | some q =>
        obtain ⟨ie, t, l⟩ := q
        cases t with
        | none => simp only [ef] at h ⊢; exact h
        | some i => simp only [ef] at h ⊢; exact h)
end
end F
/-! F3n: enumerate over a tuple. -/
namespace F
namespace En
open PySem
open PySem.Sem (wp)
section
variable {prog : Program} {w : World} {A : Around} {E : Value → Shared → Prop} {s : Shared}
theorem enumT_item {e it l : Addr} {i : Nat} {items : Array Value} {x was : Value} {Q : Value → Shared → Prop}
    (eE : IsEnum s.heap e it i was) (eI : s.heap.IsTupleIter it l i) (eL : s.heap.IsTuple l items) (eX : items[i]? = some x) (eN : e ≠ it)
    (kQ : ∀ g', IsEnumOut g' e it ((i : Int) + 1) x s.heap.objs.size → g'.IsTupleIter it l (i + 1) →
      g'.get? s.heap.objs.size = some { cls := .type "tuple", data := .seq #[.int i s.toks, x] } → g'.objs.size = s.heap.objs.size + 1 →
      (∀ b o, b ≠ e → b ≠ it → s.heap.get? b = some o → g'.get? b = some o) → Q (.ref s.heap.objs.size) { s with heap := g', toks := s.toks + 1 }) :
    wpAny (model prog w) A (Builtin.«enumerate.__next__» ⟨[.ref e], []⟩) (fun fin s' => ∃ v, fin = .done (.ret v) ∧ Q v s') E s := by
  obtain ⟨hA, g, d, tk, os⟩ := s
  show wpAny _ _ (field (.ref e) 2 >>= _) _ _ _
  refine wpAny_bind (wpAny_field eE rfl (x := .ref it) rfl ?_)
  refine wpAny_bind (RZ.nextOf_tuple_item eI eL eX fun g1 i1 b1 => ?_)
  replace b1 : Heap.SameBut it hA g1 := b1
  have e1 : IsEnum g1 e it i was := (b1.2 e eN).trans eE
  show wpAny _ _ (field (.ref e) 3 >>= _) _ _ ⟨g1, g, d, tk, os⟩
  refine wpAny_bind (wpAny_field e1 rfl (x := rawInt i) rfl ?_)
  show wpAny _ _ (field (.ref e) 4 >>= _) _ _ ⟨g1, g, d, tk, os⟩
  refine wpAny_bind (wpAny_field e1 rfl (x := .none) rfl ?_)
  show wpAny _ _ (mkInt i >>= _) _ _ ⟨g1, g, d, tk, os⟩
  refine wpAny_bind (wpAny_mkInt ?_)
  show wpAny _ _ (setField (.ref e) 3 (rawInt ((i : Int) + 1)) >>= _) _ _ ⟨g1, g, d, tk + 1, os⟩
  refine wpAny_bind (wpAny_setField_rec e1 (by simp) fun g2 e2 b2 => ?_)
  replace b2 : Heap.SameBut e g1 g2 := b2
  replace e2 : IsEnum g2 e it ((i : Int) + 1) was := e2
  show wpAny _ _ (setField (.ref e) 4 .none >>= _) _ _ ⟨g2, g, d, tk + 1, os⟩
  refine wpAny_bind (wpAny_setField_rec e2 (by simp) fun g3 e3 b3 => ?_)
  replace b3 : Heap.SameBut e g2 g3 := b3
  replace e3 : IsEnum g3 e it ((i : Int) + 1) was := e3
  show wpAny _ _ (newTuple [.int i tk, x] >>= _) _ _ ⟨g3, g, d, tk + 1, os⟩
  refine wpAny_bind (wpAny_newTuple ?_)
  have e4 : IsEnum (g3.push { cls := .type "tuple", data := .seq #[.int i tk, x] }) e it ((i : Int) + 1) was := Heap.get?_push_of_some _ e3
  generalize q4 : g3.push { cls := .type "tuple", data := .seq #[.int i tk, x] } = g4 at e4
  have zS : g3.objs.size = hA.objs.size := by rw [b3.1, b2.1, b1.1]
  have zE : e < hA.objs.size := Heap.lt_size eE
  have t4 : g4.get? hA.objs.size = some { cls := .type "tuple", data := .seq #[.int i tk, x] } := by rw [← q4, ← zS]; exact Heap.get?_push_size _ rfl
  have z4 : g4.objs.size = hA.objs.size + 1 := by rw [← q4, Heap.size_push, zS]
  have k4 : ∀ b o, b ≠ e → b ≠ it → hA.get? b = some o → g4.get? b = some o := fun b o n1 n2 n3 => by
    rw [← q4]; exact Heap.get?_push_of_some _ (b3.extBut b o n1 (b2.extBut b o n1 (b1.extBut b o n2 n3)))
  have i4 : g4.IsTupleIter it l (i + 1) := by
    rw [← q4]; obtain ⟨o, ho, r⟩ := (i1.extBut b2.extBut (Ne.symm eN)).extBut b3.extBut (Ne.symm eN); exact ⟨o, Heap.get?_push_of_some _ ho, r⟩
  show wpAny _ _ (Builtin.SmallTypes.ownedTupleIsFree (.ref e) >>= _) _ _ ⟨g4, g, d, tk + 1, os⟩
  rw [zS]
  clear q4 e3 b3 e2 b2 e1 b1 i1 zS g3 g2 g1
  refine wpAny_bind ?_
  · unfold Builtin.SmallTypes.ownedTupleIsFree
    refine wpAny_bind (wpAny_field e4 rfl (x := .none) rfl (wpAny_pure ?_))
    simp only [if_true]
    refine wpAny_bind (wpAny_rule ?_)
    refine wpAny_bind (wpAny_field e4 rfl (x := was) rfl ?_)
    refine wpAny_bind (wpAny_setField_rec e4 (by simp) fun g5 e5 b5 => ?_)
    replace b5 : Heap.SameBut e g4 g5 := b5
    replace e5 : IsEnum g5 e it ((i : Int) + 1) x := e5
    show wpAny _ _ (Builtin.SmallTypes.ownedTupleHandOut (.ref e) (.ref hA.objs.size) >>= _) _ _ ⟨g5, g, d, tk + 1, os⟩
    refine wpAny_bind ?_
    · unfold Builtin.SmallTypes.ownedTupleHandOut
      refine wpAny_bind (wpAny_setField_rec e5 (by simp) fun g6 e6 b6 => ?_)
      replace b6 : Heap.SameBut e g5 g6 := b6
      replace e6 : IsEnumOut g6 e it ((i : Int) + 1) x hA.objs.size := e6
      refine wpAny_setField_rec e6 (by simp) fun g7 e7 b7 => ?_
      replace b7 : Heap.SameBut e g6 g7 := b7
      replace e7 : IsEnumOut g7 e it ((i : Int) + 1) x hA.objs.size := e7
      refine wpAny_bind (wpAny_letGo (wpAny_pure ⟨_, rfl, kQ g7 e7 ?_ ?_ ?_ ?_⟩))
      · exact ((i4.extBut b5.extBut (Ne.symm eN)).extBut b6.extBut (Ne.symm eN)).extBut b7.extBut (Ne.symm eN)
      · exact b7.extBut _ _ (Nat.ne_of_gt zE) (b6.extBut _ _ (Nat.ne_of_gt zE) (b5.extBut _ _ (Nat.ne_of_gt zE) t4))
      · rw [b7.1, b6.1, b5.1, z4]
      · exact fun b o n1 n2 n3 => b7.extBut b o n1 (b6.extBut b o n1 (b5.extBut b o n1 (k4 b o n1 n2 n3)))

theorem pyNext_enumT_item {e it l : Addr} {i : Nat} {items : Array Value} {x was : Value} {Q : Option Value → Shared → Prop}
    (eE : IsEnum s.heap e it i was) (eI : s.heap.IsTupleIter it l i) (eL : s.heap.IsTuple l items) (eX : items[i]? = some x) (eN : e ≠ it)
    (kQ : ∀ g', IsEnumOut g' e it ((i : Int) + 1) x s.heap.objs.size → g'.IsTupleIter it l (i + 1) →
      g'.get? s.heap.objs.size = some { cls := .type "tuple", data := .seq #[.int i s.toks, x] } → g'.objs.size = s.heap.objs.size + 1 →
      (∀ b o, b ≠ e → b ≠ it → s.heap.get? b = some o → g'.get? b = some o) → Q (some (.ref s.heap.objs.size)) { s with heap := g', toks := s.toks + 1 }) :
    wpAny (model prog w) A (pyNext (.ref e)) Q E s := by
  have tE : s.TypeIs (.ref e) "enumerate" := ⟨_, eE, rfl⟩
  unfold pyNext
  exact wpAny_bind (wpAny_attempt (wpAny_callSpecial?_slot (name := Str.ofString "__next__") tE PySem.F.slot_enumerate_next
    (wpAny_call_entry PySem.F.slot_enumerate_next tE PySem.F.entry_enumerate_next
      (enumT_item eE eI eL eX eN fun g' a b c d k => wpAny_pure (kQ g' a b c d k)) (PySem.F.args_enumerate_next_1 _))))

theorem pyNext_enumT_end {e it l : Addr} {i : Nat} {items : Array Value} {was : Value} {Q : Option Value → Shared → Prop} (hH : A.handled = none)
    (eE : IsEnum s.heap e it i was) (eI : s.heap.IsTupleIter it l i) (eL : s.heap.IsTuple l items) (eX : items[i]? = none)
    (kQ : ∀ g', Heap.ExtBut it s.heap g' → Q none { s with heap := g' }) : wpAny (model prog w) A (pyNext (.ref e)) Q E s := by
  have tE : s.TypeIs (.ref e) "enumerate" := ⟨_, eE, rfl⟩
  unfold pyNext
  refine wpAny_bind (wpAny_attempt (wpAny_callSpecial?_slot (name := Str.ofString "__next__") tE PySem.F.slot_enumerate_next
    (wpAny_call_entry PySem.F.slot_enumerate_next tE PySem.F.entry_enumerate_next ?_ (PySem.F.args_enumerate_next_1 _))))
  show wpAny _ _ (field (.ref e) 2 >>= _) _ _ _
  refine wpAny_bind (wpAny_field eE rfl (x := .ref it) rfl ?_)
  refine wpAny_bind (RZ.nextOf_tuple_end hH eI eL eX fun g' x eE' eX' => ?_)
  obtain ⟨o, ho, hc⟩ := eX'
  refine wpAny_bind (wpAny_isInstance (T := "StopIteration") (b := true) ⟨o, ho, hc⟩ isSubtype_stop ?_)
  exact wpAny_pure (kQ _ eE')
end
theorem meets_enumerate_newT (l : Addr) (items : Array Value) (n : Nat) (dct : Option Addr) (sl : Array (Option Value)) :
    Meets (Builtin.«enumerate.__new__» ⟨[.type "enumerate", .ref l], []⟩) (fun _ R s => s.heap.get? l = some { cls := .type "tuple", dict := dct, data := .seq items n, slots := sl } ∧
      R (.ok (.ret (.ref (s.heap.push { cls := .type "tuple_iterator", data := .fields #[.ref l, .int 0 0] }).objs.size)))
        { s with heap := (s.heap.push { cls := .type "tuple_iterator", data := .fields #[.ref l, .int 0 0] }).push { cls := .type "enumerate", data := .fields #[.none, .bool false, .ref s.heap.objs.size, rawInt 0, .none, .none] } }) :=
  .of_wp fun prog w A R s h => by
    obtain ⟨hp, g, d, tk, os⟩ := s; obtain ⟨hl, h⟩ := h
    have hsub := sub_enumerate
    have pT : Heap.IsTuple (Shared.heap ⟨hp, g, d, tk, os⟩) l items := ⟨_, hl, rfl, _, rfl⟩
    wp_walk using AutoSeq1.wpAny_loadPart' hl
    refine wpAny_stack_any fun st => wpAny_pure ?_
    split
    · rename_i c _ _ _ _ _
      cases (c == Value.type "enumerate")
      · wp_walk using AutoSeq1.wpAny_loadPart' hl, wpAny_pyIter_tuple pT
        exact ⟨_, rfl, h⟩
      · wp_walk using AutoSeq1.wpAny_loadPart' hl, wpAny_pyIter_tuple pT
        exact ⟨_, rfl, h⟩
    · wp_walk using AutoSeq1.wpAny_loadPart' hl, wpAny_pyIter_tuple pT
      exact ⟨_, rfl, h⟩
theorem call_enumerate_tuple {prog : Program} {w : World} {A : Around} {E : Value → Shared → Prop} {s : Shared} {l : Addr} {items : Array Value} {Q : Value → Shared → Prop} (pT : s.heap.IsTuple l items)
    (h : ∀ g', IsEnum g' (s.heap.objs.size + 1) s.heap.objs.size 0 .none → g'.IsTupleIter s.heap.objs.size l 0 → g'.objs.size = s.heap.objs.size + 2 →
      (∀ b o, s.heap.get? b = some o → g'.get? b = some o) → Q (.ref (s.heap.objs.size + 1)) { s with heap := g' }) :
    wpAny (model prog w) A (call (.type "enumerate") [.ref l]) Q E s := by
  obtain ⟨⟨c, dct, dt, sl⟩, hl, hc, n, hd⟩ := pT
  replace hc : c = .type "tuple" := hc
  replace hd : dt = .seq items n := hd
  subst hc hd
  refine callType_new PySem.F.called_enumerate (by decide) (PySem.F.typeCall_enumerate_1 _) (PySem.F.newCall_enumerate_1 _) (fun obj => PySem.F.args_object_init_2 obj _) PySem.F.entry_enumerate_new
    (meets_enumerate_newT l items n dct sl) ⟨hl, ?_⟩
  have zz : (s.heap.push { cls := .type "tuple_iterator", data := .fields #[.ref l, .int 0 0] }).objs.size = s.heap.objs.size + 1 := Heap.size_push ..
  show _ ∧ _
  rw [zz]
  have he : IsEnum ((s.heap.push { cls := .type "tuple_iterator", data := .fields #[.ref l, .int 0 0] }).push
      { cls := .type "enumerate", data := .fields #[.none, .bool false, .ref s.heap.objs.size, rawInt 0, .none, .none] }) (s.heap.objs.size + 1) s.heap.objs.size 0 .none := by
    have := Heap.get?_push_size (s.heap.push { cls := .type "tuple_iterator", data := .fields #[.ref l, .int 0 0] })
      (o := { cls := .type "enumerate", data := .fields #[.none, .bool false, .ref s.heap.objs.size, rawInt 0, .none, .none] }) rfl
    rw [zz] at this; exact this
  refine ⟨⟨_, he, rfl⟩, h _ he ⟨_, Heap.get?_push_of_some _ (Heap.get?_push_size _ rfl), rfl, rfl⟩ (by rw [Heap.size_push, zz]) fun b o x => Heap.get?_push_of_some _ (Heap.get?_push_of_some _ x)⟩
end En

open PySem PySem.Spec PyProof.Rows L2
def IteT (K : PySem.W.Frag) (a : Addr) : It :=
  ⟨fun i H => ∃ (xs : List V) (x : V), SqT K H a xs ∧ xs[i]? = some x, fun i H v H' => ∃ T x, v = .ref T ∧ H T = none ∧ H' = upd H T (.tup [.int (i : Nat), x]) ∧ ∀ xs, SqT K H a xs → xs[i]? = some x, fun i H => ∃ xs : List V, SqT K H a xs ∧ xs.length ≤ i⟩
theorem turn_enumT {P : Program} {w : World} {K : PySem.W.Frag} {elts : List Expr} {kk : Nat} {tpos : Pos} (a e it : Addr) :
    Turn P w K (.Tuple elts kk tpos) (IteT K a) [e, it] e (fun i h => (∃ was, IsEnum h e it ((i : Nat) : Int) was) ∧ h.IsTupleIter it a i ∧ e ≠ it) where
  mem := by simp
  obj := fun i h tt b n3 => by
    obtain ⟨⟨was, eE⟩, ⟨o, ho, hc, hd⟩, _⟩ := tt
    have e' : b = e ∨ b = it := by simpa using n3
    rcases e' with z | z
    · rw [z]; exact ⟨_, eE, fun v q => nomatch q⟩
    · rw [z]; exact ⟨o, ho, fun v q => by rw [hd] at q; cases q⟩
  keep := fun i h g' tt k => let ⟨⟨was, eE⟩, hi, eN⟩ := tt; ⟨⟨was, k e (by simp) _ eE⟩, hi.at fun o q => k it (by simp) o q, eN⟩
  item := by
    intro X pP pW pK hc i pins s σ H E I fF tt gG
    subst pP pW pK
    obtain ⟨⟨was, eE⟩, eI, eN⟩ := tt
    obtain ⟨xs, x, xQ, eX⟩ := gG
    obtain ⟨us, rV, p, zz⟩ := I.tuple xQ
    obtain ⟨u, uu2, rU⟩ := rV.get eX
    have zE : e < s.heap.objs.size := Heap.lt_size eE
    have zI : it < s.heap.objs.size := by obtain ⟨_, q, _⟩ := eI; exact Heap.lt_size q
    refine En.pyNext_enumT_item eE eI (show s.heap.IsTuple a us.toArray from p) (x := u) (by simpa using uu2) eN fun g' ho eI' tE zS kK => ?_
    refine ⟨_, rfl, wpAny_letOwnedTupleGo_enum (s := { s with heap := g', toks := s.toks + 1 }) ho fun g'' eE' b9 => ?_⟩
    have t2 : g''.get? s.heap.objs.size = some { cls := .type "tuple", data := .seq #[.int i s.toks, u] } := (b9.2 _ (Nat.ne_of_gt zE)).trans tE
    have nW : ObjOk X.prog X.w (upd H s.heap.objs.size (.tup [.int (i : Nat), x])) g'' s.heap.objs.size (.tup [.int (i : Nat), x]) :=
      ⟨by show 2 ≤ sizeLine; decide, [.int i s.toks, u], .cons ⟨_, rfl⟩ (.cons rU .nil), ⟨_, t2, rfl, _, rfl⟩⟩
    have J1 : Inv X pins σ (upd H s.heap.objs.size (.tup [.int (i : Nat), x])) { s with heap := g'', toks := s.toks + 1 } :=
      I.turnedNew (ch := [e, it]) (fun b ob n3 q => (b9.2 b (fun z => n3 (by simp [z]))).trans (kK b ob (fun z => n3 (by simp [z])) (fun z => n3 (by simp [z])) q)) fF (Nat.le_refl _) nW
    refine ⟨.ref s.heap.objs.size, _, J1, rfl, ⟨_, x, rfl, I.hok.fresh (Nat.le_refl _), rfl, fun ys hy => by rw [I.tuple_inj hy xQ]; exact eX⟩, ⟨⟨u, ?_⟩, eI'.at fun o q => (b9.2 it (Ne.symm eN)).trans q, eN⟩, fun b n3 => ?_⟩
    · have e1 : ((i + 1 : Nat) : Int) = (i : Int) + 1 := by omega
      rw [e1]; exact eE'
    · have n3' : b < s.heap.objs.size := by
        have e' : b = e ∨ b = it := by simpa using n3
        rcases e' with z | z
        · rw [z]; exact zE
        · rw [z]; exact zI
      rw [upd_ne (Nat.ne_of_lt n3')]
      exact (fF b n3).1
  done := by
    intro X pP pW pK hc i pins s σ H E I fF tt gG
    subst pP pW pK
    obtain ⟨⟨was, eE⟩, eI, eN⟩ := tt
    obtain ⟨xs, xQ, eX⟩ := gG
    obtain ⟨us, rV, p, zz⟩ := I.tuple xQ
    obtain ⟨f0, f1, f2, f3, f4, f5⟩ := fF it (by simp)
    have hl := rV.length
    exact En.pyNext_enumT_end (I.ok.hd hc) eE eI (show s.heap.IsTuple a us.toArray from p) (by simp; omega) fun g' eb => ⟨rfl, I.turned (t' := s.toks) (fun b o n3 q => eb b o n3 q) f0 f1 f3 f4 f5⟩
  self := fun A i s Q E tt h => let ⟨⟨_, eE⟩, _⟩ := tt; wpAny_pyIter_enum eE h
theorem enum_get : ∀ (xs : List D) (n i : Nat) (d : D), xs[i]? = some d → (enumD n xs)[i]? = some (.tup [.int ((n + i : Nat) : Int), d])
  | [], _, _, _, h => by simp at h
  | x :: xs, n, 0, d, h => by simp at h; subst h; rfl
  | x :: xs, n, i + 1, d, h => by
    have := enum_get xs (n + 1) i d (by simpa using h)
    rw [show n + 1 + i = n + (i + 1) by omega] at this
    simpa [enumD] using this
theorem enum_length : ∀ (xs : List D) (n : Nat), (enumD n xs).length = xs.length
  | [], _ => rfl
  | _ :: xs, n => by show (enumD (n + 1) xs).length + 1 = _; rw [enum_length xs]; rfl
section
variable {X : Cx} {fa ea : Nat → Option Addr} {W : WX} {mv ow ow1 : List Nat} {a : Expr} {A : EX} {pos p : Pos} {F0 : Hp}
theorem walkD_enumL {q : Addr} {vs : List V} {xs : List D} (hi : InL X.K F0 q vs) (r : RepL X.K fa F0 xs vs) : WalkD (Gm.mk X.K fa ea) true none F0 (Ite X.K q) (enumD 0 xs) where
  go := fun i H h ⟨⟨F2, l, s⟩, _⟩ => by
    rw [enum_length] at h
    obtain ⟨v, e⟩ := RepL.getD r h
    exact ⟨vs, v, (hi.mono l).sq s, e⟩
  stop := fun H ⟨⟨F2, l, s⟩, _⟩ => ⟨vs, (hi.mono l).sq s, by rw [enum_length, r.length]; exact Nat.le_refl _⟩
  yld := fun i H x H' h ⟨⟨F2, l, s⟩, _⟩ y F3 l3 s3 => by
    obtain ⟨T, u, e1, n, eh, q1⟩ := y
    obtain ⟨d, ed, rd⟩ := RepL.get r (q1 vs ((hi.mono l).sq s))
    obtain ⟨F4, ad, rr⟩ := pair_new (X := X) (fa := fa) (ea := ea) (d := .int (i : Nat)) (x := .int (i : Nat)) s3 n eh rfl (rd.mono l3)
    subst e1
    exact ⟨_, F4, by have := enum_get xs 0 i d ed; rw [Nat.zero_add] at this; exact this, ad, rr⟩
theorem walkD_enumT {q : Addr} {vs : List V} {xs : List D} (hi : InT X.K F0 q vs) (r : RepL X.K fa F0 xs vs) : WalkD (Gm.mk X.K fa ea) true none F0 (IteT X.K q) (enumD 0 xs) where
  go := fun i H h ⟨⟨F2, l, s⟩, _⟩ => by
    rw [enum_length] at h
    obtain ⟨v, e⟩ := RepL.getD r h
    exact ⟨vs, v, (hi.mono l).sq s, e⟩
  stop := fun H ⟨⟨F2, l, s⟩, _⟩ => ⟨vs, (hi.mono l).sq s, by rw [enum_length, r.length]; exact Nat.le_refl _⟩
  yld := fun i H x H' h ⟨⟨F2, l, s⟩, _⟩ y F3 l3 s3 => by
    obtain ⟨T, u, e1, n, eh, q1⟩ := y
    obtain ⟨d, ed, rd⟩ := RepL.get r (q1 vs ((hi.mono l).sq s))
    obtain ⟨F4, ad, rr⟩ := pair_new (X := X) (fa := fa) (ea := ea) (d := .int (i : Nat)) (x := .int (i : Nat)) s3 n eh rfl (rd.mono l3)
    subst e1
    exact ⟨_, F4, by have := enum_get xs 0 i d ed; rw [Nat.zero_add] at this; exact this, ad, rr⟩
def iEnumB (K : PySem.W.Frag) (ta : TA) : TI := fun σ H R => ta σ H fun vs H1 => (∃ a xs, vs = [.ref a] ∧ SqL K H1 a xs ∧ R (Ite K a) H1) ∨ ∃ a xs, vs = [.ref a] ∧ SqT K H1 a xs ∧ R (IteT K a) H1
theorem pi_enumB {X : Cx} {e : Expr} {ta : TA} {p pos tpos : Pos} {elts : List Expr} {kk : Nat} (gG : Gl X "enumerate") (hm : X.mg "enumerate" = none) (ha : PA X [e] ta) (hs : starEach [e] X.env = [(false, eval e X.env)] := by rfl) :
    PI X (.Tuple elts kk tpos) (.Call (.Name "enumerate" p) [e] [] pos) (iEnumB X.K ta) := by
  refine ⟨fun pins s σ H R I h => ?_⟩
  refine Call_ (ld_blt I gG hm boot_enumerate (PyProof.Rows.callWith_type1 (thn (ha.run pos pins s σ H _ I h) fun us s1 ⟨vs, H1, J1, r1, q1⟩ => ?_) hs rfl))
  rcases q1 with ⟨a, xs, ex, xQ, q⟩ | ⟨a, xs, ex, xQ, q⟩
  · subst ex
    cases r1 with
    | cons r rr =>
      cases rr
      cases r
      obtain ⟨us, rV, p', zz⟩ := J1.list xQ
      refine call_enumerate_list p'.isList fun g' eE eI zS kK => wpAny_pyIter_enum eE ?_
      have J2 : Inv X pins σ H1 { s1 with heap := g' } := J1.kept (t' := s1.toks) kK
      refine ⟨s1.heap.objs.size + 1, [s1.heap.objs.size + 1, s1.heap.objs.size], _, _, H1, rfl, J2, turn_enum a (s1.heap.objs.size + 1) s1.heap.objs.size, ⟨⟨.none, eE⟩, eI, Nat.succ_ne_self _⟩, fun b n3 => ?_, q⟩
      have e' : b = s1.heap.objs.size + 1 ∨ b = s1.heap.objs.size := by simpa using n3
      have hle : s1.heap.objs.size ≤ b := by
        rcases e' with z | z
        · rw [z]; exact Nat.le_add_right _ _
        · rw [z]; exact Nat.le_refl _
      exact J1.fpOk hle (J1.hok.fresh hle)
  · subst ex
    cases r1 with
    | cons r rr =>
      cases rr
      cases r
      obtain ⟨us, rV, p', zz⟩ := J1.tuple xQ
      refine En.call_enumerate_tuple (show s1.heap.IsTuple a us.toArray from p') fun g' eE eI zS kK => wpAny_pyIter_enum eE ?_
      have J2 : Inv X pins σ H1 { s1 with heap := g' } := J1.kept (t' := s1.toks) kK
      refine ⟨s1.heap.objs.size + 1, [s1.heap.objs.size + 1, s1.heap.objs.size], _, _, H1, rfl, J2, turn_enumT a (s1.heap.objs.size + 1) s1.heap.objs.size, ⟨⟨.none, eE⟩, eI, Nat.succ_ne_self _⟩, fun b n3 => ?_, q⟩
      have e' : b = s1.heap.objs.size + 1 ∨ b = s1.heap.objs.size := by simpa using n3
      have hle : s1.heap.objs.size ≤ b := by
        rcases e' with z | z
        · rw [z]; exact Nat.le_add_right _ _
        · rw [z]; exact Nat.le_refl _
      exact J1.fpOk hle (J1.hok.fresh hle)
theorem SI.enum {E : EA} {elts : List Expr} {kk : Nat} {tpos : Pos} (gG : Gl X "enumerate") (hm : X.mg "enumerate" = none) (ha : SA X (Gm.mk X.K fa ea) W mv ow ow1 .rp [a] E) (hs : starEach [a] X.env = [(false, eval a X.env)] := by rfl) :
    PI X (.Tuple elts kk tpos) (.Call (.Name "enumerate" p) [a] [] pos) (tI X (Gm.mk X.K fa ea) true W mv ow ow1 (iOf iEnum E)) :=
  PI.imp (pi_enumB gG hm ha hs) fun σ H R h => SI.args h fun ds xs vs H1 F1 B F r m e R1 T1 q => by
    have S1 := T1.sim
    unfold iEnum at e
    split at e
    · rename_i x
      cases R1 with
      | @cons _ v _ _ r t =>
        cases t
        cases x with
        | lst xs =>
          cases e
          obtain ⟨q1, vs, rfl, hi, hr⟩ := r
          exact .inl ⟨q1, vs, rfl, hi.sq S1.sub, q _ (walkD_enumL hi hr)⟩
        | tup xs =>
          cases e
          obtain ⟨q1, vs, rfl, hi, hr⟩ := r
          exact .inr ⟨q1, vs, rfl, hi.sq S1.sub, q _ (walkD_enumT hi hr)⟩
        | _ => cases e
    · cases e
end
end F
/-! F3o: dict() of the zip of two tuples (the rows on zip are turned from the kit's rows for lists). -/
namespace F
namespace En
open PySem
open PySem.Sem (wp)
section
variable {prog : Program} {w : World} {A : Around} {E : Value → Shared → Prop} {s : Shared}
theorem zipT_item_held {zz TI TO T i1 i2 l1 l2 : Addr} {fl : Bool} {obT : Obj} {n1 n2 : Nat} {us ws : Array Value} {x y : Value} {Q : Value → Shared → Prop} (dA : ZipApart zz TI TO i1 i2 l1 l2)
    (zH : IsZipHeld s.heap zz TI TO T fl) (tH : s.heap.get? T = some obT) (tiH : IsPair s.heap TI (.ref i1) (.ref i2))
    (u1 : s.heap.IsTupleIter i1 l1 n1) (u2 : s.heap.IsTupleIter i2 l2 n2) (m1 : s.heap.IsTuple l1 us) (m2 : s.heap.IsTuple l2 ws) (xH : us[n1]? = some x) (yH : ws[n2]? = some y)
    (kQ : ∀ g', IsZipHeld g' zz TI TO T true → g'.IsTupleIter i1 l1 (n1 + 1) → g'.IsTupleIter i2 l2 (n2 + 1) → IsPair g' s.heap.objs.size x y → g'.objs.size = s.heap.objs.size + 1 →
      (∀ cc o, cc ≠ zz → cc ≠ i1 → cc ≠ i2 → s.heap.get? cc = some o → g'.get? cc = some o) → Q (.ref s.heap.objs.size) { s with heap := g' }) :
    wpAny (model prog w) A (Builtin.«zip.__next__» ⟨[.ref zz], []⟩) (fun fin s' => ∃ v, fin = .done (.ret v) ∧ Q v s') E s := by
  show wpAny _ _ (field (.ref zz) 2 >>= _) _ _ _
  refine wpAny_bind (wpAny_field zH rfl (x := .bool false) rfl ?_)
  show wpAny _ _ (field (.ref zz) 3 >>= _) _ _ _
  refine wpAny_bind (wpAny_field zH rfl (x := .ref TI) rfl ?_)
  refine wpAny_bind (wpAny_seqItems tiH rfl ?_)
  show wpAny _ _ (Builtin.SmallTypes.ownedTupleIsFree (.ref zz) >>= _) _ _ _
  refine wpAny_bind (wpAny_tupleHeld_zip zH tH fun g1 zH1 b1 => ?_)
  simp only [Bool.false_eq_true, if_false]
  refine wpAny_bind ?_
  rw [← Array.forIn_toList]
  simp only [List.forIn_cons, List.forIn_nil]
  refine wpAny_bind (wpAny_bind (wpAny_holding ?_))
  show wpAny _ _ (Builtin.SmallTypes.nextOf (.ref i1) >>= _) _ _ _
  refine wpAny_bind (RZ.nextOf_tuple_item (s := { s with heap := g1 }) (u1.extBut b1.extBut dA.i1z) (m1.extBut b1.extBut dA.l1z) xH fun g2 u12 b2 => wpAny_pure ?_)
  refine wpAny_pure ?_
  refine wpAny_bind (wpAny_bind (wpAny_holding ?_))
  show wpAny _ _ (Builtin.SmallTypes.nextOf (.ref i2) >>= _) _ _ _
  refine wpAny_bind (RZ.nextOf_tuple_item (s := { s with heap := g2 }) ((u2.extBut b1.extBut dA.i2z).extBut b2.extBut dA.i12.symm) ((m2.extBut b1.extBut dA.l2z).extBut b2.extBut dA.l2i1) yH fun g3 u23 b3 => wpAny_pure ?_)
  refine wpAny_pure (wpAny_pure ?_)
  show wpAny _ _ (newTuple [x, y] >>= _) _ _ _
  refine wpAny_bind (wpAny_newTuple ?_)
  have sZ : g3.objs.size = s.heap.objs.size := by rw [b3.1, b2.1, b1.1]
  have zH3 : IsZipHeld g3 zz TI TO T true := b3.extBut _ _ dA.i2z.symm (b2.extBut _ _ dA.i1z.symm zH1)
  have kK : ∀ cc o, cc ≠ zz → cc ≠ i1 → cc ≠ i2 → s.heap.get? cc = some o → g3.get? cc = some o := fun cc o c1 c2 c3 e => b3.extBut _ _ c3 (b2.extBut _ _ c2 (b1.extBut _ _ c1 e))
  have u13 : g3.IsTupleIter i1 l1 (n1 + 1) := u12.extBut b3.extBut dA.i12
  refine wpAny_pure ⟨_, rfl, ?_⟩
  show Q (.ref g3.objs.size) _
  have pH : IsPair (g3.push { cls := .type "tuple", data := .seq #[x, y] }) g3.objs.size x y := Heap.get?_push_size _ rfl
  have zH4 : (g3.push { cls := .type "tuple", data := .seq #[x, y] }).objs.size = g3.objs.size + 1 := Heap.size_push ..
  rw [sZ] at pH zH4 ⊢
  exact kQ _ (Heap.get?_push_of_some _ zH3) (u13.at fun o e => Heap.get?_push_of_some _ e) (u23.at fun o e => Heap.get?_push_of_some _ e) pH zH4 fun cc o c1 c2 c3 e => Heap.get?_push_of_some _ (kK cc o c1 c2 c3 e)

theorem zipT_end_held {zz TI TO T i1 i2 l1 l2 : Addr} {fl : Bool} {obT : Obj} {n1 n2 : Nat} {us ws : Array Value} {Q : Fin → Shared → Prop} (hA : A.handled = none) (dA : ZipApart zz TI TO i1 i2 l1 l2)
    (zH : IsZipHeld s.heap zz TI TO T fl) (tH : s.heap.get? T = some obT) (tiH : IsPair s.heap TI (.ref i1) (.ref i2))
    (u1 : s.heap.IsTupleIter i1 l1 n1) (u2 : s.heap.IsTupleIter i2 l2 n2) (m1 : s.heap.IsTuple l1 us) (m2 : s.heap.IsTuple l2 ws) (enD : us[n1]? = none ∨ ws[n2]? = none)
    (kE : ∀ g' e, (∀ cc o, cc ≠ zz → cc ≠ i1 → cc ≠ i2 → s.heap.get? cc = some o → g'.get? cc = some o) → (∃ o, g'.get? e = some o ∧ o.cls = .type "StopIteration") → E (.ref e) { s with heap := g' }) :
    wpAny (model prog w) A (Builtin.«zip.__next__» ⟨[.ref zz], []⟩) Q E s := by
  show wpAny _ _ (field (.ref zz) 2 >>= _) _ _ _
  refine wpAny_bind (wpAny_field zH rfl (x := .bool false) rfl ?_)
  show wpAny _ _ (field (.ref zz) 3 >>= _) _ _ _
  refine wpAny_bind (wpAny_field zH rfl (x := .ref TI) rfl ?_)
  refine wpAny_bind (wpAny_seqItems tiH rfl ?_)
  show wpAny _ _ (Builtin.SmallTypes.ownedTupleIsFree (.ref zz) >>= _) _ _ _
  refine wpAny_bind (wpAny_tupleHeld_zip zH tH fun g1 zH1 b1 => ?_)
  simp only [Bool.false_eq_true, if_false]
  refine wpAny_bind ?_
  rw [← Array.forIn_toList]
  simp only [List.forIn_cons, List.forIn_nil]
  refine wpAny_bind (wpAny_bind (wpAny_holding ?_))
  show wpAny _ _ (Builtin.SmallTypes.nextOf (.ref i1) >>= _) _ _ _
  cases xH : us[n1]? with
  | none =>
    refine wpAny_bind (RZ.nextOf_tuple_end (s := { s with heap := g1 }) hA (u1.extBut b1.extBut dA.i1z) (m1.extBut b1.extBut dA.l1z) xH fun g2 e b2 eE => ?_)
    exact kE g2 e (fun cc o c1 c2 _ x => b2 _ _ c2 (b1.extBut _ _ c1 x)) eE
  | some x =>
    have yH : ws[n2]? = none := by rcases enD with hh | hh; rw [xH] at hh; cases hh; exact hh
    refine wpAny_bind (RZ.nextOf_tuple_item (s := { s with heap := g1 }) (u1.extBut b1.extBut dA.i1z) (m1.extBut b1.extBut dA.l1z) xH fun g2 u12 b2 => wpAny_pure ?_)
    refine wpAny_pure ?_
    refine wpAny_bind (wpAny_bind (wpAny_holding ?_))
    show wpAny _ _ (Builtin.SmallTypes.nextOf (.ref i2) >>= _) _ _ _
    refine wpAny_bind (RZ.nextOf_tuple_end (s := { s with heap := g2 }) hA ((u2.extBut b1.extBut dA.i2z).extBut b2.extBut dA.i12.symm) ((m2.extBut b1.extBut dA.l2z).extBut b2.extBut dA.l2i1) yH fun g3 e b3 eE => ?_)
    exact kE g3 e (fun cc o c1 c2 c3 x => b3 _ _ c3 (b2.extBut _ _ c2 (b1.extBut _ _ c1 x))) eE

theorem pyNext_zipT_item_held {zz TI TO T i1 i2 l1 l2 : Addr} {fl : Bool} {obT : Obj} {n1 n2 : Nat} {us ws : Array Value} {x y : Value} {Q : Option Value → Shared → Prop} (dA : ZipApart zz TI TO i1 i2 l1 l2)
    (zH : IsZipHeld s.heap zz TI TO T fl) (tH : s.heap.get? T = some obT) (tiH : IsPair s.heap TI (.ref i1) (.ref i2))
    (u1 : s.heap.IsTupleIter i1 l1 n1) (u2 : s.heap.IsTupleIter i2 l2 n2) (m1 : s.heap.IsTuple l1 us) (m2 : s.heap.IsTuple l2 ws) (xH : us[n1]? = some x) (yH : ws[n2]? = some y)
    (kQ : ∀ g', IsZipHeld g' zz TI TO T true → g'.IsTupleIter i1 l1 (n1 + 1) → g'.IsTupleIter i2 l2 (n2 + 1) → IsPair g' s.heap.objs.size x y → g'.objs.size = s.heap.objs.size + 1 →
      (∀ cc o, cc ≠ zz → cc ≠ i1 → cc ≠ i2 → s.heap.get? cc = some o → g'.get? cc = some o) → Q (some (.ref s.heap.objs.size)) { s with heap := g' }) :
    wpAny (model prog w) A (pyNext (.ref zz)) Q E s := by
  have tyH : s.TypeIs (.ref zz) "zip" := ⟨_, zH, rfl⟩
  unfold pyNext
  exact wpAny_bind (wpAny_attempt (wpAny_callSpecial?_slot (name := Str.ofString "__next__") tyH PySem.F.slot_zip_next
    (wpAny_call_entry PySem.F.slot_zip_next tyH PySem.F.entry_zip_next
      (zipT_item_held dA zH tH tiH u1 u2 m1 m2 xH yH fun g' c1 c3 c4 c5 c6 a7 => wpAny_pure (kQ g' c1 c3 c4 c5 c6 a7)) (PySem.F.args_zip_next_1 _))))
theorem pyNext_zipT_end_held {zz TI TO T i1 i2 l1 l2 : Addr} {fl : Bool} {obT : Obj} {n1 n2 : Nat} {us ws : Array Value} {Q : Option Value → Shared → Prop} (hA : A.handled = none) (dA : ZipApart zz TI TO i1 i2 l1 l2)
    (zH : IsZipHeld s.heap zz TI TO T fl) (tH : s.heap.get? T = some obT) (tiH : IsPair s.heap TI (.ref i1) (.ref i2))
    (u1 : s.heap.IsTupleIter i1 l1 n1) (u2 : s.heap.IsTupleIter i2 l2 n2) (m1 : s.heap.IsTuple l1 us) (m2 : s.heap.IsTuple l2 ws) (enD : us[n1]? = none ∨ ws[n2]? = none)
    (kQ : ∀ g', (∀ cc o, cc ≠ zz → cc ≠ i1 → cc ≠ i2 → s.heap.get? cc = some o → g'.get? cc = some o) → Q none { s with heap := g' }) : wpAny (model prog w) A (pyNext (.ref zz)) Q E s := by
  have tyH : s.TypeIs (.ref zz) "zip" := ⟨_, zH, rfl⟩
  unfold pyNext
  refine wpAny_bind (wpAny_attempt (wpAny_callSpecial?_slot (name := Str.ofString "__next__") tyH PySem.F.slot_zip_next
    (wpAny_call_entry PySem.F.slot_zip_next tyH PySem.F.entry_zip_next (zipT_end_held hA dA zH tH tiH u1 u2 m1 m2 enD fun g' e kK eE => ?_) (PySem.F.args_zip_next_1 _))))
  obtain ⟨o, ho, hc⟩ := eE
  refine wpAny_bind (wpAny_isInstance (T := "StopIteration") (b := true) ⟨o, ho, hc⟩ isSubtype_stop ?_)
  exact wpAny_pure (kQ _ kK)


end
section
variable {prog : Program} {w : World}
theorem pairArg_zipT (zz TI TO i1 i2 l1 l2 : Addr) (dA : ZipApart zz TI TO i1 i2 l1 l2) (us ws : Array Value) :
    PairArg prog w "zip" zz [zz, TI, TO, i1, i2, l1, l2] [zz, TO, i1, i2] (min us.size ws.size) (fun i k v => us[i]? = some k ∧ ws[i]? = some v)
      (fun hh => IsZip hh zz TI TO .none ∧ IsPair hh TI (.ref i1) (.ref i2) ∧ (∃ a b, IsPair hh TO a b) ∧ hh.IsTupleIter i1 l1 0 ∧ hh.IsTupleIter i2 l2 0 ∧ hh.IsTuple l1 us ∧ hh.IsTuple l2 ws) where
  type := fun s oK => ⟨_, oK.1, rfl⟩
  notDict := by decide
  keep := fun hh g' oK kK => by
    obtain ⟨zH, tiH, ⟨a, b, toH⟩, u1, u2, m1, m2⟩ := oK
    exact ⟨kK _ _ zH, kK _ _ tiH, ⟨a, b, kK _ _ toH⟩, u1.at fun o e => kK _ o e, u2.at fun o e => kK _ o e, m1.at fun o e => kK _ o e, m2.at fun o e => kK _ o e⟩
  there := fun hh oK b hb => by
    obtain ⟨zH, tiH, ⟨a, cc, toH⟩, ⟨o1, u1, _⟩, ⟨o2, u2, _⟩, ⟨o3, m1, _⟩, ⟨o4, m2, _⟩⟩ := oK
    simp only [List.mem_cons, List.not_mem_nil, or_false] at hb
    rcases hb with rfl | rfl | rfl | rfl | rfl | rfl | rfl
    all_goals first | exact ⟨_, zH⟩ | exact ⟨_, tiH⟩ | exact ⟨_, toH⟩ | exact ⟨_, u1⟩ | exact ⟨_, u2⟩ | exact ⟨_, m1⟩ | exact ⟨_, m2⟩
  sub := fun b hb => by simp at hb ⊢; rcases hb with rfl | rfl | rfl | rfl <;> simp
  noKeys := fun A s Q E hA oK hh => getAttrOr_miss_zip oK.1 rfl rfl rfl zip_no_keys (by decide +kernel) hA hh
  iter := fun A s d Q E hA oK dH dF hh => by
    obtain ⟨zH, tiH, ⟨a, b, toH⟩, u1, u2, m1, m2⟩ := oK
    simp only [List.mem_cons, List.not_mem_nil, or_false, not_or] at dF
    obtain ⟨ez, eTI, eTO, ei1, ei2, el1, el2⟩ := dF
    refine wpAny_pyIter_zip zH (hh zz [zz, TO, i1, i2] (fun i hh => IsPair hh TI (.ref i1) (.ref i2) ∧ hh.IsTupleIter i1 l1 i ∧ hh.IsTupleIter i2 l2 i ∧ hh.IsTuple l1 us ∧ hh.IsTuple l2 ws ∧
      ((IsZip hh zz TI TO .none ∧ ∃ a b, IsPair hh TO a b) ∨ ∃ T fl obT, IsZipHeld hh zz TI TO T fl ∧ hh.get? T = some obT ∧ T ≠ zz ∧ T ≠ i1 ∧ T ≠ i2 ∧ T ≠ d)) s.heap s.toks ?_
      ⟨tiH, u1, u2, m1, m2, .inl ⟨zH, a, b, toH⟩⟩ (fun _ _ e => e) fun b hb => .inl hb)
    exact {
      off := fun hm => by
        simp only [List.mem_cons, List.not_mem_nil, or_false] at hm
        rcases hm with e | e | e | e
        · exact ez e
        · exact eTO e
        · exact ei1 e
        · exact ei2 e
      frame := fun i g1 g2 st kK => by
        obtain ⟨tiH, u1, u2, m1, m2, zH⟩ := st
        refine ⟨kK _ _ (Ne.symm eTI) tiH, u1.at fun o e => kK _ o (Ne.symm ei1) e, u2.at fun o e => kK _ o (Ne.symm ei2) e, m1.at fun o e => kK _ o (Ne.symm el1) e, m2.at fun o e => kK _ o (Ne.symm el2) e, ?_⟩
        rcases zH with ⟨zH, a, b, toH⟩ | ⟨T, fl, obT, zH, tH, r1, r2, r3, r4⟩
        · exact .inl ⟨kK _ _ (Ne.symm ez) zH, a, b, kK _ _ (Ne.symm eTO) toH⟩
        · exact .inr ⟨T, fl, obT, kK _ _ (Ne.symm ez) zH, kK _ _ r4 tH, r1, r2, r3, r4⟩
      item := fun i s₁ Q₁ E₁ hi st hds kQ => by
        obtain ⟨tiH, u1, u2, m1, m2, zH⟩ := st
        have ixH : i < us.size := Nat.lt_of_lt_of_le hi (Nat.min_le_left ..)
        have iyH : i < ws.size := Nat.lt_of_lt_of_le hi (Nat.min_le_right ..)
        have ex := Array.getElem?_eq_getElem ixH
        have ey := Array.getElem?_eq_getElem iyH
        have lt : ∀ {cc o}, s₁.heap.get? cc = some o → s₁.heap.objs.size ≠ cc := fun e => Nat.ne_of_gt (Heap.lt_size e)
        have q1 : s₁.heap.objs.size ≠ i1 := let ⟨_, e, _⟩ := u1; lt e
        have q2 : s₁.heap.objs.size ≠ i2 := let ⟨_, e, _⟩ := u2; lt e
        rcases zH with ⟨zH, a, b, toH⟩ | ⟨T, fl, obT, zH, tH, r1, r2, r3, r4⟩
        · refine RZ.pyNext_zipT_item dA zH tiH toH u1 u2 m1 m2 ex ey fun g' c1 c2 c3 c4 c5 c6 kK => ?_
          exact kQ s₁.heap.objs.size _ _ g' s₁.toks ⟨ex, ey⟩ (.inl ⟨_, c5, rfl, _, rfl⟩)
            ⟨kK _ _ dA.TIz dA.TITO dA.TIi1 dA.TIi2 tiH, c3, c4, m1.at fun o e => kK _ o dA.l1z dA.l1TO dA.l1i1 dA.l1i2 e, m2.at fun o e => kK _ o dA.l2z dA.l2TO dA.l2i1 dA.l2i2 e,
              .inr ⟨s₁.heap.objs.size, false, _, c1, c5, lt zH, q1, q2, Nat.ne_of_gt hds⟩⟩
            fun cc o hc e => kK cc o (fun x => hc (by simp [x])) (fun x => hc (by simp [x])) (fun x => hc (by simp [x])) (fun x => hc (by simp [x])) e
        · refine pyNext_zipT_item_held dA zH tH tiH u1 u2 m1 m2 ex ey fun g' c1 c3 c4 c5 c6 kK => ?_
          exact kQ s₁.heap.objs.size _ _ g' s₁.toks ⟨ex, ey⟩ (.inl ⟨_, c5, rfl, _, rfl⟩)
            ⟨kK _ _ dA.TIz dA.TIi1 dA.TIi2 tiH, c3, c4, m1.at fun o e => kK _ o dA.l1z dA.l1i1 dA.l1i2 e, m2.at fun o e => kK _ o dA.l2z dA.l2i1 dA.l2i2 e,
              .inr ⟨T, true, obT, c1, kK _ _ r1 r2 r3 tH, r1, r2, r3, r4⟩⟩
            fun cc o hc e => kK cc o (fun x => hc (by simp [x])) (fun x => hc (by simp [x])) (fun x => hc (by simp [x])) e
      done := fun s₁ Q₁ E₁ st kQ => by
        obtain ⟨tiH, u1, u2, m1, m2, zH⟩ := st
        have enD : us[min us.size ws.size]? = none ∨ ws[min us.size ws.size]? = none := by
          rcases Nat.le_total us.size ws.size with hh | hh
          · exact .inl (Array.getElem?_eq_none (by rw [Nat.min_eq_left hh]; exact Nat.le_refl _))
          · exact .inr (Array.getElem?_eq_none (by rw [Nat.min_eq_right hh]; exact Nat.le_refl _))
        rcases zH with ⟨zH, a, b, toH⟩ | ⟨T, fl, obT, zH, tH, r1, r2, r3, r4⟩
        · exact RZ.pyNext_zipT_end hA dA zH tiH toH u1 u2 m1 m2 enD fun g' kK => kQ g' s₁.toks fun cc o hc e => kK cc o (fun x => hc (by simp [x])) (fun x => hc (by simp [x])) (fun x => hc (by simp [x])) (fun x => hc (by simp [x])) e
        · exact pyNext_zipT_end_held hA dA zH tH tiH u1 u2 m1 m2 enD fun g' kK => kQ g' s₁.toks fun cc o hc e => kK cc o (fun x => hc (by simp [x])) (fun x => hc (by simp [x])) (fun x => hc (by simp [x])) e }
end
end En
end F
/-! F3p: dict(x). -/
namespace F
open PySem PySem.Spec PyProof.Rows L2
theorem pairsK_cons {d : D} {ds : List D} {acc kvs : List (D × D)} (e : pairsK (d :: ds) acc = some kvs) : ∃ k v, d = .tup [k, v] ∧ isKey k = true ∧ pairsK ds (putK k v acc) = some kvs := by
  cases d with
  | tup l =>
    rcases l with _ | ⟨k, _ | ⟨v, _ | ⟨_, _⟩⟩⟩
    · cases e
    · cases e
    · have e : (if isKey k then pairsK ds (putK k v acc) else none) = some kvs := e
      cases hk : isKey k with
      | true => rw [hk, if_pos rfl] at e; exact ⟨k, v, rfl, hk, e⟩
      | false => rw [hk, if_neg Bool.false_ne_true] at e; cases e
    · cases e
  | _ => cases e
/-- dict(zip(x, y)) of two tuples -/
def dZipT (x y : D) : Option D := match x with
  | .tup xs => (match y with
    | .tup ys => (match pairsK (zipD xs ys) [] with | some kvs => some (.dct kvs) | none => none)
    | _ => none)
  | _ => none
theorem mergeK_cons (ks : List (Key × V)) (p : Key × V) (more : List (Key × V)) : mergeK ks (p :: more) = mergeK (L2.putK ks p.1 p.2) more := rfl
section
variable {X : Cx} {fa ea : Nat → Option Addr} {W : WX} {mv ow ow1 ow2 : List Nat} {a b : Expr} {A Bb : EX} {pos pos2 p p2 : Pos} {pins : List (Addr × Obj)} {σ : St} {s : Shared} {F0 H : Hp}
theorem pairs_rep (S : Sub F0 H) {ds : List D} : ∀ {vs : List V} {acc kvs : List (D × D)} {ks : List (Key × V)}, RepL X.K fa F0 ds vs → pairsK ds acc = some kvs → RepK X.K fa F0 acc ks →
    ∃ (ps : List Addr) (more : List (Key × V)), vs = ps.map V.ref ∧ Paired (fun p kv => SqT X.K H p [kV kv.1, kv.2]) ps more ∧ RepK X.K fa F0 kvs (mergeK ks more) := by
  induction ds with
  | nil =>
    intro vs acc kvs ks r e ra
    cases e
    cases (show vs = [] from r)
    exact ⟨[], [], rfl, .nil, ra⟩
  | cons d ds ih =>
    intro vs acc kvs ks r e ra
    obtain ⟨v, t, hv, hd, ht⟩ := r
    obtain ⟨kd, vd, e0, hk, en⟩ := pairsK_cons e
    clear e
    subst e0
    obtain ⟨q, vs2, e1, hi, w1, t1, e2, h1, w2, t2, e3, h2, h3⟩ := hd
    have hz : RepT (Gm.mk X.K fa fun _ => none) F0 H kd w1 := Or.inl h1
    obtain ⟨key, e4, e5⟩ := isKey_rep hk hz
    have e6 : t2 = [] := h3
    subst e1 e2 e3 e5 e6
    rw [e4] at en
    obtain ⟨ps, more, hvs, hp, hr⟩ := ih ht en (putK_rep key h2 ra)
    exact ⟨q :: ps, (key, w2) :: more, by rw [hv, hvs]; rfl, .cons (hi.sq S) hp, hr⟩
theorem pairs_vals (I : Inv X pins σ H s) : ∀ {ps : List Addr} {more : List (Key × V)}, Paired (fun p kv => SqT X.K H p [kV kv.1, kv.2]) ps more →
    ∃ (rs : List (Key × Value)) (us : List (Value × Value)), KV more rs ∧ rs.length = ps.length ∧ us.length = ps.length ∧
      ∀ (j : Nat) (u y : Value), us[j]? = some (u, y) → ∃ (b : Addr) (k : Key), ps[j]? = some b ∧ IsTup s.heap b #[u, y] ∧ rs[j]? = some (k, y) ∧ keyIs k u = true
  | _, _, .nil => ⟨[], [], .nil, rfl, rfl, fun j u y e => by simp at e⟩
  | _, _, .cons (a := p) (b := kv) h t => by
    obtain ⟨rs, us, r, hl, hl2, hp⟩ := pairs_vals I t
    obtain ⟨its, rv, ht, _⟩ := I.tuple h
    obtain ⟨u, y, ei, ru, ry⟩ := vals2 rv
    subst ei
    refine ⟨(kv.1, y) :: rs, (u, y) :: us, .cons ⟨rfl, ry⟩ r, by rw [List.length_cons, List.length_cons, hl], by rw [List.length_cons, List.length_cons, hl2], fun j u' y' e => ?_⟩
    cases j with
    | zero =>
      have e' : (u, y) = (u', y') := Option.some.inj e
      injection e' with e1 e2
      subst e1 e2
      exact ⟨p, kv.1, rfl, ht, rfl, kV_is (P := X.prog) (w := X.w) ru⟩
    | succ j =>
      obtain ⟨b, k, e1, e2, e3, e4⟩ := hp j u' y' (by simpa using e)
      exact ⟨b, k, by simpa using e1, e2, by simpa using e3, e4⟩
theorem plainT (I : Inv X pins σ H s) (S : Sub F0 H) {q : Addr} {vs : List V} (h : InT X.K F0 q vs) : ∃ its : List Value, Vals vs its ∧ PlainSeq "tuple" s.heap q its.toArray ∧ vs.length ≤ sizeLine := by
  rcases h with ⟨o, hd, e⟩ | ⟨o, its, n, hk, hc, hd, hs, hz, r⟩
  · obtain ⟨h1, z, its, r, o', h2, hc, n, hs⟩ := I.hok q _ (S.frz e)
    rw [h1] at h2
    cases h2
    exact ⟨its, r, ⟨o, n, h1, hc, hd, hs⟩, z⟩
  · refine ⟨its.toList, r, ⟨o, n, I.kIn q o hk, hc, hd, by simpa using hs⟩, ?_⟩
    have e := r.length
    simp only [Array.length_toList] at e
    omega
theorem dict_F (hcalm : X.calm = true) : CallR X (.type "dict") (c1 (Gm.mk X.K fa ea) true bDict) := by
  intro pins s σ H xs us Q I r h
  obtain ⟨x, rfl, F0, dx, d, S, hx, hf, q⟩ := h
  cases dx with
  | dct kvs =>
    cases hf
    obtain ⟨q1, ks, rfl, hr, rk⟩ := hx.dct S
    exact call_dictD pins s σ H _ us Q I r ⟨q1, ks, rfl, hr, fun p n => newD S n rk q⟩
  | lst ds =>
    have hf : (match pairsK ds [] with | some kvs => some (D.dct kvs) | none => none) = some d := hf
    cases e : pairsK ds [] with
    | none => rw [e] at hf; cases hf
    | some kvs =>
      rw [e] at hf; cases hf
      obtain ⟨q1, vs, rfl, hi, hr⟩ := hx.lst S
      obtain ⟨ps, more, rfl, hp, hk⟩ := pairs_rep S hr e (ks := []) rfl
      exact call_dictP hcalm pins s σ H _ us Q I r ⟨q1, ps, more, rfl, .inl (.inl hi), hp, fun p n => newD S n hk q⟩
  | tup ds =>
    have hf : (match pairsK ds [] with | some kvs => some (D.dct kvs) | none => none) = some d := hf
    cases e : pairsK ds [] with
    | none => rw [e] at hf; cases hf
    | some kvs =>
      rw [e] at hf; cases hf
      obtain ⟨q1, vs, rfl, hi, hr⟩ := hx.tup
      obtain ⟨ps, more, rfl, hp, hk⟩ := pairs_rep S hr e (ks := []) rfl
      obtain ⟨its, rv, pl, hz⟩ := plainT I S hi
      have ei := refs_at rv
      subst ei
      rw [List.length_map] at hz
      obtain ⟨u, eu, rx⟩ := vals1 r
      subst eu
      cases rx
      obtain ⟨rs, vps, rel, hl, hl2, hpr⟩ := pairs_vals I hp
      have hm : (s.heap.objs.size == sysModules) = false := beq_eq_false_iff_ne.mpr (Nat.ne_of_gt I.big)
      have hlen : (mergeK [] more).length ≤ sizeLine := by
        refine Nat.le_trans (length_mergeK more []) ?_
        rw [List.length_nil, Nat.zero_add, rel.length, hl]
        exact hz
      refine PySem.call_dict_pairs (knd := mixKind X.prog X.w) (kvs := rs) (PairArg.tuple q1 (ps.map Value.ref).toArray (fun j => ps.getD j 0) vps) (I.ok.hd hcalm) ⟨pl, by simp [hl2], fun j u y e' => ?_⟩ ⟨by rw [hl, hl2], fun i u y e' => ?_⟩ (by rw [hl2]; exact hz) fun h' tk hd' k => ?_
      · obtain ⟨b, key, e1, e2, e3, e4⟩ := hpr j u y e'
        have e5 : ps.getD j 0 = b := by rw [List.getD_eq_getElem?_getD, e1]; rfl
        refine ⟨by simp [e1, e5], .inl ?_⟩
        show IsTup s.heap (ps.getD j 0) #[u, y]
        rw [e5]
        exact e2
      · obtain ⟨b, key, e1, e2, e3, e4⟩ := hpr i u y e'
        exact ⟨key, e3, e4⟩
      · refine ⟨.ref s.heap.objs.size, upd H s.heap.objs.size (.dK (mergeK [] more)), I.laid (t' := tk) (fun b o e' => k b o (by simp) e') (Nat.le_refl _) (show ObjOk X.prog X.w _ _ _ (.dK (mergeK [] more)) from ⟨hlen, hm, merged [] rs, KV.merge rel .nil, hd'⟩), rfl, newD S (I.hok.fresh (Nat.le_refl _)) hk q⟩
  | _ => cases hf
theorem zip_rep {xs : List D} : ∀ {ys : List D} {vs ws : List V} {us us2 : List Value} {acc kvs : List (D × D)} {ks : List (Key × V)}, RepL X.K fa F0 xs vs → RepL X.K fa F0 ys ws → Vals vs us → Vals ws us2 → pairsK (zipD xs ys) acc = some kvs → RepK X.K fa F0 acc ks →
    ∃ (more : List (Key × V)) (rs : List (Key × Value)), KV more rs ∧ rs.length = min us.length us2.length ∧ RepK X.K fa F0 kvs (mergeK ks more) ∧
      ∀ (i : Nat) (u y : Value), us[i]? = some u → us2[i]? = some y → ∃ k, rs[i]? = some (k, y) ∧ keyIs k u = true := by
  induction xs with
  | nil =>
    intro ys vs ws us us2 acc kvs ks r r2 v v2 e ra
    cases e
    cases (show vs = [] from r)
    cases v
    exact ⟨[], [], .nil, by simp, ra, fun i u y e => by simp at e⟩
  | cons x xs ih =>
    intro ys vs ws us us2 acc kvs ks r r2 v v2 e ra
    cases ys with
    | nil =>
      cases e
      cases (show ws = [] from r2)
      cases v2
      exact ⟨[], [], .nil, by simp, ra, fun i u y _ e => by simp at e⟩
    | cons y ys =>
      obtain ⟨w, t, e1, hx, ht⟩ := r
      obtain ⟨w', t', e2, hy, ht'⟩ := r2
      subst e1 e2
      cases v with
      | @cons _ u _ us ru rt =>
      cases v2 with
      | @cons _ u' _ us' ru' rt' =>
        obtain ⟨kd, vd, e0, hk, e⟩ := pairsK_cons (show pairsK (.tup [x, y] :: zipD xs ys) acc = some kvs from e)
        cases e0
        have hz : RepT (Gm.mk X.K fa fun _ => none) F0 F0 x w := Or.inl hx
        obtain ⟨key, e4, e5⟩ := isKey_rep hk hz
        subst e5
        rw [e4] at e
        obtain ⟨more, rs, h1, h2, h3, h4⟩ := ih ht ht' rt rt' e (putK_rep key hy ra)
        refine ⟨(key, w') :: more, (key, u') :: rs, .cons ⟨rfl, ru'⟩ h1, by simp [h2, Nat.succ_min_succ], h3, fun i w y' e1 e2 => ?_⟩
        cases i with
        | zero =>
          simp at e1 e2
          subst e1 e2
          exact ⟨key, rfl, kV_is (P := X.prog) (w := X.w) ru⟩
        | succ i =>
          obtain ⟨k, e3, e4⟩ := h4 i w y' (by simpa using e1) (by simpa using e2)
          exact ⟨k, by simpa using e3, e4⟩
def rZipT (K : Frag) : List V → Hp → VK → Prop := fun vs H1 Q => ∃ q1 q2 xs ys, vs = [.ref q1, .ref q2] ∧ SqT K H1 q1 xs ∧ SqT K H1 q2 ys ∧
  ∀ us us2, Vals xs us → Vals ys us2 → ∃ (more : List (Key × V)) (rs : List (Key × Value)), KV more rs ∧ rs.length = min us.length us2.length ∧ (∀ (i : Nat) (u y : Value), us[i]? = some u → us2[i]? = some y → ∃ k, rs[i]? = some (k, y) ∧ keyIs k u = true) ∧
    ∀ q, H1 q = none → Q (.ref q) (upd H1 q (.dK (mergeK [] more)))
theorem dZip_r {vs : List V} {Q : VK} (h : c2 (Gm.mk X.K fa ea) true dZipT vs H Q) : rZipT X.K vs H Q := by
  obtain ⟨x, y, rfl, F1, dx, dy, d, S, hx, hy, hf, q⟩ := h
  unfold dZipT at hf
  cases dx with
  | tup xs =>
    cases dy with
    | tup ys =>
      have hf : (match pairsK (zipD xs ys) [] with | some kvs => some (D.dct kvs) | none => none) = some d := hf
      cases e : pairsK (zipD xs ys) [] with
      | none => rw [e] at hf; cases hf
      | some kvs =>
        rw [e] at hf; cases hf
        obtain ⟨q1, vs1, rfl, h1, r1⟩ := hx.tup
        obtain ⟨q2, vs2, rfl, h2, r2⟩ := hy.tup
        refine ⟨q1, q2, vs1, vs2, rfl, h1.sq S, h2.sq S, fun us us2 v v2 => ?_⟩
        obtain ⟨more, rs, g1, g2, g3, g4⟩ := zip_rep r1 r2 v v2 e (ks := []) rfl
        exact ⟨more, rs, g1, g2, g4, fun p n => newD S n g3 q⟩
    | _ => cases hf
  | _ => cases hf
end
section
variable {X : Cx} {a b : Expr} {pos pos2 p p2 : Pos}
theorem pe_dictZip {ta : TA} {rel0 : List V → Hp → VK → Prop} (rr0 : ∀ vs H Q, rel0 vs H Q → rZipT X.K vs H Q) (hcalm : X.calm = true) (hg : Gl X "dict") (hm : X.mg "dict" = none) (hg2 : Gl X "zip") (hm2 : X.mg "zip" = none) (ha : PA X [a, b] ta)
    (hs : starEach [a, b] X.env = (false, eval a X.env) :: starEach [b] X.env := by rfl) (hpl : (backTo pos2 (starEach [b] X.env)).any (·.1) = false := by rfl)
    (ho : starEach [.Call (.Name "zip" p2) [a, b] [] pos2] X.env = (false, eval (.Call (.Name "zip" p2) [a, b] [] pos2) X.env) :: starEach [] X.env := by rfl) :
    PE X (.Call (.Name "dict" p) [.Call (.Name "zip" p2) [a, b] [] pos2] [] pos) (tCB rel0 ta) := by
  refine ⟨fun pins s σ H Q I h => ?_⟩
  refine wpAny_Call_Name_kw (ld_blt I hg hm PyProof.Rows.boot_dict (PyProof.Rows.callWith_type1 ?_ ho rfl))
  rw [ho]
  show wpAny _ _ (spliced ((false, eval _ X.env) :: backTo pos (starEach [] X.env))) _ _ s
  refine Calls.spliced_cons ?_
  refine Call_ (ld_blt I hg2 hm2 PyProof.Rows.boot_zip (PyProof.Rows.callWith_type1 (thn (ha.run pos2 pins s σ H _ I h) fun us s1 ⟨vs, H1, I1, r1, q1⟩ => ?_) hs hpl))
  replace q1 := rr0 _ _ _ q1
  obtain ⟨q1, q2, xs, ys, rfl, hx, hy, q⟩ := q1
  cases r1 with
  | cons r rr =>
    cases rr with
    | cons r' rr =>
      cases rr
      cases r
      cases r'
      obtain ⟨its, rv, t1, z1⟩ := I1.tuple hx
      obtain ⟨its2, rv2, t2, z2⟩ := I1.tuple hy
      obtain ⟨more, rs, rel, hl, hat, q⟩ := q its its2 rv rv2
      obtain ⟨o1, ho1, _⟩ := id t1
      obtain ⟨o2, ho2, _⟩ := id t2
      refine RZ.call_zipT (show s1.heap.IsTuple q1 its.toArray from t1) (show s1.heap.IsTuple q2 its2.toArray from t2) fun h' hz hTI hTO h1 h2 hsz hk => ?_
      refine Calls.spliced_nil ?_
      have hlen : (mergeK [] more).length ≤ sizeLine := by
        refine Nat.le_trans (length_mergeK more []) ?_
        have e := rv.length
        rw [List.length_nil, Nat.zero_add, rel.length, hl]
        exact Nat.le_trans (Nat.min_le_left _ _) (by rw [← e]; exact z1)
      have hzl : min its.toArray.size its2.toArray.size ≤ sizeLine := by
        have e := rv.length
        rw [List.size_toArray, List.size_toArray]
        exact Nat.le_trans (Nat.min_le_left _ _) (by rw [← e]; exact z1)
      refine PySem.call_dict_pairs (knd := mixKind X.prog X.w) (kvs := rs) (En.pairArg_zipT (s1.heap.objs.size + 4) (s1.heap.objs.size + 2) (s1.heap.objs.size + 3) s1.heap.objs.size (s1.heap.objs.size + 1) q1 q2 (PySem.W.ktu_apart s1.heap.objs.size q1 q2 (Heap.lt_size ho1) (Heap.lt_size ho2)) its.toArray its2.toArray) (I1.ok.hd hcalm)
        (show _ from ⟨hz, hTI, ⟨_, _, hTO⟩, h1, h2, (show Heap.IsTuple s1.heap q1 its.toArray from t1).at fun o e => hk _ o e, (show Heap.IsTuple s1.heap q2 its2.toArray from t2).at fun o e => hk _ o e⟩) ⟨by rw [hl, List.size_toArray, List.size_toArray], fun i u y e' => ?_⟩ hzl fun h2' tk hd' k => ?_
      · exact hat i u y (by simpa using e'.1) (by simpa using e'.2)
      · have kk : ∀ c o, s1.heap.get? c = some o → h2'.get? c = some o := fun c o e => k c o (fun hm => by
            have lt := Heap.lt_size e
            have hm : c = s1.heap.objs.size + 4 ∨ c = s1.heap.objs.size + 3 ∨ c = s1.heap.objs.size ∨ c = s1.heap.objs.size + 1 := by simpa using hm
            have lt : c < s1.heap.objs.size := lt
            rcases hm with h | h | h | h <;> (rw [h] at lt; exact absurd lt (Nat.not_lt.mpr (by first | exact Nat.le_refl _ | exact Nat.le_add_right _ _)))) (hk c o e)
        have hge : s1.heap.objs.size ≤ h'.objs.size := by rw [hsz]; omega
        have hbig := I1.big
        have hm : (h'.objs.size == sysModules) = false := beq_eq_false_iff_ne.mpr (Nat.ne_of_gt (Nat.lt_of_lt_of_le hbig hge))
        exact ⟨.ref h'.objs.size, upd H1 h'.objs.size (.dK (mergeK [] more)), I1.laid (t' := tk) kk hge (show ObjOk X.prog X.w _ _ _ (.dK (mergeK [] more)) from ⟨hlen, hm, merged [] rs, KV.merge rel .nil, hd'⟩), rfl, q _ (I1.hok.fresh hge)⟩
end
section
variable {X : Cx} {fa ea : Nat → Option Addr} {W : WX} {mv ow ow1 ow2 : List Nat} {a b : Expr} {A Bb : EX} {pos pos2 p p2 : Pos}
theorem SE.dictZip (hcalm : X.calm = true) (hg : Gl X "dict") (hm : X.mg "dict" = none) (hg2 : Gl X "zip") (hm2 : X.mg "zip" = none) (ha : SE X (Gm.mk X.K fa ea) W mv ow ow1 .rd a A) (hb : SE X (Gm.mk X.K fa ea) W mv ow1 ow2 .rd b Bb)
    (hs : starEach [a, b] X.env = (false, eval a X.env) :: starEach [b] X.env := by rfl) (hs2 : starEach [b] X.env = (false, eval b X.env) :: starEach [] X.env := by rfl) (hpl : (backTo pos2 (starEach [b] X.env)).any (·.1) = false := by rfl)
    (ho : starEach [.Call (.Name "zip" p2) [a, b] [] pos2] X.env = (false, eval (.Call (.Name "zip" p2) [a, b] [] pos2) X.env) :: starEach [] X.env := by rfl) :
    SE X (Gm.mk X.K fa ea) W mv ow ow2 .own (.Call (.Name "dict" p) [.Call (.Name "zip" p2) [a, b] [] pos2] [] pos) (e2 dZipT A Bb) :=
  PE.imp (pe_dictZip (fun _ _ _ h => dZip_r (fa := fa) (ea := ea) h) hcalm hg hm hg2 hm2 (pa_cons ha (pa_cons hb pa_nil hs2) hs) hs hpl ho) fun _ _ _ h => arg2 (o := true) h
theorem SE.dict (hcalm : X.calm = true) (hg : Gl X "dict") (hm : X.mg "dict" = none) (ha : SE X (Gm.mk X.K fa ea) W mv ow ow1 .rd a A) (he : starEach [a] X.env = (false, eval a X.env) :: starEach [] X.env := by rfl) (hpl : (backTo pos (starEach [] X.env)).any (·.1) = false := by rfl) :
    SE X (Gm.mk X.K fa ea) W mv ow ow1 .own (.Call (.Name "dict" p) [a] [] pos) (e1 bDict A) :=
  SE.ty1 (o := true) (dict_F hcalm) hg hm PyProof.Rows.boot_dict ha (by decide) (by decide) he hpl
end
end F
/-! F4: what the head tells of the module; rules that lean on it. -/
namespace F
open PySem PySem.Spec PyProof.Rows L2
/-! ### the head's Bools -/
/-- the value u of the module is d -/
def repB (K : Frag) : Nat → D → Value → Bool
  | 0, _, _ => false
  | _ + 1, .non, .none => true
  | _ + 1, .bl b, .bool c => b == c
  | _ + 1, .int i, .int j _ => decide (i = j)
  | _ + 1, .str s, .str y _ => decide (y = ⟨s.toArray⟩)
  | n + 1, .tup ds, .ref a => (match K.lookup a with
    | some ⟨.type c, none, .seq its _, _⟩ => decide (c = "tuple") && (decide (its.size ≤ sizeLine) && (decide (ds.length = its.toList.length) && (ds.zip its.toList).all fun p => repB K n p.1 p.2))
    | _ => false)
  | _, _, _ => false
theorem repB_all {K : Frag} {n : Nat} (ih : ∀ d u, repB K n d u = true → ∃ v, RelV v u ∧ ∀ fa F, Rep K fa F d v) : ∀ (ds : List D) (us : List Value), ds.length = us.length → ((ds.zip us).all fun p => repB K n p.1 p.2) = true → ∃ vs, Vals vs us ∧ ∀ fa F, RepL K fa F ds vs
  | [], [], _, _ => ⟨[], .nil, fun _ _ => rfl⟩
  | [], _ :: _, h, _ => by cases h
  | _ :: _, [], h, _ => by cases h
  | d :: ds, u :: us, h, q => by
    rw [List.zip_cons_cons, List.all_cons, Bool.and_eq_true] at q
    obtain ⟨v, r, h1⟩ := ih d u q.1
    obtain ⟨vs, rs, h2⟩ := repB_all ih ds us (by simpa using h) q.2
    exact ⟨v :: vs, .cons r rs, fun fa F => ⟨v, vs, rfl, h1 fa F, h2 fa F⟩⟩
theorem repB_ok {K : Frag} : ∀ (n : Nat) (d : D) (u : Value), repB K n d u = true → ∃ v, RelV v u ∧ ∀ fa F, Rep K fa F d v := by
  intro n
  induction n with
  | zero => intro d u h; cases h
  | succ n ih =>
    intro d u h
    cases d with
    | non => cases u with
      | none => exact ⟨.non, rfl, fun _ _ => rfl⟩
      | _ => cases h
    | bl b => cases u with
      | bool c =>
        have e : b = c := eq_of_beq (show (b == c) = true from h)
        subst e
        exact ⟨.bl b, rfl, fun _ _ => rfl⟩
      | _ => cases h
    | int i => cases u with
      | int j t =>
        have e : i = j := of_decide_eq_true (show decide (i = j) = true from h)
        subst e
        exact ⟨.int i, ⟨t, rfl⟩, fun _ _ => rfl⟩
      | _ => cases h
    | str s => cases u with
      | str y t =>
        have e : y = ⟨s.toArray⟩ := of_decide_eq_true (show decide (y = ⟨s.toArray⟩) = true from h)
        subst e
        exact ⟨.str ⟨s.toArray⟩, ⟨t, rfl⟩, fun _ _ => rfl⟩
      | _ => cases h
    | tup ds => cases u with
      | ref a =>
        have h : (match K.lookup a with
          | some ⟨.type c, none, .seq its _, _⟩ => decide (c = "tuple") && (decide (its.size ≤ sizeLine) && (decide (ds.length = its.toList.length) && (ds.zip its.toList).all fun p => repB K n p.1 p.2))
          | _ => false) = true := h
        split at h
        · rename_i c its k sl q
          simp only [Bool.and_eq_true, decide_eq_true_eq] at h
          obtain ⟨h1, h2, h3, h4⟩ := h
          subst h1
          obtain ⟨vs, r, hv⟩ := repB_all ih ds its.toList h3 h4
          exact ⟨.ref a, rfl, fun fa F => ⟨a, vs, rfl, .inr ⟨_, its, k, q, rfl, rfl, rfl, h2, r⟩, hv fa F⟩⟩
        · cases h
      | _ => cases h
    | _ => cases u <;> cases h
def cB (K : Frag) (x : Str) (d : D) : Bool := match PySem.W.nsIn K mainGlobals x with
  | some (some u) => repB K 40 d u
  | _ => false
def excB (K : Frag) (x : Str) : Bool :=
  let C := He.ga K x
  (He.Fa.glo x).ok K && ((He.Fa.exc x).ok K && (decide (PySem.W.findIn K (.ref C) "__getattribute__" = some (some (.builtin "BaseException.__getattribute__"))) && (decide (PySem.W.findIn K (.ref C) "__getattr__" = some none) && (decide (PySem.W.hasDictIn K C = true) &&
    (decide (PySem.W.findIn K (.ref C) "__class__" = some (some (.builtin "object.__class__"))) && (decide (PySem.W.specialIn K (.builtin "object.__class__") "__get__" = some (some (.builtin "getset_descriptor.__get__"))) && (decide (PySem.W.takesIn K (.builtin "object.__class__") = some true) &&
    (decide (PySem.W.mroIn K C (.type "object") = some true) && decide (PySem.W.kitOne K (.ref C) (.type "ValueError") = some true)))))))))
def okF (gl fr : List Str) (dn : List He.DefD) (cs : List (Str × D)) (ec : List Str) (K : Frag) : Bool :=
  (gl.all fun x => (He.Fa.glo x).ok K && (He.Fa.keep x).ok K) && ((fr.all fun x => (He.Fa.free x).ok K) && ((dn.all fun d => d.ok K) && ((cs.all fun c => cB K c.1 c.2) && ((ec.all fun x => excB K x) &&
    (List.range ec.length).all fun i => (List.range ec.length).all fun j => match ec[i]?, ec[j]? with
      | some x, some y => (He.Fa.exm x y (Nat.beq i j)).ok K
      | _, _ => true))))
def obsF (gl fr : List Str) (dn : List He.DefD) (cs : List (Str × D)) (ec : List Str) (K : Frag) : He.AlD := (okF gl fr dn cs ec K, dn.map fun d => He.fnW K d.at_)
def obsFG (n : Nat) (gl fr : List Str) (dn : List He.DefD) (cs : List (Str × D)) (ec : List Str) (g : Addr → Option Obj) : He.AlD := obsF gl fr dn cs ec (He.frG g (He.asD g n))
def hookF (n : Nat) (gl fr : List Str) (dn : List He.DefD) (cs : List (Str × D)) (ec : List Str) : PySem.W.Hook where
  α := He.AlD
  obs := fun s => obsFG n gl fr dn cs ec s.heap.get?
  val := fun _ => He.valD dn
  says := fun _ h => ∃ K : Frag, K.In h ∧ obsF gl fr dn cs ec K = He.valD dn
  of := fun _ _ e => ⟨_, He.frG_in, e⟩
  keeps := fun _ _ _ ⟨K, hK, c⟩ k => ⟨K, PySem.W.Frag.In.keeps hK k, c⟩
theorem obsFG_eq {n : Nat} {gl fr : List Str} {dn : List He.DefD} {cs : List (Str × D)} {ec : List Str} {g : Addr → Option Obj} {s : Shared} (h : ∀ a, g a = s.heap.get? a) : obsFG n gl fr dn cs ec g = (hookF n gl fr dn cs ec).obs s := by
  have e : g = s.heap.get? := funext h
  rw [e] <;> rfl
/-! ### as facts -/
def faOf (gl : List Str) (K : Frag) (i : Nat) : Option Addr := (gl[i]?).map (He.ga K)
structure ExF (K : Frag) (mg : Str → Option Value) (x : Str) : Prop where
  at_ : mg x = some (.ref (He.ga K x))
  ex : PySem.W.excIn K (He.ga K x) He.veBase "ValueError.__new__" = true
  kp : PySem.W.keepIn K (.ref (He.ga K x)) = true
  sb : PySem.W.subIn K (.ref (He.ga K x)) (.type "BaseException") = some true
  ty : PySem.W.typeIn K (.ref (He.ga K x)) = some (.type "type")
  is : ExcC K (He.ga K x)
  ve : PySem.W.kitOne K (.ref (He.ga K x)) (.type "ValueError") = some true
/-- what the head tells -/
structure Hd (gl fr : List Str) (dn : List He.DefD) (cs : List (Str × D)) (ec : List Str) (K : Frag) (mg : Str → Option Value) (fds : Nat → FuncData) : Prop where
  hgl : ∀ (i : Nat) (x : Str), gl[i]? = some x → mg x = some (.ref (He.ga K x)) ∧ PySem.W.keepIn K (.ref (He.ga K x)) = true
  hfr : ∀ (i : Nat) (x : Str), fr[i]? = some x → mg x = none
  hdn : ∀ (i : Nat) (d : He.DefD), dn[i]? = some d → FunD K d.name d.qual d.params d.body d.scope (d.dvs K) (d.kws K) (He.fAd K d.at_) (fds i)
  hcs : ∀ (i : Nat) (x : Str) (d : D), cs[i]? = some (x, d) → ∃ u v, mg x = some u ∧ RelV v u ∧ ∀ fa F, Rep K fa F d v
  hec : ∀ (i : Nat) (x : Str), ec[i]? = some x → ExF K mg x
  hem : ∀ (i j : Nat) (x y : Str), ec[i]? = some x → ec[j]? = some y → PySem.W.exmOne K (.ref (He.ga K x)) (.ref (He.ga K y)) = some (Nat.beq i j)
section
variable {gl fr : List Str} {dn : List He.DefD} {cs : List (Str × D)} {ec : List Str} {K : Frag} {mg : Str → Option Value} {fds : Nat → FuncData}
theorem excB_ok {h : Heap} (X : K.In h) (G : h.Ns mainGlobals mg) {x : Str} (c : excB K x = true) : ExF K mg x := by
  unfold excB at c
  obtain ⟨c1, c⟩ := He.ba c
  obtain ⟨c2, c⟩ := He.ba c
  obtain ⟨c3, c⟩ := He.ba c
  obtain ⟨c4, c⟩ := He.ba c
  obtain ⟨c5, c⟩ := He.ba c
  obtain ⟨c6, c⟩ := He.ba c
  obtain ⟨c7, c⟩ := He.ba c
  obtain ⟨c8, c⟩ := He.ba c
  obtain ⟨c9, c10⟩ := He.ba c
  obtain ⟨e1, e2, e3, e4⟩ := He.exc_ok c2
  exact ⟨He.glo_ok X G c1, e1, e2, e3, e4, ⟨of_decide_eq_true c3, of_decide_eq_true c4, e3, of_decide_eq_true c5, of_decide_eq_true c6, of_decide_eq_true c7, of_decide_eq_true c8, of_decide_eq_true c9⟩, of_decide_eq_true c10⟩
theorem cB_ok {h : Heap} (X : K.In h) (G : h.Ns mainGlobals mg) {x : Str} {d : D} (c : cB K x d = true) : ∃ u v, mg x = some u ∧ RelV v u ∧ ∀ fa F, Rep K fa F d v := by
  unfold cB at c
  cases e : PySem.W.nsIn K mainGlobals x with
  | none => rw [e] at c; cases c
  | some o =>
    cases o with
    | none => rw [e] at c; cases c
    | some u =>
      rw [e] at c
      obtain ⟨v, r, h⟩ := repB_ok 40 d u c
      exact ⟨u, v, PySem.W.mg_of X G e, r, h⟩
theorem hd_of {h : Heap} (X : K.In h) (G : h.Ns mainGlobals mg) (c : obsF gl fr dn cs ec K = He.valD dn) : ∃ fds, Hd gl fr dn cs ec K mg fds := by
  have c1 : okF gl fr dn cs ec K = true := congrArg (fun z : He.AlD => z.1) c
  have c2 : dn.map (fun d => He.fnW K d.at_) = dn.map He.DefD.val := congrArg (fun z : He.AlD => z.2) c
  unfold okF at c1
  obtain ⟨b1, c1⟩ := He.ba c1
  obtain ⟨b2, c1⟩ := He.ba c1
  obtain ⟨b3, c1⟩ := He.ba c1
  obtain ⟨b4, c1⟩ := He.ba c1
  obtain ⟨b5, b6⟩ := He.ba c1
  have fd : ∀ i : Nat, ∃ fd : FuncData, ∀ d, dn[i]? = some d → FunD K d.name d.qual d.params d.body d.scope (d.dvs K) (d.kws K) (He.fAd K d.at_) fd := fun i => by
    cases e : dn[i]? with
    | none => exact ⟨default, fun d h => by cases h⟩
    | some d =>
      have e2 : (dn.map fun d => He.fnW K d.at_)[i]? = (dn.map He.DefD.val)[i]? := by rw [c2]
      rw [List.getElem?_map, List.getElem?_map, e] at e2
      obtain ⟨fd, F⟩ := He.DefD.funD (Option.some.inj e2) (List.all_eq_true.mp b3 d (List.mem_of_getElem? e))
      exact ⟨fd, fun d' h => by cases h; exact F⟩
  refine ⟨fun i => Classical.choose (fd i), fun i x e => ?_, fun i x e => ?_, fun i d e => Classical.choose_spec (fd i) d e, fun i x d e => ?_, fun i x e => ?_, fun i j x y e1 e2 => ?_⟩
  · obtain ⟨h1, h2⟩ := He.ba (List.all_eq_true.mp b1 x (List.mem_of_getElem? e))
    exact ⟨He.glo_ok X G h1, h2⟩
  · exact He.free_ok X G (List.all_eq_true.mp b2 x (List.mem_of_getElem? e))
  · exact cB_ok X G (List.all_eq_true.mp b4 (x, d) (List.mem_of_getElem? e))
  · exact excB_ok X G (List.all_eq_true.mp b5 x (List.mem_of_getElem? e))
  · have hi : i < ec.length := (List.getElem?_eq_some_iff.mp e1).1
    have hj : j < ec.length := (List.getElem?_eq_some_iff.mp e2).1
    have h1 := List.all_eq_true.mp b6 i (List.mem_range.mpr hi)
    have h2 := List.all_eq_true.mp h1 j (List.mem_range.mpr hj)
    rw [e1, e2] at h2
    exact He.exm_ok h2
end
theorem ecF {gl fr : List Str} {dn : List He.DefD} {cs : List (Str × D)} {ec : List Str} {K : Frag} {mg : Str → Option Value} {fds : Nat → FuncData} (h : Hd gl fr dn cs ec K mg fds) {j : Nat} {y : Str} (e : ec[j]? = some y) : EcF K (faOf ec K) j (He.ga K y) := by
  have x := h.hec j y e
  refine ⟨by unfold faOf; rw [e]; rfl, fun c Cc h2 => ?_, x.is, x.ve⟩
  unfold faOf at h2
  cases e2 : ec[c]? with
  | none => rw [e2] at h2; cases h2
  | some z =>
    rw [e2] at h2
    cases h2
    exact h.hem c j z y e2 e
/-! ### rules that lean on it -/
section
variable {X : Cx} {fa ea : Nat → Option Addr} {W : WX} {mv ow ow1 owN owL : List Nat} {kr : Kd} {pos pos2 p : Pos} {x : Str}
theorem SE.glob {d : D} (hg : Gl X x) (h : ∃ u v, X.mg x = some u ∧ RelV v u ∧ ∀ fa F, Rep X.K fa F d v) (hd : (x == ("__debug__" : Str)) = false := by decide) : SE X (Gm.mk X.K fa ea) W mv ow ow .rp (.Name x pos) (eCon d) := by
  obtain ⟨u, v, h1, h2, h3⟩ := h
  exact SE.con (pe_glob hg h1 h2 hd) fun F => h3 fa F
theorem SE.fn {i : Nat} {a : Addr} (hg : Gl X x) (h : X.mg x = some (.ref a)) (hf : fa i = some a) (hd : (x == ("__debug__" : Str)) = false := by decide) : SE X (Gm.mk X.K fa ea) W mv ow ow .rp (.Name x pos) (eCon (.fn i)) :=
  SE.con (pe_glob hg h (v := .ref a) rfl hd) fun F => ⟨a, rfl, hf⟩
theorem SS.raiseE {n : Nat} (hc : X.calm = true) (tk : L2.Takes X W) (h : ExF X.K X.mg x) (hg : Gl X x) (he : ea n = some (He.ga X.K x)) (hdb : (x == ("__debug__" : Str)) = false := by decide) : SS X (Gm.mk X.K fa ea) W mv ow owN owL kr (.Raise (some (.Call (.Name x p) [] [] pos2)) none pos) (sRaise n) :=
  SS.raise (x := x) hc tk (pmk_own0 PySem.F.excBase_ValueError h.ex h.at_ h.kp (raises_own h.sb h.ty) hg hdb) he
theorem arm_call_sub (a b : Expr) (p : Pos) (args : List Expr) (keywords : List Keyword) (pos : Pos) (env : PySem.Env) : eval (.Call (.Subscript a b p) args keywords pos) env = (do
    callWith pos (← eval (.Subscript a b p) env) [] (backTo pos (starEach args env)) (backToKw pos (keywordEach keywords env))) := rfl
theorem call_sub {a b : Expr} {p : Pos} {args : List Expr} {M : Model} {A : Around} {s : Shared} {E : Value → Shared → Prop} {Q : Value → Shared → Prop} {env : PySem.Env}
    (h : wpAny M A (eval (.Subscript a b p) env) (fun v s1 => wpAny M A (callWith pos v [] (backTo pos (starEach args env)) []) Q E s1) E s) : wpAny M A (eval (.Call (.Subscript a b p) args [] pos) env) Q E s := by
  rw [arm_call_sub]
  exact wpAny_bind h
end
section
variable {P : Program} {w : World} {K : Frag} {mg : Str → Option Value} {base : Heap} {N : List Str} {qual : Str} {scope : Scope} {f : Addr} {cdv : Value} {A : Around} {outer : List PySem.Env} {s : Shared} {H : Hp} {E : XK}
theorem takesX : L2.Takes (cxOf (L2.CX P w) P w K mg base N qual scope f cdv A outer s H E) (fun cls d _ H => E cls d H) := L2.takes_of rfl rfl rfl rfl
theorem passX : PassesOwn (model P w) (A.deeper (envOfC qual scope s.heap.objs.size f cdv)) (envOfC qual scope s.heap.objs.size f cdv) (cxOf (L2.CX P w) P w K mg base N qual scope f cdv A outer s H E).xe := L2.passes_of (X := cxOf (L2.CX P w) P w K mg base N qual scope f cdv A outer s H E) rfl
end
theorem Room.u50 {k : Nat} {A : Around} (r : Room k A) : A.units + 50 < cLine := by have := r.un; omega
end F
/-! F5: small rules for the printed texts. -/
namespace F
open PySem PySem.Spec PyProof.Rows L2
def oLtI : D → D → Option D
  | .int a, .int b => some (.bl (!leI b a))
  | _, _ => none
section
variable {X : Cx} {fa ea : Nat → Option Addr}
theorem lt_F : OpR X (compareOp .Lt) (r2 (Gm.mk X.K fa ea) true oLtI) := by
  intro pins s σ H x y v u Q I rx ry h
  obtain ⟨F, dx, dy, d, S, hx, hy, hf, q⟩ := h
  cases dx with
  | int i => cases dy with
    | int j => cases hf; exact op_lt pins s σ H x y v u Q I rx ry ⟨i, j, hx.int, hy.int, by dsimp only; rw [← nleI_dec]; exact stays S q rfl rfl⟩
    | _ => cases hf
  | _ => cases hf
end
theorem fnS_len {p k : Nat} {S : ST} {ds : List D} (h : fnS p k S ds ≠ .bad) : ds.length = p := by
  unfold fnS at h
  cases e : Nat.beq ds.length p with
  | true => exact Nat.eq_of_beq_eq_true e
  | false => rw [e] at h; exact absurd rfl h
theorem FunD.bindsK {K : Frag} {x qual : Str} {params : Arguments} {body : List Stmt} {scope : Scope} {f : Addr} {fd : FuncData} (F : FunD K x qual params body scope [] [] f fd) {ks ps : List Str} {ix : List Nat}
    (h : ∀ (kV doc pm : Value) (an : Option Addr) (cdv ct : Value) (ws : List Value), ws.length = ks.length → bindArgs (PySem.W.fnOf x qual params body scope .none kV doc pm an cdv ct) ⟨[], ks.zip ws⟩ = pure (ps.zip (pick ix ws))) :
    ∀ (s : Shared) (ws : List Value), K.In s.heap → ws.length = ks.length → BindsTo s fd ⟨[], ks.zip ws⟩ (ps.zip (pick ix ws)) := fun s ws _ hl => by
  obtain ⟨oc, od, dV, kV, doc, pm, an, cdv, ct, osl, rfl, lk, hcd, hD, hK⟩ := F.ex
  rcases hD with ⟨_, rfl⟩ | ⟨e, _⟩
  · exact .of_eq (h kV doc pm an cdv ct ws hl)
  · exact absurd rfl e
theorem fn_weak {P : Program} {w : World} {K : Frag} {mg : Str → Option Value} {base : Heap} {CX : CXT} {n : Nat} {g : Gm} {f : Addr} {fd : FuncData} {ps : List Str} {p : Nat} {b : Fn} (h : FnOk P w K mg base CX n f fd ps (spF g p true b)) : FnOk P w K mg base CX n f fd ps (spF g p false b) :=
  h.imp fun vs H Q E q => spF_weak vs H Q E q
end F
/-! F6: a comprehension that is given a name on one line. -/
namespace F
open PySem PySem.Spec PyProof.Rows L2
section
variable {X : Cx} {fa ea : Nat → Option Addr} {W : WX} {mv ow ow1 ow2 owL : List Nat} {k kr : Kd} {pos spos : Pos} {A : EX} {σ : St} {H : Hp} {Q : VK}
theorem tE_rp (h : tE (Gm.mk X.K fa ea) W mv ow ow1 .rp A σ H Q) : tE (Gm.mk X.K fa ea) W mv ow ow1 .own A σ H Q := by
  obtain ⟨B, F, r, m, hL, S, h⟩ := h
  refine ⟨B, F, r, m, hL, S, ?_⟩
  cases e : A r m with
  | ok d =>
    rw [e] at h
    exact fun v H' F' T R => by
      obtain ⟨F2, l2, S2, p, gw⟩ := freezeRes S T.sim (fun z => by cases z) R
      exact h v H' F2 ⟨S2, T.le.trans l2, T.ext, fun c hc n => (gw c hc).trans (T.grow c hc n)⟩ p
  | exc c => rw [e] at h; exact h
  | bad => rw [e] at h; exact h
theorem SS.asgLc {i : Nat} {y : Str} {py : Pos} {elt tg iter : Expr} {ifs : List Expr} {scope : Scope} {own : List (Str × Nat)} {vs : List Nat} {It : EA} {G0 : G} {TT EL : EX} (hc : X.calm = true) (hN : X.N.Nodup) (hy : X.N[i]? = some y) (hyl : X.env.scope.names.lookup y = some .local) (hm : i ∉ mv) (hl : i < X.N.length)
    (hk : X.env.scope.kind = .function) (hln : (py.line == pos.line) = true) (hna : (scope.names.any fun (n, k) => n == y && (k == .local || k == .cell)) = false)
    {wk : Bool} (hi : PI X tg iter (tI X (Gm.mk X.K fa ea) wk W mv ow ow1 It)) (ok : BlkOk X.N X.env.scope scope own)
    (hg : ∀ (s : Shared) (H : Hp) (C : Addr) (cl : List (Str × Addr)) (fp : List Addr), SG (X.blk s H scope (compEnvC scope cl C X.env) fp) (Gm.mk X.K fa ea) mv 3 tg G0)
    (ht : ∀ (s : Shared) (H : Hp) (C : Addr) (cl : List (Str × Addr)) (fp : List Addr), PTs (X.blk s H scope (compEnvC scope cl C X.env) fp) ifs (tX (Gm.mk X.K fa ea) W0 mv ow1 ow1 TT))
    (he : ∀ (s : Shared) (H : Hp) (C : Addr) (cl : List (Str × Addr)) (fp : List Addr), SE (X.blk s H scope (compEnvC scope cl C X.env) fp) (Gm.mk X.K fa ea) W0 mv ow1 ow1 .rp elt EL)
    (hvs : own.map (·.2) = vs := by rfl) (hv : ∀ i ∈ vs, i ∉ mv := by decide) (hng : ∀ i ∈ namesG G0, i ∈ vs := by decide) (hw : wk = true → ∃ gs, G0 = .t gs := by first | exact (fun h => nomatch h) | exact fun _ => ⟨_, rfl⟩) (hs : ∀ x, foldedSetIterable iter X.env x = pure x := by intro _; rfl) :
    SS X (Gm.mk X.K fa ea) W mv ow ow1 owL kr (.Assign [.Name y py] (.ListComp elt [⟨tg, iter, ifs, 0⟩] scope pos) spos) (sAsg (.n i) (eComp G0 It TT EL vs)) :=
  ⟨fun pins s σ H D I h => (ps_unl (ps_setLc hc hN hy hyl (sw_true hk hyl hln hna) hi ok hg ht he hs)).run pins s σ H D I (by
    refine comp_reads (ow := ow) (ow1 := ow1) (Q := fun v H' => D.nx (σ.set i (some v)) H') (W := W) hi hg ht he hvs hv hng hw (tE_rp ?_)
    obtain ⟨B, F, r, m, hL, S, h⟩ := h
    refine ⟨B, F, r, m, hL, S, ?_⟩
    unfold sAsg at h
    cases ee : eComp G0 It TT EL vs r m with
    | exc c => rw [ee] at h; exact exS h
    | bad => rw [ee] at h; exact h
    | ok d =>
      rw [ee] at h
      exact fun v H1 F1 T1 R1 => h _ H1 F1 (T1.sim.setR hm (by rw [I.len]; exact hl) R1))⟩
theorem SS.asgMvLc {i : Nat} {y : Str} {py : Pos} {elt tg iter : Expr} {ifs : List Expr} {scope : Scope} {own : List (Str × Nat)} {vs : List Nat} {It : EA} {G0 : G} {TT EL : EX} (hc : X.calm = true) (hN : X.N.Nodup) (hy : X.N[i]? = some y) (hyl : X.env.scope.names.lookup y = some .local) (hm : i ∈ mv) (hl : i < X.N.length)
    (hk : X.env.scope.kind = .function) (hln : (py.line == pos.line) = true) (hna : (scope.names.any fun (n, k) => n == y && (k == .local || k == .cell)) = false)
    {wk : Bool} (hi : PI X tg iter (tI X (Gm.mk X.K fa ea) wk W mv ow ow1 It)) (ok : BlkOk X.N X.env.scope scope own)
    (hg : ∀ (s : Shared) (H : Hp) (C : Addr) (cl : List (Str × Addr)) (fp : List Addr), SG (X.blk s H scope (compEnvC scope cl C X.env) fp) (Gm.mk X.K fa ea) mv 3 tg G0)
    (ht : ∀ (s : Shared) (H : Hp) (C : Addr) (cl : List (Str × Addr)) (fp : List Addr), PTs (X.blk s H scope (compEnvC scope cl C X.env) fp) ifs (tX (Gm.mk X.K fa ea) W0 mv ow1 ow1 TT))
    (he : ∀ (s : Shared) (H : Hp) (C : Addr) (cl : List (Str × Addr)) (fp : List Addr), SE (X.blk s H scope (compEnvC scope cl C X.env) fp) (Gm.mk X.K fa ea) W0 mv ow1 ow1 .rp elt EL) (ho : i :: ow1.filter (· != i) = ow2)
    (hvs : own.map (·.2) = vs := by rfl) (hv : ∀ i ∈ vs, i ∉ mv := by decide) (hng : ∀ i ∈ namesG G0, i ∈ vs := by decide) (hw : wk = true → ∃ gs, G0 = .t gs := by first | exact (fun h => nomatch h) | exact fun _ => ⟨_, rfl⟩) (hs : ∀ x, foldedSetIterable iter X.env x = pure x := by intro _; rfl) :
    SS X (Gm.mk X.K fa ea) W mv ow ow2 owL kr (.Assign [.Name y py] (.ListComp elt [⟨tg, iter, ifs, 0⟩] scope pos) spos) (sMv i (eComp G0 It TT EL vs)) :=
  ⟨fun pins s σ H D I h => (ps_unl (ps_setLc hc hN hy hyl (sw_true hk hyl hln hna) hi ok hg ht he hs)).run pins s σ H D I (by
    subst ho
    refine comp_reads (ow := ow) (ow1 := ow1) (Q := fun v H' => D.nx (σ.set i (some v)) H') (W := W) hi hg ht he hvs hv hng hw ?_
    obtain ⟨B, F, r, m, hL, S, h⟩ := h
    refine ⟨B, F, r, m, hL, S, ?_⟩
    unfold sMv at h
    cases ee : eComp G0 It TT EL vs r m with
    | exc c => rw [ee] at h; exact exS h
    | bad => rw [ee] at h; exact h
    | ok d =>
      rw [ee] at h
      exact fun v H1 F1 T1 R1 => h _ H1 F1 (S.setM T1.sim hm (by rw [I.len]; exact hl) R1))⟩
end
def TabOkP (P : Program) (w : World) (K : Frag) (mg : Str → Option Value) (base : Heap) (fa ea : Nat → Option Addr) (m : Nat) (T : Nat → Fn) : Prop := ∀ i a, fa i = some a → ∃ fd ps n, FnOk P w K mg base (L2.CX P w) m a fd ps (spF (Gm.mk K fa ea) n false (T i)) ∧ Binds K fd ps [] ∧ (∀ ds, T i ds ≠ .bad → ds.length = n) ∧ PySem.W.keepIn K (.ref a) = true
end F
/-! F7: the end. -/
namespace F
open PySem PySem.Spec PyProof.Rows L2
def CXU (P : Program) : CXT := fun outer H s E u s' => ∃ w, L2.CX P w outer H s E u s'
theorem fn_cxu {P : Program} {w : World} {K : Frag} {mg : Str → Option Value} {base : Heap} {n : Nat} {f : Addr} {fd : FuncData} {ps : List Str} {sp : Sp} (h : FnOk P w K mg base (L2.CX P w) n f fd ps sp) : FnOk P w K mg base (CXU P) n f fd ps sp :=
  ⟨h.len, fun A outer s H args us vs Q E h1 h2 h3 h4 h5 => codeAny_mono (h.run A outer s H args us vs Q E h1 h2 h3 h4 h5) fun r s' q => by
    cases r with
    | error e => exact ⟨w, q⟩
    | ok fl => cases fl <;> exact q⟩
theorem cxu_none {P : Program} (H : Hp) (s : Shared) (e : Value) (s' : Shared) (h : CXU P [] H s (fun _ _ _ => False) e s') : False := by
  obtain ⟨w, _, _, _, _, _, _, _, _, _, _, _, _, z⟩ := h
  exact z
def isT : RF → Bool
  | .ok (.bl true) [] => true
  | _ => false
theorem isT_eq {r : RF} (h : isT r = true) : r = .ok (.bl true) [] := by
  cases r with
  | ok d outs =>
    cases d with
    | bl b => cases b with
      | true => cases outs with
        | nil => rfl
        | cons _ _ => cases h
      | false => cases outs <;> cases h
    | _ => cases outs <;> cases h
  | exc c => cases h
  | bad => cases h
theorem isT_call {f : Fn} (h : isT (f []) = true) : eCall f aNil = eCon (.bl true) := by
  funext r m
  unfold eCall aNil eCon
  dsimp only
  rw [isT_eq h]
/-- the law says True of any script -/
theorem law_sp {g : Gm} {f : Fn} (h : isT (f [.exv 0]) = true) (H : Hp) (a : Addr) : spF g 1 false f [.ref a] H (fun v _ => v = .bl true) fun _ _ _ => False := by
  refine ⟨rfl, fun _ => none, [.exv 0], fun _ _ e => (by cases e), .cons ⟨a, rfl⟩ .nil, ?_⟩
  rw [isT_eq h]
  intro v H' F' _ R
  unfold Res at R
  rw [if_neg Bool.false_ne_true] at R
  exact R
end F
/-! ### fillproof_k56_counts_of_fillings_by_hand: the program, as printed by gen.py -/
namespace F
open PySem PySem.Spec PyProof.Rows L2
structure Tbl where
  f_tupled : Fn
  f_is_number : Fn
  f_is_from_one : Fn
  f_is_below : Fn
  f_is_tuple_of : Fn
  f_rises : Fn
  f_set_of : Fn
  f_are_below : Fn
  f_is_set_below : Fn
  f_sure_below : Fn
  f_is_told_prime : Fn
  f_turned : Fn
  f_fits_part : Fn
  f_fits_sum : Fn
  f_sum_told : Fn
  f_added : Fn
  f_worth_in : Fn
  f_put_into : Fn
  f_fits_row : Fn
  f_cells_of_row : Fn
  f_row_kept : Fn
  f_straight_sum : Fn
  f_under_known : Fn
  f_are_rows_of : Fn
  f_is_sheet : Fn
  f_sure_sheet : Fn
  f_straight_ones : Fn
  f_mixed : Fn
  f_part_of : Fn
  f_cleared : Fn
  f_reduced : Fn
  f_times_told : Fn
  f_goal_sum : Fn
  f_shown_by : Fn
  f_cell_to_cut : Fn
  f_solved_by : Fn
  f_breaking_in : Fn
  f_sought : Fn
  f_known_with : Fn
  f_led_on : Fn
  f_fits_times : Fn
  f_sum_by : Fn
  f_sure_numbers : Fn
  f_sure_bearing : Fn
  f_known_inputs : Fn
  f_borne_in : Fn
  f_all_lots : Fn
  f_counted_power : Fn
  f_counted : Fn
  f_how_many_fillings : Fn
  f_how_many_for : Fn
  f_count_paper : Fn
  f_count_in : Fn
  f_counts_added : Fn
  f_is_count_paper : Fn
  f_count_by_paper : Fn
  f_count_row : Fn
  f_had_at : Fn
  f_rests_had : Fn
  f_fixed_cells : Fn
  f_how_often : Fn
  f_are_as_many : Fn
  f_law_same : Fn
  f_law_lists : Fn
  f_law_scene : Fn
  f_law_counts_right : Fn
  f_law_papers_right : Fn
  f_law_heard : Fn
  f_law : Fn
def callF (T : Tbl) (i : Nat) : Fn := match i with
  | 0 => T.f_how_many_fillings
  | 1 => T.f_count_row
  | 2 => T.f_how_many_for
  | 3 => T.f_count_paper
  | 4 => T.f_rests_had
  | 5 => T.f_how_often
  | _ => fun _ => .bad
/-- tupled: thing, part -/
def s_tupled (T : Tbl) : ST :=
      (sSeq (sIf (e1 (bIsi [4, 3]) (eVar 0)) (sRet (e1 bTuple (eComp (.n 1) (iOf iVal (aCons (eVar 0) aNil)) (eCon (.bl true)) (eCall T.f_tupled (aCons (eVar 1) aNil)) [1]))) sNext)
      (sRet (eVar 0)))
def b_tupled (T : Tbl) : Fn := fnS 1 1 (s_tupled T)
/-- is_number: thing -/
def s_is_number (T : Tbl) : ST :=
      (sRet (eAnd (e1 (bIsi [1]) (eVar 0)) (eNot (e1 (bIsi [0]) (eVar 0)))))
def b_is_number (T : Tbl) : Fn := fnS 1 0 (s_is_number T)
/-- is_from_one: thing -/
def s_is_from_one (T : Tbl) : ST :=
      (sRet (eAnd (eCall T.f_is_number (aCons (eVar 0) aNil)) (e2 oGe (eVar 0) (eCon (.int 1)))))
def b_is_from_one (T : Tbl) : Fn := fnS 1 0 (s_is_from_one T)
/-- is_below: thing, bound -/
def s_is_below (T : Tbl) : ST :=
      (sRet (eAnd (eCall T.f_is_number (aCons (eVar 0) aNil)) (eChn oLe oLtI (eCon (.int 0)) (eVar 0) (eVar 1))))
def b_is_below (T : Tbl) : Fn := fnS 2 0 (s_is_below T)
/-- is_tuple_of: thing, size -/
def s_is_tuple_of (T : Tbl) : ST :=
      (sRet (eAnd (e1 (bIsi [3]) (eVar 0)) (e2 oEq (e1 bLen (eVar 0)) (eVar 1))))
def b_is_tuple_of (T : Tbl) : Fn := fnS 2 0 (s_is_tuple_of T)
/-- rises: things, near, far -/
def s_rises (T : Tbl) : ST :=
      (sRet (e1 bAll (eComp (.t [(.n 1), (.n 2)]) (iOf iZip (aCons (eVar 0) (aCons (e2 oCutL (eVar 0) (eCon (.int 1))) aNil))) (eCon (.bl true)) (e2 oLtI (eVar 1) (eVar 2)) [1, 2])))
def b_rises (T : Tbl) : Fn := fnS 1 2 (s_rises T)
/-- set_of: things, found, own -/
def s_set_of (T : Tbl) : ST :=
      (sSeq (sMv 1 (eN fLst aNil))
      (sSeq (sFor (.n 2) (iOf iVal (aCons (e1 bSorted (eVar 0)) aNil)) (sIf (eOr (e2 oEq (eMv 1) (eN fLst aNil)) (e2 oNe (e2 oIx (eMv 1) (e1 oNeg (eCon (.int 1)))) (eVar 2))) (sMut 1 muApp (eVar 2)) sNext))
      (sRet (e1 bTuple (eMv 1)))))
def b_set_of (T : Tbl) : Fn := fnS 1 2 (s_set_of T)
/-- are_below: thing, bound, part -/
def s_are_below (T : Tbl) : ST :=
      (sRet (eAnd (e1 (bIsi [3]) (eVar 0)) (e1 bAll (eComp (.n 2) (iOf iVal (aCons (eVar 0) aNil)) (eCon (.bl true)) (eCall T.f_is_below (aCons (eVar 2) (aCons (eVar 1) aNil))) [2]))))
def b_are_below (T : Tbl) : Fn := fnS 2 1 (s_are_below T)
/-- is_set_below: thing, bound -/
def s_is_set_below (T : Tbl) : ST :=
      (sRet (eAnd (eCall T.f_are_below (aCons (eVar 0) (aCons (eVar 1) aNil))) (eCall T.f_rises (aCons (eVar 0) aNil))))
def b_is_set_below (T : Tbl) : Fn := fnS 2 0 (s_is_set_below T)
/-- sure_below: number, bound -/
def s_sure_below (T : Tbl) : ST :=
      (sSeq (sIf (eNot (eCall T.f_is_below (aCons (eVar 0) (aCons (eVar 1) aNil)))) (sRaise 0) sNext)
      (sRet (eVar 0)))
def b_sure_below (T : Tbl) : Fn := fnS 2 0 (s_sure_below T)
/-- is_told_prime: thing -/
def s_is_told_prime (T : Tbl) : ST :=
      (sRet (eAnd (eCall T.f_is_number (aCons (eVar 0) aNil)) (e2 oIn (eVar 0) (eCon (.tup [(.int 2), (.int 3), (.int 5), (.int 7), (.int 11), (.int 13)])))))
def b_is_told_prime (T : Tbl) : Fn := fnS 1 0 (s_is_told_prime T)
/-- turned: prime, rest, own -/
def s_turned (T : Tbl) : ST :=
      (sRet (e2 oIx (eComp (.n 2) (iOf iRng2 (aCons (eCon (.int 1)) (aCons (eVar 0) aNil))) (e2 oEq (e2 oMod (e2 oMul (eVar 2) (eVar 1)) (eVar 0)) (eCon (.int 1))) (eVar 2) [2]) (eCon (.int 0))))
def b_turned (T : Tbl) : Fn := fnS 2 1 (s_turned T)
/-- fits_part: prime, thing -/
def s_fits_part (T : Tbl) : ST :=
      (sSeq (sIf (eOr (eNot (eCall T.f_is_tuple_of (aCons (eVar 1) (aCons (eCon (.int 2)) aNil)))) (eNot (eCall T.f_is_below (aCons (e2 oIx (eVar 1) (eCon (.int 1))) (aCons (eVar 0) aNil))))) (sRet (eCon (.bl false))) sNext)
      (sRet (eAnd (e2 oGt (e2 oIx (eVar 1) (eCon (.int 1))) (eCon (.int 0))) (eCall T.f_is_below (aCons (e2 oIx (eVar 1) (eCon (.int 0))) (aCons (e2 oPow (eCon (.int 10)) (eCon (.int 9))) aNil))))))
def b_fits_part (T : Tbl) : Fn := fnS 2 0 (s_fits_part T)
/-- fits_sum: prime, thing, part -/
def s_fits_sum (T : Tbl) : ST :=
      (sSeq (sIf (eOr (eNot (eCall T.f_is_tuple_of (aCons (eVar 1) (aCons (eCon (.int 2)) aNil)))) (eOr (eNot (eCall T.f_is_below (aCons (e2 oIx (eVar 1) (eCon (.int 0))) (aCons (eVar 0) aNil)))) (eNot (e1 (bIsi [3]) (e2 oIx (eVar 1) (eCon (.int 1))))))) (sRet (eCon (.bl false))) sNext)
      (sRet (eAnd (e1 bAll (eComp (.n 2) (iOf iVal (aCons (e2 oIx (eVar 1) (eCon (.int 1))) aNil)) (eCon (.bl true)) (eCall T.f_fits_part (aCons (eVar 0) (aCons (eVar 2) aNil))) [2])) (eCall T.f_rises (aCons (e1 bTuple (eComp (.n 2) (iOf iVal (aCons (e2 oIx (eVar 1) (eCon (.int 1))) aNil)) (eCon (.bl true)) (e2 oIx (eVar 2) (eCon (.int 0))) [2])) aNil)))))
def b_fits_sum (T : Tbl) : Fn := fnS 2 1 (s_fits_sum T)
/-- sum_told: prime, number, table, parts, cell, part -/
def s_sum_told (T : Tbl) : ST :=
      (sSeq (sAsg (.n 3) (eComp (.n 4) (iOf iVal (aCons (e1 bSorted (eVar 2)) aNil)) (eCon (.bl true)) (eN fTup (aCons (eVar 4) (aCons (e2 oMod (e2 oIx (eVar 2) (eVar 4)) (eVar 0)) aNil))) [4]))
      (sRet (eN fTup (aCons (e2 oMod (eVar 1) (eVar 0)) (aCons (e1 bTuple (eComp (.n 5) (iOf iVal (aCons (eVar 3) aNil)) (e2 oNe (e2 oIx (eVar 5) (eCon (.int 1))) (eCon (.int 0))) (eVar 5) [5])) aNil)))))
def b_sum_told (T : Tbl) : Fn := fnS 3 3 (s_sum_told T)
/-- added: prime, one, other, often, table, cell, much -/
def s_added (T : Tbl) : ST :=
      (sSeq (sMv 4 (e1 bDict (e2 oIx (eVar 1) (eCon (.int 1)))))
      (sSeq (sFor (.t [(.n 5), (.n 6)]) (iOf iVal (aCons (e2 oIx (eVar 2) (eCon (.int 1))) aNil)) (sSet 4 (e2 oAdd (eGet (eMv 4) (eVar 5) (eCon (.int 0))) (e2 oMul (eVar 3) (eVar 6))) (eVar 5)))
      (sRet (eCall T.f_sum_told (aCons (eVar 0) (aCons (e2 oAdd (e2 oIx (eVar 1) (eCon (.int 0))) (e2 oMul (eVar 3) (e2 oIx (eVar 2) (eCon (.int 0))))) (aCons (eMv 4) aNil)))))))
def b_added (T : Tbl) : Fn := fnS 4 3 (s_added T)
/-- worth_in: prime, told, filling, cell, much -/
def s_worth_in (T : Tbl) : ST :=
      (sRet (e2 oMod (e2 oAdd (e2 oIx (eVar 1) (eCon (.int 0))) (e1 bSum (eComp (.t [(.n 3), (.n 4)]) (iOf iVal (aCons (e2 oIx (eVar 1) (eCon (.int 1))) aNil)) (eCon (.bl true)) (e2 oMul (eVar 4) (e2 oIx (eVar 2) (eVar 3))) [3, 4]))) (eVar 0)))
def b_worth_in (T : Tbl) : Fn := fnS 3 2 (s_worth_in T)
/-- put_into: prime, told, table, found, cell, much, part -/
def s_put_into (T : Tbl) : ST :=
      (sSeq (sAsg (.n 3) (eN fTup (aCons (e2 oIx (eVar 1) (eCon (.int 0))) (aCons (e1 bTuple (eComp (.n 6) (iOf iVal (aCons (e2 oIx (eVar 1) (eCon (.int 1))) aNil)) (e2 oNotIn (e2 oIx (eVar 6) (eCon (.int 0))) (eVar 2)) (eVar 6) [6])) aNil))))
      (sSeq (sFor (.t [(.n 4), (.n 5)]) (iOf iVal (aCons (eComp (.n 6) (iOf iVal (aCons (e2 oIx (eVar 1) (eCon (.int 1))) aNil)) (e2 oIn (e2 oIx (eVar 6) (eCon (.int 0))) (eVar 2)) (eVar 6) [6]) aNil)) (sAsg (.n 3) (eCall T.f_added (aCons (eVar 0) (aCons (eVar 3) (aCons (e2 oIx (eVar 2) (eVar 4)) (aCons (eVar 5) aNil)))))))
      (sRet (eVar 3))))
def b_put_into (T : Tbl) : Fn := fnS 3 4 (s_put_into T)
/-- fits_row: prime, thing, part -/
def s_fits_row (T : Tbl) : ST :=
      (sRet (eAnd (eCall T.f_is_tuple_of (aCons (eVar 1) (aCons (eCon (.int 3)) aNil))) (e1 bAll (eComp (.n 2) (iOf iVal (aCons (eVar 1) aNil)) (eCon (.bl true)) (eCall T.f_fits_sum (aCons (eVar 0) (aCons (eVar 2) aNil))) [2]))))
def b_fits_row (T : Tbl) : Fn := fnS 2 1 (s_fits_row T)
/-- cells_of_row: row, found, part, cell, _ -/
def s_cells_of_row (T : Tbl) : ST :=
      (sSeq (sMv 1 (eN fLst aNil))
      (sSeq (sFor (.n 2) (iOf iVal (aCons (eVar 0) aNil)) (sMut 1 muExt (eComp (.t [(.n 3), (.n 4)]) (iOf iVal (aCons (e2 oIx (eVar 2) (eCon (.int 1))) aNil)) (eCon (.bl true)) (eVar 3) [3, 4])))
      (sRet (eCall T.f_set_of (aCons (eMv 1) aNil)))))
def b_cells_of_row (T : Tbl) : Fn := fnS 1 4 (s_cells_of_row T)
/-- row_kept: prime, row, filling, near, far, due, part -/
def s_row_kept (T : Tbl) : ST :=
      (sSeq (sAsg (.t [(.n 3), (.n 4), (.n 5)]) (eComp (.n 6) (iOf iVal (aCons (eVar 1) aNil)) (eCon (.bl true)) (eCall T.f_worth_in (aCons (eVar 0) (aCons (eVar 6) (aCons (eVar 2) aNil)))) [6]))
      (sRet (e2 oEq (e2 oMod (e2 oMul (eVar 3) (eVar 4)) (eVar 0)) (eVar 5))))
def b_row_kept (T : Tbl) : Fn := fnS 3 4 (s_row_kept T)
/-- straight_sum: prime, row, one, other, due -/
def s_straight_sum (T : Tbl) : ST :=
      (sSeq (sAsg (.t [(.n 2), (.n 3), (.n 4)]) (eVar 1))
      (sSeq (sIf (e2 oEq (e2 oIx (eVar 2) (eCon (.int 1))) (eN fTup aNil)) (sRet (eCall T.f_added (aCons (eVar 0) (aCons (eCall T.f_added (aCons (eVar 0) (aCons (eCon (.tup [(.int 0), (.tup [])])) (aCons (eVar 3) (aCons (e2 oIx (eVar 2) (eCon (.int 0))) aNil))))) (aCons (eVar 4) (aCons (e1 oNeg (eCon (.int 1))) aNil)))))) sNext)
      (sSeq (sIf (e2 oEq (e2 oIx (eVar 3) (eCon (.int 1))) (eN fTup aNil)) (sRet (eCall T.f_added (aCons (eVar 0) (aCons (eCall T.f_added (aCons (eVar 0) (aCons (eCon (.tup [(.int 0), (.tup [])])) (aCons (eVar 2) (aCons (e2 oIx (eVar 3) (eCon (.int 0))) aNil))))) (aCons (eVar 4) (aCons (e1 oNeg (eCon (.int 1))) aNil)))))) sNext)
      (sRet (eCon .non)))))
def b_straight_sum (T : Tbl) : Fn := fnS 2 3 (s_straight_sum T)
/-- under_known: prime, row, known, table, cell, part -/
def s_under_known (T : Tbl) : ST :=
      (sSeq (sAsg (.n 3) (e1 bDict (eComp (.n 4) (iOf iVal (aCons (eVar 2) aNil)) (eCon (.bl true)) (eN fTup (aCons (eVar 4) (aCons (eN fTup (aCons (e2 oIx (eVar 2) (eVar 4)) (aCons (eN fTup aNil) aNil))) aNil))) [4])))
      (sRet (e1 bTuple (eComp (.n 5) (iOf iVal (aCons (eVar 1) aNil)) (eCon (.bl true)) (eCall T.f_put_into (aCons (eVar 0) (aCons (eVar 5) (aCons (eVar 3) aNil)))) [5]))))
def b_under_known (T : Tbl) : Fn := fnS 3 3 (s_under_known T)
/-- are_rows_of: prime, many, thing, row, cell -/
def s_are_rows_of (T : Tbl) : ST :=
      (sSeq (sIf (eOr (eNot (e1 (bIsi [3]) (eVar 2))) (eNot (e1 bAll (eComp (.n 3) (iOf iVal (aCons (eVar 2) aNil)) (eCon (.bl true)) (eCall T.f_fits_row (aCons (eVar 0) (aCons (eVar 3) aNil))) [3])))) (sRet (eCon (.bl false))) sNext)
      (sRet (e1 bAll (eComp (.n 3) (iOf iVal (aCons (eVar 2) aNil)) (eCon (.bl true)) (e1 bAll (eComp (.n 4) (iOf iVal (aCons (eCall T.f_cells_of_row (aCons (eVar 3) aNil)) aNil)) (eCon (.bl true)) (e2 oLtI (eVar 4) (eVar 1)) [4])) [3]))))
def b_are_rows_of (T : Tbl) : Fn := fnS 3 2 (s_are_rows_of T)
/-- is_sheet: thing, prime, many, inputs, outputs, rows -/
def s_is_sheet (T : Tbl) : ST :=
      (sSeq (sIf (eOr (eNot (eCall T.f_is_tuple_of (aCons (eVar 0) (aCons (eCon (.int 5)) aNil)))) (eOr (eNot (eCall T.f_is_told_prime (aCons (e2 oIx (eVar 0) (eCon (.int 0))) aNil))) (eNot (eCall T.f_is_from_one (aCons (e2 oIx (eVar 0) (eCon (.int 1))) aNil))))) (sRet (eCon (.bl false))) sNext)
      (sSeq (sAsg (.t [(.n 1), (.n 2), (.n 3), (.n 4), (.n 5)]) (eVar 0))
      (sRet (eAnd (eCall T.f_is_set_below (aCons (eVar 3) (aCons (eVar 2) aNil))) (eAnd (eCall T.f_are_below (aCons (eVar 4) (aCons (eVar 2) aNil))) (eCall T.f_are_rows_of (aCons (eVar 1) (aCons (eVar 2) (aCons (eVar 5) aNil)))))))))
def b_is_sheet (T : Tbl) : Fn := fnS 1 5 (s_is_sheet T)
/-- sure_sheet: sheet, own -/
def s_sure_sheet (T : Tbl) : ST :=
      (sSeq (sAsg (.n 1) (eCall T.f_tupled (aCons (eVar 0) aNil)))
      (sSeq (sIf (eNot (eCall T.f_is_sheet (aCons (eVar 1) aNil))) (sRaise 0) sNext)
      (sRet (eVar 1))))
def b_sure_sheet (T : Tbl) : Fn := fnS 1 1 (s_sure_sheet T)
/-- straight_ones: prime, rows, known, found, place, row, own -/
def s_straight_ones (T : Tbl) : ST :=
      (sSeq (sMv 3 (eN fLst aNil))
      (sSeq (sFor (.t [(.n 4), (.n 5)]) (iOf iEnum (aCons (eVar 1) aNil)) (sSeq (sAsg (.n 6) (eCall T.f_straight_sum (aCons (eVar 0) (aCons (eCall T.f_under_known (aCons (eVar 0) (aCons (eVar 5) (aCons (eVar 2) aNil)))) aNil))))
      (sIf (e2 oIsNot (eVar 6) (eCon .non)) (sMut 3 muApp (eN fTup (aCons (eVar 6) (aCons (e2 fDct1 (eVar 4) (eCon (.int 1))) aNil)))) sNext)))
      (sRet (eMv 3))))
def b_straight_ones (T : Tbl) : Fn := fnS 3 4 (s_straight_ones T)
/-- mixed: prime, one, other, often, times, place -/
def s_mixed (T : Tbl) : ST :=
      (sSeq (sMv 4 (e1 bDict (e2 oIx (eVar 1) (eCon (.int 1)))))
      (sSeq (sFor (.n 5) (iOf iVal (aCons (e2 oIx (eVar 2) (eCon (.int 1))) aNil)) (sSet 4 (e2 oMod (e2 oAdd (eGet (eMv 4) (eVar 5) (eCon (.int 0))) (e2 oMul (eVar 3) (e2 oIx (e2 oIx (eVar 2) (eCon (.int 1))) (eVar 5)))) (eVar 0)) (eVar 5)))
      (sRet (eN fTup (aCons (eCall T.f_added (aCons (eVar 0) (aCons (e2 oIx (eVar 1) (eCon (.int 0))) (aCons (e2 oIx (eVar 2) (eCon (.int 0))) (aCons (eVar 3) aNil))))) (aCons (eMv 4) aNil))))))
def b_mixed (T : Tbl) : Fn := fnS 4 2 (s_mixed T)
/-- part_of: told, cell -/
def s_part_of (T : Tbl) : ST :=
      (sRet (eGet (e1 bDict (e2 oIx (eVar 0) (eCon (.int 1)))) (eVar 1) (eCon (.int 0))))
def b_part_of (T : Tbl) : Fn := fnS 2 0 (s_part_of T)
/-- cleared: prime, pair, heads, found, cell, head, much -/
def s_cleared (T : Tbl) : ST :=
      (sSeq (sAsg (.n 3) (eVar 1))
      (sSeq (sFor (.t [(.n 4), (.n 5)]) (iOf iVal (aCons (eVar 2) aNil)) (sSeq (sAsg (.n 6) (eCall T.f_part_of (aCons (e2 oIx (eVar 3) (eCon (.int 0))) (aCons (eVar 4) aNil))))
      (sIf (e2 oNe (eVar 6) (eCon (.int 0))) (sAsg (.n 3) (eCall T.f_mixed (aCons (eVar 0) (aCons (eVar 3) (aCons (eVar 5) (aCons (e1 oNeg (eVar 6)) aNil)))))) sNext)))
      (sRet (eVar 3))))
def b_cleared (T : Tbl) : Fn := fnS 3 4 (s_cleared T)
/-- reduced: prime, pairs, heads, broken, pair, own, cell, much, name, head -/
def s_reduced (T : Tbl) : ST :=
      (sSeq (sPar false 2 3 (eN fLst aNil) (eCon .non))
      (sSeq (sFor (.n 4) (iOf iVal (aCons (eVar 1) aNil)) (sSeq (sAsg (.n 5) (eCall T.f_cleared (aCons (eVar 0) (aCons (eVar 4) (aCons (eVar 2) aNil)))))
      (sSeq (sIf (e2 oEq (e2 oIx (e2 oIx (eVar 5) (eCon (.int 0))) (eCon (.int 1))) (eN fTup aNil)) (sSeq (sAsg (.n 3) (eIf (eAnd (e2 oNe (e2 oIx (e2 oIx (eVar 5) (eCon (.int 0))) (eCon (.int 0))) (eCon (.int 0))) (e2 oIs (eVar 3) (eCon .non))) (eVar 5) (eVar 3)))
      sCnt) sNext)
      (sSeq (sAsg (.t [(.n 6), (.n 7)]) (e2 oIx (e2 oIx (e2 oIx (eVar 5) (eCon (.int 0))) (eCon (.int 1))) (eCon (.int 0))))
      (sSeq (sAsg (.n 5) (eCall T.f_mixed (aCons (eVar 0) (aCons (eN fTup (aCons (eCon (.tup [(.int 0), (.tup [])])) (aCons (eCon fDct0) aNil))) (aCons (eVar 5) (aCons (eCall T.f_turned (aCons (eVar 0) (aCons (eVar 7) aNil))) aNil))))))
      (sAsg (.n 2) (e2 oAdd (eComp (.t [(.n 8), (.n 9)]) (iOf iVal (aCons (eVar 2) aNil)) (eCon (.bl true)) (eN fTup (aCons (eVar 8) (aCons (eCall T.f_cleared (aCons (eVar 0) (aCons (eVar 9) (aCons (eN fLst (aCons (eN fTup (aCons (eVar 6) (aCons (eVar 5) aNil))) aNil)) aNil)))) aNil))) [8, 9]) (eN fLst (aCons (eN fTup (aCons (eVar 6) (aCons (eVar 5) aNil))) aNil)))))))))
      (sRet (eN fTup (aCons (eVar 2) (aCons (eVar 3) aNil))))))
def b_reduced (T : Tbl) : Fn := fnS 2 8 (s_reduced T)
/-- times_told: times, place -/
def s_times_told (T : Tbl) : ST :=
      (sRet (e1 bTuple (eComp (.n 1) (iOf iVal (aCons (e1 bSorted (eVar 0)) aNil)) (e2 oNe (e2 oIx (eVar 0) (eVar 1)) (eCon (.int 0))) (eN fTup (aCons (eVar 1) (aCons (e2 oIx (eVar 0) (eVar 1)) aNil))) [1])))
def b_times_told (T : Tbl) : Fn := fnS 1 1 (s_times_told T)
/-- goal_sum: prime, goal, known -/
def s_goal_sum (T : Tbl) : ST :=
      (sRet (eIf (e2 oIsNot (eVar 1) (eCon .non)) (eCall T.f_straight_sum (aCons (eVar 0) (aCons (eCall T.f_under_known (aCons (eVar 0) (aCons (eVar 1) (aCons (eVar 2) aNil)))) aNil))) (eCon .non)))
def b_goal_sum (T : Tbl) : Fn := fnS 3 0 (s_goal_sum T)
/-- shown_by: prime, aim, heads, left, place -/
def s_shown_by (T : Tbl) : ST :=
      (sSeq (sIf (e2 oIs (eVar 1) (eCon .non)) (sRet (eCon .non)) sNext)
      (sSeq (sAsg (.n 3) (eCall T.f_cleared (aCons (eVar 0) (aCons (eN fTup (aCons (eVar 1) (aCons (eCon fDct0) aNil))) (aCons (eVar 2) aNil)))))
      (sSeq (sIf (e2 oNe (e2 oIx (eVar 3) (eCon (.int 0))) (eCon (.tup [(.int 0), (.tup [])]))) (sRet (eCon .non)) sNext)
      (sRet (e1 bDict (eComp (.n 4) (iOf iVal (aCons (e2 oIx (eVar 3) (eCon (.int 1))) aNil)) (eCon (.bl true)) (eN fTup (aCons (eVar 4) (aCons (e2 oMod (e1 oNeg (e2 oIx (e2 oIx (eVar 3) (eCon (.int 1))) (eVar 4))) (eVar 0)) aNil))) [4]))))))
def b_shown_by (T : Tbl) : Fn := fnS 3 2 (s_shown_by T)
/-- cell_to_cut: prime, rows, goal, known, row, own -/
def s_cell_to_cut (T : Tbl) : ST :=
      (sSeq (sFor (.n 4) (iOf iVal (aCons (e2 oAdd (eVar 1) (eIf (e2 oIsNot (eVar 2) (eCon .non)) (eN fTup (aCons (eVar 2) aNil)) (eN fTup aNil))) aNil)) (sSeq (sAsg (.n 5) (eCall T.f_under_known (aCons (eVar 0) (aCons (eVar 4) (aCons (eVar 3) aNil)))))
      (sIf (e2 oIs (eCall T.f_straight_sum (aCons (eVar 0) (aCons (eVar 5) aNil))) (eCon .non)) (sRet (e2 bMin2 (e2 oIx (e2 oIx (e2 oIx (e2 oIx (eVar 5) (eCon (.int 0))) (eCon (.int 1))) (eCon (.int 0))) (eCon (.int 0))) (e2 oIx (e2 oIx (e2 oIx (e2 oIx (eVar 5) (eCon (.int 1))) (eCon (.int 1))) (eCon (.int 0))) (eCon (.int 0))))) sNext)))
      (sRet (eCon .non)))
def b_cell_to_cut (T : Tbl) : Fn := fnS 4 2 (s_cell_to_cut T)
/-- solved_by: prime, many, heads, known, free, table, cell, told, _, much, name, other, own -/
def s_solved_by (T : Tbl) : ST :=
      (sSeq (sMv 5 (e1 bDict (eVar 3)))
      (sSeq (sFor (.n 6) (iOf iRng1 (aCons (eVar 1) aNil)) (sIf (eAnd (e2 oNotIn (eVar 6) (eMv 5)) (e2 oNotIn (eVar 6) (eComp (.t [(.n 10), (.n 8)]) (iOf iVal (aCons (eVar 2) aNil)) (eCon (.bl true)) (eVar 10) [10, 8]))) (sSet 5 (eGet (eVar 4) (eVar 6) (eCon (.int 0))) (eVar 6)) sNext))
      (sSeq (sFor (.t [(.n 6), (.t [(.n 7), (.n 8)])]) (iOf iVal (aCons (eVar 2) aNil)) (sSeq (sAsg (.n 9) (e2 oAdd (e2 oIx (eVar 7) (eCon (.int 0))) (e1 bSum (eComp (.t [(.n 11), (.n 12)]) (iOf iVal (aCons (e2 oIx (eVar 7) (eCon (.int 1))) aNil)) (e2 oNe (eVar 11) (eVar 6)) (e2 oMul (eVar 12) (e2 oIx (eMv 5) (eVar 11))) [11, 12]))))
      (sSet 5 (e2 oMod (e1 oNeg (eVar 9)) (eVar 0)) (eVar 6))))
      (sRet (e1 bTuple (eComp (.n 6) (iOf iRng1 (aCons (eVar 1) aNil)) (eCon (.bl true)) (e2 oIx (eMv 5) (eVar 6)) [6]))))))
def b_solved_by (T : Tbl) : Fn := fnS 5 8 (s_solved_by T)
/-- breaking_in: prime, many, heads, known, goal, first, left -/
def s_breaking_in (T : Tbl) : ST :=
      (sSeq (sAsg (.n 5) (eCall T.f_solved_by (aCons (eVar 0) (aCons (eVar 1) (aCons (eVar 2) (aCons (eVar 3) (aCons (eCon fDct0) aNil)))))))
      (sSeq (sIf (eOr (e2 oIs (eVar 4) (eCon .non)) (eNot (eCall T.f_row_kept (aCons (eVar 0) (aCons (eVar 4) (aCons (eVar 5) aNil)))))) (sRet (eVar 5)) sNext)
      (sSeq (sAsg (.n 6) (eCall T.f_cleared (aCons (eVar 0) (aCons (eN fTup (aCons (eCall T.f_goal_sum (aCons (eVar 0) (aCons (eVar 4) (aCons (eVar 3) aNil)))) (aCons (eCon fDct0) aNil))) (aCons (eVar 2) aNil)))))
      (sRet (eCall T.f_solved_by (aCons (eVar 0) (aCons (eVar 1) (aCons (eVar 2) (aCons (eVar 3) (aCons (e2 fDct1 (e2 oIx (e2 oIx (e2 oIx (e2 oIx (eVar 6) (eCon (.int 0))) (eCon (.int 1))) (eCon (.int 0))) (eCon (.int 0))) (eCon (.int 1))) aNil))))))))))
def b_breaking_in (T : Tbl) : Fn := fnS 5 2 (s_breaking_in T)
/-- sought: prime, many, rows, goal, known, heads, broken, shown, goods, cell, papers, rest, paper, filling, head -/
def s_sought (T : Tbl) : ST :=
      (sSeq (sAsg (.t [(.n 5), (.n 6)]) (eCall T.f_reduced (aCons (eVar 0) (aCons (eCall T.f_straight_ones (aCons (eVar 0) (aCons (eVar 2) (aCons (eVar 4) aNil)))) aNil))))
      (sSeq (sIf (e2 oIsNot (eVar 6) (eCon .non)) (sRet (eN fTup (aCons (eN fTup (aCons (eCon (.str [98, 114, 101, 97, 107])) (aCons (eCall T.f_times_told (aCons (e2 oIx (eVar 6) (eCon (.int 1))) aNil)) aNil))) (aCons (eCon .non) aNil)))) sNext)
      (sSeq (sAsg (.n 7) (eCall T.f_shown_by (aCons (eVar 0) (aCons (eCall T.f_goal_sum (aCons (eVar 0) (aCons (eVar 3) (aCons (eVar 4) aNil)))) (aCons (eVar 5) aNil)))))
      (sSeq (sIf (e2 oIsNot (eVar 7) (eCon .non)) (sRet (eN fTup (aCons (eN fTup (aCons (eCon (.str [115, 104, 111, 119, 110])) (aCons (eCall T.f_times_told (aCons (eVar 7) aNil)) aNil))) (aCons (eCon .non) aNil)))) sNext)
      (sSeq (sAsg (.n 8) (eComp (.t [(.n 9), (.n 14)]) (iOf iVal (aCons (eVar 5) aNil)) (e2 oEq (e1 bLen (e2 oIx (e2 oIx (eVar 14) (eCon (.int 0))) (eCon (.int 1)))) (eCon (.int 1))) (eN fTup (aCons (eVar 9) (aCons (eVar 14) aNil))) [9, 14]))
      (sSeq (sAsg (.n 9) (eCall T.f_cell_to_cut (aCons (eVar 0) (aCons (eVar 2) (aCons (eVar 3) (aCons (eVar 4) aNil))))))
      (sSeq (sIf (eAnd (e2 oNe (eVar 8) (eN fLst aNil)) (e2 oIsNot (eVar 9) (eCon .non))) (sRet (eCall T.f_led_on (aCons (eVar 0) (aCons (eVar 1) (aCons (eVar 2) (aCons (eVar 3) (aCons (eVar 4) (aCons (e2 oIx (eVar 8) (eCon (.int 0))) aNil)))))))) sNext)
      (sSeq (sIf (e2 oIs (eVar 9) (eCon .non)) (sRet (eN fTup (aCons (eCon .non) (aCons (eCall T.f_breaking_in (aCons (eVar 0) (aCons (eVar 1) (aCons (eVar 5) (aCons (eVar 4) (aCons (eVar 3) aNil)))))) aNil)))) sNext)
      (sSeq (sMv 10 (eN fLst aNil))
      (sSeq (sFor (.n 11) (iOf iRng1 (aCons (eVar 0) aNil)) (sSeq (sAsg (.t [(.n 12), (.n 13)]) (eCall T.f_sought (aCons (eVar 0) (aCons (eVar 1) (aCons (eVar 2) (aCons (eVar 3) (aCons (eCall T.f_known_with (aCons (eVar 4) (aCons (eVar 9) (aCons (eVar 11) aNil)))) aNil)))))))
      (sSeq (sIf (e2 oIs (eVar 12) (eCon .non)) (sRet (eN fTup (aCons (eCon .non) (aCons (eVar 13) aNil)))) sNext)
      (sMut 10 muApp (eVar 12)))))
      (sRet (eN fTup (aCons (eN fTup (aCons (eCon (.str [99, 117, 116])) (aCons (eVar 9) (aCons (e1 bTuple (eMv 10)) aNil)))) (aCons (eCon .non) aNil))))))))))))))
def b_sought (T : Tbl) : Fn := fnS 5 10 (s_sought T)
/-- known_with: known, cell, rest, found -/
def s_known_with (T : Tbl) : ST :=
      (sSeq (sMv 3 (e1 bDict (eVar 0)))
      (sSeq (sSet 3 (eVar 2) (eVar 1))
      (sRet (eMv 3))))
def b_known_with (T : Tbl) : Fn := fnS 3 1 (s_known_with T)
/-- led_on: prime, many, rows, goal, known, pair, cell, told, times, paper, filling -/
def s_led_on (T : Tbl) : ST :=
      (sSeq (sAsg (.t [(.n 6), (.t [(.n 7), (.n 8)])]) (eVar 5))
      (sSeq (sAsg (.t [(.n 9), (.n 10)]) (eCall T.f_sought (aCons (eVar 0) (aCons (eVar 1) (aCons (eVar 2) (aCons (eVar 3) (aCons (eCall T.f_known_with (aCons (eVar 4) (aCons (eVar 6) (aCons (e2 oMod (e1 oNeg (e2 oIx (eVar 7) (eCon (.int 0)))) (eVar 0)) aNil)))) aNil)))))))
      (sSeq (sIf (e2 oIs (eVar 9) (eCon .non)) (sRet (eN fTup (aCons (eCon .non) (aCons (eVar 10) aNil)))) sNext)
      (sRet (eN fTup (aCons (eN fTup (aCons (eCon (.str [108, 101, 97, 100])) (aCons (eVar 6) (aCons (eCall T.f_times_told (aCons (eVar 8) aNil)) (aCons (eVar 9) aNil))))) (aCons (eCon .non) aNil)))))))
def b_led_on (T : Tbl) : Fn := fnS 6 5 (s_led_on T)
/-- fits_times: prime, many, thing, part -/
def s_fits_times (T : Tbl) : ST :=
      (sSeq (sIf (eOr (eNot (e1 (bIsi [3]) (eVar 2))) (eNot (e1 bAll (eComp (.n 3) (iOf iVal (aCons (eVar 2) aNil)) (eCon (.bl true)) (eAnd (eCall T.f_fits_part (aCons (eVar 0) (aCons (eVar 3) aNil))) (e2 oLtI (e2 oIx (eVar 3) (eCon (.int 0))) (eVar 1))) [3])))) (sRet (eCon (.bl false))) sNext)
      (sRet (eCall T.f_rises (aCons (e1 bTuple (eComp (.n 3) (iOf iVal (aCons (eVar 2) aNil)) (eCon (.bl true)) (e2 oIx (eVar 3) (eCon (.int 0))) [3])) aNil))))
def b_fits_times (T : Tbl) : Fn := fnS 3 1 (s_fits_times T)
/-- sum_by: prime, rows, known, times, found, place, often, own -/
def s_sum_by (T : Tbl) : ST :=
      (sSeq (sAsg (.n 4) (eCon (.tup [(.int 0), (.tup [])])))
      (sSeq (sFor (.t [(.n 5), (.n 6)]) (iOf iVal (aCons (eVar 3) aNil)) (sSeq (sAsg (.n 7) (eCall T.f_straight_sum (aCons (eVar 0) (aCons (eCall T.f_under_known (aCons (eVar 0) (aCons (e2 oIx (eVar 1) (eVar 5)) (aCons (eVar 2) aNil)))) aNil))))
      (sSeq (sIf (e2 oIs (eVar 7) (eCon .non)) (sRet (eCon .non)) sNext)
      (sAsg (.n 4) (eCall T.f_added (aCons (eVar 0) (aCons (eVar 4) (aCons (eVar 7) (aCons (eVar 6) aNil)))))))))
      (sRet (eVar 4))))
def b_sum_by (T : Tbl) : Fn := fnS 4 4 (s_sum_by T)
/-- sure_numbers: sheet, numbers, own -/
def s_sure_numbers (T : Tbl) : ST :=
      (sSeq (sAsg (.n 2) (eCall T.f_tupled (aCons (eVar 1) aNil)))
      (sSeq (sIf (eOr (eNot (eCall T.f_are_below (aCons (eVar 2) (aCons (e2 oIx (eVar 0) (eCon (.int 0))) aNil)))) (e2 oNe (e1 bLen (eVar 2)) (e1 bLen (e2 oIx (eVar 0) (eCon (.int 2)))))) (sRaise 0) sNext)
      (sRet (eVar 2))))
def b_sure_numbers (T : Tbl) : Fn := fnS 2 1 (s_sure_numbers T)
/-- sure_bearing: sheet, numbers, own -/
def s_sure_bearing (T : Tbl) : ST :=
      (sSeq (sAsg (.n 2) (eCall T.f_sure_sheet (aCons (eVar 0) aNil)))
      (sRet (eN fTup (aCons (eVar 2) (aCons (eCall T.f_sure_numbers (aCons (eVar 2) (aCons (eVar 1) aNil))) aNil)))))
def b_sure_bearing (T : Tbl) : Fn := fnS 2 1 (s_sure_bearing T)
/-- known_inputs: sheet, numbers -/
def s_known_inputs (T : Tbl) : ST :=
      (sRet (e2 dZipT (e2 oIx (eVar 0) (eCon (.int 2))) (eVar 1)))
def b_known_inputs (T : Tbl) : Fn := fnS 2 0 (s_known_inputs T)
/-- borne_in: sheet, known -/
def s_borne_in (T : Tbl) : ST :=
      (sRet (eCall T.f_sought (aCons (e2 oIx (eVar 0) (eCon (.int 0))) (aCons (e2 oIx (eVar 0) (eCon (.int 1))) (aCons (e2 oIx (eVar 0) (e1 oNeg (eCon (.int 1)))) (aCons (eCon .non) (aCons (eVar 1) aNil)))))))
def b_borne_in (T : Tbl) : Fn := fnS 2 0 (s_borne_in T)
/-- all_lots: prime, many, found, _, later, lot, rest -/
def s_all_lots (T : Tbl) : ST :=
      (sSeq (sAsg (.n 2) (eN fLst (aCons (eN fTup aNil) aNil)))
      (sSeq (sFor (.n 3) (iOf iRng1 (aCons (eVar 1) aNil)) (sSeq (sMv 4 (eN fLst aNil))
      (sSeq (sFor (.n 5) (iOf iVal (aCons (eVar 2) aNil)) (sMut 4 muExt (eComp (.n 6) (iOf iRng1 (aCons (eVar 0) aNil)) (eCon (.bl true)) (e2 oAdd (eVar 5) (eN fTup (aCons (eVar 6) aNil))) [6])))
      (sSeq (sIf (e2 oGt (e1 bLen (eMv 4)) (eCon (.int 700))) (sRaise 2) sNext)
      (sAsg (.n 2) (eMv 4))))))
      (sRet (eVar 2))))
def b_all_lots (T : Tbl) : Fn := fnS 2 5 (s_all_lots T)
/-- counted_power: prime, many, found, _ -/
def s_counted_power (T : Tbl) : ST :=
      (sSeq (sAsg (.n 2) (eCon (.int 1)))
      (sSeq (sFor (.n 3) (iOf iRng1 (aCons (eVar 1) aNil)) (sAsg (.n 2) (e2 oMul (eVar 2) (eVar 0))))
      (sRet (eVar 2))))
def b_counted_power (T : Tbl) : Fn := fnS 2 2 (s_counted_power T)
/-- counted: prime, many, rows, known, heads, broken, here, goods, cell, told, times, number, paper, pairs, head, rest, _ -/
def s_counted (T : Tbl) : ST :=
      (sSeq (sAsg (.t [(.n 4), (.n 5)]) (eCall T.f_reduced (aCons (eVar 0) (aCons (eCall T.f_straight_ones (aCons (eVar 0) (aCons (eVar 2) (aCons (eVar 3) aNil)))) aNil))))
      (sSeq (sIf (e2 oIsNot (eVar 5) (eCon .non)) (sRet (eN fTup (aCons (eCon (.int 0)) (aCons (eN fTup (aCons (eCon (.str [110, 111, 110, 101])) (aCons (eCall T.f_times_told (aCons (e2 oIx (eVar 5) (eCon (.int 1))) aNil)) aNil))) aNil)))) sNext)
      (sSeq (sAsg (.n 6) (eCall T.f_cell_to_cut (aCons (eVar 0) (aCons (eVar 2) (aCons (eCon .non) (aCons (eVar 3) aNil))))))
      (sSeq (sIf (e2 oIs (eVar 6) (eCon .non)) (sRet (eN fTup (aCons (eCall T.f_counted_power (aCons (eVar 0) (aCons (e2 oSub (e2 oSub (eVar 1) (e1 bLen (eVar 3))) (e1 bLen (eVar 4))) aNil))) (aCons (eN fTup (aCons (eCon (.str [102, 114, 101, 101])) aNil)) aNil)))) sNext)
      (sSeq (sAsg (.n 7) (eComp (.t [(.n 8), (.n 14)]) (iOf iVal (aCons (eVar 4) aNil)) (e2 oEq (e1 bLen (e2 oIx (e2 oIx (eVar 14) (eCon (.int 0))) (eCon (.int 1)))) (eCon (.int 1))) (eN fTup (aCons (eVar 8) (aCons (eVar 14) aNil))) [8, 14]))
      (sSeq (sIf (e2 oNe (eVar 7) (eN fLst aNil)) (sSeq (sAsg (.t [(.n 8), (.t [(.n 9), (.n 10)])]) (e2 oIx (eVar 7) (eCon (.int 0))))
      (sSeq (sAsg (.t [(.n 11), (.n 12)]) (eCall T.f_counted (aCons (eVar 0) (aCons (eVar 1) (aCons (eVar 2) (aCons (eCall T.f_known_with (aCons (eVar 3) (aCons (eVar 8) (aCons (e2 oMod (e1 oNeg (e2 oIx (eVar 9) (eCon (.int 0)))) (eVar 0)) aNil)))) aNil))))))
      (sRet (eN fTup (aCons (eVar 11) (aCons (eN fTup (aCons (eCon (.str [108, 101, 97, 100])) (aCons (eVar 8) (aCons (eCall T.f_times_told (aCons (eVar 10) aNil)) (aCons (eVar 12) aNil))))) aNil)))))) sNext)
      (sSeq (sAsg (.n 13) (eComp (.n 15) (iOf iRng1 (aCons (eVar 0) aNil)) (eCon (.bl true)) (eCall T.f_counted (aCons (eVar 0) (aCons (eVar 1) (aCons (eVar 2) (aCons (eCall T.f_known_with (aCons (eVar 3) (aCons (eVar 6) (aCons (eVar 15) aNil)))) aNil))))) [15]))
      (sRet (eN fTup (aCons (e1 bSum (eComp (.t [(.n 11), (.n 16)]) (iOf iVal (aCons (eVar 13) aNil)) (eCon (.bl true)) (eVar 11) [11, 16])) (aCons (eN fTup (aCons (eCon (.str [99, 117, 116])) (aCons (eVar 6) (aCons (e1 bTuple (eComp (.t [(.n 16), (.n 12)]) (iOf iVal (aCons (eVar 13) aNil)) (eCon (.bl true)) (eVar 12) [16, 12])) aNil)))) aNil)))))))))))
def b_counted (T : Tbl) : Fn := fnS 4 13 (s_counted T)
/-- how_many_fillings: sheet, own -/
def s_how_many_fillings (T : Tbl) : ST :=
      (sSeq (sAsg (.n 1) (eCall T.f_sure_sheet (aCons (eVar 0) aNil)))
      (sRet (e2 oIx (eCall T.f_counted (aCons (e2 oIx (eVar 1) (eCon (.int 0))) (aCons (e2 oIx (eVar 1) (eCon (.int 1))) (aCons (e2 oIx (eVar 1) (e1 oNeg (eCon (.int 1)))) (aCons (eCon fDct0) aNil))))) (eCon (.int 0)))))
def b_how_many_fillings (T : Tbl) : Fn := fnS 1 1 (s_how_many_fillings T)
/-- how_many_for: sheet, numbers, own, told -/
def s_how_many_for (T : Tbl) : ST :=
      (sSeq (sAsg (.t [(.n 2), (.n 3)]) (eCall T.f_sure_bearing (aCons (eVar 0) (aCons (eVar 1) aNil))))
      (sRet (e2 oIx (eCall T.f_counted (aCons (e2 oIx (eVar 2) (eCon (.int 0))) (aCons (e2 oIx (eVar 2) (eCon (.int 1))) (aCons (e2 oIx (eVar 2) (e1 oNeg (eCon (.int 1)))) (aCons (eCall T.f_known_inputs (aCons (eVar 2) (aCons (eVar 3) aNil))) aNil))))) (eCon (.int 0)))))
def b_how_many_for (T : Tbl) : Fn := fnS 2 2 (s_how_many_for T)
/-- count_paper: sheet, numbers, own, told -/
def s_count_paper (T : Tbl) : ST :=
      (sSeq (sAsg (.t [(.n 2), (.n 3)]) (eCall T.f_sure_bearing (aCons (eVar 0) (aCons (eVar 1) aNil))))
      (sRet (e2 oIx (eCall T.f_counted (aCons (e2 oIx (eVar 2) (eCon (.int 0))) (aCons (e2 oIx (eVar 2) (eCon (.int 1))) (aCons (e2 oIx (eVar 2) (e1 oNeg (eCon (.int 1)))) (aCons (eCall T.f_known_inputs (aCons (eVar 2) (aCons (eVar 3) aNil))) aNil))))) (eCon (.int 1)))))
def b_count_paper (T : Tbl) : Fn := fnS 2 2 (s_count_paper T)
/-- count_in: prime, many, rows, known, thing, heads, broken, found, rest -/
def s_count_in (T : Tbl) : ST :=
      (sSeq (sIf (eOr (eNot (e1 (bIsi [3]) (eVar 4))) (eOr (e2 oEq (eVar 4) (eN fTup aNil)) (eNot (e1 (bIsi [2]) (e2 oIx (eVar 4) (eCon (.int 0))))))) (sRet (eCon .non)) sNext)
      (sSeq (sIf (eAnd (e2 oEq (e2 oIx (eVar 4) (eCon (.int 0))) (eCon (.str [102, 114, 101, 101]))) (e2 oEq (e1 bLen (eVar 4)) (eCon (.int 1)))) (sSeq (sAsg (.t [(.n 5), (.n 6)]) (eCall T.f_reduced (aCons (eVar 0) (aCons (eCall T.f_straight_ones (aCons (eVar 0) (aCons (eVar 2) (aCons (eVar 3) aNil)))) aNil))))
      (sSeq (sIf (eOr (e2 oIsNot (eVar 6) (eCon .non)) (e2 oIsNot (eCall T.f_cell_to_cut (aCons (eVar 0) (aCons (eVar 2) (aCons (eCon .non) (aCons (eVar 3) aNil))))) (eCon .non))) (sRet (eCon .non)) sNext)
      (sRet (eCall T.f_counted_power (aCons (eVar 0) (aCons (e2 oSub (e2 oSub (eVar 1) (e1 bLen (eVar 3))) (e1 bLen (eVar 5))) aNil)))))) sNext)
      (sSeq (sIf (eAnd (e2 oEq (e2 oIx (eVar 4) (eCon (.int 0))) (eCon (.str [110, 111, 110, 101]))) (eAnd (e2 oEq (e1 bLen (eVar 4)) (eCon (.int 2))) (eCall T.f_fits_times (aCons (eVar 0) (aCons (e1 bLen (eVar 2)) (aCons (e2 oIx (eVar 4) (eCon (.int 1))) aNil)))))) (sSeq (sAsg (.n 7) (eCall T.f_sum_by (aCons (eVar 0) (aCons (eVar 2) (aCons (eVar 3) (aCons (e2 oIx (eVar 4) (eCon (.int 1))) aNil))))))
      (sRet (eIf (eAnd (e2 oIsNot (eVar 7) (eCon .non)) (eAnd (e2 oEq (e2 oIx (eVar 7) (eCon (.int 1))) (eN fTup aNil)) (e2 oNe (e2 oIx (eVar 7) (eCon (.int 0))) (eCon (.int 0))))) (eCon (.int 0)) (eCon .non)))) sNext)
      (sSeq (sIf (eAnd (e2 oEq (e2 oIx (eVar 4) (eCon (.int 0))) (eCon (.str [108, 101, 97, 100]))) (eAnd (e2 oEq (e1 bLen (eVar 4)) (eCon (.int 4))) (eCall T.f_fits_times (aCons (eVar 0) (aCons (e1 bLen (eVar 2)) (aCons (e2 oIx (eVar 4) (eCon (.int 2))) aNil)))))) (sSeq (sAsg (.n 7) (eCall T.f_sum_by (aCons (eVar 0) (aCons (eVar 2) (aCons (eVar 3) (aCons (e2 oIx (eVar 4) (eCon (.int 2))) aNil))))))
      (sSeq (sIf (eOr (e2 oIs (eVar 7) (eCon .non)) (eOr (e2 oNe (e1 bLen (e2 oIx (eVar 7) (eCon (.int 1)))) (eCon (.int 1))) (eOr (eNot (eCall T.f_is_below (aCons (e2 oIx (eVar 4) (eCon (.int 1))) (aCons (eVar 1) aNil)))) (e2 oNe (e2 oIx (e2 oIx (e2 oIx (eVar 7) (eCon (.int 1))) (eCon (.int 0))) (eCon (.int 0))) (e2 oIx (eVar 4) (eCon (.int 1))))))) (sRet (eCon .non)) sNext)
      (sSeq (sAsg (.n 8) (e2 oMod (e2 oMul (e1 oNeg (e2 oIx (eVar 7) (eCon (.int 0)))) (eCall T.f_turned (aCons (eVar 0) (aCons (e2 oIx (e2 oIx (e2 oIx (eVar 7) (eCon (.int 1))) (eCon (.int 0))) (eCon (.int 1))) aNil)))) (eVar 0)))
      (sRet (eCall T.f_count_in (aCons (eVar 0) (aCons (eVar 1) (aCons (eVar 2) (aCons (eCall T.f_known_with (aCons (eVar 3) (aCons (e2 oIx (eVar 4) (eCon (.int 1))) (aCons (eVar 8) aNil)))) (aCons (e2 oIx (eVar 4) (e1 oNeg (eCon (.int 1)))) aNil)))))))))) sNext)
      (sSeq (sIf (eOr (e2 oNe (e2 oIx (eVar 4) (eCon (.int 0))) (eCon (.str [99, 117, 116]))) (eOr (e2 oNe (e1 bLen (eVar 4)) (e2 oSub (eCon (.int 4)) (eCon (.int 1)))) (eOr (eNot (eCall T.f_is_below (aCons (e2 oIx (eVar 4) (eCon (.int 1))) (aCons (eVar 1) aNil)))) (e2 oIn (e2 oIx (eVar 4) (eCon (.int 1))) (eVar 3))))) (sRet (eCon .non)) sNext)
      (sRet (eCall T.f_counts_added (aCons (eVar 0) (aCons (eVar 1) (aCons (eVar 2) (aCons (eVar 3) (aCons (eVar 4) aNil))))))))))))
def b_count_in (T : Tbl) : Fn := fnS 5 4 (s_count_in T)
/-- counts_added: prime, many, rows, known, thing, total, rest, paper, number -/
def s_counts_added (T : Tbl) : ST :=
      (sSeq (sIf (eNot (eCall T.f_is_tuple_of (aCons (e2 oIx (eVar 4) (eCon (.int 2))) (aCons (eVar 0) aNil)))) (sRet (eCon .non)) sNext)
      (sSeq (sAsg (.n 5) (eCon (.int 0)))
      (sSeq (sFor (.t [(.n 6), (.n 7)]) (iOf iEnum (aCons (e2 oIx (eVar 4) (eCon (.int 2))) aNil)) (sSeq (sAsg (.n 8) (eCall T.f_count_in (aCons (eVar 0) (aCons (eVar 1) (aCons (eVar 2) (aCons (eCall T.f_known_with (aCons (eVar 3) (aCons (e2 oIx (eVar 4) (eCon (.int 1))) (aCons (eVar 6) aNil)))) (aCons (eVar 7) aNil)))))))
      (sSeq (sIf (e2 oIs (eVar 8) (eCon .non)) (sRet (eCon .non)) sNext)
      (sAsg (.n 5) (e2 oAdd (eVar 5) (eVar 8))))))
      (sRet (eVar 5)))))
def b_counts_added (T : Tbl) : Fn := fnS 5 4 (s_counts_added T)
/-- is_count_paper: sheet, numbers, thing, own, told -/
def s_is_count_paper (T : Tbl) : ST :=
      (sSeq (sAsg (.t [(.n 3), (.n 4)]) (eCall T.f_sure_bearing (aCons (eVar 0) (aCons (eVar 1) aNil))))
      (sRet (e2 oIsNot (eCall T.f_count_in (aCons (e2 oIx (eVar 3) (eCon (.int 0))) (aCons (e2 oIx (eVar 3) (eCon (.int 1))) (aCons (e2 oIx (eVar 3) (e1 oNeg (eCon (.int 1)))) (aCons (eCall T.f_known_inputs (aCons (eVar 3) (aCons (eVar 4) aNil))) (aCons (eVar 2) aNil)))))) (eCon .non))))
def b_is_count_paper (T : Tbl) : Fn := fnS 3 2 (s_is_count_paper T)
/-- count_by_paper: sheet, numbers, paper, own, told, found -/
def s_count_by_paper (T : Tbl) : ST :=
      (sSeq (sAsg (.t [(.n 3), (.n 4)]) (eCall T.f_sure_bearing (aCons (eVar 0) (aCons (eVar 1) aNil))))
      (sSeq (sAsg (.n 5) (eCall T.f_count_in (aCons (e2 oIx (eVar 3) (eCon (.int 0))) (aCons (e2 oIx (eVar 3) (eCon (.int 1))) (aCons (e2 oIx (eVar 3) (e1 oNeg (eCon (.int 1)))) (aCons (eCall T.f_known_inputs (aCons (eVar 3) (aCons (eVar 4) aNil))) (aCons (eCall T.f_tupled (aCons (eVar 2) aNil)) aNil)))))))
      (sSeq (sIf (e2 oIs (eVar 5) (eCon .non)) (sRaise 0) sNext)
      (sRet (eVar 5)))))
def b_count_by_paper (T : Tbl) : Fn := fnS 3 3 (s_count_by_paper T)
/-- count_row: sheet, own, lots, lot -/
def s_count_row (T : Tbl) : ST :=
      (sSeq (sAsg (.n 1) (eCall T.f_sure_sheet (aCons (eVar 0) aNil)))
      (sSeq (sAsg (.n 2) (eCall T.f_all_lots (aCons (e2 oIx (eVar 1) (eCon (.int 0))) (aCons (e1 bLen (e2 oIx (eVar 1) (eCon (.int 2)))) aNil))))
      (sRet (eComp (.n 3) (iOf iVal (aCons (eVar 2) aNil)) (eCon (.bl true)) (eN fTup (aCons (eVar 3) (aCons (e2 oIx (eCall T.f_counted (aCons (e2 oIx (eVar 1) (eCon (.int 0))) (aCons (e2 oIx (eVar 1) (eCon (.int 1))) (aCons (e2 oIx (eVar 1) (e1 oNeg (eCon (.int 1)))) (aCons (eCall T.f_known_inputs (aCons (eVar 1) (aCons (eVar 3) aNil))) aNil))))) (eCon (.int 0))) aNil))) [3]))))
def b_count_row (T : Tbl) : Fn := fnS 1 3 (s_count_row T)
/-- had_at: sheet, known, cell, found, rest -/
def s_had_at (T : Tbl) : ST :=
      (sSeq (sIf (e2 oIn (eVar 2) (eVar 1)) (sRet (eIf (e2 oIsNot (e2 oIx (eCall T.f_borne_in (aCons (eVar 0) (aCons (eVar 1) aNil))) (eCon (.int 1))) (eCon .non)) (eN fTup (aCons (e2 oIx (eVar 1) (eVar 2)) aNil)) (eN fTup aNil))) sNext)
      (sSeq (sMv 3 (eN fLst aNil))
      (sSeq (sFor (.n 4) (iOf iRng1 (aCons (e2 oIx (eVar 0) (eCon (.int 0))) aNil)) (sIf (e2 oIsNot (e2 oIx (eCall T.f_borne_in (aCons (eVar 0) (aCons (eCall T.f_known_with (aCons (eVar 1) (aCons (eVar 2) (aCons (eVar 4) aNil)))) aNil))) (eCon (.int 1))) (eCon .non)) (sMut 3 muApp (eVar 4)) sNext))
      (sRet (e1 bTuple (eMv 3))))))
def b_had_at (T : Tbl) : Fn := fnS 3 2 (s_had_at T)
/-- rests_had: sheet, numbers, cell, own, told -/
def s_rests_had (T : Tbl) : ST :=
      (sSeq (sAsg (.t [(.n 3), (.n 4)]) (eCall T.f_sure_bearing (aCons (eVar 0) (aCons (eVar 1) aNil))))
      (sRet (eCall T.f_had_at (aCons (eVar 3) (aCons (eCall T.f_known_inputs (aCons (eVar 3) (aCons (eVar 4) aNil))) (aCons (eCall T.f_sure_below (aCons (eVar 2) (aCons (e2 oIx (eVar 3) (eCon (.int 1))) aNil))) aNil))))))
def b_rests_had (T : Tbl) : Fn := fnS 3 2 (s_rests_had T)
/-- fixed_cells: sheet, numbers, own, told, known, had, cell, rests -/
def s_fixed_cells (T : Tbl) : ST :=
      (sSeq (sAsg (.t [(.n 2), (.n 3)]) (eCall T.f_sure_bearing (aCons (eVar 0) (aCons (eVar 1) aNil))))
      (sSeq (sAsg (.n 4) (eCall T.f_known_inputs (aCons (eVar 2) (aCons (eVar 3) aNil))))
      (sSeq (sAsg (.n 5) (eComp (.n 6) (iOf iRng1 (aCons (e2 oIx (eVar 2) (eCon (.int 1))) aNil)) (eCon (.bl true)) (eCall T.f_had_at (aCons (eVar 2) (aCons (eVar 4) (aCons (eVar 6) aNil)))) [6]))
      (sSeq (sIf (e2 oEq (e2 oIx (eVar 5) (eCon (.int 0))) (eN fTup aNil)) (sRaise 1) sNext)
      (sRet (e1 bTuple (eComp (.t [(.n 6), (.n 7)]) (iOf iEnum (aCons (eVar 5) aNil)) (e2 oEq (e1 bLen (eVar 7)) (eCon (.int 1))) (eN fTup (aCons (eVar 6) (aCons (e2 oIx (eVar 7) (eCon (.int 0))) aNil))) [6, 7])))))))
def b_fixed_cells (T : Tbl) : Fn := fnS 2 6 (s_fixed_cells T)
/-- how_often: sheet, numbers, cell, own, told, known, here, found, rest -/
def s_how_often (T : Tbl) : ST :=
      (sSeq (sAsg (.t [(.n 3), (.n 4)]) (eCall T.f_sure_bearing (aCons (eVar 0) (aCons (eVar 1) aNil))))
      (sSeq (sPar false 5 6 (eCall T.f_known_inputs (aCons (eVar 3) (aCons (eVar 4) aNil))) (eCall T.f_sure_below (aCons (eVar 2) (aCons (e2 oIx (eVar 3) (eCon (.int 1))) aNil))))
      (sSeq (sMv 7 (eN fLst aNil))
      (sSeq (sFor (.n 8) (iOf iRng1 (aCons (e2 oIx (eVar 3) (eCon (.int 0))) aNil)) (sIf (e2 oNe (eGet (eVar 5) (eVar 6) (eVar 8)) (eVar 8)) (sMut 7 muApp (eCon (.int 0))) (sMut 7 muApp (e2 oIx (eCall T.f_counted (aCons (e2 oIx (eVar 3) (eCon (.int 0))) (aCons (e2 oIx (eVar 3) (eCon (.int 1))) (aCons (e2 oIx (eVar 3) (e1 oNeg (eCon (.int 1)))) (aCons (eCall T.f_known_with (aCons (eVar 5) (aCons (eVar 6) (aCons (eVar 8) aNil)))) aNil))))) (eCon (.int 0))))))
      (sRet (e1 bTuple (eMv 7)))))))
def b_how_often (T : Tbl) : Fn := fnS 3 6 (s_how_often T)
/-- are_as_many: one, other, near, far -/
def s_are_as_many (T : Tbl) : ST :=
      (sSeq (sPar false 2 3 (eCall T.f_sure_sheet (aCons (eVar 0) aNil)) (eCall T.f_sure_sheet (aCons (eVar 1) aNil)))
      (sSeq (sIf (eOr (e2 oNe (e2 oIx (eVar 2) (eCon (.int 0))) (e2 oIx (eVar 3) (eCon (.int 0)))) (e2 oNe (e1 bLen (e2 oIx (eVar 2) (eCon (.int 2)))) (e1 bLen (e2 oIx (eVar 3) (eCon (.int 2)))))) (sRaise 0) sNext)
      (sRet (e2 oEq (eCall T.f_count_row (aCons (eVar 2) aNil)) (eCall T.f_count_row (aCons (eVar 3) aNil))))))
def b_are_as_many (T : Tbl) : Fn := fnS 2 2 (s_are_as_many T)
/-- _law_same: got, due, mine, its -/
def s_law_same (T : Tbl) : ST :=
      (sSeq (sIf (e1 (bIsi [4, 3]) (eVar 1)) (sSeq (sIf (eOr (e2 oNe (e1 (bIsi [4]) (eVar 0)) (e1 (bIsi [4]) (eVar 1))) (e2 oNe (e1 (bIsi [3]) (eVar 0)) (e1 (bIsi [3]) (eVar 1)))) (sRet (eCon (.bl false))) sNext)
      (sRet (eAnd (e2 oEq (e1 bLen (eVar 0)) (e1 bLen (eVar 1))) (e1 bAll (eComp (.t [(.n 2), (.n 3)]) (iOf iZip (aCons (eVar 0) (aCons (eVar 1) aNil))) (eCon (.bl true)) (eCall T.f_law_same (aCons (eVar 2) (aCons (eVar 3) aNil))) [2, 3]))))) sNext)
      (sSeq (sIf (eOr (e2 oIs (eVar 1) (eCon .non)) (e1 (bIsi [0, 2]) (eVar 1))) (sRet (eAnd (e2 oEq (eVar 0) (eVar 1)) (eAnd (e2 oEq (e1 (bIsi [0]) (eVar 0)) (e1 (bIsi [0]) (eVar 1))) (e2 oEq (e2 oIs (eVar 0) (eCon .non)) (e2 oIs (eVar 1) (eCon .non)))))) sNext)
      (sRet (eAnd (e1 (bIsi [1]) (eVar 0)) (eAnd (eNot (e1 (bIsi [0]) (eVar 0))) (e2 oEq (eVar 0) (eVar 1)))))))
def b_law_same (T : Tbl) : Fn := fnS 2 2 (s_law_same T)
/-- _law_lists: matter, bit -/
def s_law_lists (T : Tbl) : ST :=
      (sRet (eIf (e1 (bIsi [4, 3]) (eVar 0)) (eComp (.n 1) (iOf iVal (aCons (eVar 0) aNil)) (eCon (.bl true)) (eCall T.f_law_lists (aCons (eVar 1) aNil)) [1]) (eVar 0)))
def b_law_lists (T : Tbl) : Fn := fnS 1 1 (s_law_lists T)
/-- _law_scene: z, u, b, nil, same, root, loose, never -/
def s_law_scene (T : Tbl) : ST :=
      (sSeq (sAsg (.t [(.n 0), (.n 1), (.n 2), (.n 3)]) (eN fTup (aCons (eN fTup (aCons (eCon (.int 0)) (aCons (eN fTup (aCons (eN fTup (aCons (eCon (.int 0)) (aCons (eCon (.int 1)) aNil))) aNil)) aNil))) (aCons (eN fTup (aCons (eCon (.int 0)) (aCons (eN fTup (aCons (eN fTup (aCons (eCon (.int 1)) (aCons (eCon (.int 1)) aNil))) aNil)) aNil))) (aCons (eN fTup (aCons (eCon (.int 0)) (aCons (eN fTup (aCons (eN fTup (aCons (eCon (.int 2)) (aCons (eCon (.int 1)) aNil))) aNil)) aNil))) (aCons (eN fTup (aCons (eCon (.int 0)) (aCons (eN fTup aNil) aNil))) aNil))))))
      (sSeq (sAsg (.n 4) (eN fTup (aCons (eCon (.int 5)) (aCons (eCon (.int 3)) (aCons (eN fTup (aCons (eCon (.int 0)) aNil)) (aCons (eN fTup (aCons (eCon (.int 2)) aNil)) (aCons (eN fTup (aCons (eN fTup (aCons (eVar 0) (aCons (eVar 1) (aCons (eN fTup (aCons (eCon (.int 1)) (aCons (eN fTup (aCons (eN fTup (aCons (eCon (.int 2)) (aCons (eCon (.int 4)) aNil))) aNil)) aNil))) aNil)))) (aCons (eN fTup (aCons (eVar 0) (aCons (eVar 2) (aCons (eVar 3) aNil)))) aNil))) aNil)))))))
      (sSeq (sAsg (.n 5) (eN fTup (aCons (eCon (.int 7)) (aCons (eCon (.int 2)) (aCons (eN fTup (aCons (eCon (.int 1)) aNil)) (aCons (eN fTup (aCons (eCon (.int 0)) aNil)) (aCons (eN fTup (aCons (eN fTup (aCons (eVar 0) (aCons (eVar 0) (aCons (eVar 1) aNil)))) aNil)) aNil)))))))
      (sSeq (sAsg (.n 6) (eN fTup (aCons (eCon (.int 3)) (aCons (eCon (.int 3)) (aCons (eN fTup aNil) (aCons (eN fTup (aCons (eCon (.int 0)) (aCons (eCon (.int 0)) aNil))) (aCons (eN fTup (aCons (eN fTup (aCons (eN fTup (aCons (eCon (.int 1)) (aCons (eN fTup aNil) aNil))) (aCons (eN fTup (aCons (eCon (.int 0)) (aCons (eN fTup (aCons (eN fTup (aCons (eCon (.int 0)) (aCons (eCon (.int 1)) aNil))) (aCons (eN fTup (aCons (eCon (.int 1)) (aCons (eCon (.int 1)) aNil))) aNil))) aNil))) (aCons (eN fTup (aCons (eCon (.int 1)) (aCons (eN fTup aNil) aNil))) aNil)))) aNil)) aNil)))))))
      (sSeq (sAsg (.n 7) (eN fTup (aCons (eCon (.int 13)) (aCons (eCon (.int 2)) (aCons (eN fTup (aCons (eCon (.int 0)) (aCons (eCon (.int 1)) aNil))) (aCons (eN fTup aNil) (aCons (eN fTup (aCons (eN fTup (aCons (eN fTup (aCons (eCon (.int 1)) (aCons (eN fTup aNil) aNil))) (aCons (eN fTup (aCons (eCon (.int 1)) (aCons (eN fTup aNil) aNil))) (aCons (eVar 3) aNil)))) aNil)) aNil)))))))
      (sRet (eN fTup (aCons (eVar 4) (aCons (eVar 5) (aCons (eVar 6) (aCons (eVar 7) aNil)))))))))))
def b_law_scene (T : Tbl) : Fn := fnS 0 8 (s_law_scene T)
/-- _law_counts_right: same, root, loose, never, got, due, turned_v, cubes, own, rest -/
def s_law_counts_right (T : Tbl) : ST :=
      (sSeq (sAsg (.t [(.n 0), (.n 1), (.n 2), (.n 3)]) (eCall T.f_law_scene aNil))
      (sSeq (sAsg (.n 4) (eN fLst (aCons (eComp (.n 8) (iOf iVal (aCons (eN fTup (aCons (eVar 0) (aCons (eVar 1) (aCons (eVar 2) (aCons (eVar 3) aNil))))) aNil)) (eCon (.bl true)) (eCall T.f_how_many_fillings (aCons (eVar 8) aNil)) [8]) (aCons (eCallK T.f_how_many_fillings 1 [0] (aCons (eCall T.f_law_lists (aCons (eVar 1) aNil)) aNil)) (aCons (eComp (.n 9) (iOf iRng1 (aCons (eCon (.int 5)) aNil)) (eCon (.bl true)) (eCall T.f_how_many_for (aCons (eVar 0) (aCons (eN fTup (aCons (eVar 9) aNil)) aNil))) [9]) (aCons (eComp (.n 9) (iOf iRng1 (aCons (eCon (.int 7)) aNil)) (eCon (.bl true)) (eCall T.f_how_many_for (aCons (eVar 1) (aCons (eN fTup (aCons (eVar 9) aNil)) aNil))) [9]) (aCons (eCall T.f_how_many_for (aCons (eVar 2) (aCons (eN fTup aNil) aNil))) (aCons (eCallK T.f_how_many_for 2 [1, 0] (aCons (eN fLst (aCons (eCon (.int 3)) (aCons (eCon (.int 4)) aNil))) (aCons (eCall T.f_law_lists (aCons (eVar 3) aNil)) aNil))) aNil))))))))
      (sSeq (sAsg (.n 5) (eN fLst (aCons (eN fLst (aCons (eCon (.int 9)) (aCons (eCon (.int 7)) (aCons (eCon (.int 9)) (aCons (eCon (.int 0)) aNil))))) (aCons (eCon (.int 7)) (aCons (eN fLst (aCons (eCon (.int 5)) (aCons (eCon (.int 1)) (aCons (eCon (.int 1)) (aCons (eCon (.int 1)) (aCons (eCon (.int 1)) aNil)))))) (aCons (eN fLst (aCons (eCon (.int 1)) (aCons (eCon (.int 2)) (aCons (eCon (.int 2)) (aCons (eCon (.int 0)) (aCons (eCon (.int 2)) (aCons (eCon (.int 0)) (aCons (eCon (.int 0)) aNil)))))))) (aCons (eCon (.int 9)) (aCons (eCon (.int 0)) aNil))))))))
      (sSeq (sAsg (.n 4) (e2 oAdd (eVar 4) (eN fLst (aCons (eCall T.f_count_row (aCons (eVar 0) aNil)) (aCons (eCall T.f_count_row (aCons (eVar 2) aNil)) (aCons (e1 bLen (eCallK T.f_count_row 1 [0] (aCons (eCall T.f_law_lists (aCons (eVar 3) aNil)) aNil))) (aCons (e2 oIx (eCall T.f_count_row (aCons (eVar 3) aNil)) (eCon (.int 13))) (aCons (eCall T.f_count_row (aCons (eN fTup (aCons (eCon (.int 2)) (aCons (eCon (.int 1)) (aCons (eN fTup aNil) (aCons (eN fTup aNil) (aCons (eN fTup aNil) aNil)))))) aNil)) aNil))))))))
      (sSeq (sAsg (.n 5) (e2 oAdd (eVar 5) (eN fLst (aCons (eN fLst (aCons (eN fTup (aCons (eN fTup (aCons (eCon (.int 0)) aNil)) (aCons (eCon (.int 5)) aNil))) (aCons (eN fTup (aCons (eN fTup (aCons (eCon (.int 1)) aNil)) (aCons (eCon (.int 1)) aNil))) (aCons (eN fTup (aCons (eN fTup (aCons (eCon (.int 2)) aNil)) (aCons (eCon (.int 1)) aNil))) (aCons (eN fTup (aCons (eN fTup (aCons (eCon (.int 3)) aNil)) (aCons (eCon (.int 1)) aNil))) (aCons (eN fTup (aCons (eN fTup (aCons (eCon (.int 4)) aNil)) (aCons (eCon (.int 1)) aNil))) aNil)))))) (aCons (eN fLst (aCons (eN fTup (aCons (eN fTup aNil) (aCons (eCon (.int 9)) aNil))) aNil)) (aCons (eCon (.int 169)) (aCons (eN fTup (aCons (eN fTup (aCons (eCon (.int 1)) (aCons (eCon (.int 0)) aNil))) (aCons (eCon (.int 0)) aNil))) (aCons (eN fLst (aCons (eN fTup (aCons (eN fTup aNil) (aCons (eCon (.int 2)) aNil))) aNil)) aNil))))))))
      (sSeq (sAsg (.n 6) (eN fTup (aCons (eCon (.int 7)) (aCons (eCon (.int 2)) (aCons (eN fTup (aCons (eCon (.int 0)) aNil)) (aCons (eN fTup (aCons (eCon (.int 1)) aNil)) (aCons (eN fTup (aCons (eN fTup (aCons (eN fTup (aCons (eCon (.int 0)) (aCons (eN fTup (aCons (eN fTup (aCons (eCon (.int 1)) (aCons (eCon (.int 1)) aNil))) aNil)) aNil))) (aCons (eN fTup (aCons (eCon (.int 0)) (aCons (eN fTup (aCons (eN fTup (aCons (eCon (.int 1)) (aCons (eCon (.int 1)) aNil))) aNil)) aNil))) (aCons (eN fTup (aCons (eCon (.int 0)) (aCons (eN fTup (aCons (eN fTup (aCons (eCon (.int 0)) (aCons (eCon (.int 1)) aNil))) aNil)) aNil))) aNil)))) aNil)) aNil)))))))
      (sSeq (sAsg (.n 7) (eN fTup (aCons (eCon (.int 7)) (aCons (eCon (.int 2)) (aCons (eN fTup (aCons (eCon (.int 0)) aNil)) (aCons (eN fTup (aCons (eCon (.int 1)) aNil)) (aCons (eN fTup (aCons (eN fTup (aCons (eN fTup (aCons (eCon (.int 0)) (aCons (eN fTup (aCons (eN fTup (aCons (eCon (.int 1)) (aCons (eCon (.int 1)) aNil))) aNil)) aNil))) (aCons (eN fTup (aCons (eCon (.int 0)) (aCons (eN fTup (aCons (eN fTup (aCons (eCon (.int 1)) (aCons (eCon (.int 1)) aNil))) aNil)) aNil))) (aCons (eN fTup (aCons (eCon (.int 0)) (aCons (eN fTup (aCons (eN fTup (aCons (eCon (.int 0)) (aCons (eCon (.int 6)) aNil))) aNil)) aNil))) aNil)))) aNil)) aNil)))))))
      (sSeq (sAsg (.n 4) (e2 oAdd (eVar 4) (eN fLst (aCons (eCall T.f_are_as_many (aCons (eVar 1) (aCons (eVar 6) aNil))) (aCons (eCallK T.f_are_as_many 2 [1, 0] (aCons (eCall T.f_law_lists (aCons (eVar 7) aNil)) (aCons (eCall T.f_law_lists (aCons (eVar 1) aNil)) aNil))) (aCons (eCall T.f_are_as_many (aCons (eVar 1) (aCons (e2 oAdd (e2 oCutH (eVar 1) (eCon (.int 4))) (eN fTup (aCons (e2 oAdd (e2 oIx (eVar 1) (eCon (.int 4))) (eN fTup (aCons (eN fTup (aCons (eN fTup (aCons (eCon (.int 0)) (aCons (eN fTup aNil) aNil))) (aCons (eN fTup (aCons (eCon (.int 0)) (aCons (eN fTup (aCons (eN fTup (aCons (eCon (.int 0)) (aCons (eCon (.int 1)) aNil))) aNil)) aNil))) (aCons (eN fTup (aCons (eCon (.int 0)) (aCons (eN fTup aNil) aNil))) aNil)))) aNil))) aNil))) aNil))) (aCons (eCall T.f_are_as_many (aCons (eVar 2) (aCons (eN fTup (aCons (eCon (.int 3)) (aCons (eCon (.int 2)) (aCons (eN fTup aNil) (aCons (eN fTup aNil) (aCons (eN fTup aNil) aNil)))))) aNil))) aNil)))))))
      (sSeq (sAsg (.n 5) (e2 oAdd (eVar 5) (eN fLst (aCons (eCon (.bl true)) (aCons (eCon (.bl false)) (aCons (eCon (.bl true)) (aCons (eCon (.bl true)) aNil)))))))
      (sSeq (sAsg (.n 4) (e2 oAdd (eVar 4) (eN fLst (aCons (eComp (.n 9) (iOf iRng1 (aCons (eCon (.int 7)) aNil)) (eCon (.bl true)) (eCall T.f_rests_had (aCons (eVar 1) (aCons (eN fTup (aCons (eVar 9) aNil)) (aCons (eCon (.int 0)) aNil)))) [9]) (aCons (eCall T.f_rests_had (aCons (eVar 1) (aCons (eN fTup (aCons (eCon (.int 2)) aNil)) (aCons (eCon (.int 1)) aNil)))) (aCons (eCall T.f_rests_had (aCons (eVar 1) (aCons (eN fTup (aCons (eCon (.int 3)) aNil)) (aCons (eCon (.int 1)) aNil)))) (aCons (eCall T.f_rests_had (aCons (eVar 0) (aCons (eN fTup (aCons (eCon (.int 0)) aNil)) (aCons (eCon (.int 1)) aNil)))) (aCons (eCallK T.f_rests_had 3 [2, 1, 0] (aCons (eCon (.int 2)) (aCons (eN fLst (aCons (eCon (.int 0)) aNil)) (aCons (eCall T.f_law_lists (aCons (eVar 0) aNil)) aNil)))) (aCons (eCall T.f_rests_had (aCons (eVar 3) (aCons (eN fTup (aCons (eCon (.int 1)) (aCons (eCon (.int 2)) aNil))) (aCons (eCon (.int 0)) aNil)))) (aCons (eCall T.f_rests_had (aCons (eVar 2) (aCons (eN fTup aNil) (aCons (eCon (.int 1)) aNil)))) aNil))))))))))
      (sSeq (sAsg (.n 5) (e2 oAdd (eVar 5) (eN fLst (aCons (eN fLst (aCons (eN fTup (aCons (eCon (.int 0)) aNil)) (aCons (eN fTup (aCons (eCon (.int 1)) (aCons (eCon (.int 6)) aNil))) (aCons (eN fTup (aCons (eCon (.int 3)) (aCons (eCon (.int 4)) aNil))) (aCons (eN fTup aNil) (aCons (eN fTup (aCons (eCon (.int 2)) (aCons (eCon (.int 5)) aNil))) (aCons (eN fTup aNil) (aCons (eN fTup aNil) aNil)))))))) (aCons (eN fTup (aCons (eCon (.int 2)) aNil)) (aCons (eN fTup aNil) (aCons (eN fTup (aCons (eCon (.int 0)) (aCons (eCon (.int 1)) (aCons (eCon (.int 2)) (aCons (eCon (.int 3)) (aCons (eCon (.int 4)) aNil)))))) (aCons (eN fTup (aCons (eCon (.int 1)) aNil)) (aCons (eN fTup aNil) (aCons (eN fTup (aCons (eCon (.int 0)) (aCons (eCon (.int 1)) (aCons (eCon (.int 2)) aNil)))) aNil))))))))))
      (sSeq (sAsg (.n 4) (e2 oAdd (eVar 4) (eN fLst (aCons (eCall T.f_how_often (aCons (eVar 1) (aCons (eN fTup (aCons (eCon (.int 2)) aNil)) (aCons (eCon (.int 0)) aNil)))) (aCons (eCall T.f_how_often (aCons (eVar 1) (aCons (eN fTup (aCons (eCon (.int 2)) aNil)) (aCons (eCon (.int 1)) aNil)))) (aCons (eCall T.f_how_often (aCons (eVar 0) (aCons (eN fTup (aCons (eCon (.int 0)) aNil)) (aCons (eCon (.int 2)) aNil)))) (aCons (eCall T.f_how_often (aCons (eVar 2) (aCons (eN fTup aNil) (aCons (eCon (.int 0)) aNil)))) (aCons (eCallK T.f_how_often 3 [2, 1, 0] (aCons (eCon (.int 1)) (aCons (eN fLst (aCons (eCon (.int 3)) aNil)) (aCons (eCall T.f_law_lists (aCons (eVar 0) aNil)) aNil)))) (aCons (eCall T.f_how_often (aCons (eVar 1) (aCons (eN fTup (aCons (eCon (.int 3)) aNil)) (aCons (eCon (.int 1)) aNil)))) aNil)))))))))
      (sSeq (sAsg (.n 5) (e2 oAdd (eVar 5) (eN fLst (aCons (eN fTup (aCons (eCon (.int 0)) (aCons (eCon (.int 0)) (aCons (eCon (.int 0)) (aCons (eCon (.int 1)) (aCons (eCon (.int 1)) (aCons (eCon (.int 0)) (aCons (eCon (.int 0)) aNil)))))))) (aCons (eN fTup (aCons (eCon (.int 0)) (aCons (eCon (.int 0)) (aCons (eCon (.int 2)) (aCons (eCon (.int 0)) (aCons (eCon (.int 0)) (aCons (eCon (.int 0)) (aCons (eCon (.int 0)) aNil)))))))) (aCons (eN fTup (aCons (eCon (.int 0)) (aCons (eCon (.int 5)) (aCons (eCon (.int 0)) (aCons (eCon (.int 0)) (aCons (eCon (.int 0)) aNil)))))) (aCons (eN fTup (aCons (eCon (.int 3)) (aCons (eCon (.int 3)) (aCons (eCon (.int 3)) aNil)))) (aCons (eN fTup (aCons (eCon (.int 0)) (aCons (eCon (.int 0)) (aCons (eCon (.int 1)) (aCons (eCon (.int 0)) (aCons (eCon (.int 0)) aNil)))))) (aCons (e2 oMul (eN fTup (aCons (eCon (.int 0)) aNil)) (eCon (.int 7))) aNil)))))))))
      (sSeq (sAsg (.n 4) (e2 oAdd (eVar 4) (eN fLst (aCons (eCall T.f_fixed_cells (aCons (eVar 0) (aCons (eN fTup (aCons (eCon (.int 0)) aNil)) aNil))) (aCons (eCall T.f_fixed_cells (aCons (eVar 0) (aCons (eN fTup (aCons (eCon (.int 4)) aNil)) aNil))) (aCons (eCall T.f_fixed_cells (aCons (eVar 1) (aCons (eN fTup (aCons (eCon (.int 2)) aNil)) aNil))) (aCons (eCall T.f_fixed_cells (aCons (eVar 1) (aCons (eN fTup (aCons (eCon (.int 0)) aNil)) aNil))) (aCons (eCallK T.f_fixed_cells 2 [1, 0] (aCons (eN fLst aNil) (aCons (eCall T.f_law_lists (aCons (eVar 2) aNil)) aNil))) (aCons (eCall T.f_fixed_cells (aCons (eN fTup (aCons (eCon (.int 2)) (aCons (eCon (.int 1)) (aCons (eN fTup aNil) (aCons (eN fTup aNil) (aCons (eN fTup (aCons (eN fTup (aCons (eN fTup (aCons (eCon (.int 0)) (aCons (eN fTup (aCons (eN fTup (aCons (eCon (.int 0)) (aCons (eCon (.int 1)) aNil))) aNil)) aNil))) (aCons (eN fTup (aCons (eCon (.int 0)) (aCons (eN fTup (aCons (eN fTup (aCons (eCon (.int 0)) (aCons (eCon (.int 1)) aNil))) aNil)) aNil))) (aCons (eN fTup (aCons (eCon (.int 1)) (aCons (eN fTup aNil) aNil))) aNil)))) aNil)) aNil)))))) (aCons (eN fTup aNil) aNil))) aNil)))))))))
      (sRet (eCall T.f_law_same (aCons (eVar 4) (aCons (e2 oAdd (eVar 5) (eN fLst (aCons (eN fTup (aCons (eN fTup (aCons (eCon (.int 0)) (aCons (eCon (.int 0)) aNil))) (aCons (eN fTup (aCons (eCon (.int 2)) (aCons (eCon (.int 1)) aNil))) aNil))) (aCons (eN fTup (aCons (eN fTup (aCons (eCon (.int 0)) (aCons (eCon (.int 4)) aNil))) (aCons (eN fTup (aCons (eCon (.int 1)) (aCons (eCon (.int 4)) aNil))) (aCons (eN fTup (aCons (eCon (.int 2)) (aCons (eCon (.int 0)) aNil))) aNil)))) (aCons (eN fTup (aCons (eN fTup (aCons (eCon (.int 1)) (aCons (eCon (.int 2)) aNil))) aNil)) (aCons (eN fTup (aCons (eN fTup (aCons (eCon (.int 0)) (aCons (eCon (.int 0)) aNil))) (aCons (eN fTup (aCons (eCon (.int 1)) (aCons (eCon (.int 0)) aNil))) aNil))) (aCons (eN fTup aNil) (aCons (eN fTup (aCons (eN fTup (aCons (eCon (.int 0)) (aCons (eCon (.int 1)) aNil))) aNil)) aNil)))))))) aNil))))))))))))))))))
def b_law_counts_right (T : Tbl) : Fn := fnS 0 10 (s_law_counts_right T)
/-- _law_papers_right: same, root, loose, never, free, none, things, got, due, cut, bad, sheet, numbers, much, told, own -/
def s_law_papers_right (T : Tbl) : ST :=
      (sSeq (sAsg (.t [(.n 0), (.n 1), (.n 2), (.n 3)]) (eCall T.f_law_scene aNil))
      (sSeq (sAsg (.t [(.n 4), (.n 5)]) (eN fTup (aCons (eN fTup (aCons (eCon (.str [102, 114, 101, 101])) aNil)) (aCons (eN fTup (aCons (eCon (.str [110, 111, 110, 101])) (aCons (eN fTup (aCons (eN fTup (aCons (eCon (.int 0)) (aCons (eCon (.int 1)) aNil))) aNil)) aNil))) aNil))))
      (sSeq (sAsg (.n 6) (eN fLst (aCons (eVar 4) (aCons (eN fTup (aCons (eCon (.str [108, 101, 97, 100])) (aCons (eCon (.int 2)) (aCons (eN fTup (aCons (eN fTup (aCons (eCon (.int 0)) (aCons (eCon (.int 1)) aNil))) aNil)) (aCons (eVar 4) aNil))))) (aCons (eN fTup (aCons (eCon (.str [99, 117, 116])) (aCons (eCon (.int 2)) (aCons (eN fTup (aCons (eVar 5) (aCons (eVar 4) (aCons (eVar 5) (aCons (eVar 5) (aCons (eVar 5) aNil)))))) aNil)))) (aCons (eN fTup (aCons (eCon (.str [108, 101, 97, 100])) (aCons (eCon (.int 2)) (aCons (eN fTup (aCons (eN fTup (aCons (eCon (.int 0)) (aCons (eCon (.int 4)) aNil))) aNil)) (aCons (eVar 4) aNil))))) (aCons (eN fTup (aCons (eCon (.str [108, 101, 97, 100])) (aCons (eCon (.int 2)) (aCons (eN fTup (aCons (eN fTup (aCons (eCon (.int 1)) (aCons (eCon (.int 1)) aNil))) aNil)) (aCons (eVar 4) aNil))))) (aCons (eN fTup (aCons (eCon (.str [108, 101, 97, 100])) (aCons (eCon (.int 1)) (aCons (eN fTup (aCons (eN fTup (aCons (eCon (.int 0)) (aCons (eCon (.int 1)) aNil))) aNil)) (aCons (eVar 4) aNil))))) (aCons (eVar 5) (aCons (eN fLst (aCons (eCon (.str [102, 114, 101, 101])) aNil)) (aCons (eN fTup (aCons (eCon (.str [102, 114, 101, 101])) (aCons (eN fTup aNil) aNil))) (aCons (eCon .non) (aCons (eN fTup aNil) (aCons (eN fTup (aCons (eCon (.str [99, 117, 116])) (aCons (eCon (.int 0)) (aCons (e2 oMul (eN fTup (aCons (eVar 4) aNil)) (eCon (.int 5))) aNil)))) (aCons (eN fTup (aCons (eCon (.str [99, 117, 116])) (aCons (eCon (.int 1)) (aCons (e2 oMul (eN fTup (aCons (eVar 4) aNil)) (eCon (.int 5))) aNil)))) (aCons (eN fTup (aCons (eCon (.str [99, 117, 116])) (aCons (eCon (.int 1)) (aCons (e2 oMul (eN fTup (aCons (eVar 4) aNil)) (eCon (.int 4))) aNil)))) (aCons (eN fTup (aCons (eCon (.str [99, 117, 116])) (aCons (eCon (.int 3)) (aCons (e2 oMul (eN fTup (aCons (eVar 4) aNil)) (eCon (.int 5))) aNil)))) (aCons (eN fTup (aCons (eCon (.str [115, 104, 111, 119, 110])) (aCons (eN fTup aNil) aNil))) (aCons (eN fTup (aCons (eCon (.str [108, 101, 97, 100])) (aCons (eCon (.int 2)) (aCons (eN fTup (aCons (eN fTup (aCons (eCon (.int 0)) (aCons (eCon (.int 5)) aNil))) aNil)) (aCons (eVar 4) aNil))))) aNil)))))))))))))))))))
      (sSeq (sAsg (.n 7) (eN fLst (aCons (eComp (.n 15) (iOf iVal (aCons (eVar 6) aNil)) (eCon (.bl true)) (eCall T.f_is_count_paper (aCons (eVar 0) (aCons (eN fTup (aCons (eCon (.int 0)) aNil)) (aCons (eVar 15) aNil)))) [15]) (aCons (eCallK T.f_is_count_paper 3 [2, 1, 0] (aCons (eVar 4) (aCons (eN fLst (aCons (eCon (.int 0)) aNil)) (aCons (eCall T.f_law_lists (aCons (eVar 0) aNil)) aNil)))) aNil))))
      (sSeq (sAsg (.n 8) (eN fLst (aCons (e2 oAdd (e2 oAdd (e2 oAdd (e2 oMul (eN fLst (aCons (eCon (.bl true)) aNil)) (eCon (.int 4))) (e2 oMul (eN fLst (aCons (eCon (.bl false)) aNil)) (eCon (.int 8)))) (eN fLst (aCons (eCon (.bl true)) aNil))) (e2 oMul (eN fLst (aCons (eCon (.bl false)) aNil)) (eCon (.int 4)))) (aCons (eCon (.bl true)) aNil))))
      (sSeq (sAsg (.n 7) (e2 oAdd (eVar 7) (eComp (.n 15) (iOf iVal (aCons (eN fTup (aCons (eVar 4) (aCons (e2 oIx (eVar 6) (eCon (.int 1))) (aCons (e2 oIx (eVar 6) (eCon (.int 2))) (aCons (e2 oIx (eVar 6) (eCon (.int 3))) (aCons (e2 oIx (eVar 6) (eCon (.int 12))) aNil)))))) aNil)) (eCon (.bl true)) (eCall T.f_count_by_paper (aCons (eVar 0) (aCons (eN fTup (aCons (eCon (.int 0)) aNil)) (aCons (eVar 15) aNil)))) [15])))
      (sSeq (sAsg (.n 8) (e2 oAdd (eVar 8) (e2 oMul (eN fLst (aCons (eCon (.int 5)) aNil)) (eCon (.int 5)))))
      (sSeq (sAsg (.n 9) (eN fTup (aCons (eCon (.str [99, 117, 116])) (aCons (eCon (.int 0)) (aCons (eN fTup (aCons (eVar 5) (aCons (eVar 5) (aCons (eVar 5) (aCons (eVar 4) (aCons (eVar 4) (aCons (eVar 5) (aCons (eVar 5) aNil)))))))) aNil)))))
      (sSeq (sAsg (.n 10) (eN fTup (aCons (eCon (.str [99, 117, 116])) (aCons (eCon (.int 0)) (aCons (eN fTup (aCons (eVar 5) (aCons (eVar 5) (aCons (eVar 5) (aCons (eVar 4) (aCons (eVar 4) (aCons (eVar 4) (aCons (eVar 5) aNil)))))))) aNil)))))
      (sSeq (sAsg (.n 7) (e2 oAdd (eVar 7) (eN fLst (aCons (eCall T.f_is_count_paper (aCons (eVar 1) (aCons (eN fTup (aCons (eCon (.int 2)) aNil)) (aCons (eVar 9) aNil)))) (aCons (eCall T.f_is_count_paper (aCons (eVar 1) (aCons (eN fTup (aCons (eCon (.int 2)) aNil)) (aCons (eVar 10) aNil)))) (aCons (eCall T.f_is_count_paper (aCons (eVar 1) (aCons (eN fTup (aCons (eCon (.int 2)) aNil)) (aCons (eVar 4) aNil)))) (aCons (eCallK T.f_count_by_paper 3 [2, 1, 0] (aCons (eCall T.f_law_lists (aCons (eVar 9) aNil)) (aCons (eN fLst (aCons (eCon (.int 2)) aNil)) (aCons (eCall T.f_law_lists (aCons (eVar 1) aNil)) aNil)))) (aCons (eCall T.f_is_count_paper (aCons (eVar 1) (aCons (eN fTup (aCons (eCon (.int 4)) aNil)) (aCons (eVar 9) aNil)))) (aCons (eCall T.f_count_by_paper (aCons (eVar 3) (aCons (eN fTup (aCons (eCon (.int 1)) (aCons (eCon (.int 2)) aNil))) (aCons (eVar 5) aNil)))) (aCons (eCall T.f_is_count_paper (aCons (eVar 3) (aCons (eN fTup (aCons (eCon (.int 1)) (aCons (eCon (.int 2)) aNil))) (aCons (eVar 4) aNil)))) (aCons (eCall T.f_is_count_paper (aCons (eVar 3) (aCons (eN fTup (aCons (eCon (.int 1)) (aCons (eCon (.int 2)) aNil))) (aCons (eN fTup (aCons (eCon (.str [110, 111, 110, 101])) (aCons (eN fTup aNil) aNil))) aNil)))) aNil)))))))))))
      (sSeq (sAsg (.n 8) (e2 oAdd (eVar 8) (eN fLst (aCons (eCon (.bl true)) (aCons (eCon (.bl false)) (aCons (eCon (.bl false)) (aCons (eCon (.int 2)) (aCons (eCon (.bl false)) (aCons (eCon (.int 0)) (aCons (eCon (.bl false)) (aCons (eCon (.bl false)) aNil)))))))))))
      (sSeq (sFor (.t [(.n 11), (.n 12), (.n 13)]) (iOf iVal (aCons (eN fTup (aCons (eN fTup (aCons (eVar 0) (aCons (eN fTup (aCons (eCon (.int 0)) aNil)) (aCons (eCon (.int 5)) aNil)))) (aCons (eN fTup (aCons (eVar 0) (aCons (eN fTup (aCons (eCon (.int 3)) aNil)) (aCons (eCon (.int 1)) aNil)))) (aCons (eN fTup (aCons (eVar 1) (aCons (eN fTup (aCons (eCon (.int 2)) aNil)) (aCons (eCon (.int 2)) aNil)))) (aCons (eN fTup (aCons (eVar 1) (aCons (eN fTup (aCons (eCon (.int 5)) aNil)) (aCons (eCon (.int 0)) aNil)))) (aCons (eN fTup (aCons (eVar 2) (aCons (eN fTup aNil) (aCons (eCon (.int 9)) aNil)))) (aCons (eN fTup (aCons (eVar 3) (aCons (eN fTup (aCons (eCon (.int 0)) (aCons (eCon (.int 0)) aNil))) (aCons (eCon (.int 0)) aNil)))) aNil))))))) aNil)) (sSeq (sAsg (.n 14) (eCall T.f_count_paper (aCons (eVar 11) (aCons (eVar 12) aNil))))
      (sSeq (sAsg (.n 7) (e2 oAdd (eVar 7) (eN fLst (aCons (eCall T.f_is_count_paper (aCons (eVar 11) (aCons (eVar 12) (aCons (eVar 14) aNil)))) (aCons (eCall T.f_count_by_paper (aCons (eVar 11) (aCons (eVar 12) (aCons (eVar 14) aNil)))) (aCons (e2 oEq (eCallK T.f_count_paper 2 [1, 0] (aCons (e1 bList (eVar 12)) (aCons (eCall T.f_law_lists (aCons (eVar 11) aNil)) aNil))) (eVar 14)) aNil))))))
      (sAsg (.n 8) (e2 oAdd (eVar 8) (eN fLst (aCons (eCon (.bl true)) (aCons (eVar 13) (aCons (eCon (.bl true)) aNil)))))))))
      (sRet (eCall T.f_law_same (aCons (eVar 7) (aCons (eVar 8) aNil))))))))))))))))
def b_law_papers_right (T : Tbl) : Fn := fnS 0 16 (s_law_papers_right T)
/-- _law_heard: door, sheet, more, last, told, slip_a, slip_b, slip_c -/
def s_law_heard (T : Tbl) : ST :=
      (sSeq (sAsg (.n 4) (eCon .non))
      (sSeq (sTry (sIf (e2 oLtI (eVar 0) (eCon (.int 4))) (sAsg (.n 4) (eIf (e2 oLtI (eVar 0) (eCon (.int 2))) (eCallV (callF T) (e2 oIx (eN fLst (aCons (eCon (.fn 0)) (aCons (eCon (.fn 1)) aNil))) (eVar 0)) (aCons (eVar 1) aNil)) (eCallV (callF T) (e2 oIx (eN fLst (aCons (eCon (.fn 2)) (aCons (eCon (.fn 3)) aNil))) (e2 oSub (eVar 0) (eCon (.int 2)))) (aCons (eVar 1) (aCons (eVar 2) aNil))))) (sIf (e2 oLtI (eVar 0) (eCon (.int 8))) (sAsg (.n 4) (eIf (e2 oEq (eVar 0) (eCon (.int 4))) (eCall T.f_fixed_cells (aCons (eVar 1) (aCons (eVar 2) aNil))) (eIf (e2 oEq (eVar 0) (eCon (.int 5))) (eCall T.f_are_as_many (aCons (eVar 1) (aCons (eVar 2) aNil))) (eCallV (callF T) (e2 oIx (eN fLst (aCons (eCon (.fn 4)) (aCons (eCon (.fn 5)) aNil))) (e2 oSub (eVar 0) (eCon (.int 6)))) (aCons (eVar 1) (aCons (eVar 2) (aCons (eVar 3) aNil))))))) (sAsg (.n 4) (eIf (e2 oEq (eVar 0) (eCon (.int 8))) (eCall T.f_is_count_paper (aCons (eVar 1) (aCons (eVar 2) (aCons (eCon .non) aNil)))) (eCall T.f_count_by_paper (aCons (eVar 1) (aCons (eVar 2) (aCons (eVar 3) aNil)))))))) [(0, 5, some 4, [117, 110, 102, 105, 116]), (1, 6, some 4, [112, 97, 112, 101, 114]), (2, 7, some 4, [109, 97, 110, 121])])
      (sRet (eVar 4))))
def b_law_heard (T : Tbl) : Fn := fnS 4 4 (s_law_heard T)
/-- law: script, same, root, loose, never, got, free, own, due, wide, door -/
def s_law (T : Tbl) : ST :=
      (sSeq (sAsg (.t [(.n 1), (.n 2), (.n 3), (.n 4)]) (eCall T.f_law_scene aNil))
      (sSeq (sPar true 5 6 (eN fLst aNil) (eN fTup (aCons (eCon (.str [102, 114, 101, 101])) aNil)))
      (sSeq (sFor (.n 7) (iOf iVal (aCons (eN fTup (aCons (eCon .non) (aCons (eCon (.int 5)) (aCons (e2 oCutH (eVar 1) (eCon (.int 4))) (aCons (e2 oAdd (eN fTup (aCons (eCon (.int 4)) aNil)) (e2 oCutL (eVar 1) (eCon (.int 1)))) (aCons (e2 oAdd (eN fTup (aCons (eCon (.int 5)) (aCons (eCon (.int 0)) aNil))) (e2 oCutL (eVar 1) (eCon (.int 2)))) (aCons (e2 oAdd (e2 oAdd (e2 oCutH (eVar 1) (eCon (.int 2))) (eN fTup (aCons (eN fTup (aCons (eCon (.int 3)) aNil)) aNil))) (e2 oCutL (eVar 1) (eCon (.int 3)))) (aCons (e2 oAdd (e2 oCutH (eVar 1) (eCon (.int 4))) (eN fTup (aCons (eN fTup (aCons (eCon .non) aNil)) aNil))) aNil)))))))) aNil)) (sMv 5 (e2 oAdd (e2 oAdd (eMv 5) (eComp (.n 10) (iOf iVal (aCons (eN fTup (aCons (eCon (.int 0)) (aCons (eCon (.int 1)) (aCons (eCon (.int 2)) (aCons (eCon (.int 3)) (aCons (eCon (.int 4)) (aCons (eCon (.int 6)) (aCons (eCon (.int 7)) (aCons (eCon (.int 8)) (aCons (eCon (.int 9)) aNil)))))))))) aNil)) (eCon (.bl true)) (eCall T.f_law_heard (aCons (eVar 10) (aCons (eVar 7) (aCons (eN fTup (aCons (eCon (.int 0)) aNil)) (aCons (eIf (e2 oEq (eVar 10) (eCon (.int 9))) (eVar 6) (eCon (.int 0))) aNil))))) [10])) (eN fLst (aCons (eCall T.f_law_heard (aCons (eCon (.int 5)) (aCons (eVar 7) (aCons (eVar 1) (aCons (eCon .non) aNil))))) (aCons (eCall T.f_law_heard (aCons (eCon (.int 5)) (aCons (eVar 1) (aCons (eVar 7) (aCons (eCon .non) aNil))))) aNil))))))
      (sSeq (sFor (.n 7) (iOf iVal (aCons (eN fTup (aCons (eCon .non) (aCons (eN fTup aNil) (aCons (eN fTup (aCons (eCon (.int 5)) aNil)) (aCons (eN fTup (aCons (eCon (.int 0)) (aCons (eCon (.int 0)) aNil))) (aCons (eCon (.int 0)) (aCons (eN fTup (aCons (eCon (.bl true)) aNil)) (aCons (eN fTup (aCons (e1 oNeg (eCon (.int 1))) aNil)) aNil)))))))) aNil)) (sMv 5 (e2 oAdd (eMv 5) (eComp (.n 10) (iOf iVal (aCons (eN fTup (aCons (eCon (.int 2)) (aCons (eCon (.int 3)) (aCons (eCon (.int 4)) (aCons (eCon (.int 6)) (aCons (eCon (.int 7)) (aCons (eCon (.int 8)) (aCons (eCon (.int 9)) aNil)))))))) aNil)) (eCon (.bl true)) (eCall T.f_law_heard (aCons (eVar 10) (aCons (eVar 1) (aCons (eVar 7) (aCons (eIf (e2 oEq (eVar 10) (eCon (.int 9))) (eVar 6) (eCon (.int 0))) aNil))))) [10]))))
      (sSeq (sFor (.n 7) (iOf iVal (aCons (eN fTup (aCons (eCon .non) (aCons (eCon (.int 3)) (aCons (e1 oNeg (eCon (.int 1))) (aCons (eCon (.bl true)) (aCons (eN fTup (aCons (eCon (.int 0)) aNil)) (aCons (eCon (.str [48])) aNil))))))) aNil)) (sMv 5 (e2 oAdd (eMv 5) (eComp (.n 10) (iOf iVal (aCons (eN fTup (aCons (eCon (.int 6)) (aCons (eCon (.int 7)) aNil))) aNil)) (eCon (.bl true)) (eCall T.f_law_heard (aCons (eVar 10) (aCons (eVar 1) (aCons (eN fTup (aCons (eCon (.int 0)) aNil)) (aCons (eVar 7) aNil))))) [10]))))
      (sSeq (sFor (.n 7) (iOf iVal (aCons (eN fTup (aCons (eCon .non) (aCons (eN fTup (aCons (eCon (.str [102, 114, 101, 101])) (aCons (eCon (.int 0)) aNil))) (aCons (eN fTup (aCons (eCon (.str [110, 111, 110, 101])) (aCons (eN fTup aNil) aNil))) (aCons (eN fTup (aCons (eCon (.str [108, 101, 97, 100])) (aCons (eCon (.int 1)) (aCons (eN fTup (aCons (eN fTup (aCons (eCon (.int 0)) (aCons (eCon (.int 1)) aNil))) aNil)) (aCons (eVar 6) aNil))))) (aCons (eCon (.int 5)) (aCons (eN fTup (aCons (eCon (.str [99, 117, 116])) (aCons (eCon (.int 0)) (aCons (e2 oMul (eN fTup (aCons (eVar 6) aNil)) (eCon (.int 5))) aNil)))) aNil))))))) aNil)) (sMut 5 muApp (eCall T.f_law_heard (aCons (eCon (.int 9)) (aCons (eVar 1) (aCons (eN fTup (aCons (eCon (.int 0)) aNil)) (aCons (eVar 7) aNil)))))))
      (sSeq (sMv 5 (e2 oAdd (eMv 5) (eN fLst (aCons (eCall T.f_law_heard (aCons (eCon (.int 5)) (aCons (eVar 1) (aCons (eVar 2) (aCons (eCon .non) aNil))))) (aCons (eCall T.f_law_heard (aCons (eCon (.int 5)) (aCons (eVar 2) (aCons (eVar 3) (aCons (eCon .non) aNil))))) (aCons (eCall T.f_law_heard (aCons (eCon (.int 5)) (aCons (eVar 1) (aCons (e2 oAdd (e2 oAdd (e2 oCutH (eVar 1) (eCon (.int 2))) (eN fTup (aCons (eN fTup aNil) aNil))) (e2 oCutL (eVar 1) (eCon (.int 3)))) (aCons (eCon .non) aNil))))) aNil))))))
      (sSeq (sAsg (.n 8) (e2 oMul (eN fLst (aCons (eN fLst (aCons (eCon (.str [117, 110, 102, 105, 116])) (aCons (eCon (.bl true)) aNil))) aNil)) (e1 bLen (eMv 5))))
      (sSeq (sMv 5 (e2 oAdd (eMv 5) (eN fLst (aCons (eCall T.f_law_heard (aCons (eCon (.int 4)) (aCons (eVar 2) (aCons (eN fTup (aCons (eCon (.int 3)) aNil)) (aCons (eCon .non) aNil))))) (aCons (eCall T.f_law_heard (aCons (eCon (.int 4)) (aCons (eVar 4) (aCons (eN fTup (aCons (eCon (.int 0)) (aCons (eCon (.int 0)) aNil))) (aCons (eCon .non) aNil))))) aNil)))))
      (sSeq (sAsg (.n 9) (eN fTup (aCons (eCon (.int 13)) (aCons (eCon (.int 4)) (aCons (eN fTup (aCons (eCon (.int 0)) (aCons (eCon (.int 1)) (aCons (eCon (.int 2)) aNil)))) (aCons (eN fTup (aCons (eCon (.int 3)) aNil)) (aCons (eN fTup aNil) aNil)))))))
      (sSeq (sMv 5 (e2 oAdd (eMv 5) (eN fLst (aCons (eCall T.f_law_heard (aCons (eCon (.int 1)) (aCons (eVar 9) (aCons (eCon .non) (aCons (eCon .non) aNil))))) (aCons (eCall T.f_law_heard (aCons (eCon (.int 5)) (aCons (eVar 9) (aCons (eVar 9) (aCons (eCon .non) aNil))))) (aCons (eCall T.f_law_heard (aCons (eCon (.int 0)) (aCons (eVar 9) (aCons (eCon .non) (aCons (eCon .non) aNil))))) (aCons (eCall T.f_law_heard (aCons (eCon (.int 2)) (aCons (eVar 9) (aCons (eN fTup (aCons (eCon (.int 1)) (aCons (eCon (.int 2)) (aCons (eCon (.int 3)) aNil)))) (aCons (eCon .non) aNil))))) aNil)))))))
      (sSeq (sAsg (.n 8) (e2 oAdd (e2 oAdd (e2 oAdd (eVar 8) (e2 oMul (eN fLst (aCons (eN fLst (aCons (eCon (.str [112, 97, 112, 101, 114])) (aCons (eCon (.bl true)) aNil))) aNil)) (eCon (.int 2)))) (e2 oMul (eN fLst (aCons (eN fLst (aCons (eCon (.str [109, 97, 110, 121])) (aCons (eCon (.bl true)) aNil))) aNil)) (eCon (.int 2)))) (eN fLst (aCons (eCon (.int 28561)) (aCons (eCon (.int 13)) aNil)))))
      (sRet (eAnd (eCall T.f_law_same (aCons (eMv 5) (aCons (eVar 8) aNil))) (eAnd (eCall T.f_law_counts_right aNil) (eCall T.f_law_papers_right aNil))))))))))))))))
def b_law (T : Tbl) : Fn := fnS 1 10 (s_law T)
def prog : Nat → Tbl
  | 0 => ⟨fun _ => .bad, fun _ => .bad, fun _ => .bad, fun _ => .bad, fun _ => .bad, fun _ => .bad, fun _ => .bad, fun _ => .bad, fun _ => .bad, fun _ => .bad, fun _ => .bad, fun _ => .bad, fun _ => .bad, fun _ => .bad, fun _ => .bad, fun _ => .bad, fun _ => .bad, fun _ => .bad, fun _ => .bad, fun _ => .bad, fun _ => .bad, fun _ => .bad, fun _ => .bad, fun _ => .bad, fun _ => .bad, fun _ => .bad, fun _ => .bad, fun _ => .bad, fun _ => .bad, fun _ => .bad, fun _ => .bad, fun _ => .bad, fun _ => .bad, fun _ => .bad, fun _ => .bad, fun _ => .bad, fun _ => .bad, fun _ => .bad, fun _ => .bad, fun _ => .bad, fun _ => .bad, fun _ => .bad, fun _ => .bad, fun _ => .bad, fun _ => .bad, fun _ => .bad, fun _ => .bad, fun _ => .bad, fun _ => .bad, fun _ => .bad, fun _ => .bad, fun _ => .bad, fun _ => .bad, fun _ => .bad, fun _ => .bad, fun _ => .bad, fun _ => .bad, fun _ => .bad, fun _ => .bad, fun _ => .bad, fun _ => .bad, fun _ => .bad, fun _ => .bad, fun _ => .bad, fun _ => .bad, fun _ => .bad, fun _ => .bad, fun _ => .bad, fun _ => .bad⟩
  | n + 1 => ⟨b_tupled (prog n), b_is_number (prog n), b_is_from_one (prog n), b_is_below (prog n), b_is_tuple_of (prog n), b_rises (prog n), b_set_of (prog n), b_are_below (prog n), b_is_set_below (prog n), b_sure_below (prog n), b_is_told_prime (prog n), b_turned (prog n), b_fits_part (prog n), b_fits_sum (prog n), b_sum_told (prog n), b_added (prog n), b_worth_in (prog n), b_put_into (prog n), b_fits_row (prog n), b_cells_of_row (prog n), b_row_kept (prog n), b_straight_sum (prog n), b_under_known (prog n), b_are_rows_of (prog n), b_is_sheet (prog n), b_sure_sheet (prog n), b_straight_ones (prog n), b_mixed (prog n), b_part_of (prog n), b_cleared (prog n), b_reduced (prog n), b_times_told (prog n), b_goal_sum (prog n), b_shown_by (prog n), b_cell_to_cut (prog n), b_solved_by (prog n), b_breaking_in (prog n), b_sought (prog n), b_known_with (prog n), b_led_on (prog n), b_fits_times (prog n), b_sum_by (prog n), b_sure_numbers (prog n), b_sure_bearing (prog n), b_known_inputs (prog n), b_borne_in (prog n), b_all_lots (prog n), b_counted_power (prog n), b_counted (prog n), b_how_many_fillings (prog n), b_how_many_for (prog n), b_count_paper (prog n), b_count_in (prog n), b_counts_added (prog n), b_is_count_paper (prog n), b_count_by_paper (prog n), b_count_row (prog n), b_had_at (prog n), b_rests_had (prog n), b_fixed_cells (prog n), b_how_often (prog n), b_are_as_many (prog n), b_law_same (prog n), b_law_lists (prog n), b_law_scene (prog n), b_law_counts_right (prog n), b_law_papers_right (prog n), b_law_heard (prog n), b_law (prog n)⟩
def top (i : Nat) : Stmt := PySem.Challenge.pw_fillproof_k56_counts_of_fillings_by_hand.main.body.getD i (.Pass ⟨0, 0, 0, 0⟩)
def mkD (x : Str) (i : Nat) : He.DefD := ⟨(x, none), x, x, defArgs (top i), defBody (top i), defScope (top i), [], []⟩
abbrev lGl0 : List PySem.Str := ["tupled", "is_number", "is_from_one", "is_below", "is_tuple_of", "rises", "set_of", "are_below", "is_set_below", "sure_below", "is_told_prime", "turned"]
abbrev lGl1 : List PySem.Str := ["fits_part", "fits_sum", "sum_told", "added", "worth_in", "put_into", "fits_row", "cells_of_row", "row_kept", "straight_sum", "under_known", "are_rows_of"]
abbrev lGl2 : List PySem.Str := ["is_sheet", "sure_sheet", "straight_ones", "mixed", "part_of", "cleared", "reduced", "times_told", "goal_sum", "shown_by", "cell_to_cut", "solved_by"]
abbrev lGl3 : List PySem.Str := ["breaking_in", "sought", "known_with", "led_on", "fits_times", "sum_by", "sure_numbers", "sure_bearing", "known_inputs", "borne_in", "all_lots", "counted_power"]
abbrev lGl4 : List PySem.Str := ["counted", "how_many_fillings", "how_many_for", "count_paper", "count_in", "counts_added", "is_count_paper", "count_by_paper", "count_row", "had_at", "rests_had", "fixed_cells"]
abbrev lGl5 : List PySem.Str := ["how_often", "are_as_many", "_law_same", "_law_lists", "_law_scene", "_law_counts_right", "_law_papers_right", "_law_heard", "law"]
abbrev lGl : List PySem.Str := lGl0 ++ lGl1 ++ lGl2 ++ lGl3 ++ lGl4 ++ lGl5
abbrev lFr0 : List PySem.Str := ["isinstance", "list", "tuple", "int", "bool", "len", "zip", "all", "sorted", "range", "dict", "sum"]
abbrev lFr1 : List PySem.Str := ["enumerate", "min", "str", "ValueError"]
abbrev lFr : List PySem.Str := lFr0 ++ lFr1
abbrev lDn0 : List He.DefD := [mkD "tupled" 5, mkD "is_number" 6, mkD "is_from_one" 7, mkD "is_below" 8, mkD "is_tuple_of" 9, mkD "rises" 10, mkD "set_of" 11, mkD "are_below" 12, mkD "is_set_below" 13, mkD "sure_below" 14, mkD "is_told_prime" 17, mkD "turned" 18]
abbrev lDn1 : List He.DefD := [mkD "fits_part" 24, mkD "fits_sum" 25, mkD "sum_told" 26, mkD "added" 27, mkD "worth_in" 28, mkD "put_into" 29, mkD "fits_row" 30, mkD "cells_of_row" 31, mkD "row_kept" 32, mkD "straight_sum" 33, mkD "under_known" 34, mkD "are_rows_of" 35]
abbrev lDn2 : List He.DefD := [mkD "is_sheet" 36, mkD "sure_sheet" 37, mkD "straight_ones" 43, mkD "mixed" 44, mkD "part_of" 45, mkD "cleared" 46, mkD "reduced" 47, mkD "times_told" 48, mkD "goal_sum" 49, mkD "shown_by" 50, mkD "cell_to_cut" 51, mkD "solved_by" 52]
abbrev lDn3 : List He.DefD := [mkD "breaking_in" 53, mkD "sought" 54, mkD "known_with" 55, mkD "led_on" 56, mkD "fits_times" 57, mkD "sum_by" 58, mkD "sure_numbers" 61, mkD "sure_bearing" 62, mkD "known_inputs" 63, mkD "borne_in" 64, mkD "all_lots" 65, mkD "counted_power" 73]
abbrev lDn4 : List He.DefD := [mkD "counted" 74, mkD "how_many_fillings" 75, mkD "how_many_for" 76, mkD "count_paper" 77, mkD "count_in" 78, mkD "counts_added" 79, mkD "is_count_paper" 80, mkD "count_by_paper" 81, mkD "count_row" 82, mkD "had_at" 83, mkD "rests_had" 84, mkD "fixed_cells" 85]
abbrev lDn5 : List He.DefD := [mkD "how_often" 86, mkD "are_as_many" 87, mkD "_law_same" 89, mkD "_law_lists" 90, mkD "_law_scene" 91, mkD "_law_counts_right" 92, mkD "_law_papers_right" 93, mkD "_law_heard" 94, mkD "law" 95]
abbrev lDn : List He.DefD := lDn0 ++ lDn1 ++ lDn2 ++ lDn3 ++ lDn4 ++ lDn5
abbrev lCs0 : List (PySem.Str × D) := [("PRIMES", (.tup [(.int 2), (.int 3), (.int 5), (.int 7), (.int 11), (.int 13)])), ("PAIR_sheets", (.int 2)), ("THREE", (.int 3)), ("FIVE", (.int 5)), ("NIL", (.tup [(.int 0), (.tup [])])), ("BREAK", (.str [98, 114, 101, 97, 107])), ("SHOWN", (.str [115, 104, 111, 119, 110])), ("LEAD_proofs", (.str [108, 101, 97, 100])), ("CUT_proofs", (.str [99, 117, 116])), ("MOST_LOTS", (.int 700)), ("PAIR_counts", (.int 2)), ("FOUR", (.int 4))]
abbrev lCs1 : List (PySem.Str × D) := [("NONE", (.str [110, 111, 110, 101])), ("FREE", (.str [102, 114, 101, 101])), ("LEAD_counts", (.str [108, 101, 97, 100])), ("CUT_counts", (.str [99, 117, 116]))]
abbrev lCs : List (PySem.Str × D) := lCs0 ++ lCs1
abbrev lEc0 : List PySem.Str := ["Unfit", "NoPaper", "TooMany"]
abbrev lEc : List PySem.Str := lEc0
abbrev lVf0 : List PySem.Str := ["how_many_fillings", "count_row", "how_many_for", "count_paper", "rests_had", "how_often"]
abbrev lVf : List PySem.Str := lVf0
abbrev HD (K : Frag) (mg : Str → Option Value) (fds : Nat → FuncData) : Prop := Hd lGl lFr lDn lCs lEc K mg fds
abbrev gm (K : Frag) : Gm := Gm.mk K (faOf lVf K) (faOf lEc K)
section
variable {P : Program} {w : World} {K : Frag} {mg : Str → Option Value} {base : Heap} {fds : Nat → FuncData}
theorem fd_0 (hd : HD K mg fds) : FunD K "tupled" "tupled" (defArgs (top 5)) (defBody (top 5)) (defScope (top 5)) [] [] (He.ga K "tupled") (fds 0) := hd.hdn 0 (mkD "tupled" 5) rfl
theorem bn_0 (hd : HD K mg fds) : Binds K (fds 0) ["thing"] [] := (fd_0 hd).bindsN fun _ _ _ _ _ _ us hl => match us, hl with | [_], _ => rfl
theorem ln_0 : ∀ (n : Nat) (ds : List D), (prog n).f_tupled ds ≠ .bad → ds.length = 1
  | 0, _, h => absurd rfl h
  | _ + 1, _, h => fnS_len h
theorem fd_1 (hd : HD K mg fds) : FunD K "is_number" "is_number" (defArgs (top 6)) (defBody (top 6)) (defScope (top 6)) [] [] (He.ga K "is_number") (fds 1) := hd.hdn 1 (mkD "is_number" 6) rfl
theorem bn_1 (hd : HD K mg fds) : Binds K (fds 1) ["thing"] [] := (fd_1 hd).bindsN fun _ _ _ _ _ _ us hl => match us, hl with | [_], _ => rfl
theorem ln_1 : ∀ (n : Nat) (ds : List D), (prog n).f_is_number ds ≠ .bad → ds.length = 1
  | 0, _, h => absurd rfl h
  | _ + 1, _, h => fnS_len h
theorem fd_2 (hd : HD K mg fds) : FunD K "is_from_one" "is_from_one" (defArgs (top 7)) (defBody (top 7)) (defScope (top 7)) [] [] (He.ga K "is_from_one") (fds 2) := hd.hdn 2 (mkD "is_from_one" 7) rfl
theorem bn_2 (hd : HD K mg fds) : Binds K (fds 2) ["thing"] [] := (fd_2 hd).bindsN fun _ _ _ _ _ _ us hl => match us, hl with | [_], _ => rfl
theorem ln_2 : ∀ (n : Nat) (ds : List D), (prog n).f_is_from_one ds ≠ .bad → ds.length = 1
  | 0, _, h => absurd rfl h
  | _ + 1, _, h => fnS_len h
theorem fd_3 (hd : HD K mg fds) : FunD K "is_below" "is_below" (defArgs (top 8)) (defBody (top 8)) (defScope (top 8)) [] [] (He.ga K "is_below") (fds 3) := hd.hdn 3 (mkD "is_below" 8) rfl
theorem bn_3 (hd : HD K mg fds) : Binds K (fds 3) ["thing", "bound"] [] := (fd_3 hd).bindsN fun _ _ _ _ _ _ us hl => match us, hl with | [_, _], _ => rfl
theorem ln_3 : ∀ (n : Nat) (ds : List D), (prog n).f_is_below ds ≠ .bad → ds.length = 2
  | 0, _, h => absurd rfl h
  | _ + 1, _, h => fnS_len h
theorem fd_4 (hd : HD K mg fds) : FunD K "is_tuple_of" "is_tuple_of" (defArgs (top 9)) (defBody (top 9)) (defScope (top 9)) [] [] (He.ga K "is_tuple_of") (fds 4) := hd.hdn 4 (mkD "is_tuple_of" 9) rfl
theorem bn_4 (hd : HD K mg fds) : Binds K (fds 4) ["thing", "size"] [] := (fd_4 hd).bindsN fun _ _ _ _ _ _ us hl => match us, hl with | [_, _], _ => rfl
theorem ln_4 : ∀ (n : Nat) (ds : List D), (prog n).f_is_tuple_of ds ≠ .bad → ds.length = 2
  | 0, _, h => absurd rfl h
  | _ + 1, _, h => fnS_len h
theorem fd_5 (hd : HD K mg fds) : FunD K "rises" "rises" (defArgs (top 10)) (defBody (top 10)) (defScope (top 10)) [] [] (He.ga K "rises") (fds 5) := hd.hdn 5 (mkD "rises" 10) rfl
theorem bn_5 (hd : HD K mg fds) : Binds K (fds 5) ["things"] [] := (fd_5 hd).bindsN fun _ _ _ _ _ _ us hl => match us, hl with | [_], _ => rfl
theorem ln_5 : ∀ (n : Nat) (ds : List D), (prog n).f_rises ds ≠ .bad → ds.length = 1
  | 0, _, h => absurd rfl h
  | _ + 1, _, h => fnS_len h
theorem fd_6 (hd : HD K mg fds) : FunD K "set_of" "set_of" (defArgs (top 11)) (defBody (top 11)) (defScope (top 11)) [] [] (He.ga K "set_of") (fds 6) := hd.hdn 6 (mkD "set_of" 11) rfl
theorem bn_6 (hd : HD K mg fds) : Binds K (fds 6) ["things"] [] := (fd_6 hd).bindsN fun _ _ _ _ _ _ us hl => match us, hl with | [_], _ => rfl
theorem ln_6 : ∀ (n : Nat) (ds : List D), (prog n).f_set_of ds ≠ .bad → ds.length = 1
  | 0, _, h => absurd rfl h
  | _ + 1, _, h => fnS_len h
theorem fd_7 (hd : HD K mg fds) : FunD K "are_below" "are_below" (defArgs (top 12)) (defBody (top 12)) (defScope (top 12)) [] [] (He.ga K "are_below") (fds 7) := hd.hdn 7 (mkD "are_below" 12) rfl
theorem bn_7 (hd : HD K mg fds) : Binds K (fds 7) ["thing", "bound"] [] := (fd_7 hd).bindsN fun _ _ _ _ _ _ us hl => match us, hl with | [_, _], _ => rfl
theorem ln_7 : ∀ (n : Nat) (ds : List D), (prog n).f_are_below ds ≠ .bad → ds.length = 2
  | 0, _, h => absurd rfl h
  | _ + 1, _, h => fnS_len h
theorem fd_8 (hd : HD K mg fds) : FunD K "is_set_below" "is_set_below" (defArgs (top 13)) (defBody (top 13)) (defScope (top 13)) [] [] (He.ga K "is_set_below") (fds 8) := hd.hdn 8 (mkD "is_set_below" 13) rfl
theorem bn_8 (hd : HD K mg fds) : Binds K (fds 8) ["thing", "bound"] [] := (fd_8 hd).bindsN fun _ _ _ _ _ _ us hl => match us, hl with | [_, _], _ => rfl
theorem ln_8 : ∀ (n : Nat) (ds : List D), (prog n).f_is_set_below ds ≠ .bad → ds.length = 2
  | 0, _, h => absurd rfl h
  | _ + 1, _, h => fnS_len h
theorem fd_9 (hd : HD K mg fds) : FunD K "sure_below" "sure_below" (defArgs (top 14)) (defBody (top 14)) (defScope (top 14)) [] [] (He.ga K "sure_below") (fds 9) := hd.hdn 9 (mkD "sure_below" 14) rfl
theorem bn_9 (hd : HD K mg fds) : Binds K (fds 9) ["number", "bound"] [] := (fd_9 hd).bindsN fun _ _ _ _ _ _ us hl => match us, hl with | [_, _], _ => rfl
theorem ln_9 : ∀ (n : Nat) (ds : List D), (prog n).f_sure_below ds ≠ .bad → ds.length = 2
  | 0, _, h => absurd rfl h
  | _ + 1, _, h => fnS_len h
theorem fd_10 (hd : HD K mg fds) : FunD K "is_told_prime" "is_told_prime" (defArgs (top 17)) (defBody (top 17)) (defScope (top 17)) [] [] (He.ga K "is_told_prime") (fds 10) := hd.hdn 10 (mkD "is_told_prime" 17) rfl
theorem bn_10 (hd : HD K mg fds) : Binds K (fds 10) ["thing"] [] := (fd_10 hd).bindsN fun _ _ _ _ _ _ us hl => match us, hl with | [_], _ => rfl
theorem ln_10 : ∀ (n : Nat) (ds : List D), (prog n).f_is_told_prime ds ≠ .bad → ds.length = 1
  | 0, _, h => absurd rfl h
  | _ + 1, _, h => fnS_len h
theorem fd_11 (hd : HD K mg fds) : FunD K "turned" "turned" (defArgs (top 18)) (defBody (top 18)) (defScope (top 18)) [] [] (He.ga K "turned") (fds 11) := hd.hdn 11 (mkD "turned" 18) rfl
theorem bn_11 (hd : HD K mg fds) : Binds K (fds 11) ["prime", "rest"] [] := (fd_11 hd).bindsN fun _ _ _ _ _ _ us hl => match us, hl with | [_, _], _ => rfl
theorem ln_11 : ∀ (n : Nat) (ds : List D), (prog n).f_turned ds ≠ .bad → ds.length = 2
  | 0, _, h => absurd rfl h
  | _ + 1, _, h => fnS_len h
theorem fd_12 (hd : HD K mg fds) : FunD K "fits_part" "fits_part" (defArgs (top 24)) (defBody (top 24)) (defScope (top 24)) [] [] (He.ga K "fits_part") (fds 12) := hd.hdn 12 (mkD "fits_part" 24) rfl
theorem bn_12 (hd : HD K mg fds) : Binds K (fds 12) ["prime", "thing"] [] := (fd_12 hd).bindsN fun _ _ _ _ _ _ us hl => match us, hl with | [_, _], _ => rfl
theorem ln_12 : ∀ (n : Nat) (ds : List D), (prog n).f_fits_part ds ≠ .bad → ds.length = 2
  | 0, _, h => absurd rfl h
  | _ + 1, _, h => fnS_len h
theorem fd_13 (hd : HD K mg fds) : FunD K "fits_sum" "fits_sum" (defArgs (top 25)) (defBody (top 25)) (defScope (top 25)) [] [] (He.ga K "fits_sum") (fds 13) := hd.hdn 13 (mkD "fits_sum" 25) rfl
theorem bn_13 (hd : HD K mg fds) : Binds K (fds 13) ["prime", "thing"] [] := (fd_13 hd).bindsN fun _ _ _ _ _ _ us hl => match us, hl with | [_, _], _ => rfl
theorem ln_13 : ∀ (n : Nat) (ds : List D), (prog n).f_fits_sum ds ≠ .bad → ds.length = 2
  | 0, _, h => absurd rfl h
  | _ + 1, _, h => fnS_len h
theorem fd_14 (hd : HD K mg fds) : FunD K "sum_told" "sum_told" (defArgs (top 26)) (defBody (top 26)) (defScope (top 26)) [] [] (He.ga K "sum_told") (fds 14) := hd.hdn 14 (mkD "sum_told" 26) rfl
theorem bn_14 (hd : HD K mg fds) : Binds K (fds 14) ["prime", "number", "table"] [] := (fd_14 hd).bindsN fun _ _ _ _ _ _ us hl => match us, hl with | [_, _, _], _ => rfl
theorem ln_14 : ∀ (n : Nat) (ds : List D), (prog n).f_sum_told ds ≠ .bad → ds.length = 3
  | 0, _, h => absurd rfl h
  | _ + 1, _, h => fnS_len h
theorem fd_15 (hd : HD K mg fds) : FunD K "added" "added" (defArgs (top 27)) (defBody (top 27)) (defScope (top 27)) [] [] (He.ga K "added") (fds 15) := hd.hdn 15 (mkD "added" 27) rfl
theorem bn_15 (hd : HD K mg fds) : Binds K (fds 15) ["prime", "one", "other", "often"] [] := (fd_15 hd).bindsN fun _ _ _ _ _ _ us hl => match us, hl with | [_, _, _, _], _ => rfl
theorem ln_15 : ∀ (n : Nat) (ds : List D), (prog n).f_added ds ≠ .bad → ds.length = 4
  | 0, _, h => absurd rfl h
  | _ + 1, _, h => fnS_len h
theorem fd_16 (hd : HD K mg fds) : FunD K "worth_in" "worth_in" (defArgs (top 28)) (defBody (top 28)) (defScope (top 28)) [] [] (He.ga K "worth_in") (fds 16) := hd.hdn 16 (mkD "worth_in" 28) rfl
theorem bn_16 (hd : HD K mg fds) : Binds K (fds 16) ["prime", "told", "filling"] [] := (fd_16 hd).bindsN fun _ _ _ _ _ _ us hl => match us, hl with | [_, _, _], _ => rfl
theorem ln_16 : ∀ (n : Nat) (ds : List D), (prog n).f_worth_in ds ≠ .bad → ds.length = 3
  | 0, _, h => absurd rfl h
  | _ + 1, _, h => fnS_len h
theorem fd_17 (hd : HD K mg fds) : FunD K "put_into" "put_into" (defArgs (top 29)) (defBody (top 29)) (defScope (top 29)) [] [] (He.ga K "put_into") (fds 17) := hd.hdn 17 (mkD "put_into" 29) rfl
theorem bn_17 (hd : HD K mg fds) : Binds K (fds 17) ["prime", "told", "table"] [] := (fd_17 hd).bindsN fun _ _ _ _ _ _ us hl => match us, hl with | [_, _, _], _ => rfl
theorem ln_17 : ∀ (n : Nat) (ds : List D), (prog n).f_put_into ds ≠ .bad → ds.length = 3
  | 0, _, h => absurd rfl h
  | _ + 1, _, h => fnS_len h
theorem fd_18 (hd : HD K mg fds) : FunD K "fits_row" "fits_row" (defArgs (top 30)) (defBody (top 30)) (defScope (top 30)) [] [] (He.ga K "fits_row") (fds 18) := hd.hdn 18 (mkD "fits_row" 30) rfl
theorem bn_18 (hd : HD K mg fds) : Binds K (fds 18) ["prime", "thing"] [] := (fd_18 hd).bindsN fun _ _ _ _ _ _ us hl => match us, hl with | [_, _], _ => rfl
theorem ln_18 : ∀ (n : Nat) (ds : List D), (prog n).f_fits_row ds ≠ .bad → ds.length = 2
  | 0, _, h => absurd rfl h
  | _ + 1, _, h => fnS_len h
theorem fd_19 (hd : HD K mg fds) : FunD K "cells_of_row" "cells_of_row" (defArgs (top 31)) (defBody (top 31)) (defScope (top 31)) [] [] (He.ga K "cells_of_row") (fds 19) := hd.hdn 19 (mkD "cells_of_row" 31) rfl
theorem bn_19 (hd : HD K mg fds) : Binds K (fds 19) ["row"] [] := (fd_19 hd).bindsN fun _ _ _ _ _ _ us hl => match us, hl with | [_], _ => rfl
theorem ln_19 : ∀ (n : Nat) (ds : List D), (prog n).f_cells_of_row ds ≠ .bad → ds.length = 1
  | 0, _, h => absurd rfl h
  | _ + 1, _, h => fnS_len h
theorem fd_20 (hd : HD K mg fds) : FunD K "row_kept" "row_kept" (defArgs (top 32)) (defBody (top 32)) (defScope (top 32)) [] [] (He.ga K "row_kept") (fds 20) := hd.hdn 20 (mkD "row_kept" 32) rfl
theorem bn_20 (hd : HD K mg fds) : Binds K (fds 20) ["prime", "row", "filling"] [] := (fd_20 hd).bindsN fun _ _ _ _ _ _ us hl => match us, hl with | [_, _, _], _ => rfl
theorem ln_20 : ∀ (n : Nat) (ds : List D), (prog n).f_row_kept ds ≠ .bad → ds.length = 3
  | 0, _, h => absurd rfl h
  | _ + 1, _, h => fnS_len h
theorem fd_21 (hd : HD K mg fds) : FunD K "straight_sum" "straight_sum" (defArgs (top 33)) (defBody (top 33)) (defScope (top 33)) [] [] (He.ga K "straight_sum") (fds 21) := hd.hdn 21 (mkD "straight_sum" 33) rfl
theorem bn_21 (hd : HD K mg fds) : Binds K (fds 21) ["prime", "row"] [] := (fd_21 hd).bindsN fun _ _ _ _ _ _ us hl => match us, hl with | [_, _], _ => rfl
theorem ln_21 : ∀ (n : Nat) (ds : List D), (prog n).f_straight_sum ds ≠ .bad → ds.length = 2
  | 0, _, h => absurd rfl h
  | _ + 1, _, h => fnS_len h
theorem fd_22 (hd : HD K mg fds) : FunD K "under_known" "under_known" (defArgs (top 34)) (defBody (top 34)) (defScope (top 34)) [] [] (He.ga K "under_known") (fds 22) := hd.hdn 22 (mkD "under_known" 34) rfl
theorem bn_22 (hd : HD K mg fds) : Binds K (fds 22) ["prime", "row", "known"] [] := (fd_22 hd).bindsN fun _ _ _ _ _ _ us hl => match us, hl with | [_, _, _], _ => rfl
theorem ln_22 : ∀ (n : Nat) (ds : List D), (prog n).f_under_known ds ≠ .bad → ds.length = 3
  | 0, _, h => absurd rfl h
  | _ + 1, _, h => fnS_len h
theorem fd_23 (hd : HD K mg fds) : FunD K "are_rows_of" "are_rows_of" (defArgs (top 35)) (defBody (top 35)) (defScope (top 35)) [] [] (He.ga K "are_rows_of") (fds 23) := hd.hdn 23 (mkD "are_rows_of" 35) rfl
theorem bn_23 (hd : HD K mg fds) : Binds K (fds 23) ["prime", "many", "thing"] [] := (fd_23 hd).bindsN fun _ _ _ _ _ _ us hl => match us, hl with | [_, _, _], _ => rfl
theorem ln_23 : ∀ (n : Nat) (ds : List D), (prog n).f_are_rows_of ds ≠ .bad → ds.length = 3
  | 0, _, h => absurd rfl h
  | _ + 1, _, h => fnS_len h
theorem fd_24 (hd : HD K mg fds) : FunD K "is_sheet" "is_sheet" (defArgs (top 36)) (defBody (top 36)) (defScope (top 36)) [] [] (He.ga K "is_sheet") (fds 24) := hd.hdn 24 (mkD "is_sheet" 36) rfl
theorem bn_24 (hd : HD K mg fds) : Binds K (fds 24) ["thing"] [] := (fd_24 hd).bindsN fun _ _ _ _ _ _ us hl => match us, hl with | [_], _ => rfl
theorem ln_24 : ∀ (n : Nat) (ds : List D), (prog n).f_is_sheet ds ≠ .bad → ds.length = 1
  | 0, _, h => absurd rfl h
  | _ + 1, _, h => fnS_len h
theorem fd_25 (hd : HD K mg fds) : FunD K "sure_sheet" "sure_sheet" (defArgs (top 37)) (defBody (top 37)) (defScope (top 37)) [] [] (He.ga K "sure_sheet") (fds 25) := hd.hdn 25 (mkD "sure_sheet" 37) rfl
theorem bn_25 (hd : HD K mg fds) : Binds K (fds 25) ["sheet"] [] := (fd_25 hd).bindsN fun _ _ _ _ _ _ us hl => match us, hl with | [_], _ => rfl
theorem ln_25 : ∀ (n : Nat) (ds : List D), (prog n).f_sure_sheet ds ≠ .bad → ds.length = 1
  | 0, _, h => absurd rfl h
  | _ + 1, _, h => fnS_len h
theorem fd_26 (hd : HD K mg fds) : FunD K "straight_ones" "straight_ones" (defArgs (top 43)) (defBody (top 43)) (defScope (top 43)) [] [] (He.ga K "straight_ones") (fds 26) := hd.hdn 26 (mkD "straight_ones" 43) rfl
theorem bn_26 (hd : HD K mg fds) : Binds K (fds 26) ["prime", "rows", "known"] [] := (fd_26 hd).bindsN fun _ _ _ _ _ _ us hl => match us, hl with | [_, _, _], _ => rfl
theorem ln_26 : ∀ (n : Nat) (ds : List D), (prog n).f_straight_ones ds ≠ .bad → ds.length = 3
  | 0, _, h => absurd rfl h
  | _ + 1, _, h => fnS_len h
theorem fd_27 (hd : HD K mg fds) : FunD K "mixed" "mixed" (defArgs (top 44)) (defBody (top 44)) (defScope (top 44)) [] [] (He.ga K "mixed") (fds 27) := hd.hdn 27 (mkD "mixed" 44) rfl
theorem bn_27 (hd : HD K mg fds) : Binds K (fds 27) ["prime", "one", "other", "often"] [] := (fd_27 hd).bindsN fun _ _ _ _ _ _ us hl => match us, hl with | [_, _, _, _], _ => rfl
theorem ln_27 : ∀ (n : Nat) (ds : List D), (prog n).f_mixed ds ≠ .bad → ds.length = 4
  | 0, _, h => absurd rfl h
  | _ + 1, _, h => fnS_len h
theorem fd_28 (hd : HD K mg fds) : FunD K "part_of" "part_of" (defArgs (top 45)) (defBody (top 45)) (defScope (top 45)) [] [] (He.ga K "part_of") (fds 28) := hd.hdn 28 (mkD "part_of" 45) rfl
theorem bn_28 (hd : HD K mg fds) : Binds K (fds 28) ["told", "cell"] [] := (fd_28 hd).bindsN fun _ _ _ _ _ _ us hl => match us, hl with | [_, _], _ => rfl
theorem ln_28 : ∀ (n : Nat) (ds : List D), (prog n).f_part_of ds ≠ .bad → ds.length = 2
  | 0, _, h => absurd rfl h
  | _ + 1, _, h => fnS_len h
theorem fd_29 (hd : HD K mg fds) : FunD K "cleared" "cleared" (defArgs (top 46)) (defBody (top 46)) (defScope (top 46)) [] [] (He.ga K "cleared") (fds 29) := hd.hdn 29 (mkD "cleared" 46) rfl
theorem bn_29 (hd : HD K mg fds) : Binds K (fds 29) ["prime", "pair", "heads"] [] := (fd_29 hd).bindsN fun _ _ _ _ _ _ us hl => match us, hl with | [_, _, _], _ => rfl
theorem ln_29 : ∀ (n : Nat) (ds : List D), (prog n).f_cleared ds ≠ .bad → ds.length = 3
  | 0, _, h => absurd rfl h
  | _ + 1, _, h => fnS_len h
theorem fd_30 (hd : HD K mg fds) : FunD K "reduced" "reduced" (defArgs (top 47)) (defBody (top 47)) (defScope (top 47)) [] [] (He.ga K "reduced") (fds 30) := hd.hdn 30 (mkD "reduced" 47) rfl
theorem bn_30 (hd : HD K mg fds) : Binds K (fds 30) ["prime", "pairs"] [] := (fd_30 hd).bindsN fun _ _ _ _ _ _ us hl => match us, hl with | [_, _], _ => rfl
theorem ln_30 : ∀ (n : Nat) (ds : List D), (prog n).f_reduced ds ≠ .bad → ds.length = 2
  | 0, _, h => absurd rfl h
  | _ + 1, _, h => fnS_len h
theorem fd_31 (hd : HD K mg fds) : FunD K "times_told" "times_told" (defArgs (top 48)) (defBody (top 48)) (defScope (top 48)) [] [] (He.ga K "times_told") (fds 31) := hd.hdn 31 (mkD "times_told" 48) rfl
theorem bn_31 (hd : HD K mg fds) : Binds K (fds 31) ["times"] [] := (fd_31 hd).bindsN fun _ _ _ _ _ _ us hl => match us, hl with | [_], _ => rfl
theorem ln_31 : ∀ (n : Nat) (ds : List D), (prog n).f_times_told ds ≠ .bad → ds.length = 1
  | 0, _, h => absurd rfl h
  | _ + 1, _, h => fnS_len h
theorem fd_32 (hd : HD K mg fds) : FunD K "goal_sum" "goal_sum" (defArgs (top 49)) (defBody (top 49)) (defScope (top 49)) [] [] (He.ga K "goal_sum") (fds 32) := hd.hdn 32 (mkD "goal_sum" 49) rfl
theorem bn_32 (hd : HD K mg fds) : Binds K (fds 32) ["prime", "goal", "known"] [] := (fd_32 hd).bindsN fun _ _ _ _ _ _ us hl => match us, hl with | [_, _, _], _ => rfl
theorem ln_32 : ∀ (n : Nat) (ds : List D), (prog n).f_goal_sum ds ≠ .bad → ds.length = 3
  | 0, _, h => absurd rfl h
  | _ + 1, _, h => fnS_len h
theorem fd_33 (hd : HD K mg fds) : FunD K "shown_by" "shown_by" (defArgs (top 50)) (defBody (top 50)) (defScope (top 50)) [] [] (He.ga K "shown_by") (fds 33) := hd.hdn 33 (mkD "shown_by" 50) rfl
theorem bn_33 (hd : HD K mg fds) : Binds K (fds 33) ["prime", "aim", "heads"] [] := (fd_33 hd).bindsN fun _ _ _ _ _ _ us hl => match us, hl with | [_, _, _], _ => rfl
theorem ln_33 : ∀ (n : Nat) (ds : List D), (prog n).f_shown_by ds ≠ .bad → ds.length = 3
  | 0, _, h => absurd rfl h
  | _ + 1, _, h => fnS_len h
theorem fd_34 (hd : HD K mg fds) : FunD K "cell_to_cut" "cell_to_cut" (defArgs (top 51)) (defBody (top 51)) (defScope (top 51)) [] [] (He.ga K "cell_to_cut") (fds 34) := hd.hdn 34 (mkD "cell_to_cut" 51) rfl
theorem bn_34 (hd : HD K mg fds) : Binds K (fds 34) ["prime", "rows", "goal", "known"] [] := (fd_34 hd).bindsN fun _ _ _ _ _ _ us hl => match us, hl with | [_, _, _, _], _ => rfl
theorem ln_34 : ∀ (n : Nat) (ds : List D), (prog n).f_cell_to_cut ds ≠ .bad → ds.length = 4
  | 0, _, h => absurd rfl h
  | _ + 1, _, h => fnS_len h
theorem fd_35 (hd : HD K mg fds) : FunD K "solved_by" "solved_by" (defArgs (top 52)) (defBody (top 52)) (defScope (top 52)) [] [] (He.ga K "solved_by") (fds 35) := hd.hdn 35 (mkD "solved_by" 52) rfl
theorem bn_35 (hd : HD K mg fds) : Binds K (fds 35) ["prime", "many", "heads", "known", "free"] [] := (fd_35 hd).bindsN fun _ _ _ _ _ _ us hl => match us, hl with | [_, _, _, _, _], _ => rfl
theorem ln_35 : ∀ (n : Nat) (ds : List D), (prog n).f_solved_by ds ≠ .bad → ds.length = 5
  | 0, _, h => absurd rfl h
  | _ + 1, _, h => fnS_len h
theorem fd_36 (hd : HD K mg fds) : FunD K "breaking_in" "breaking_in" (defArgs (top 53)) (defBody (top 53)) (defScope (top 53)) [] [] (He.ga K "breaking_in") (fds 36) := hd.hdn 36 (mkD "breaking_in" 53) rfl
theorem bn_36 (hd : HD K mg fds) : Binds K (fds 36) ["prime", "many", "heads", "known", "goal"] [] := (fd_36 hd).bindsN fun _ _ _ _ _ _ us hl => match us, hl with | [_, _, _, _, _], _ => rfl
theorem ln_36 : ∀ (n : Nat) (ds : List D), (prog n).f_breaking_in ds ≠ .bad → ds.length = 5
  | 0, _, h => absurd rfl h
  | _ + 1, _, h => fnS_len h
theorem fd_37 (hd : HD K mg fds) : FunD K "sought" "sought" (defArgs (top 54)) (defBody (top 54)) (defScope (top 54)) [] [] (He.ga K "sought") (fds 37) := hd.hdn 37 (mkD "sought" 54) rfl
theorem bn_37 (hd : HD K mg fds) : Binds K (fds 37) ["prime", "many", "rows", "goal", "known"] [] := (fd_37 hd).bindsN fun _ _ _ _ _ _ us hl => match us, hl with | [_, _, _, _, _], _ => rfl
theorem ln_37 : ∀ (n : Nat) (ds : List D), (prog n).f_sought ds ≠ .bad → ds.length = 5
  | 0, _, h => absurd rfl h
  | _ + 1, _, h => fnS_len h
theorem fd_38 (hd : HD K mg fds) : FunD K "known_with" "known_with" (defArgs (top 55)) (defBody (top 55)) (defScope (top 55)) [] [] (He.ga K "known_with") (fds 38) := hd.hdn 38 (mkD "known_with" 55) rfl
theorem bn_38 (hd : HD K mg fds) : Binds K (fds 38) ["known", "cell", "rest"] [] := (fd_38 hd).bindsN fun _ _ _ _ _ _ us hl => match us, hl with | [_, _, _], _ => rfl
theorem ln_38 : ∀ (n : Nat) (ds : List D), (prog n).f_known_with ds ≠ .bad → ds.length = 3
  | 0, _, h => absurd rfl h
  | _ + 1, _, h => fnS_len h
theorem fd_39 (hd : HD K mg fds) : FunD K "led_on" "led_on" (defArgs (top 56)) (defBody (top 56)) (defScope (top 56)) [] [] (He.ga K "led_on") (fds 39) := hd.hdn 39 (mkD "led_on" 56) rfl
theorem bn_39 (hd : HD K mg fds) : Binds K (fds 39) ["prime", "many", "rows", "goal", "known", "pair"] [] := (fd_39 hd).bindsN fun _ _ _ _ _ _ us hl => match us, hl with | [_, _, _, _, _, _], _ => rfl
theorem ln_39 : ∀ (n : Nat) (ds : List D), (prog n).f_led_on ds ≠ .bad → ds.length = 6
  | 0, _, h => absurd rfl h
  | _ + 1, _, h => fnS_len h
theorem fd_40 (hd : HD K mg fds) : FunD K "fits_times" "fits_times" (defArgs (top 57)) (defBody (top 57)) (defScope (top 57)) [] [] (He.ga K "fits_times") (fds 40) := hd.hdn 40 (mkD "fits_times" 57) rfl
theorem bn_40 (hd : HD K mg fds) : Binds K (fds 40) ["prime", "many", "thing"] [] := (fd_40 hd).bindsN fun _ _ _ _ _ _ us hl => match us, hl with | [_, _, _], _ => rfl
theorem ln_40 : ∀ (n : Nat) (ds : List D), (prog n).f_fits_times ds ≠ .bad → ds.length = 3
  | 0, _, h => absurd rfl h
  | _ + 1, _, h => fnS_len h
theorem fd_41 (hd : HD K mg fds) : FunD K "sum_by" "sum_by" (defArgs (top 58)) (defBody (top 58)) (defScope (top 58)) [] [] (He.ga K "sum_by") (fds 41) := hd.hdn 41 (mkD "sum_by" 58) rfl
theorem bn_41 (hd : HD K mg fds) : Binds K (fds 41) ["prime", "rows", "known", "times"] [] := (fd_41 hd).bindsN fun _ _ _ _ _ _ us hl => match us, hl with | [_, _, _, _], _ => rfl
theorem ln_41 : ∀ (n : Nat) (ds : List D), (prog n).f_sum_by ds ≠ .bad → ds.length = 4
  | 0, _, h => absurd rfl h
  | _ + 1, _, h => fnS_len h
theorem fd_42 (hd : HD K mg fds) : FunD K "sure_numbers" "sure_numbers" (defArgs (top 61)) (defBody (top 61)) (defScope (top 61)) [] [] (He.ga K "sure_numbers") (fds 42) := hd.hdn 42 (mkD "sure_numbers" 61) rfl
theorem bn_42 (hd : HD K mg fds) : Binds K (fds 42) ["sheet", "numbers"] [] := (fd_42 hd).bindsN fun _ _ _ _ _ _ us hl => match us, hl with | [_, _], _ => rfl
theorem ln_42 : ∀ (n : Nat) (ds : List D), (prog n).f_sure_numbers ds ≠ .bad → ds.length = 2
  | 0, _, h => absurd rfl h
  | _ + 1, _, h => fnS_len h
theorem fd_43 (hd : HD K mg fds) : FunD K "sure_bearing" "sure_bearing" (defArgs (top 62)) (defBody (top 62)) (defScope (top 62)) [] [] (He.ga K "sure_bearing") (fds 43) := hd.hdn 43 (mkD "sure_bearing" 62) rfl
theorem bn_43 (hd : HD K mg fds) : Binds K (fds 43) ["sheet", "numbers"] [] := (fd_43 hd).bindsN fun _ _ _ _ _ _ us hl => match us, hl with | [_, _], _ => rfl
theorem ln_43 : ∀ (n : Nat) (ds : List D), (prog n).f_sure_bearing ds ≠ .bad → ds.length = 2
  | 0, _, h => absurd rfl h
  | _ + 1, _, h => fnS_len h
theorem fd_44 (hd : HD K mg fds) : FunD K "known_inputs" "known_inputs" (defArgs (top 63)) (defBody (top 63)) (defScope (top 63)) [] [] (He.ga K "known_inputs") (fds 44) := hd.hdn 44 (mkD "known_inputs" 63) rfl
theorem bn_44 (hd : HD K mg fds) : Binds K (fds 44) ["sheet", "numbers"] [] := (fd_44 hd).bindsN fun _ _ _ _ _ _ us hl => match us, hl with | [_, _], _ => rfl
theorem ln_44 : ∀ (n : Nat) (ds : List D), (prog n).f_known_inputs ds ≠ .bad → ds.length = 2
  | 0, _, h => absurd rfl h
  | _ + 1, _, h => fnS_len h
theorem fd_45 (hd : HD K mg fds) : FunD K "borne_in" "borne_in" (defArgs (top 64)) (defBody (top 64)) (defScope (top 64)) [] [] (He.ga K "borne_in") (fds 45) := hd.hdn 45 (mkD "borne_in" 64) rfl
theorem bn_45 (hd : HD K mg fds) : Binds K (fds 45) ["sheet", "known"] [] := (fd_45 hd).bindsN fun _ _ _ _ _ _ us hl => match us, hl with | [_, _], _ => rfl
theorem ln_45 : ∀ (n : Nat) (ds : List D), (prog n).f_borne_in ds ≠ .bad → ds.length = 2
  | 0, _, h => absurd rfl h
  | _ + 1, _, h => fnS_len h
theorem fd_46 (hd : HD K mg fds) : FunD K "all_lots" "all_lots" (defArgs (top 65)) (defBody (top 65)) (defScope (top 65)) [] [] (He.ga K "all_lots") (fds 46) := hd.hdn 46 (mkD "all_lots" 65) rfl
theorem bn_46 (hd : HD K mg fds) : Binds K (fds 46) ["prime", "many"] [] := (fd_46 hd).bindsN fun _ _ _ _ _ _ us hl => match us, hl with | [_, _], _ => rfl
theorem ln_46 : ∀ (n : Nat) (ds : List D), (prog n).f_all_lots ds ≠ .bad → ds.length = 2
  | 0, _, h => absurd rfl h
  | _ + 1, _, h => fnS_len h
theorem fd_47 (hd : HD K mg fds) : FunD K "counted_power" "counted_power" (defArgs (top 73)) (defBody (top 73)) (defScope (top 73)) [] [] (He.ga K "counted_power") (fds 47) := hd.hdn 47 (mkD "counted_power" 73) rfl
theorem bn_47 (hd : HD K mg fds) : Binds K (fds 47) ["prime", "many"] [] := (fd_47 hd).bindsN fun _ _ _ _ _ _ us hl => match us, hl with | [_, _], _ => rfl
theorem ln_47 : ∀ (n : Nat) (ds : List D), (prog n).f_counted_power ds ≠ .bad → ds.length = 2
  | 0, _, h => absurd rfl h
  | _ + 1, _, h => fnS_len h
theorem fd_48 (hd : HD K mg fds) : FunD K "counted" "counted" (defArgs (top 74)) (defBody (top 74)) (defScope (top 74)) [] [] (He.ga K "counted") (fds 48) := hd.hdn 48 (mkD "counted" 74) rfl
theorem bn_48 (hd : HD K mg fds) : Binds K (fds 48) ["prime", "many", "rows", "known"] [] := (fd_48 hd).bindsN fun _ _ _ _ _ _ us hl => match us, hl with | [_, _, _, _], _ => rfl
theorem ln_48 : ∀ (n : Nat) (ds : List D), (prog n).f_counted ds ≠ .bad → ds.length = 4
  | 0, _, h => absurd rfl h
  | _ + 1, _, h => fnS_len h
theorem fd_49 (hd : HD K mg fds) : FunD K "how_many_fillings" "how_many_fillings" (defArgs (top 75)) (defBody (top 75)) (defScope (top 75)) [] [] (He.ga K "how_many_fillings") (fds 49) := hd.hdn 49 (mkD "how_many_fillings" 75) rfl
theorem bn_49 (hd : HD K mg fds) : Binds K (fds 49) ["sheet"] [] := (fd_49 hd).bindsN fun _ _ _ _ _ _ us hl => match us, hl with | [_], _ => rfl
theorem ln_49 : ∀ (n : Nat) (ds : List D), (prog n).f_how_many_fillings ds ≠ .bad → ds.length = 1
  | 0, _, h => absurd rfl h
  | _ + 1, _, h => fnS_len h
theorem fd_50 (hd : HD K mg fds) : FunD K "how_many_for" "how_many_for" (defArgs (top 76)) (defBody (top 76)) (defScope (top 76)) [] [] (He.ga K "how_many_for") (fds 50) := hd.hdn 50 (mkD "how_many_for" 76) rfl
theorem bn_50 (hd : HD K mg fds) : Binds K (fds 50) ["sheet", "numbers"] [] := (fd_50 hd).bindsN fun _ _ _ _ _ _ us hl => match us, hl with | [_, _], _ => rfl
theorem ln_50 : ∀ (n : Nat) (ds : List D), (prog n).f_how_many_for ds ≠ .bad → ds.length = 2
  | 0, _, h => absurd rfl h
  | _ + 1, _, h => fnS_len h
theorem fd_51 (hd : HD K mg fds) : FunD K "count_paper" "count_paper" (defArgs (top 77)) (defBody (top 77)) (defScope (top 77)) [] [] (He.ga K "count_paper") (fds 51) := hd.hdn 51 (mkD "count_paper" 77) rfl
theorem bn_51 (hd : HD K mg fds) : Binds K (fds 51) ["sheet", "numbers"] [] := (fd_51 hd).bindsN fun _ _ _ _ _ _ us hl => match us, hl with | [_, _], _ => rfl
theorem ln_51 : ∀ (n : Nat) (ds : List D), (prog n).f_count_paper ds ≠ .bad → ds.length = 2
  | 0, _, h => absurd rfl h
  | _ + 1, _, h => fnS_len h
theorem fd_52 (hd : HD K mg fds) : FunD K "count_in" "count_in" (defArgs (top 78)) (defBody (top 78)) (defScope (top 78)) [] [] (He.ga K "count_in") (fds 52) := hd.hdn 52 (mkD "count_in" 78) rfl
theorem bn_52 (hd : HD K mg fds) : Binds K (fds 52) ["prime", "many", "rows", "known", "thing"] [] := (fd_52 hd).bindsN fun _ _ _ _ _ _ us hl => match us, hl with | [_, _, _, _, _], _ => rfl
theorem ln_52 : ∀ (n : Nat) (ds : List D), (prog n).f_count_in ds ≠ .bad → ds.length = 5
  | 0, _, h => absurd rfl h
  | _ + 1, _, h => fnS_len h
theorem fd_53 (hd : HD K mg fds) : FunD K "counts_added" "counts_added" (defArgs (top 79)) (defBody (top 79)) (defScope (top 79)) [] [] (He.ga K "counts_added") (fds 53) := hd.hdn 53 (mkD "counts_added" 79) rfl
theorem bn_53 (hd : HD K mg fds) : Binds K (fds 53) ["prime", "many", "rows", "known", "thing"] [] := (fd_53 hd).bindsN fun _ _ _ _ _ _ us hl => match us, hl with | [_, _, _, _, _], _ => rfl
theorem ln_53 : ∀ (n : Nat) (ds : List D), (prog n).f_counts_added ds ≠ .bad → ds.length = 5
  | 0, _, h => absurd rfl h
  | _ + 1, _, h => fnS_len h
theorem fd_54 (hd : HD K mg fds) : FunD K "is_count_paper" "is_count_paper" (defArgs (top 80)) (defBody (top 80)) (defScope (top 80)) [] [] (He.ga K "is_count_paper") (fds 54) := hd.hdn 54 (mkD "is_count_paper" 80) rfl
theorem bn_54 (hd : HD K mg fds) : Binds K (fds 54) ["sheet", "numbers", "thing"] [] := (fd_54 hd).bindsN fun _ _ _ _ _ _ us hl => match us, hl with | [_, _, _], _ => rfl
theorem ln_54 : ∀ (n : Nat) (ds : List D), (prog n).f_is_count_paper ds ≠ .bad → ds.length = 3
  | 0, _, h => absurd rfl h
  | _ + 1, _, h => fnS_len h
theorem fd_55 (hd : HD K mg fds) : FunD K "count_by_paper" "count_by_paper" (defArgs (top 81)) (defBody (top 81)) (defScope (top 81)) [] [] (He.ga K "count_by_paper") (fds 55) := hd.hdn 55 (mkD "count_by_paper" 81) rfl
theorem bn_55 (hd : HD K mg fds) : Binds K (fds 55) ["sheet", "numbers", "paper"] [] := (fd_55 hd).bindsN fun _ _ _ _ _ _ us hl => match us, hl with | [_, _, _], _ => rfl
theorem ln_55 : ∀ (n : Nat) (ds : List D), (prog n).f_count_by_paper ds ≠ .bad → ds.length = 3
  | 0, _, h => absurd rfl h
  | _ + 1, _, h => fnS_len h
theorem fd_56 (hd : HD K mg fds) : FunD K "count_row" "count_row" (defArgs (top 82)) (defBody (top 82)) (defScope (top 82)) [] [] (He.ga K "count_row") (fds 56) := hd.hdn 56 (mkD "count_row" 82) rfl
theorem bn_56 (hd : HD K mg fds) : Binds K (fds 56) ["sheet"] [] := (fd_56 hd).bindsN fun _ _ _ _ _ _ us hl => match us, hl with | [_], _ => rfl
theorem ln_56 : ∀ (n : Nat) (ds : List D), (prog n).f_count_row ds ≠ .bad → ds.length = 1
  | 0, _, h => absurd rfl h
  | _ + 1, _, h => fnS_len h
theorem fd_57 (hd : HD K mg fds) : FunD K "had_at" "had_at" (defArgs (top 83)) (defBody (top 83)) (defScope (top 83)) [] [] (He.ga K "had_at") (fds 57) := hd.hdn 57 (mkD "had_at" 83) rfl
theorem bn_57 (hd : HD K mg fds) : Binds K (fds 57) ["sheet", "known", "cell"] [] := (fd_57 hd).bindsN fun _ _ _ _ _ _ us hl => match us, hl with | [_, _, _], _ => rfl
theorem ln_57 : ∀ (n : Nat) (ds : List D), (prog n).f_had_at ds ≠ .bad → ds.length = 3
  | 0, _, h => absurd rfl h
  | _ + 1, _, h => fnS_len h
theorem fd_58 (hd : HD K mg fds) : FunD K "rests_had" "rests_had" (defArgs (top 84)) (defBody (top 84)) (defScope (top 84)) [] [] (He.ga K "rests_had") (fds 58) := hd.hdn 58 (mkD "rests_had" 84) rfl
theorem bn_58 (hd : HD K mg fds) : Binds K (fds 58) ["sheet", "numbers", "cell"] [] := (fd_58 hd).bindsN fun _ _ _ _ _ _ us hl => match us, hl with | [_, _, _], _ => rfl
theorem ln_58 : ∀ (n : Nat) (ds : List D), (prog n).f_rests_had ds ≠ .bad → ds.length = 3
  | 0, _, h => absurd rfl h
  | _ + 1, _, h => fnS_len h
theorem fd_59 (hd : HD K mg fds) : FunD K "fixed_cells" "fixed_cells" (defArgs (top 85)) (defBody (top 85)) (defScope (top 85)) [] [] (He.ga K "fixed_cells") (fds 59) := hd.hdn 59 (mkD "fixed_cells" 85) rfl
theorem bn_59 (hd : HD K mg fds) : Binds K (fds 59) ["sheet", "numbers"] [] := (fd_59 hd).bindsN fun _ _ _ _ _ _ us hl => match us, hl with | [_, _], _ => rfl
theorem ln_59 : ∀ (n : Nat) (ds : List D), (prog n).f_fixed_cells ds ≠ .bad → ds.length = 2
  | 0, _, h => absurd rfl h
  | _ + 1, _, h => fnS_len h
theorem fd_60 (hd : HD K mg fds) : FunD K "how_often" "how_often" (defArgs (top 86)) (defBody (top 86)) (defScope (top 86)) [] [] (He.ga K "how_often") (fds 60) := hd.hdn 60 (mkD "how_often" 86) rfl
theorem bn_60 (hd : HD K mg fds) : Binds K (fds 60) ["sheet", "numbers", "cell"] [] := (fd_60 hd).bindsN fun _ _ _ _ _ _ us hl => match us, hl with | [_, _, _], _ => rfl
theorem ln_60 : ∀ (n : Nat) (ds : List D), (prog n).f_how_often ds ≠ .bad → ds.length = 3
  | 0, _, h => absurd rfl h
  | _ + 1, _, h => fnS_len h
theorem fd_61 (hd : HD K mg fds) : FunD K "are_as_many" "are_as_many" (defArgs (top 87)) (defBody (top 87)) (defScope (top 87)) [] [] (He.ga K "are_as_many") (fds 61) := hd.hdn 61 (mkD "are_as_many" 87) rfl
theorem bn_61 (hd : HD K mg fds) : Binds K (fds 61) ["one", "other"] [] := (fd_61 hd).bindsN fun _ _ _ _ _ _ us hl => match us, hl with | [_, _], _ => rfl
theorem ln_61 : ∀ (n : Nat) (ds : List D), (prog n).f_are_as_many ds ≠ .bad → ds.length = 2
  | 0, _, h => absurd rfl h
  | _ + 1, _, h => fnS_len h
theorem fd_62 (hd : HD K mg fds) : FunD K "_law_same" "_law_same" (defArgs (top 89)) (defBody (top 89)) (defScope (top 89)) [] [] (He.ga K "_law_same") (fds 62) := hd.hdn 62 (mkD "_law_same" 89) rfl
theorem bn_62 (hd : HD K mg fds) : Binds K (fds 62) ["got", "due"] [] := (fd_62 hd).bindsN fun _ _ _ _ _ _ us hl => match us, hl with | [_, _], _ => rfl
theorem ln_62 : ∀ (n : Nat) (ds : List D), (prog n).f_law_same ds ≠ .bad → ds.length = 2
  | 0, _, h => absurd rfl h
  | _ + 1, _, h => fnS_len h
theorem fd_63 (hd : HD K mg fds) : FunD K "_law_lists" "_law_lists" (defArgs (top 90)) (defBody (top 90)) (defScope (top 90)) [] [] (He.ga K "_law_lists") (fds 63) := hd.hdn 63 (mkD "_law_lists" 90) rfl
theorem bn_63 (hd : HD K mg fds) : Binds K (fds 63) ["matter"] [] := (fd_63 hd).bindsN fun _ _ _ _ _ _ us hl => match us, hl with | [_], _ => rfl
theorem ln_63 : ∀ (n : Nat) (ds : List D), (prog n).f_law_lists ds ≠ .bad → ds.length = 1
  | 0, _, h => absurd rfl h
  | _ + 1, _, h => fnS_len h
theorem fd_64 (hd : HD K mg fds) : FunD K "_law_scene" "_law_scene" (defArgs (top 91)) (defBody (top 91)) (defScope (top 91)) [] [] (He.ga K "_law_scene") (fds 64) := hd.hdn 64 (mkD "_law_scene" 91) rfl
theorem bn_64 (hd : HD K mg fds) : Binds K (fds 64) [] [] := (fd_64 hd).bindsN fun _ _ _ _ _ _ us hl => match us, hl with | [], _ => rfl
theorem ln_64 : ∀ (n : Nat) (ds : List D), (prog n).f_law_scene ds ≠ .bad → ds.length = 0
  | 0, _, h => absurd rfl h
  | _ + 1, _, h => fnS_len h
theorem fd_65 (hd : HD K mg fds) : FunD K "_law_counts_right" "_law_counts_right" (defArgs (top 92)) (defBody (top 92)) (defScope (top 92)) [] [] (He.ga K "_law_counts_right") (fds 65) := hd.hdn 65 (mkD "_law_counts_right" 92) rfl
theorem bn_65 (hd : HD K mg fds) : Binds K (fds 65) [] [] := (fd_65 hd).bindsN fun _ _ _ _ _ _ us hl => match us, hl with | [], _ => rfl
theorem ln_65 : ∀ (n : Nat) (ds : List D), (prog n).f_law_counts_right ds ≠ .bad → ds.length = 0
  | 0, _, h => absurd rfl h
  | _ + 1, _, h => fnS_len h
theorem fd_66 (hd : HD K mg fds) : FunD K "_law_papers_right" "_law_papers_right" (defArgs (top 93)) (defBody (top 93)) (defScope (top 93)) [] [] (He.ga K "_law_papers_right") (fds 66) := hd.hdn 66 (mkD "_law_papers_right" 93) rfl
theorem bn_66 (hd : HD K mg fds) : Binds K (fds 66) [] [] := (fd_66 hd).bindsN fun _ _ _ _ _ _ us hl => match us, hl with | [], _ => rfl
theorem ln_66 : ∀ (n : Nat) (ds : List D), (prog n).f_law_papers_right ds ≠ .bad → ds.length = 0
  | 0, _, h => absurd rfl h
  | _ + 1, _, h => fnS_len h
theorem fd_67 (hd : HD K mg fds) : FunD K "_law_heard" "_law_heard" (defArgs (top 94)) (defBody (top 94)) (defScope (top 94)) [] [] (He.ga K "_law_heard") (fds 67) := hd.hdn 67 (mkD "_law_heard" 94) rfl
theorem bn_67 (hd : HD K mg fds) : Binds K (fds 67) ["door", "sheet", "more", "last"] [] := (fd_67 hd).bindsN fun _ _ _ _ _ _ us hl => match us, hl with | [_, _, _, _], _ => rfl
theorem ln_67 : ∀ (n : Nat) (ds : List D), (prog n).f_law_heard ds ≠ .bad → ds.length = 4
  | 0, _, h => absurd rfl h
  | _ + 1, _, h => fnS_len h
theorem fd_68 (hd : HD K mg fds) : FunD K "law" "law" (defArgs (top 95)) (defBody (top 95)) (defScope (top 95)) [] [] (He.ga K "law") (fds 68) := hd.hdn 68 (mkD "law" 95) rfl
theorem bn_68 (hd : HD K mg fds) : Binds K (fds 68) ["script"] [] := (fd_68 hd).bindsN fun _ _ _ _ _ _ us hl => match us, hl with | [_], _ => rfl
theorem ln_68 : ∀ (n : Nat) (ds : List D), (prog n).f_law ds ≠ .bad → ds.length = 1
  | 0, _, h => absurd rfl h
  | _ + 1, _, h => fnS_len h
structure AllOk (P : Program) (w : World) (K : Frag) (mg : Str → Option Value) (base : Heap) (fds : Nat → FuncData) (n : Nat) : Prop where
  h0 : FnOk P w K mg base (L2.CX P w) n (He.ga K "tupled") (fds 0) ["thing"] (spF (gm K) 1 false (prog n).f_tupled)
  h1 : FnOk P w K mg base (L2.CX P w) n (He.ga K "is_number") (fds 1) ["thing"] (spF (gm K) 1 false (prog n).f_is_number)
  h2 : FnOk P w K mg base (L2.CX P w) n (He.ga K "is_from_one") (fds 2) ["thing"] (spF (gm K) 1 false (prog n).f_is_from_one)
  h3 : FnOk P w K mg base (L2.CX P w) n (He.ga K "is_below") (fds 3) ["thing", "bound"] (spF (gm K) 2 false (prog n).f_is_below)
  h4 : FnOk P w K mg base (L2.CX P w) n (He.ga K "is_tuple_of") (fds 4) ["thing", "size"] (spF (gm K) 2 false (prog n).f_is_tuple_of)
  h5 : FnOk P w K mg base (L2.CX P w) n (He.ga K "rises") (fds 5) ["things"] (spF (gm K) 1 false (prog n).f_rises)
  h6 : FnOk P w K mg base (L2.CX P w) n (He.ga K "set_of") (fds 6) ["things"] (spF (gm K) 1 false (prog n).f_set_of)
  h7 : FnOk P w K mg base (L2.CX P w) n (He.ga K "are_below") (fds 7) ["thing", "bound"] (spF (gm K) 2 false (prog n).f_are_below)
  h8 : FnOk P w K mg base (L2.CX P w) n (He.ga K "is_set_below") (fds 8) ["thing", "bound"] (spF (gm K) 2 false (prog n).f_is_set_below)
  h9 : FnOk P w K mg base (L2.CX P w) n (He.ga K "sure_below") (fds 9) ["number", "bound"] (spF (gm K) 2 false (prog n).f_sure_below)
  h10 : FnOk P w K mg base (L2.CX P w) n (He.ga K "is_told_prime") (fds 10) ["thing"] (spF (gm K) 1 false (prog n).f_is_told_prime)
  h11 : FnOk P w K mg base (L2.CX P w) n (He.ga K "turned") (fds 11) ["prime", "rest"] (spF (gm K) 2 false (prog n).f_turned)
  h12 : FnOk P w K mg base (L2.CX P w) n (He.ga K "fits_part") (fds 12) ["prime", "thing"] (spF (gm K) 2 false (prog n).f_fits_part)
  h13 : FnOk P w K mg base (L2.CX P w) n (He.ga K "fits_sum") (fds 13) ["prime", "thing"] (spF (gm K) 2 false (prog n).f_fits_sum)
  h14 : FnOk P w K mg base (L2.CX P w) n (He.ga K "sum_told") (fds 14) ["prime", "number", "table"] (spF (gm K) 3 false (prog n).f_sum_told)
  h15 : FnOk P w K mg base (L2.CX P w) n (He.ga K "added") (fds 15) ["prime", "one", "other", "often"] (spF (gm K) 4 false (prog n).f_added)
  h16 : FnOk P w K mg base (L2.CX P w) n (He.ga K "worth_in") (fds 16) ["prime", "told", "filling"] (spF (gm K) 3 false (prog n).f_worth_in)
  h17 : FnOk P w K mg base (L2.CX P w) n (He.ga K "put_into") (fds 17) ["prime", "told", "table"] (spF (gm K) 3 false (prog n).f_put_into)
  h18 : FnOk P w K mg base (L2.CX P w) n (He.ga K "fits_row") (fds 18) ["prime", "thing"] (spF (gm K) 2 false (prog n).f_fits_row)
  h19 : FnOk P w K mg base (L2.CX P w) n (He.ga K "cells_of_row") (fds 19) ["row"] (spF (gm K) 1 false (prog n).f_cells_of_row)
  h20 : FnOk P w K mg base (L2.CX P w) n (He.ga K "row_kept") (fds 20) ["prime", "row", "filling"] (spF (gm K) 3 false (prog n).f_row_kept)
  h21 : FnOk P w K mg base (L2.CX P w) n (He.ga K "straight_sum") (fds 21) ["prime", "row"] (spF (gm K) 2 false (prog n).f_straight_sum)
  h22 : FnOk P w K mg base (L2.CX P w) n (He.ga K "under_known") (fds 22) ["prime", "row", "known"] (spF (gm K) 3 false (prog n).f_under_known)
  h23 : FnOk P w K mg base (L2.CX P w) n (He.ga K "are_rows_of") (fds 23) ["prime", "many", "thing"] (spF (gm K) 3 false (prog n).f_are_rows_of)
  h24 : FnOk P w K mg base (L2.CX P w) n (He.ga K "is_sheet") (fds 24) ["thing"] (spF (gm K) 1 false (prog n).f_is_sheet)
  h25 : FnOk P w K mg base (L2.CX P w) n (He.ga K "sure_sheet") (fds 25) ["sheet"] (spF (gm K) 1 false (prog n).f_sure_sheet)
  h26 : FnOk P w K mg base (L2.CX P w) n (He.ga K "straight_ones") (fds 26) ["prime", "rows", "known"] (spF (gm K) 3 false (prog n).f_straight_ones)
  h27 : FnOk P w K mg base (L2.CX P w) n (He.ga K "mixed") (fds 27) ["prime", "one", "other", "often"] (spF (gm K) 4 false (prog n).f_mixed)
  h28 : FnOk P w K mg base (L2.CX P w) n (He.ga K "part_of") (fds 28) ["told", "cell"] (spF (gm K) 2 false (prog n).f_part_of)
  h29 : FnOk P w K mg base (L2.CX P w) n (He.ga K "cleared") (fds 29) ["prime", "pair", "heads"] (spF (gm K) 3 false (prog n).f_cleared)
  h30 : FnOk P w K mg base (L2.CX P w) n (He.ga K "reduced") (fds 30) ["prime", "pairs"] (spF (gm K) 2 false (prog n).f_reduced)
  h31 : FnOk P w K mg base (L2.CX P w) n (He.ga K "times_told") (fds 31) ["times"] (spF (gm K) 1 false (prog n).f_times_told)
  h32 : FnOk P w K mg base (L2.CX P w) n (He.ga K "goal_sum") (fds 32) ["prime", "goal", "known"] (spF (gm K) 3 false (prog n).f_goal_sum)
  h33 : FnOk P w K mg base (L2.CX P w) n (He.ga K "shown_by") (fds 33) ["prime", "aim", "heads"] (spF (gm K) 3 false (prog n).f_shown_by)
  h34 : FnOk P w K mg base (L2.CX P w) n (He.ga K "cell_to_cut") (fds 34) ["prime", "rows", "goal", "known"] (spF (gm K) 4 false (prog n).f_cell_to_cut)
  h35 : FnOk P w K mg base (L2.CX P w) n (He.ga K "solved_by") (fds 35) ["prime", "many", "heads", "known", "free"] (spF (gm K) 5 false (prog n).f_solved_by)
  h36 : FnOk P w K mg base (L2.CX P w) n (He.ga K "breaking_in") (fds 36) ["prime", "many", "heads", "known", "goal"] (spF (gm K) 5 false (prog n).f_breaking_in)
  h37 : FnOk P w K mg base (L2.CX P w) n (He.ga K "sought") (fds 37) ["prime", "many", "rows", "goal", "known"] (spF (gm K) 5 false (prog n).f_sought)
  h38 : FnOk P w K mg base (L2.CX P w) n (He.ga K "known_with") (fds 38) ["known", "cell", "rest"] (spF (gm K) 3 false (prog n).f_known_with)
  h39 : FnOk P w K mg base (L2.CX P w) n (He.ga K "led_on") (fds 39) ["prime", "many", "rows", "goal", "known", "pair"] (spF (gm K) 6 false (prog n).f_led_on)
  h40 : FnOk P w K mg base (L2.CX P w) n (He.ga K "fits_times") (fds 40) ["prime", "many", "thing"] (spF (gm K) 3 false (prog n).f_fits_times)
  h41 : FnOk P w K mg base (L2.CX P w) n (He.ga K "sum_by") (fds 41) ["prime", "rows", "known", "times"] (spF (gm K) 4 false (prog n).f_sum_by)
  h42 : FnOk P w K mg base (L2.CX P w) n (He.ga K "sure_numbers") (fds 42) ["sheet", "numbers"] (spF (gm K) 2 false (prog n).f_sure_numbers)
  h43 : FnOk P w K mg base (L2.CX P w) n (He.ga K "sure_bearing") (fds 43) ["sheet", "numbers"] (spF (gm K) 2 false (prog n).f_sure_bearing)
  h44 : FnOk P w K mg base (L2.CX P w) n (He.ga K "known_inputs") (fds 44) ["sheet", "numbers"] (spF (gm K) 2 false (prog n).f_known_inputs)
  h45 : FnOk P w K mg base (L2.CX P w) n (He.ga K "borne_in") (fds 45) ["sheet", "known"] (spF (gm K) 2 false (prog n).f_borne_in)
  h46 : FnOk P w K mg base (L2.CX P w) n (He.ga K "all_lots") (fds 46) ["prime", "many"] (spF (gm K) 2 false (prog n).f_all_lots)
  h47 : FnOk P w K mg base (L2.CX P w) n (He.ga K "counted_power") (fds 47) ["prime", "many"] (spF (gm K) 2 false (prog n).f_counted_power)
  h48 : FnOk P w K mg base (L2.CX P w) n (He.ga K "counted") (fds 48) ["prime", "many", "rows", "known"] (spF (gm K) 4 false (prog n).f_counted)
  h49 : FnOk P w K mg base (L2.CX P w) n (He.ga K "how_many_fillings") (fds 49) ["sheet"] (spF (gm K) 1 false (prog n).f_how_many_fillings)
  h50 : FnOk P w K mg base (L2.CX P w) n (He.ga K "how_many_for") (fds 50) ["sheet", "numbers"] (spF (gm K) 2 false (prog n).f_how_many_for)
  h51 : FnOk P w K mg base (L2.CX P w) n (He.ga K "count_paper") (fds 51) ["sheet", "numbers"] (spF (gm K) 2 false (prog n).f_count_paper)
  h52 : FnOk P w K mg base (L2.CX P w) n (He.ga K "count_in") (fds 52) ["prime", "many", "rows", "known", "thing"] (spF (gm K) 5 false (prog n).f_count_in)
  h53 : FnOk P w K mg base (L2.CX P w) n (He.ga K "counts_added") (fds 53) ["prime", "many", "rows", "known", "thing"] (spF (gm K) 5 false (prog n).f_counts_added)
  h54 : FnOk P w K mg base (L2.CX P w) n (He.ga K "is_count_paper") (fds 54) ["sheet", "numbers", "thing"] (spF (gm K) 3 false (prog n).f_is_count_paper)
  h55 : FnOk P w K mg base (L2.CX P w) n (He.ga K "count_by_paper") (fds 55) ["sheet", "numbers", "paper"] (spF (gm K) 3 false (prog n).f_count_by_paper)
  h56 : FnOk P w K mg base (L2.CX P w) n (He.ga K "count_row") (fds 56) ["sheet"] (spF (gm K) 1 false (prog n).f_count_row)
  h57 : FnOk P w K mg base (L2.CX P w) n (He.ga K "had_at") (fds 57) ["sheet", "known", "cell"] (spF (gm K) 3 false (prog n).f_had_at)
  h58 : FnOk P w K mg base (L2.CX P w) n (He.ga K "rests_had") (fds 58) ["sheet", "numbers", "cell"] (spF (gm K) 3 false (prog n).f_rests_had)
  h59 : FnOk P w K mg base (L2.CX P w) n (He.ga K "fixed_cells") (fds 59) ["sheet", "numbers"] (spF (gm K) 2 false (prog n).f_fixed_cells)
  h60 : FnOk P w K mg base (L2.CX P w) n (He.ga K "how_often") (fds 60) ["sheet", "numbers", "cell"] (spF (gm K) 3 false (prog n).f_how_often)
  h61 : FnOk P w K mg base (L2.CX P w) n (He.ga K "are_as_many") (fds 61) ["one", "other"] (spF (gm K) 2 false (prog n).f_are_as_many)
  h62 : FnOk P w K mg base (L2.CX P w) n (He.ga K "_law_same") (fds 62) ["got", "due"] (spF (gm K) 2 false (prog n).f_law_same)
  h63 : FnOk P w K mg base (L2.CX P w) n (He.ga K "_law_lists") (fds 63) ["matter"] (spF (gm K) 1 false (prog n).f_law_lists)
  h64 : FnOk P w K mg base (L2.CX P w) n (He.ga K "_law_scene") (fds 64) [] (spF (gm K) 0 false (prog n).f_law_scene)
  h65 : FnOk P w K mg base (L2.CX P w) n (He.ga K "_law_counts_right") (fds 65) [] (spF (gm K) 0 false (prog n).f_law_counts_right)
  h66 : FnOk P w K mg base (L2.CX P w) n (He.ga K "_law_papers_right") (fds 66) [] (spF (gm K) 0 false (prog n).f_law_papers_right)
  h67 : FnOk P w K mg base (L2.CX P w) n (He.ga K "_law_heard") (fds 67) ["door", "sheet", "more", "last"] (spF (gm K) 4 false (prog n).f_law_heard)
  h68 : FnOk P w K mg base (L2.CX P w) n (He.ga K "law") (fds 68) ["script"] (spF (gm K) 1 false (prog n).f_law)
theorem tabOk {n : Nat} (hd : HD K mg fds) (I : AllOk P w K mg base fds n) : TabOkP P w K mg base (faOf lVf K) (faOf lEc K) n (callF (prog n)) := fun i a h => by
  match i, h with
  | 0, h => exact Option.some.inj h ▸ ⟨fds 49, _, _, I.h49, bn_49 hd, ln_49 n, (hd.hgl 49 _ rfl).2⟩
  | 1, h => exact Option.some.inj h ▸ ⟨fds 56, _, _, I.h56, bn_56 hd, ln_56 n, (hd.hgl 56 _ rfl).2⟩
  | 2, h => exact Option.some.inj h ▸ ⟨fds 50, _, _, I.h50, bn_50 hd, ln_50 n, (hd.hgl 50 _ rfl).2⟩
  | 3, h => exact Option.some.inj h ▸ ⟨fds 51, _, _, I.h51, bn_51 hd, ln_51 n, (hd.hgl 51 _ rfl).2⟩
  | 4, h => exact Option.some.inj h ▸ ⟨fds 58, _, _, I.h58, bn_58 hd, ln_58 n, (hd.hgl 58 _ rfl).2⟩
  | 5, h => exact Option.some.inj h ▸ ⟨fds 60, _, _, I.h60, bn_60 hd, ln_60 n, (hd.hgl 60 _ rfl).2⟩
  | _ + 6, h => exact nomatch h
theorem sc_0 : FnScope ["thing", "part"] ["thing"] (defScope (top 5)) := ⟨rfl, rfl, rfl, by decide +kernel, rfl, by decide +kernel, by decide +kernel⟩
theorem ok_0 {n : Nat} (hd : HD K mg fds) (I : AllOk P w K mg base fds n) : FnOk P w K mg base (L2.CX P w) (n + 1) (He.ga K "tupled") (fds 0) ["thing"] (spF (gm K) 1 false (b_tupled (prog n))) :=
  have sN : List.Nodup (α := Str) ["thing", "part"] := sc_0.nd
  fn_ok (mv := []) (owN := []) (owL := []) (kr := .rp) (fd_0 hd) sc_0 rfl rfl (by decide) (fun h => nomatch h) fun cdv A outer s H E hr =>
    have tk := takesX (P := P) (w := w) (K := K) (mg := mg) (base := base) (N := ["thing", "part"]) (qual := "tupled") (scope := defScope (top 5)) (f := He.ga K "tupled") (cdv := cdv) (A := A) (outer := outer) (s := s) (H := H) (E := E)
    have px := passX (P := P) (w := w) (K := K) (mg := mg) (base := base) (N := ["thing", "part"]) (qual := "tupled") (scope := defScope (top 5)) (f := He.ga K "tupled") (cdv := cdv) (A := A) (outer := outer) (s := s) (H := H) (E := E)
    (SSs.cons (SS.ite (SX.val (SE.isi2 (k := 4) (k' := 3) (by decide) (by decide) (by rfl) (hd.hfr 0 _ rfl) (by rfl) (hd.hfr 1 _ rfl) boot_list (by rfl) (hd.hfr 2 _ rfl) boot_tuple (SE.toRd (SE.var rfl (.inl rfl))))) (SSs.one (SS.retRp (SE.toRp (SE.ty1 (o := true) tuple_F (by rfl) (hd.hfr 2 _ rfl) boot_tuple (SE.toRd (SE.comp (own := [("part", 1)]) (vs := [1]) (hw := by exact fun h => nomatch h) rfl sN (SI.any (SE.var rfl (.inl rfl))) (blkOk_by (by rfl)) (fun _ _ _ _ _ => (SG.name sN rfl (.inl rfl) (by decide) (by decide : (1 : Nat) < 2))) (fun _ _ _ _ _ => ST.nil) (fun _ _ _ _ _ => (SE.call (o := false) I.h0 hr (bn_0 hd) (ln_0 _) L2.takes0 (by rfl) (hd.hgl 0 _ rfl).1 (hd.hgl 0 _ rfl).2 (SA.cons (.inl rfl) (SE.var rfl (.inl rfl)) SA.nil))))))))) SSs.nil)
      (SSs.one (SS.retRp (SE.var rfl (.inl rfl)))))
theorem sc_1 : FnScope ["thing"] ["thing"] (defScope (top 6)) := ⟨rfl, rfl, rfl, by decide +kernel, rfl, by decide +kernel, by decide +kernel⟩
theorem ok_1 {n : Nat} (hd : HD K mg fds) (I : AllOk P w K mg base fds n) : FnOk P w K mg base (L2.CX P w) (n + 1) (He.ga K "is_number") (fds 1) ["thing"] (spF (gm K) 1 false (b_is_number (prog n))) :=
  have sN : List.Nodup (α := Str) ["thing"] := sc_1.nd
  fn_ok (mv := []) (owN := []) (owL := []) (kr := .rp) (fd_1 hd) sc_1 rfl rfl (by decide) (fun h => nomatch h) fun cdv A outer s H E hr =>
    have tk := takesX (P := P) (w := w) (K := K) (mg := mg) (base := base) (N := ["thing"]) (qual := "is_number") (scope := defScope (top 6)) (f := He.ga K "is_number") (cdv := cdv) (A := A) (outer := outer) (s := s) (H := H) (E := E)
    have px := passX (P := P) (w := w) (K := K) (mg := mg) (base := base) (N := ["thing"]) (qual := "is_number") (scope := defScope (top 6)) (f := He.ga K "is_number") (cdv := cdv) (A := A) (outer := outer) (s := s) (H := H) (E := E)
    (SSs.one (SS.retRp (SE.toRp (SE.and (SE.isi (k := 1) (by decide) (by rfl) (hd.hfr 0 _ rfl) (by rfl) (hd.hfr 3 _ rfl) boot_int (SE.toRd (SE.var rfl (.inl rfl)))) (SE.one_bop (SE.not (SE.isi (k := 0) (by decide) (by rfl) (hd.hfr 0 _ rfl) (by rfl) (hd.hfr 4 _ rfl) boot_bool (SE.toRd (SE.var rfl (.inl rfl))))))))))
theorem sc_2 : FnScope ["thing"] ["thing"] (defScope (top 7)) := ⟨rfl, rfl, rfl, by decide +kernel, rfl, by decide +kernel, by decide +kernel⟩
theorem ok_2 {n : Nat} (hd : HD K mg fds) (I : AllOk P w K mg base fds n) : FnOk P w K mg base (L2.CX P w) (n + 1) (He.ga K "is_from_one") (fds 2) ["thing"] (spF (gm K) 1 false (b_is_from_one (prog n))) :=
  have sN : List.Nodup (α := Str) ["thing"] := sc_2.nd
  fn_ok (mv := []) (owN := []) (owL := []) (kr := .rp) (fd_2 hd) sc_2 rfl rfl (by decide) (fun h => nomatch h) fun cdv A outer s H E hr =>
    have tk := takesX (P := P) (w := w) (K := K) (mg := mg) (base := base) (N := ["thing"]) (qual := "is_from_one") (scope := defScope (top 7)) (f := He.ga K "is_from_one") (cdv := cdv) (A := A) (outer := outer) (s := s) (H := H) (E := E)
    have px := passX (P := P) (w := w) (K := K) (mg := mg) (base := base) (N := ["thing"]) (qual := "is_from_one") (scope := defScope (top 7)) (f := He.ga K "is_from_one") (cdv := cdv) (A := A) (outer := outer) (s := s) (H := H) (E := E)
    (SSs.one (SS.retRp (SE.and (SE.call (o := false) I.h1 hr (bn_1 hd) (ln_1 _) tk (by rfl) (hd.hgl 1 _ rfl).1 (hd.hgl 1 _ rfl).2 (SA.cons (.inl rfl) (SE.var rfl (.inl rfl)) SA.nil)) (SE.one_bop (SE.toRp (SE.cmp ge_F (SE.toRd (SE.var rfl (.inl rfl))) (SE.toRd SE.int) rfl))))))
theorem sc_3 : FnScope ["thing", "bound"] ["thing", "bound"] (defScope (top 8)) := ⟨rfl, rfl, rfl, by decide +kernel, rfl, by decide +kernel, by decide +kernel⟩
theorem ok_3 {n : Nat} (hd : HD K mg fds) (I : AllOk P w K mg base fds n) : FnOk P w K mg base (L2.CX P w) (n + 1) (He.ga K "is_below") (fds 3) ["thing", "bound"] (spF (gm K) 2 false (b_is_below (prog n))) :=
  have sN : List.Nodup (α := Str) ["thing", "bound"] := sc_3.nd
  fn_ok (mv := []) (owN := []) (owL := []) (kr := .rp) (fd_3 hd) sc_3 rfl rfl (by decide) (fun h => nomatch h) fun cdv A outer s H E hr =>
    have tk := takesX (P := P) (w := w) (K := K) (mg := mg) (base := base) (N := ["thing", "bound"]) (qual := "is_below") (scope := defScope (top 8)) (f := He.ga K "is_below") (cdv := cdv) (A := A) (outer := outer) (s := s) (H := H) (E := E)
    have px := passX (P := P) (w := w) (K := K) (mg := mg) (base := base) (N := ["thing", "bound"]) (qual := "is_below") (scope := defScope (top 8)) (f := He.ga K "is_below") (cdv := cdv) (A := A) (outer := outer) (s := s) (H := H) (E := E)
    (SSs.one (SS.retRp (SE.and (SE.call (o := false) I.h1 hr (bn_1 hd) (ln_1 _) tk (by rfl) (hd.hgl 1 _ rfl).1 (hd.hgl 1 _ rfl).2 (SA.cons (.inl rfl) (SE.var rfl (.inl rfl)) SA.nil)) (SE.one_bop (SE.toRp (SE.chn le_F lt_F (SE.toRd SE.int) (SE.toRd (SE.var rfl (.inl rfl))) (SE.toRd (SE.var rfl (.inl rfl)))))))))
theorem sc_4 : FnScope ["thing", "size"] ["thing", "size"] (defScope (top 9)) := ⟨rfl, rfl, rfl, by decide +kernel, rfl, by decide +kernel, by decide +kernel⟩
theorem ok_4 {n : Nat} (hd : HD K mg fds) (I : AllOk P w K mg base fds n) : FnOk P w K mg base (L2.CX P w) (n + 1) (He.ga K "is_tuple_of") (fds 4) ["thing", "size"] (spF (gm K) 2 false (b_is_tuple_of (prog n))) :=
  have sN : List.Nodup (α := Str) ["thing", "size"] := sc_4.nd
  fn_ok (mv := []) (owN := []) (owL := []) (kr := .rp) (fd_4 hd) sc_4 rfl rfl (by decide) (fun h => nomatch h) fun cdv A outer s H E hr =>
    have tk := takesX (P := P) (w := w) (K := K) (mg := mg) (base := base) (N := ["thing", "size"]) (qual := "is_tuple_of") (scope := defScope (top 9)) (f := He.ga K "is_tuple_of") (cdv := cdv) (A := A) (outer := outer) (s := s) (H := H) (E := E)
    have px := passX (P := P) (w := w) (K := K) (mg := mg) (base := base) (N := ["thing", "size"]) (qual := "is_tuple_of") (scope := defScope (top 9)) (f := He.ga K "is_tuple_of") (cdv := cdv) (A := A) (outer := outer) (s := s) (H := H) (E := E)
    (SSs.one (SS.retRp (SE.toRp (SE.and (SE.isi (k := 3) (by decide) (by rfl) (hd.hfr 0 _ rfl) (by rfl) (hd.hfr 2 _ rfl) boot_tuple (SE.toRd (SE.var rfl (.inl rfl)))) (SE.one_bop (SE.cmp (eq_F (Room.u50 hr)) (SE.toRd (SE.blt1 (o := true) len_F (by rfl) (hd.hfr 5 _ rfl) boot_len (SE.toRd (SE.var rfl (.inl rfl))))) (SE.toRd (SE.var rfl (.inl rfl))) rfl))))))
theorem sc_5 : FnScope ["things", "near", "far"] ["things"] (defScope (top 10)) := ⟨rfl, rfl, rfl, by decide +kernel, rfl, by decide +kernel, by decide +kernel⟩
theorem ok_5 {n : Nat} (hd : HD K mg fds) (I : AllOk P w K mg base fds n) : FnOk P w K mg base (L2.CX P w) (n + 1) (He.ga K "rises") (fds 5) ["things"] (spF (gm K) 1 false (b_rises (prog n))) :=
  have sN : List.Nodup (α := Str) ["things", "near", "far"] := sc_5.nd
  fn_ok (mv := []) (owN := []) (owL := []) (kr := .rp) (fd_5 hd) sc_5 rfl rfl (by decide) (fun h => nomatch h) fun cdv A outer s H E hr =>
    have tk := takesX (P := P) (w := w) (K := K) (mg := mg) (base := base) (N := ["things", "near", "far"]) (qual := "rises") (scope := defScope (top 10)) (f := He.ga K "rises") (cdv := cdv) (A := A) (outer := outer) (s := s) (H := H) (E := E)
    have px := passX (P := P) (w := w) (K := K) (mg := mg) (base := base) (N := ["things", "near", "far"]) (qual := "rises") (scope := defScope (top 10)) (f := He.ga K "rises") (cdv := cdv) (A := A) (outer := outer) (s := s) (H := H) (E := E)
    (SSs.one (SS.retRp (SE.toRp (SE.blt1 (o := true) (all_F (by rfl)) (by rfl) (hd.hfr 7 _ rfl) boot_all (SE.toRd (SE.comp (own := [("near", 1), ("far", 2)]) (vs := [1, 2]) (hw := by exact fun _ => ⟨_, rfl⟩) rfl sN (SI.zip (by rfl) (hd.hfr 6 _ rfl) (SA.cons (.inl rfl) (SE.var rfl (.inl rfl)) (SA.cons (.inl rfl) (SE.toRp (SE.cutL (SE.toRd (SE.var rfl (.inl rfl))) (SE.toRd SE.int))) SA.nil))) (blkOk_by (by rfl)) (fun _ _ _ _ _ => (SG.tup (n := 0) rfl (SGs.cons (SG.name sN rfl (.inl rfl) (by decide) (by decide : (1 : Nat) < 3)) (SGs.cons (SG.name sN rfl (.inl rfl) (by decide) (by decide : (2 : Nat) < 3)) SGs.nil)))) (fun _ _ _ _ _ => ST.nil) (fun _ _ _ _ _ => (SE.toRp (SE.cmp lt_F (SE.toRd (SE.var rfl (.inl rfl))) (SE.toRd (SE.var rfl (.inl rfl))) rfl)))))))))
theorem sc_6 : FnScope ["things", "found", "own"] ["things"] (defScope (top 11)) := ⟨rfl, rfl, rfl, by decide +kernel, rfl, by decide +kernel, by decide +kernel⟩
theorem ok_6 {n : Nat} (hd : HD K mg fds) (I : AllOk P w K mg base fds n) : FnOk P w K mg base (L2.CX P w) (n + 1) (He.ga K "set_of") (fds 6) ["things"] (spF (gm K) 1 false (b_set_of (prog n))) :=
  have sN : List.Nodup (α := Str) ["things", "found", "own"] := sc_6.nd
  fn_ok (mv := [1]) (owN := []) (owL := []) (kr := .rp) (fd_6 hd) sc_6 rfl rfl (by decide) (fun h => nomatch h) fun cdv A outer s H E hr =>
    have tk := takesX (P := P) (w := w) (K := K) (mg := mg) (base := base) (N := ["things", "found", "own"]) (qual := "set_of") (scope := defScope (top 11)) (f := He.ga K "set_of") (cdv := cdv) (A := A) (outer := outer) (s := s) (H := H) (E := E)
    have px := passX (P := P) (w := w) (K := K) (mg := mg) (base := base) (N := ["things", "found", "own"]) (qual := "set_of") (scope := defScope (top 11)) (f := He.ga K "set_of") (cdv := cdv) (A := A) (outer := outer) (s := s) (H := H) (E := E)
    (SSs.cons (SS.asgMv sN rfl (.inl rfl) (by decide) (by decide : (1 : Nat) < 3) (SE.lst SA.nil) rfl)
      (SSs.cons (SS.for_ (hw := by exact fun h => nomatch h) (by exact fun h => nomatch h) px rfl (SI.any (SE.toRp (SE.blt1 (o := true) (sorted_F (by rfl)) (by rfl) (hd.hfr 8 _ rfl) boot_sorted (SE.toRd (SE.var rfl (.inl rfl)))))) (SG.name sN rfl (.inl rfl) (by decide) (by decide : (2 : Nat) < 3)) (SSs.one (SS.ite (SX.bool (SW.or (SX.cmp (eq_F (Room.u50 hr)) (SE.mvR rfl (.inl rfl)) (SE.toRd (SE.lst SA.nil)) rfl) (SW.one_or (SX.cmp (ne_F (Room.u50 hr)) (SE.toRd (SE.ix (Room.u50 hr) (SE.mvR rfl (.inl rfl)) (SE.toRd (SE.un un_negD (SE.toRd SE.int))))) (SE.toRd (SE.var rfl (.inl rfl))) rfl)))) (SSs.one (SS.app rfl (.inl rfl) (by decide) (by decide) (SE.var rfl (.inl rfl)))) SSs.nil)))
      (SSs.one (SS.retRp (SE.toRp (SE.ty1 (o := true) tuple_F (by rfl) (hd.hfr 2 _ rfl) boot_tuple (SE.mvR rfl (.inl rfl))))))))
theorem sc_7 : FnScope ["thing", "bound", "part"] ["thing", "bound"] (defScope (top 12)) := ⟨rfl, rfl, rfl, by decide +kernel, rfl, by decide +kernel, by decide +kernel⟩
theorem ok_7 {n : Nat} (hd : HD K mg fds) (I : AllOk P w K mg base fds n) : FnOk P w K mg base (L2.CX P w) (n + 1) (He.ga K "are_below") (fds 7) ["thing", "bound"] (spF (gm K) 2 false (b_are_below (prog n))) :=
  have sN : List.Nodup (α := Str) ["thing", "bound", "part"] := sc_7.nd
  fn_ok (mv := []) (owN := []) (owL := []) (kr := .rp) (fd_7 hd) sc_7 rfl rfl (by decide) (fun h => nomatch h) fun cdv A outer s H E hr =>
    have tk := takesX (P := P) (w := w) (K := K) (mg := mg) (base := base) (N := ["thing", "bound", "part"]) (qual := "are_below") (scope := defScope (top 12)) (f := He.ga K "are_below") (cdv := cdv) (A := A) (outer := outer) (s := s) (H := H) (E := E)
    have px := passX (P := P) (w := w) (K := K) (mg := mg) (base := base) (N := ["thing", "bound", "part"]) (qual := "are_below") (scope := defScope (top 12)) (f := He.ga K "are_below") (cdv := cdv) (A := A) (outer := outer) (s := s) (H := H) (E := E)
    (SSs.one (SS.retRp (SE.toRp (SE.and (SE.isi (k := 3) (by decide) (by rfl) (hd.hfr 0 _ rfl) (by rfl) (hd.hfr 2 _ rfl) boot_tuple (SE.toRd (SE.var rfl (.inl rfl)))) (SE.one_bop (SE.blt1 (o := true) (all_F (by rfl)) (by rfl) (hd.hfr 7 _ rfl) boot_all (SE.toRd (SE.comp (own := [("part", 2)]) (vs := [2]) (hw := by exact fun h => nomatch h) rfl sN (SI.any (SE.var rfl (.inl rfl))) (blkOk_by (by rfl)) (fun _ _ _ _ _ => (SG.name sN rfl (.inl rfl) (by decide) (by decide : (2 : Nat) < 3))) (fun _ _ _ _ _ => ST.nil) (fun _ _ _ _ _ => (SE.call (o := false) I.h3 hr (bn_3 hd) (ln_3 _) L2.takes0 (by rfl) (hd.hgl 3 _ rfl).1 (hd.hgl 3 _ rfl).2 (SA.cons (.inl rfl) (SE.var rfl (.inl rfl)) (SA.cons (.inl rfl) (SE.var rfl (.inr (.inl rfl))) SA.nil))))))))))))
theorem sc_8 : FnScope ["thing", "bound"] ["thing", "bound"] (defScope (top 13)) := ⟨rfl, rfl, rfl, by decide +kernel, rfl, by decide +kernel, by decide +kernel⟩
theorem ok_8 {n : Nat} (hd : HD K mg fds) (I : AllOk P w K mg base fds n) : FnOk P w K mg base (L2.CX P w) (n + 1) (He.ga K "is_set_below") (fds 8) ["thing", "bound"] (spF (gm K) 2 false (b_is_set_below (prog n))) :=
  have sN : List.Nodup (α := Str) ["thing", "bound"] := sc_8.nd
  fn_ok (mv := []) (owN := []) (owL := []) (kr := .rp) (fd_8 hd) sc_8 rfl rfl (by decide) (fun h => nomatch h) fun cdv A outer s H E hr =>
    have tk := takesX (P := P) (w := w) (K := K) (mg := mg) (base := base) (N := ["thing", "bound"]) (qual := "is_set_below") (scope := defScope (top 13)) (f := He.ga K "is_set_below") (cdv := cdv) (A := A) (outer := outer) (s := s) (H := H) (E := E)
    have px := passX (P := P) (w := w) (K := K) (mg := mg) (base := base) (N := ["thing", "bound"]) (qual := "is_set_below") (scope := defScope (top 13)) (f := He.ga K "is_set_below") (cdv := cdv) (A := A) (outer := outer) (s := s) (H := H) (E := E)
    (SSs.one (SS.retRp (SE.and (SE.call (o := false) I.h7 hr (bn_7 hd) (ln_7 _) tk (by rfl) (hd.hgl 7 _ rfl).1 (hd.hgl 7 _ rfl).2 (SA.cons (.inl rfl) (SE.var rfl (.inl rfl)) (SA.cons (.inl rfl) (SE.var rfl (.inl rfl)) SA.nil))) (SE.one_bop (SE.call (o := false) I.h5 hr (bn_5 hd) (ln_5 _) tk (by rfl) (hd.hgl 5 _ rfl).1 (hd.hgl 5 _ rfl).2 (SA.cons (.inl rfl) (SE.var rfl (.inl rfl)) SA.nil))))))
theorem sc_9 : FnScope ["number", "bound"] ["number", "bound"] (defScope (top 14)) := ⟨rfl, rfl, rfl, by decide +kernel, rfl, by decide +kernel, by decide +kernel⟩
theorem ok_9 {n : Nat} (hd : HD K mg fds) (I : AllOk P w K mg base fds n) : FnOk P w K mg base (L2.CX P w) (n + 1) (He.ga K "sure_below") (fds 9) ["number", "bound"] (spF (gm K) 2 false (b_sure_below (prog n))) :=
  have sN : List.Nodup (α := Str) ["number", "bound"] := sc_9.nd
  fn_ok (mv := []) (owN := []) (owL := []) (kr := .rp) (fd_9 hd) sc_9 rfl rfl (by decide) (fun h => nomatch h) fun cdv A outer s H E hr =>
    have tk := takesX (P := P) (w := w) (K := K) (mg := mg) (base := base) (N := ["number", "bound"]) (qual := "sure_below") (scope := defScope (top 14)) (f := He.ga K "sure_below") (cdv := cdv) (A := A) (outer := outer) (s := s) (H := H) (E := E)
    have px := passX (P := P) (w := w) (K := K) (mg := mg) (base := base) (N := ["number", "bound"]) (qual := "sure_below") (scope := defScope (top 14)) (f := He.ga K "sure_below") (cdv := cdv) (A := A) (outer := outer) (s := s) (H := H) (E := E)
    (SSs.cons (SS.ite (SX.not (SX.val (SE.call (o := false) I.h3 hr (bn_3 hd) (ln_3 _) tk (by rfl) (hd.hgl 3 _ rfl).1 (hd.hgl 3 _ rfl).2 (SA.cons (.inl rfl) (SE.var rfl (.inl rfl)) (SA.cons (.inl rfl) (SE.var rfl (.inl rfl)) SA.nil))))) (SSs.one (SS.raiseE (by rfl) tk (hd.hec 0 _ rfl) (by rfl) (by rfl))) SSs.nil)
      (SSs.one (SS.retRp (SE.var rfl (.inl rfl)))))
theorem sc_10 : FnScope ["thing"] ["thing"] (defScope (top 17)) := ⟨rfl, rfl, rfl, by decide +kernel, rfl, by decide +kernel, by decide +kernel⟩
theorem ok_10 {n : Nat} (hd : HD K mg fds) (I : AllOk P w K mg base fds n) : FnOk P w K mg base (L2.CX P w) (n + 1) (He.ga K "is_told_prime") (fds 10) ["thing"] (spF (gm K) 1 false (b_is_told_prime (prog n))) :=
  have sN : List.Nodup (α := Str) ["thing"] := sc_10.nd
  fn_ok (mv := []) (owN := []) (owL := []) (kr := .rp) (fd_10 hd) sc_10 rfl rfl (by decide) (fun h => nomatch h) fun cdv A outer s H E hr =>
    have tk := takesX (P := P) (w := w) (K := K) (mg := mg) (base := base) (N := ["thing"]) (qual := "is_told_prime") (scope := defScope (top 17)) (f := He.ga K "is_told_prime") (cdv := cdv) (A := A) (outer := outer) (s := s) (H := H) (E := E)
    have px := passX (P := P) (w := w) (K := K) (mg := mg) (base := base) (N := ["thing"]) (qual := "is_told_prime") (scope := defScope (top 17)) (f := He.ga K "is_told_prime") (cdv := cdv) (A := A) (outer := outer) (s := s) (H := H) (E := E)
    (SSs.one (SS.retRp (SE.and (SE.call (o := false) I.h1 hr (bn_1 hd) (ln_1 _) tk (by rfl) (hd.hgl 1 _ rfl).1 (hd.hgl 1 _ rfl).2 (SA.cons (.inl rfl) (SE.var rfl (.inl rfl)) SA.nil)) (SE.one_bop (SE.toRp (SE.cmp (in_F (Room.u50 hr)) (SE.toRd (SE.var rfl (.inl rfl))) (SE.toRd (SE.glob (by rfl) (hd.hcs 0 _ _ rfl))) rfl))))))
theorem sc_11 : FnScope ["prime", "rest", "own"] ["prime", "rest"] (defScope (top 18)) := ⟨rfl, rfl, rfl, by decide +kernel, rfl, by decide +kernel, by decide +kernel⟩
theorem ok_11 {n : Nat} (hd : HD K mg fds) (I : AllOk P w K mg base fds n) : FnOk P w K mg base (L2.CX P w) (n + 1) (He.ga K "turned") (fds 11) ["prime", "rest"] (spF (gm K) 2 false (b_turned (prog n))) :=
  have sN : List.Nodup (α := Str) ["prime", "rest", "own"] := sc_11.nd
  fn_ok (mv := []) (owN := []) (owL := []) (kr := .rp) (fd_11 hd) sc_11 rfl rfl (by decide) (fun h => nomatch h) fun cdv A outer s H E hr =>
    have tk := takesX (P := P) (w := w) (K := K) (mg := mg) (base := base) (N := ["prime", "rest", "own"]) (qual := "turned") (scope := defScope (top 18)) (f := He.ga K "turned") (cdv := cdv) (A := A) (outer := outer) (s := s) (H := H) (E := E)
    have px := passX (P := P) (w := w) (K := K) (mg := mg) (base := base) (N := ["prime", "rest", "own"]) (qual := "turned") (scope := defScope (top 18)) (f := He.ga K "turned") (cdv := cdv) (A := A) (outer := outer) (s := s) (H := H) (E := E)
    (SSs.one (SS.retRp (SE.ix (Room.u50 hr) (SE.toRd (SE.comp (own := [("own", 2)]) (vs := [2]) (hw := by exact fun h => nomatch h) rfl sN (SI.range2 (by rfl) (hd.hfr 9 _ rfl) (SA.cons (.inl rfl) SE.int (SA.cons (.inl rfl) (SE.var rfl (.inr (.inl rfl))) SA.nil))) (blkOk_by (by rfl)) (fun _ _ _ _ _ => (SG.name sN rfl (.inl rfl) (by decide) (by decide : (2 : Nat) < 3))) (fun _ _ _ _ _ => (ST.one (SX.cmp (eq_F (Room.u50 hr)) (SE.toRd (SE.op op_modD (SE.toRd (SE.op op_mulD (SE.toRd (SE.var rfl (.inl rfl))) (SE.toRd (SE.var rfl (.inr (.inl rfl)))))) (SE.toRd (SE.var rfl (.inr (.inl rfl)))))) (SE.toRd SE.int) rfl))) (fun _ _ _ _ _ => (SE.var rfl (.inl rfl))))) (SE.toRd SE.int))))
theorem sc_12 : FnScope ["prime", "thing"] ["prime", "thing"] (defScope (top 24)) := ⟨rfl, rfl, rfl, by decide +kernel, rfl, by decide +kernel, by decide +kernel⟩
theorem ok_12 {n : Nat} (hd : HD K mg fds) (I : AllOk P w K mg base fds n) : FnOk P w K mg base (L2.CX P w) (n + 1) (He.ga K "fits_part") (fds 12) ["prime", "thing"] (spF (gm K) 2 false (b_fits_part (prog n))) :=
  have sN : List.Nodup (α := Str) ["prime", "thing"] := sc_12.nd
  fn_ok (mv := []) (owN := []) (owL := []) (kr := .rp) (fd_12 hd) sc_12 rfl rfl (by decide) (fun h => nomatch h) fun cdv A outer s H E hr =>
    have tk := takesX (P := P) (w := w) (K := K) (mg := mg) (base := base) (N := ["prime", "thing"]) (qual := "fits_part") (scope := defScope (top 24)) (f := He.ga K "fits_part") (cdv := cdv) (A := A) (outer := outer) (s := s) (H := H) (E := E)
    have px := passX (P := P) (w := w) (K := K) (mg := mg) (base := base) (N := ["prime", "thing"]) (qual := "fits_part") (scope := defScope (top 24)) (f := He.ga K "fits_part") (cdv := cdv) (A := A) (outer := outer) (s := s) (H := H) (E := E)
    (SSs.cons (SS.ite (SX.bool (SW.or (SX.not (SX.val (SE.call (o := false) I.h4 hr (bn_4 hd) (ln_4 _) tk (by rfl) (hd.hgl 4 _ rfl).1 (hd.hgl 4 _ rfl).2 (SA.cons (.inl rfl) (SE.var rfl (.inl rfl)) (SA.cons (.inl rfl) (SE.glob (by rfl) (hd.hcs 1 _ _ rfl)) SA.nil))))) (SW.one_or (SX.not (SX.val (SE.call (o := false) I.h3 hr (bn_3 hd) (ln_3 _) tk (by rfl) (hd.hgl 3 _ rfl).1 (hd.hgl 3 _ rfl).2 (SA.cons (.inl rfl) (SE.ix (Room.u50 hr) (SE.toRd (SE.var rfl (.inl rfl))) (SE.toRd SE.int)) (SA.cons (.inl rfl) (SE.var rfl (.inl rfl)) SA.nil)))))))) (SSs.one (SS.retRp SE.bl)) SSs.nil)
      (SSs.one (SS.retRp (SE.and (SE.cmp gt_F (SE.toRd (SE.ix (Room.u50 hr) (SE.toRd (SE.var rfl (.inl rfl))) (SE.toRd SE.int))) (SE.toRd SE.int) rfl) (SE.one_bop (SE.call (o := false) I.h3 hr (bn_3 hd) (ln_3 _) tk (by rfl) (hd.hgl 3 _ rfl).1 (hd.hgl 3 _ rfl).2 (SA.cons (.inl rfl) (SE.ix (Room.u50 hr) (SE.toRd (SE.var rfl (.inl rfl))) (SE.toRd SE.int)) (SA.cons (.inl rfl) (SE.toRp (SE.op op_powD (SE.toRd SE.int) (SE.toRd SE.int))) SA.nil))))))))
theorem sc_13 : FnScope ["prime", "thing", "part"] ["prime", "thing"] (defScope (top 25)) := ⟨rfl, rfl, rfl, by decide +kernel, rfl, by decide +kernel, by decide +kernel⟩
theorem ok_13 {n : Nat} (hd : HD K mg fds) (I : AllOk P w K mg base fds n) : FnOk P w K mg base (L2.CX P w) (n + 1) (He.ga K "fits_sum") (fds 13) ["prime", "thing"] (spF (gm K) 2 false (b_fits_sum (prog n))) :=
  have sN : List.Nodup (α := Str) ["prime", "thing", "part"] := sc_13.nd
  fn_ok (mv := []) (owN := []) (owL := []) (kr := .rp) (fd_13 hd) sc_13 rfl rfl (by decide) (fun h => nomatch h) fun cdv A outer s H E hr =>
    have tk := takesX (P := P) (w := w) (K := K) (mg := mg) (base := base) (N := ["prime", "thing", "part"]) (qual := "fits_sum") (scope := defScope (top 25)) (f := He.ga K "fits_sum") (cdv := cdv) (A := A) (outer := outer) (s := s) (H := H) (E := E)
    have px := passX (P := P) (w := w) (K := K) (mg := mg) (base := base) (N := ["prime", "thing", "part"]) (qual := "fits_sum") (scope := defScope (top 25)) (f := He.ga K "fits_sum") (cdv := cdv) (A := A) (outer := outer) (s := s) (H := H) (E := E)
    (SSs.cons (SS.ite (SX.bool (SW.or (SX.not (SX.val (SE.call (o := false) I.h4 hr (bn_4 hd) (ln_4 _) tk (by rfl) (hd.hgl 4 _ rfl).1 (hd.hgl 4 _ rfl).2 (SA.cons (.inl rfl) (SE.var rfl (.inl rfl)) (SA.cons (.inl rfl) (SE.glob (by rfl) (hd.hcs 1 _ _ rfl)) SA.nil))))) (SW.or (SX.not (SX.val (SE.call (o := false) I.h3 hr (bn_3 hd) (ln_3 _) tk (by rfl) (hd.hgl 3 _ rfl).1 (hd.hgl 3 _ rfl).2 (SA.cons (.inl rfl) (SE.ix (Room.u50 hr) (SE.toRd (SE.var rfl (.inl rfl))) (SE.toRd SE.int)) (SA.cons (.inl rfl) (SE.var rfl (.inr (.inl rfl))) SA.nil))))) (SW.one_or (SX.not (SX.val (SE.isi (k := 3) (by decide) (by rfl) (hd.hfr 0 _ rfl) (by rfl) (hd.hfr 2 _ rfl) boot_tuple (SE.toRd (SE.ix (Room.u50 hr) (SE.toRd (SE.var rfl (.inl rfl))) (SE.toRd SE.int)))))))))) (SSs.one (SS.retRp SE.bl)) SSs.nil)
      (SSs.one (SS.retRp (SE.and (SE.blt1 (o := true) (all_F (by rfl)) (by rfl) (hd.hfr 7 _ rfl) boot_all (SE.toRd (SE.comp (own := [("part", 2)]) (vs := [2]) (hw := by exact fun h => nomatch h) rfl sN (SI.any (SE.ix (Room.u50 hr) (SE.toRd (SE.var rfl (.inl rfl))) (SE.toRd SE.int))) (blkOk_by (by rfl)) (fun _ _ _ _ _ => (SG.name sN rfl (.inl rfl) (by decide) (by decide : (2 : Nat) < 3))) (fun _ _ _ _ _ => ST.nil) (fun _ _ _ _ _ => (SE.call (o := false) I.h12 hr (bn_12 hd) (ln_12 _) L2.takes0 (by rfl) (hd.hgl 12 _ rfl).1 (hd.hgl 12 _ rfl).2 (SA.cons (.inl rfl) (SE.var rfl (.inr (.inl rfl))) (SA.cons (.inl rfl) (SE.var rfl (.inl rfl)) SA.nil))))))) (SE.one_bop (SE.call (o := false) I.h5 hr (bn_5 hd) (ln_5 _) tk (by rfl) (hd.hgl 5 _ rfl).1 (hd.hgl 5 _ rfl).2 (SA.cons (.inl rfl) (SE.toRp (SE.ty1 (o := true) tuple_F (by rfl) (hd.hfr 2 _ rfl) boot_tuple (SE.toRd (SE.comp (own := [("part", 2)]) (vs := [2]) (hw := by exact fun h => nomatch h) rfl sN (SI.any (SE.ix (Room.u50 hr) (SE.toRd (SE.var rfl (.inl rfl))) (SE.toRd SE.int))) (blkOk_by (by rfl)) (fun _ _ _ _ _ => (SG.name sN rfl (.inl rfl) (by decide) (by decide : (2 : Nat) < 3))) (fun _ _ _ _ _ => ST.nil) (fun _ _ _ _ _ => (SE.ix (Room.u50 hr) (SE.toRd (SE.var rfl (.inl rfl))) (SE.toRd SE.int))))))) SA.nil)))))))
theorem sc_14 : FnScope ["prime", "number", "table", "parts", "cell", "part"] ["prime", "number", "table"] (defScope (top 26)) := ⟨rfl, rfl, rfl, by decide +kernel, rfl, by decide +kernel, by decide +kernel⟩
theorem ok_14 {n : Nat} (hd : HD K mg fds) (I : AllOk P w K mg base fds n) : FnOk P w K mg base (L2.CX P w) (n + 1) (He.ga K "sum_told") (fds 14) ["prime", "number", "table"] (spF (gm K) 3 false (b_sum_told (prog n))) :=
  have sN : List.Nodup (α := Str) ["prime", "number", "table", "parts", "cell", "part"] := sc_14.nd
  fn_ok (mv := []) (owN := []) (owL := []) (kr := .rp) (fd_14 hd) sc_14 rfl rfl (by decide) (fun h => nomatch h) fun cdv A outer s H E hr =>
    have tk := takesX (P := P) (w := w) (K := K) (mg := mg) (base := base) (N := ["prime", "number", "table", "parts", "cell", "part"]) (qual := "sum_told") (scope := defScope (top 26)) (f := He.ga K "sum_told") (cdv := cdv) (A := A) (outer := outer) (s := s) (H := H) (E := E)
    have px := passX (P := P) (w := w) (K := K) (mg := mg) (base := base) (N := ["prime", "number", "table", "parts", "cell", "part"]) (qual := "sum_told") (scope := defScope (top 26)) (f := He.ga K "sum_told") (cdv := cdv) (A := A) (outer := outer) (s := s) (H := H) (E := E)
    (SSs.cons (SS.asgLc (own := [("cell", 4)]) (vs := [4]) (hw := by exact fun h => nomatch h) rfl sN rfl rfl (by decide) (by decide : (3 : Nat) < 6) rfl (by rfl) (by rfl) (SI.any (SE.toRp (SE.blt1 (o := true) (sorted_F (by rfl)) (by rfl) (hd.hfr 8 _ rfl) boot_sorted (SE.toRd (SE.var rfl (.inr (.inl rfl))))))) (blkOk_by (by rfl)) (fun _ _ _ _ _ => (SG.name sN rfl (.inl rfl) (by decide) (by decide : (4 : Nat) < 6))) (fun _ _ _ _ _ => ST.nil) (fun _ _ _ _ _ => (SE.toRp (SE.tup (SA.cons (.inl rfl) (SE.var rfl (.inl rfl)) (SA.cons (.inl rfl) (SE.toRp (SE.op op_modD (SE.toRd (SE.ix (Room.u50 hr) (SE.toRd (SE.var rfl (.inr (.inl rfl)))) (SE.toRd (SE.var rfl (.inl rfl))))) (SE.toRd (SE.var rfl (.inr (.inl rfl)))))) SA.nil))))))
      (SSs.one (SS.retRp (SE.toRp (SE.tup (SA.cons (.inl rfl) (SE.toRp (SE.op op_modD (SE.toRd (SE.var rfl (.inl rfl))) (SE.toRd (SE.var rfl (.inr (.inl rfl)))))) (SA.cons (.inl rfl) (SE.toRp (SE.ty1 (o := true) tuple_F (by rfl) (hd.hfr 2 _ rfl) boot_tuple (SE.toRd (SE.comp (own := [("part", 5)]) (vs := [5]) (hw := by exact fun h => nomatch h) rfl sN (SI.any (SE.var rfl (.inl rfl))) (blkOk_by (by rfl)) (fun _ _ _ _ _ => (SG.name sN rfl (.inl rfl) (by decide) (by decide : (5 : Nat) < 6))) (fun _ _ _ _ _ => (ST.one (SX.cmp (ne_F (Room.u50 hr)) (SE.toRd (SE.ix (Room.u50 hr) (SE.toRd (SE.var rfl (.inl rfl))) (SE.toRd SE.int))) (SE.toRd SE.int) rfl))) (fun _ _ _ _ _ => (SE.var rfl (.inl rfl))))))) SA.nil)))))))
theorem sc_15 : FnScope ["prime", "one", "other", "often", "table", "cell", "much"] ["prime", "one", "other", "often"] (defScope (top 27)) := ⟨rfl, rfl, rfl, by decide +kernel, rfl, by decide +kernel, by decide +kernel⟩
theorem ok_15 {n : Nat} (hd : HD K mg fds) (I : AllOk P w K mg base fds n) : FnOk P w K mg base (L2.CX P w) (n + 1) (He.ga K "added") (fds 15) ["prime", "one", "other", "often"] (spF (gm K) 4 false (b_added (prog n))) :=
  have sN : List.Nodup (α := Str) ["prime", "one", "other", "often", "table", "cell", "much"] := sc_15.nd
  fn_ok (mv := [4]) (owN := []) (owL := []) (kr := .rp) (fd_15 hd) sc_15 rfl rfl (by decide) (fun h => nomatch h) fun cdv A outer s H E hr =>
    have tk := takesX (P := P) (w := w) (K := K) (mg := mg) (base := base) (N := ["prime", "one", "other", "often", "table", "cell", "much"]) (qual := "added") (scope := defScope (top 27)) (f := He.ga K "added") (cdv := cdv) (A := A) (outer := outer) (s := s) (H := H) (E := E)
    have px := passX (P := P) (w := w) (K := K) (mg := mg) (base := base) (N := ["prime", "one", "other", "often", "table", "cell", "much"]) (qual := "added") (scope := defScope (top 27)) (f := He.ga K "added") (cdv := cdv) (A := A) (outer := outer) (s := s) (H := H) (E := E)
    (SSs.cons (SS.asgMv sN rfl (.inl rfl) (by decide) (by decide : (4 : Nat) < 7) (SE.dict (by rfl) (by rfl) (hd.hfr 10 _ rfl) (SE.toRd (SE.ix (Room.u50 hr) (SE.toRd (SE.var rfl (.inl rfl))) (SE.toRd SE.int)))) rfl)
      (SSs.cons (SS.for_ (hw := by exact fun h => nomatch h) (by exact fun h => nomatch h) px rfl (SI.any (SE.ix (Room.u50 hr) (SE.toRd (SE.var rfl (.inl rfl))) (SE.toRd SE.int))) (SG.tup (n := 0) rfl (SGs.cons (SG.name sN rfl (.inl rfl) (by decide) (by decide : (5 : Nat) < 7)) (SGs.cons (SG.name sN rfl (.inl rfl) (by decide) (by decide : (6 : Nat) < 7)) SGs.nil))) (SSs.one (SS.put (Room.u50 hr) rfl (.inl rfl) (by decide) (SE.toRp (SE.op op_addD (SE.toRd (SE.get (Room.u50 hr) (SE.mvR rfl (.inl rfl)) (SE.var rfl (.inl rfl)) SE.int ⟨rfl, rfl, rfl, rfl⟩)) (SE.toRd (SE.op op_mulD (SE.toRd (SE.var rfl (.inl rfl))) (SE.toRd (SE.var rfl (.inl rfl))))))) (SE.var rfl (.inl rfl)))))
      (SSs.one (SS.retRp (SE.call (o := false) I.h14 hr (bn_14 hd) (ln_14 _) tk (by rfl) (hd.hgl 14 _ rfl).1 (hd.hgl 14 _ rfl).2 (SA.cons (.inl rfl) (SE.var rfl (.inl rfl)) (SA.cons (.inl rfl) (SE.toRp (SE.op op_addD (SE.toRd (SE.ix (Room.u50 hr) (SE.toRd (SE.var rfl (.inl rfl))) (SE.toRd SE.int))) (SE.toRd (SE.op op_mulD (SE.toRd (SE.var rfl (.inl rfl))) (SE.toRd (SE.ix (Room.u50 hr) (SE.toRd (SE.var rfl (.inl rfl))) (SE.toRd SE.int))))))) (SA.cons (.inl rfl) (SE.mvF rfl (.inl rfl)) SA.nil))))))))
theorem sc_16 : FnScope ["prime", "told", "filling", "cell", "much"] ["prime", "told", "filling"] (defScope (top 28)) := ⟨rfl, rfl, rfl, by decide +kernel, rfl, by decide +kernel, by decide +kernel⟩
theorem ok_16 {n : Nat} (hd : HD K mg fds) (I : AllOk P w K mg base fds n) : FnOk P w K mg base (L2.CX P w) (n + 1) (He.ga K "worth_in") (fds 16) ["prime", "told", "filling"] (spF (gm K) 3 false (b_worth_in (prog n))) :=
  have sN : List.Nodup (α := Str) ["prime", "told", "filling", "cell", "much"] := sc_16.nd
  fn_ok (mv := []) (owN := []) (owL := []) (kr := .rp) (fd_16 hd) sc_16 rfl rfl (by decide) (fun h => nomatch h) fun cdv A outer s H E hr =>
    have tk := takesX (P := P) (w := w) (K := K) (mg := mg) (base := base) (N := ["prime", "told", "filling", "cell", "much"]) (qual := "worth_in") (scope := defScope (top 28)) (f := He.ga K "worth_in") (cdv := cdv) (A := A) (outer := outer) (s := s) (H := H) (E := E)
    have px := passX (P := P) (w := w) (K := K) (mg := mg) (base := base) (N := ["prime", "told", "filling", "cell", "much"]) (qual := "worth_in") (scope := defScope (top 28)) (f := He.ga K "worth_in") (cdv := cdv) (A := A) (outer := outer) (s := s) (H := H) (E := E)
    (SSs.one (SS.retRp (SE.toRp (SE.op op_modD (SE.toRd (SE.op op_addD (SE.toRd (SE.ix (Room.u50 hr) (SE.toRd (SE.var rfl (.inl rfl))) (SE.toRd SE.int))) (SE.toRd (SE.blt1 (o := true) (sum_F (by rfl)) (by rfl) (hd.hfr 11 _ rfl) boot_sum (SE.toRd (SE.comp (own := [("cell", 3), ("much", 4)]) (vs := [3, 4]) (hw := by exact fun h => nomatch h) rfl sN (SI.any (SE.ix (Room.u50 hr) (SE.toRd (SE.var rfl (.inl rfl))) (SE.toRd SE.int))) (blkOk_by (by rfl)) (fun _ _ _ _ _ => (SG.tup (n := 0) rfl (SGs.cons (SG.name sN rfl (.inl rfl) (by decide) (by decide : (3 : Nat) < 5)) (SGs.cons (SG.name sN rfl (.inl rfl) (by decide) (by decide : (4 : Nat) < 5)) SGs.nil)))) (fun _ _ _ _ _ => ST.nil) (fun _ _ _ _ _ => (SE.toRp (SE.op op_mulD (SE.toRd (SE.var rfl (.inl rfl))) (SE.toRd (SE.ix (Room.u50 hr) (SE.toRd (SE.var rfl (.inr (.inl rfl)))) (SE.toRd (SE.var rfl (.inl rfl)))))))))))))) (SE.toRd (SE.var rfl (.inl rfl)))))))
theorem sc_17 : FnScope ["prime", "told", "table", "found", "cell", "much", "part"] ["prime", "told", "table"] (defScope (top 29)) := ⟨rfl, rfl, rfl, by decide +kernel, rfl, by decide +kernel, by decide +kernel⟩
theorem ok_17 {n : Nat} (hd : HD K mg fds) (I : AllOk P w K mg base fds n) : FnOk P w K mg base (L2.CX P w) (n + 1) (He.ga K "put_into") (fds 17) ["prime", "told", "table"] (spF (gm K) 3 false (b_put_into (prog n))) :=
  have sN : List.Nodup (α := Str) ["prime", "told", "table", "found", "cell", "much", "part"] := sc_17.nd
  fn_ok (mv := []) (owN := []) (owL := []) (kr := .rp) (fd_17 hd) sc_17 rfl rfl (by decide) (fun h => nomatch h) fun cdv A outer s H E hr =>
    have tk := takesX (P := P) (w := w) (K := K) (mg := mg) (base := base) (N := ["prime", "told", "table", "found", "cell", "much", "part"]) (qual := "put_into") (scope := defScope (top 29)) (f := He.ga K "put_into") (cdv := cdv) (A := A) (outer := outer) (s := s) (H := H) (E := E)
    have px := passX (P := P) (w := w) (K := K) (mg := mg) (base := base) (N := ["prime", "told", "table", "found", "cell", "much", "part"]) (qual := "put_into") (scope := defScope (top 29)) (f := He.ga K "put_into") (cdv := cdv) (A := A) (outer := outer) (s := s) (H := H) (E := E)
    (SSs.cons (SS.asg (SE.toRp (SE.tup (SA.cons (.inl rfl) (SE.ix (Room.u50 hr) (SE.toRd (SE.var rfl (.inl rfl))) (SE.toRd SE.int)) (SA.cons (.inl rfl) (SE.toRp (SE.ty1 (o := true) tuple_F (by rfl) (hd.hfr 2 _ rfl) boot_tuple (SE.toRd (SE.comp (own := [("part", 6)]) (vs := [6]) (hw := by exact fun h => nomatch h) rfl sN (SI.any (SE.ix (Room.u50 hr) (SE.toRd (SE.var rfl (.inl rfl))) (SE.toRd SE.int))) (blkOk_by (by rfl)) (fun _ _ _ _ _ => (SG.name sN rfl (.inl rfl) (by decide) (by decide : (6 : Nat) < 7))) (fun _ _ _ _ _ => (ST.one (SX.cmp (nin_F (Room.u50 hr)) (SE.toRd (SE.ix (Room.u50 hr) (SE.toRd (SE.var rfl (.inl rfl))) (SE.toRd SE.int))) (SE.toRd (SE.var rfl (.inr (.inl rfl)))) rfl))) (fun _ _ _ _ _ => (SE.var rfl (.inl rfl))))))) SA.nil)))) (SG.name sN rfl (.inl rfl) (by decide) (by decide : (3 : Nat) < 7)))
      (SSs.cons (SS.for_ (hw := by exact fun h => nomatch h) (by exact fun h => nomatch h) px rfl (SI.any (SE.toRp (SE.comp (own := [("part", 6)]) (vs := [6]) (hw := by exact fun h => nomatch h) rfl sN (SI.any (SE.ix (Room.u50 hr) (SE.toRd (SE.var rfl (.inl rfl))) (SE.toRd SE.int))) (blkOk_by (by rfl)) (fun _ _ _ _ _ => (SG.name sN rfl (.inl rfl) (by decide) (by decide : (6 : Nat) < 7))) (fun _ _ _ _ _ => (ST.one (SX.cmp (in_F (Room.u50 hr)) (SE.toRd (SE.ix (Room.u50 hr) (SE.toRd (SE.var rfl (.inl rfl))) (SE.toRd SE.int))) (SE.toRd (SE.var rfl (.inr (.inl rfl)))) rfl))) (fun _ _ _ _ _ => (SE.var rfl (.inl rfl)))))) (SG.tup (n := 0) rfl (SGs.cons (SG.name sN rfl (.inl rfl) (by decide) (by decide : (4 : Nat) < 7)) (SGs.cons (SG.name sN rfl (.inl rfl) (by decide) (by decide : (5 : Nat) < 7)) SGs.nil))) (SSs.one (SS.asg (SE.call (o := false) I.h15 hr (bn_15 hd) (ln_15 _) (takes_unl tk) (by rfl) (hd.hgl 15 _ rfl).1 (hd.hgl 15 _ rfl).2 (SA.cons (.inl rfl) (SE.var rfl (.inl rfl)) (SA.cons (.inl rfl) (SE.var rfl (.inl rfl)) (SA.cons (.inl rfl) (SE.ix (Room.u50 hr) (SE.toRd (SE.var rfl (.inr (.inl rfl)))) (SE.toRd (SE.var rfl (.inl rfl)))) (SA.cons (.inl rfl) (SE.var rfl (.inl rfl)) SA.nil))))) (SG.name sN rfl (.inl rfl) (by decide) (by decide : (3 : Nat) < 7)))))
      (SSs.one (SS.retRp (SE.var rfl (.inl rfl))))))
theorem sc_18 : FnScope ["prime", "thing", "part"] ["prime", "thing"] (defScope (top 30)) := ⟨rfl, rfl, rfl, by decide +kernel, rfl, by decide +kernel, by decide +kernel⟩
theorem ok_18 {n : Nat} (hd : HD K mg fds) (I : AllOk P w K mg base fds n) : FnOk P w K mg base (L2.CX P w) (n + 1) (He.ga K "fits_row") (fds 18) ["prime", "thing"] (spF (gm K) 2 false (b_fits_row (prog n))) :=
  have sN : List.Nodup (α := Str) ["prime", "thing", "part"] := sc_18.nd
  fn_ok (mv := []) (owN := []) (owL := []) (kr := .rp) (fd_18 hd) sc_18 rfl rfl (by decide) (fun h => nomatch h) fun cdv A outer s H E hr =>
    have tk := takesX (P := P) (w := w) (K := K) (mg := mg) (base := base) (N := ["prime", "thing", "part"]) (qual := "fits_row") (scope := defScope (top 30)) (f := He.ga K "fits_row") (cdv := cdv) (A := A) (outer := outer) (s := s) (H := H) (E := E)
    have px := passX (P := P) (w := w) (K := K) (mg := mg) (base := base) (N := ["prime", "thing", "part"]) (qual := "fits_row") (scope := defScope (top 30)) (f := He.ga K "fits_row") (cdv := cdv) (A := A) (outer := outer) (s := s) (H := H) (E := E)
    (SSs.one (SS.retRp (SE.and (SE.call (o := false) I.h4 hr (bn_4 hd) (ln_4 _) tk (by rfl) (hd.hgl 4 _ rfl).1 (hd.hgl 4 _ rfl).2 (SA.cons (.inl rfl) (SE.var rfl (.inl rfl)) (SA.cons (.inl rfl) (SE.glob (by rfl) (hd.hcs 2 _ _ rfl)) SA.nil))) (SE.one_bop (SE.toRp (SE.blt1 (o := true) (all_F (by rfl)) (by rfl) (hd.hfr 7 _ rfl) boot_all (SE.toRd (SE.comp (own := [("part", 2)]) (vs := [2]) (hw := by exact fun h => nomatch h) rfl sN (SI.any (SE.var rfl (.inl rfl))) (blkOk_by (by rfl)) (fun _ _ _ _ _ => (SG.name sN rfl (.inl rfl) (by decide) (by decide : (2 : Nat) < 3))) (fun _ _ _ _ _ => ST.nil) (fun _ _ _ _ _ => (SE.call (o := false) I.h13 hr (bn_13 hd) (ln_13 _) L2.takes0 (by rfl) (hd.hgl 13 _ rfl).1 (hd.hgl 13 _ rfl).2 (SA.cons (.inl rfl) (SE.var rfl (.inr (.inl rfl))) (SA.cons (.inl rfl) (SE.var rfl (.inl rfl)) SA.nil))))))))))))
theorem sc_19 : FnScope ["row", "found", "part", "cell", "_"] ["row"] (defScope (top 31)) := ⟨rfl, rfl, rfl, by decide +kernel, rfl, by decide +kernel, by decide +kernel⟩
theorem ok_19 {n : Nat} (hd : HD K mg fds) (I : AllOk P w K mg base fds n) : FnOk P w K mg base (L2.CX P w) (n + 1) (He.ga K "cells_of_row") (fds 19) ["row"] (spF (gm K) 1 false (b_cells_of_row (prog n))) :=
  have sN : List.Nodup (α := Str) ["row", "found", "part", "cell", "_"] := sc_19.nd
  fn_ok (mv := [1]) (owN := []) (owL := []) (kr := .rp) (fd_19 hd) sc_19 rfl rfl (by decide) (fun h => nomatch h) fun cdv A outer s H E hr =>
    have tk := takesX (P := P) (w := w) (K := K) (mg := mg) (base := base) (N := ["row", "found", "part", "cell", "_"]) (qual := "cells_of_row") (scope := defScope (top 31)) (f := He.ga K "cells_of_row") (cdv := cdv) (A := A) (outer := outer) (s := s) (H := H) (E := E)
    have px := passX (P := P) (w := w) (K := K) (mg := mg) (base := base) (N := ["row", "found", "part", "cell", "_"]) (qual := "cells_of_row") (scope := defScope (top 31)) (f := He.ga K "cells_of_row") (cdv := cdv) (A := A) (outer := outer) (s := s) (H := H) (E := E)
    (SSs.cons (SS.asgMv sN rfl (.inl rfl) (by decide) (by decide : (1 : Nat) < 5) (SE.lst SA.nil) rfl)
      (SSs.cons (SS.for_ (hw := by exact fun h => nomatch h) (by exact fun h => nomatch h) px rfl (SI.any (SE.var rfl (.inl rfl))) (SG.name sN rfl (.inl rfl) (by decide) (by decide : (2 : Nat) < 5)) (SSs.one (SS.ext rfl (.inl rfl) (by decide) (by decide) (SE.toRp (SE.comp (own := [("cell", 3), ("_", 4)]) (vs := [3, 4]) (hw := by exact fun h => nomatch h) rfl sN (SI.any (SE.ix (Room.u50 hr) (SE.toRd (SE.var rfl (.inl rfl))) (SE.toRd SE.int))) (blkOk_by (by rfl)) (fun _ _ _ _ _ => (SG.tup (n := 0) rfl (SGs.cons (SG.name sN rfl (.inl rfl) (by decide) (by decide : (3 : Nat) < 5)) (SGs.cons (SG.name sN rfl (.inl rfl) (by decide) (by decide : (4 : Nat) < 5)) SGs.nil)))) (fun _ _ _ _ _ => ST.nil) (fun _ _ _ _ _ => (SE.var rfl (.inl rfl))))))))
      (SSs.one (SS.retRp (SE.call (o := false) I.h6 hr (bn_6 hd) (ln_6 _) tk (by rfl) (hd.hgl 6 _ rfl).1 (hd.hgl 6 _ rfl).2 (SA.cons (.inl rfl) (SE.mvF rfl (.inl rfl)) SA.nil))))))
theorem sc_20 : FnScope ["prime", "row", "filling", "near", "far", "due", "part"] ["prime", "row", "filling"] (defScope (top 32)) := ⟨rfl, rfl, rfl, by decide +kernel, rfl, by decide +kernel, by decide +kernel⟩
theorem ok_20 {n : Nat} (hd : HD K mg fds) (I : AllOk P w K mg base fds n) : FnOk P w K mg base (L2.CX P w) (n + 1) (He.ga K "row_kept") (fds 20) ["prime", "row", "filling"] (spF (gm K) 3 false (b_row_kept (prog n))) :=
  have sN : List.Nodup (α := Str) ["prime", "row", "filling", "near", "far", "due", "part"] := sc_20.nd
  fn_ok (mv := []) (owN := []) (owL := []) (kr := .rp) (fd_20 hd) sc_20 rfl rfl (by decide) (fun h => nomatch h) fun cdv A outer s H E hr =>
    have tk := takesX (P := P) (w := w) (K := K) (mg := mg) (base := base) (N := ["prime", "row", "filling", "near", "far", "due", "part"]) (qual := "row_kept") (scope := defScope (top 32)) (f := He.ga K "row_kept") (cdv := cdv) (A := A) (outer := outer) (s := s) (H := H) (E := E)
    have px := passX (P := P) (w := w) (K := K) (mg := mg) (base := base) (N := ["prime", "row", "filling", "near", "far", "due", "part"]) (qual := "row_kept") (scope := defScope (top 32)) (f := He.ga K "row_kept") (cdv := cdv) (A := A) (outer := outer) (s := s) (H := H) (E := E)
    (SSs.cons (SS.asg (SE.toRp (SE.comp (own := [("part", 6)]) (vs := [6]) (hw := by exact fun h => nomatch h) rfl sN (SI.any (SE.var rfl (.inl rfl))) (blkOk_by (by rfl)) (fun _ _ _ _ _ => (SG.name sN rfl (.inl rfl) (by decide) (by decide : (6 : Nat) < 7))) (fun _ _ _ _ _ => ST.nil) (fun _ _ _ _ _ => (SE.call (o := false) I.h16 hr (bn_16 hd) (ln_16 _) L2.takes0 (by rfl) (hd.hgl 16 _ rfl).1 (hd.hgl 16 _ rfl).2 (SA.cons (.inl rfl) (SE.var rfl (.inr (.inl rfl))) (SA.cons (.inl rfl) (SE.var rfl (.inl rfl)) (SA.cons (.inl rfl) (SE.var rfl (.inr (.inl rfl))) SA.nil))))))) (SG.tup (n := 0) rfl (SGs.cons (SG.name sN rfl (.inl rfl) (by decide) (by decide : (3 : Nat) < 7)) (SGs.cons (SG.name sN rfl (.inl rfl) (by decide) (by decide : (4 : Nat) < 7)) (SGs.cons (SG.name sN rfl (.inl rfl) (by decide) (by decide : (5 : Nat) < 7)) SGs.nil)))))
      (SSs.one (SS.retRp (SE.toRp (SE.cmp (eq_F (Room.u50 hr)) (SE.toRd (SE.op op_modD (SE.toRd (SE.op op_mulD (SE.toRd (SE.var rfl (.inl rfl))) (SE.toRd (SE.var rfl (.inl rfl))))) (SE.toRd (SE.var rfl (.inr (.inl rfl)))))) (SE.toRd (SE.var rfl (.inl rfl))) rfl)))))
theorem sc_21 : FnScope ["prime", "row", "one", "other", "due"] ["prime", "row"] (defScope (top 33)) := ⟨rfl, rfl, rfl, by decide +kernel, rfl, by decide +kernel, by decide +kernel⟩
theorem ok_21 {n : Nat} (hd : HD K mg fds) (I : AllOk P w K mg base fds n) : FnOk P w K mg base (L2.CX P w) (n + 1) (He.ga K "straight_sum") (fds 21) ["prime", "row"] (spF (gm K) 2 false (b_straight_sum (prog n))) :=
  have sN : List.Nodup (α := Str) ["prime", "row", "one", "other", "due"] := sc_21.nd
  fn_ok (mv := []) (owN := []) (owL := []) (kr := .rp) (fd_21 hd) sc_21 rfl rfl (by decide) (fun h => nomatch h) fun cdv A outer s H E hr =>
    have tk := takesX (P := P) (w := w) (K := K) (mg := mg) (base := base) (N := ["prime", "row", "one", "other", "due"]) (qual := "straight_sum") (scope := defScope (top 33)) (f := He.ga K "straight_sum") (cdv := cdv) (A := A) (outer := outer) (s := s) (H := H) (E := E)
    have px := passX (P := P) (w := w) (K := K) (mg := mg) (base := base) (N := ["prime", "row", "one", "other", "due"]) (qual := "straight_sum") (scope := defScope (top 33)) (f := He.ga K "straight_sum") (cdv := cdv) (A := A) (outer := outer) (s := s) (H := H) (E := E)
    (SSs.cons (SS.asg (SE.var rfl (.inl rfl)) (SG.tup (n := 0) rfl (SGs.cons (SG.name sN rfl (.inl rfl) (by decide) (by decide : (2 : Nat) < 5)) (SGs.cons (SG.name sN rfl (.inl rfl) (by decide) (by decide : (3 : Nat) < 5)) (SGs.cons (SG.name sN rfl (.inl rfl) (by decide) (by decide : (4 : Nat) < 5)) SGs.nil)))))
      (SSs.cons (SS.ite (SX.cmp (eq_F (Room.u50 hr)) (SE.toRd (SE.ix (Room.u50 hr) (SE.toRd (SE.var rfl (.inl rfl))) (SE.toRd SE.int))) (SE.toRd (SE.tup SA.nil)) rfl) (SSs.one (SS.retRp (SE.call (o := false) I.h15 hr (bn_15 hd) (ln_15 _) tk (by rfl) (hd.hgl 15 _ rfl).1 (hd.hgl 15 _ rfl).2 (SA.cons (.inl rfl) (SE.var rfl (.inl rfl)) (SA.cons (.inl rfl) (SE.call (o := false) I.h15 hr (bn_15 hd) (ln_15 _) tk (by rfl) (hd.hgl 15 _ rfl).1 (hd.hgl 15 _ rfl).2 (SA.cons (.inl rfl) (SE.var rfl (.inl rfl)) (SA.cons (.inl rfl) (SE.glob (by rfl) (hd.hcs 4 _ _ rfl)) (SA.cons (.inl rfl) (SE.var rfl (.inl rfl)) (SA.cons (.inl rfl) (SE.ix (Room.u50 hr) (SE.toRd (SE.var rfl (.inl rfl))) (SE.toRd SE.int)) SA.nil))))) (SA.cons (.inl rfl) (SE.var rfl (.inl rfl)) (SA.cons (.inl rfl) (SE.toRp (SE.un un_negD (SE.toRd SE.int))) SA.nil))))))) SSs.nil)
      (SSs.cons (SS.ite (SX.cmp (eq_F (Room.u50 hr)) (SE.toRd (SE.ix (Room.u50 hr) (SE.toRd (SE.var rfl (.inl rfl))) (SE.toRd SE.int))) (SE.toRd (SE.tup SA.nil)) rfl) (SSs.one (SS.retRp (SE.call (o := false) I.h15 hr (bn_15 hd) (ln_15 _) tk (by rfl) (hd.hgl 15 _ rfl).1 (hd.hgl 15 _ rfl).2 (SA.cons (.inl rfl) (SE.var rfl (.inl rfl)) (SA.cons (.inl rfl) (SE.call (o := false) I.h15 hr (bn_15 hd) (ln_15 _) tk (by rfl) (hd.hgl 15 _ rfl).1 (hd.hgl 15 _ rfl).2 (SA.cons (.inl rfl) (SE.var rfl (.inl rfl)) (SA.cons (.inl rfl) (SE.glob (by rfl) (hd.hcs 4 _ _ rfl)) (SA.cons (.inl rfl) (SE.var rfl (.inl rfl)) (SA.cons (.inl rfl) (SE.ix (Room.u50 hr) (SE.toRd (SE.var rfl (.inl rfl))) (SE.toRd SE.int)) SA.nil))))) (SA.cons (.inl rfl) (SE.var rfl (.inl rfl)) (SA.cons (.inl rfl) (SE.toRp (SE.un un_negD (SE.toRd SE.int))) SA.nil))))))) SSs.nil)
      (SSs.one (SS.retRp SE.non)))))
theorem sc_22 : FnScope ["prime", "row", "known", "table", "cell", "part"] ["prime", "row", "known"] (defScope (top 34)) := ⟨rfl, rfl, rfl, by decide +kernel, rfl, by decide +kernel, by decide +kernel⟩
theorem ok_22 {n : Nat} (hd : HD K mg fds) (I : AllOk P w K mg base fds n) : FnOk P w K mg base (L2.CX P w) (n + 1) (He.ga K "under_known") (fds 22) ["prime", "row", "known"] (spF (gm K) 3 false (b_under_known (prog n))) :=
  have sN : List.Nodup (α := Str) ["prime", "row", "known", "table", "cell", "part"] := sc_22.nd
  fn_ok (mv := []) (owN := []) (owL := []) (kr := .rp) (fd_22 hd) sc_22 rfl rfl (by decide) (fun h => nomatch h) fun cdv A outer s H E hr =>
    have tk := takesX (P := P) (w := w) (K := K) (mg := mg) (base := base) (N := ["prime", "row", "known", "table", "cell", "part"]) (qual := "under_known") (scope := defScope (top 34)) (f := He.ga K "under_known") (cdv := cdv) (A := A) (outer := outer) (s := s) (H := H) (E := E)
    have px := passX (P := P) (w := w) (K := K) (mg := mg) (base := base) (N := ["prime", "row", "known", "table", "cell", "part"]) (qual := "under_known") (scope := defScope (top 34)) (f := He.ga K "under_known") (cdv := cdv) (A := A) (outer := outer) (s := s) (H := H) (E := E)
    (SSs.cons (SS.asg (SE.toRp (SE.dict (by rfl) (by rfl) (hd.hfr 10 _ rfl) (SE.toRd (SE.comp (own := [("cell", 4)]) (vs := [4]) (hw := by exact fun h => nomatch h) rfl sN (SI.any (SE.var rfl (.inr (.inl rfl)))) (blkOk_by (by rfl)) (fun _ _ _ _ _ => (SG.name sN rfl (.inl rfl) (by decide) (by decide : (4 : Nat) < 6))) (fun _ _ _ _ _ => ST.nil) (fun _ _ _ _ _ => (SE.toRp (SE.tup (SA.cons (.inl rfl) (SE.var rfl (.inl rfl)) (SA.cons (.inl rfl) (SE.toRp (SE.tup (SA.cons (.inl rfl) (SE.ix (Room.u50 hr) (SE.toRd (SE.var rfl (.inr (.inl rfl)))) (SE.toRd (SE.var rfl (.inl rfl)))) (SA.cons (.inl rfl) (SE.toRp (SE.tup SA.nil)) SA.nil)))) SA.nil))))))))) (SG.name sN rfl (.inr rfl) (by decide) (by decide : (3 : Nat) < 6)))
      (SSs.one (SS.retRp (SE.toRp (SE.ty1 (o := true) tuple_F (by rfl) (hd.hfr 2 _ rfl) boot_tuple (SE.toRd (SE.comp (own := [("part", 5)]) (vs := [5]) (hw := by exact fun h => nomatch h) rfl sN (SI.any (SE.var rfl (.inl rfl))) (blkOk_by (by rfl)) (fun _ _ _ _ _ => (SG.name sN rfl (.inl rfl) (by decide) (by decide : (5 : Nat) < 6))) (fun _ _ _ _ _ => ST.nil) (fun _ _ _ _ _ => (SE.call (o := false) I.h17 hr (bn_17 hd) (ln_17 _) L2.takes0 (by rfl) (hd.hgl 17 _ rfl).1 (hd.hgl 17 _ rfl).2 (SA.cons (.inl rfl) (SE.var rfl (.inr (.inl rfl))) (SA.cons (.inl rfl) (SE.var rfl (.inl rfl)) (SA.cons (.inl rfl) (SE.var rfl (.inr (.inl rfl))) SA.nil))))))))))))
theorem sc_23 : FnScope ["prime", "many", "thing", "row", "cell"] ["prime", "many", "thing"] (defScope (top 35)) := ⟨rfl, rfl, rfl, by decide +kernel, rfl, by decide +kernel, by decide +kernel⟩
theorem ok_23 {n : Nat} (hd : HD K mg fds) (I : AllOk P w K mg base fds n) : FnOk P w K mg base (L2.CX P w) (n + 1) (He.ga K "are_rows_of") (fds 23) ["prime", "many", "thing"] (spF (gm K) 3 false (b_are_rows_of (prog n))) :=
  have sN : List.Nodup (α := Str) ["prime", "many", "thing", "row", "cell"] := sc_23.nd
  fn_ok (mv := []) (owN := []) (owL := []) (kr := .rp) (fd_23 hd) sc_23 rfl rfl (by decide) (fun h => nomatch h) fun cdv A outer s H E hr =>
    have tk := takesX (P := P) (w := w) (K := K) (mg := mg) (base := base) (N := ["prime", "many", "thing", "row", "cell"]) (qual := "are_rows_of") (scope := defScope (top 35)) (f := He.ga K "are_rows_of") (cdv := cdv) (A := A) (outer := outer) (s := s) (H := H) (E := E)
    have px := passX (P := P) (w := w) (K := K) (mg := mg) (base := base) (N := ["prime", "many", "thing", "row", "cell"]) (qual := "are_rows_of") (scope := defScope (top 35)) (f := He.ga K "are_rows_of") (cdv := cdv) (A := A) (outer := outer) (s := s) (H := H) (E := E)
    (SSs.cons (SS.ite (SX.bool (SW.or (SX.not (SX.val (SE.isi (k := 3) (by decide) (by rfl) (hd.hfr 0 _ rfl) (by rfl) (hd.hfr 2 _ rfl) boot_tuple (SE.toRd (SE.var rfl (.inl rfl)))))) (SW.one_or (SX.not (SX.val (SE.blt1 (o := true) (all_F (by rfl)) (by rfl) (hd.hfr 7 _ rfl) boot_all (SE.toRd (SE.comp (own := [("row", 3)]) (vs := [3]) (hw := by exact fun h => nomatch h) rfl sN (SI.any (SE.var rfl (.inl rfl))) (blkOk_by (by rfl)) (fun _ _ _ _ _ => (SG.name sN rfl (.inl rfl) (by decide) (by decide : (3 : Nat) < 5))) (fun _ _ _ _ _ => ST.nil) (fun _ _ _ _ _ => (SE.call (o := false) I.h18 hr (bn_18 hd) (ln_18 _) L2.takes0 (by rfl) (hd.hgl 18 _ rfl).1 (hd.hgl 18 _ rfl).2 (SA.cons (.inl rfl) (SE.var rfl (.inr (.inl rfl))) (SA.cons (.inl rfl) (SE.var rfl (.inl rfl)) SA.nil)))))))))))) (SSs.one (SS.retRp SE.bl)) SSs.nil)
      (SSs.one (SS.retRp (SE.toRp (SE.blt1 (o := true) (all_F (by rfl)) (by rfl) (hd.hfr 7 _ rfl) boot_all (SE.toRd (SE.comp (own := [("row", 3)]) (vs := [3]) (hw := by exact fun h => nomatch h) rfl sN (SI.any (SE.var rfl (.inl rfl))) (blkOk_by (by rfl)) (fun _ _ _ _ _ => (SG.name sN rfl (.inl rfl) (by decide) (by decide : (3 : Nat) < 5))) (fun _ _ _ _ _ => ST.nil) (fun _ _ _ _ _ => (SE.toRp (SE.blt1 (o := true) (all_F (by rfl)) (by rfl) (hd.hfr 7 _ rfl) boot_all (SE.toRd (SE.comp (own := [("cell", 4)]) (vs := [4]) (hw := by exact fun h => nomatch h) rfl sN (SI.any (SE.call (o := false) I.h19 hr (bn_19 hd) (ln_19 _) L2.takes0 (by rfl) (hd.hgl 19 _ rfl).1 (hd.hgl 19 _ rfl).2 (SA.cons (.inl rfl) (SE.var rfl (.inl rfl)) SA.nil))) (blkOk_by (by rfl)) (fun _ _ _ _ _ => (SG.name sN rfl (.inl rfl) (by decide) (by decide : (4 : Nat) < 5))) (fun _ _ _ _ _ => ST.nil) (fun _ _ _ _ _ => (SE.toRp (SE.cmp lt_F (SE.toRd (SE.var rfl (.inl rfl))) (SE.toRd (SE.var rfl (.inr (.inl rfl)))) rfl)))))))))))))))
theorem sc_24 : FnScope ["thing", "prime", "many", "inputs", "outputs", "rows"] ["thing"] (defScope (top 36)) := ⟨rfl, rfl, rfl, by decide +kernel, rfl, by decide +kernel, by decide +kernel⟩
theorem ok_24 {n : Nat} (hd : HD K mg fds) (I : AllOk P w K mg base fds n) : FnOk P w K mg base (L2.CX P w) (n + 1) (He.ga K "is_sheet") (fds 24) ["thing"] (spF (gm K) 1 false (b_is_sheet (prog n))) :=
  have sN : List.Nodup (α := Str) ["thing", "prime", "many", "inputs", "outputs", "rows"] := sc_24.nd
  fn_ok (mv := []) (owN := []) (owL := []) (kr := .rp) (fd_24 hd) sc_24 rfl rfl (by decide) (fun h => nomatch h) fun cdv A outer s H E hr =>
    have tk := takesX (P := P) (w := w) (K := K) (mg := mg) (base := base) (N := ["thing", "prime", "many", "inputs", "outputs", "rows"]) (qual := "is_sheet") (scope := defScope (top 36)) (f := He.ga K "is_sheet") (cdv := cdv) (A := A) (outer := outer) (s := s) (H := H) (E := E)
    have px := passX (P := P) (w := w) (K := K) (mg := mg) (base := base) (N := ["thing", "prime", "many", "inputs", "outputs", "rows"]) (qual := "is_sheet") (scope := defScope (top 36)) (f := He.ga K "is_sheet") (cdv := cdv) (A := A) (outer := outer) (s := s) (H := H) (E := E)
    (SSs.cons (SS.ite (SX.bool (SW.or (SX.not (SX.val (SE.call (o := false) I.h4 hr (bn_4 hd) (ln_4 _) tk (by rfl) (hd.hgl 4 _ rfl).1 (hd.hgl 4 _ rfl).2 (SA.cons (.inl rfl) (SE.var rfl (.inl rfl)) (SA.cons (.inl rfl) (SE.glob (by rfl) (hd.hcs 3 _ _ rfl)) SA.nil))))) (SW.or (SX.not (SX.val (SE.call (o := false) I.h10 hr (bn_10 hd) (ln_10 _) tk (by rfl) (hd.hgl 10 _ rfl).1 (hd.hgl 10 _ rfl).2 (SA.cons (.inl rfl) (SE.ix (Room.u50 hr) (SE.toRd (SE.var rfl (.inl rfl))) (SE.toRd SE.int)) SA.nil)))) (SW.one_or (SX.not (SX.val (SE.call (o := false) I.h2 hr (bn_2 hd) (ln_2 _) tk (by rfl) (hd.hgl 2 _ rfl).1 (hd.hgl 2 _ rfl).2 (SA.cons (.inl rfl) (SE.ix (Room.u50 hr) (SE.toRd (SE.var rfl (.inl rfl))) (SE.toRd SE.int)) SA.nil)))))))) (SSs.one (SS.retRp SE.bl)) SSs.nil)
      (SSs.cons (SS.asg (SE.var rfl (.inl rfl)) (SG.tup (n := 0) rfl (SGs.cons (SG.name sN rfl (.inl rfl) (by decide) (by decide : (1 : Nat) < 6)) (SGs.cons (SG.name sN rfl (.inl rfl) (by decide) (by decide : (2 : Nat) < 6)) (SGs.cons (SG.name sN rfl (.inl rfl) (by decide) (by decide : (3 : Nat) < 6)) (SGs.cons (SG.name sN rfl (.inl rfl) (by decide) (by decide : (4 : Nat) < 6)) (SGs.cons (SG.name sN rfl (.inl rfl) (by decide) (by decide : (5 : Nat) < 6)) SGs.nil)))))))
      (SSs.one (SS.retRp (SE.and (SE.call (o := false) I.h8 hr (bn_8 hd) (ln_8 _) tk (by rfl) (hd.hgl 8 _ rfl).1 (hd.hgl 8 _ rfl).2 (SA.cons (.inl rfl) (SE.var rfl (.inl rfl)) (SA.cons (.inl rfl) (SE.var rfl (.inl rfl)) SA.nil))) (SE.and (SE.call (o := false) I.h7 hr (bn_7 hd) (ln_7 _) tk (by rfl) (hd.hgl 7 _ rfl).1 (hd.hgl 7 _ rfl).2 (SA.cons (.inl rfl) (SE.var rfl (.inl rfl)) (SA.cons (.inl rfl) (SE.var rfl (.inl rfl)) SA.nil))) (SE.one_bop (SE.call (o := false) I.h23 hr (bn_23 hd) (ln_23 _) tk (by rfl) (hd.hgl 23 _ rfl).1 (hd.hgl 23 _ rfl).2 (SA.cons (.inl rfl) (SE.var rfl (.inl rfl)) (SA.cons (.inl rfl) (SE.var rfl (.inl rfl)) (SA.cons (.inl rfl) (SE.var rfl (.inl rfl)) SA.nil)))))))))))
theorem sc_25 : FnScope ["sheet", "own"] ["sheet"] (defScope (top 37)) := ⟨rfl, rfl, rfl, by decide +kernel, rfl, by decide +kernel, by decide +kernel⟩
theorem ok_25 {n : Nat} (hd : HD K mg fds) (I : AllOk P w K mg base fds n) : FnOk P w K mg base (L2.CX P w) (n + 1) (He.ga K "sure_sheet") (fds 25) ["sheet"] (spF (gm K) 1 false (b_sure_sheet (prog n))) :=
  have sN : List.Nodup (α := Str) ["sheet", "own"] := sc_25.nd
  fn_ok (mv := []) (owN := []) (owL := []) (kr := .rp) (fd_25 hd) sc_25 rfl rfl (by decide) (fun h => nomatch h) fun cdv A outer s H E hr =>
    have tk := takesX (P := P) (w := w) (K := K) (mg := mg) (base := base) (N := ["sheet", "own"]) (qual := "sure_sheet") (scope := defScope (top 37)) (f := He.ga K "sure_sheet") (cdv := cdv) (A := A) (outer := outer) (s := s) (H := H) (E := E)
    have px := passX (P := P) (w := w) (K := K) (mg := mg) (base := base) (N := ["sheet", "own"]) (qual := "sure_sheet") (scope := defScope (top 37)) (f := He.ga K "sure_sheet") (cdv := cdv) (A := A) (outer := outer) (s := s) (H := H) (E := E)
    (SSs.cons (SS.asg (SE.call (o := false) I.h0 hr (bn_0 hd) (ln_0 _) tk (by rfl) (hd.hgl 0 _ rfl).1 (hd.hgl 0 _ rfl).2 (SA.cons (.inl rfl) (SE.var rfl (.inl rfl)) SA.nil)) (SG.name sN rfl (.inl rfl) (by decide) (by decide : (1 : Nat) < 2)))
      (SSs.cons (SS.ite (SX.not (SX.val (SE.call (o := false) I.h24 hr (bn_24 hd) (ln_24 _) tk (by rfl) (hd.hgl 24 _ rfl).1 (hd.hgl 24 _ rfl).2 (SA.cons (.inl rfl) (SE.var rfl (.inl rfl)) SA.nil)))) (SSs.one (SS.raiseE (by rfl) tk (hd.hec 0 _ rfl) (by rfl) (by rfl))) SSs.nil)
      (SSs.one (SS.retRp (SE.var rfl (.inl rfl))))))
theorem sc_26 : FnScope ["prime", "rows", "known", "found", "place", "row", "own"] ["prime", "rows", "known"] (defScope (top 43)) := ⟨rfl, rfl, rfl, by decide +kernel, rfl, by decide +kernel, by decide +kernel⟩
theorem ok_26 {n : Nat} (hd : HD K mg fds) (I : AllOk P w K mg base fds n) : FnOk P w K mg base (L2.CX P w) (n + 1) (He.ga K "straight_ones") (fds 26) ["prime", "rows", "known"] (spF (gm K) 3 false (b_straight_ones (prog n))) :=
  have sN : List.Nodup (α := Str) ["prime", "rows", "known", "found", "place", "row", "own"] := sc_26.nd
  fn_ok (mv := [3]) (owN := []) (owL := []) (kr := .rp) (fd_26 hd) sc_26 rfl rfl (by decide) (fun h => nomatch h) fun cdv A outer s H E hr =>
    have tk := takesX (P := P) (w := w) (K := K) (mg := mg) (base := base) (N := ["prime", "rows", "known", "found", "place", "row", "own"]) (qual := "straight_ones") (scope := defScope (top 43)) (f := He.ga K "straight_ones") (cdv := cdv) (A := A) (outer := outer) (s := s) (H := H) (E := E)
    have px := passX (P := P) (w := w) (K := K) (mg := mg) (base := base) (N := ["prime", "rows", "known", "found", "place", "row", "own"]) (qual := "straight_ones") (scope := defScope (top 43)) (f := He.ga K "straight_ones") (cdv := cdv) (A := A) (outer := outer) (s := s) (H := H) (E := E)
    (SSs.cons (SS.asgMv sN rfl (.inl rfl) (by decide) (by decide : (3 : Nat) < 7) (SE.lst SA.nil) rfl)
      (SSs.cons (SS.for_ (hw := by exact fun _ => ⟨_, rfl⟩) (by exact fun h => nomatch h) px rfl (SI.enum (by rfl) (hd.hfr 12 _ rfl) (SA.cons (.inl rfl) (SE.var rfl (.inl rfl)) SA.nil)) (SG.tup (n := 0) rfl (SGs.cons (SG.name sN rfl (.inl rfl) (by decide) (by decide : (4 : Nat) < 7)) (SGs.cons (SG.name sN rfl (.inl rfl) (by decide) (by decide : (5 : Nat) < 7)) SGs.nil))) (SSs.cons (SS.asg (SE.call (o := false) I.h21 hr (bn_21 hd) (ln_21 _) (takes_unl tk) (by rfl) (hd.hgl 21 _ rfl).1 (hd.hgl 21 _ rfl).2 (SA.cons (.inl rfl) (SE.var rfl (.inl rfl)) (SA.cons (.inl rfl) (SE.call (o := false) I.h22 hr (bn_22 hd) (ln_22 _) (takes_unl tk) (by rfl) (hd.hgl 22 _ rfl).1 (hd.hgl 22 _ rfl).2 (SA.cons (.inl rfl) (SE.var rfl (.inl rfl)) (SA.cons (.inl rfl) (SE.var rfl (.inl rfl)) (SA.cons (.inl rfl) (SE.var rfl (.inl rfl)) SA.nil)))) SA.nil))) (SG.name sN rfl (.inl rfl) (by decide) (by decide : (6 : Nat) < 7)))
      (SSs.one (SS.ite (SX.cmp isn_F (SE.toRd (SE.var rfl (.inl rfl))) (SE.toRd SE.non) rfl) (SSs.one (SS.app rfl (.inl rfl) (by decide) (by decide) (SE.toRp (SE.tup (SA.cons (.inl rfl) (SE.var rfl (.inl rfl)) (SA.cons (.inl rfl) (SE.toRp (SE.dct1 (SE.var rfl (.inl rfl)) SE.int)) SA.nil)))))) SSs.nil))))
      (SSs.one (SS.retRp (SE.mvF rfl (.inl rfl))))))
theorem sc_27 : FnScope ["prime", "one", "other", "often", "times", "place"] ["prime", "one", "other", "often"] (defScope (top 44)) := ⟨rfl, rfl, rfl, by decide +kernel, rfl, by decide +kernel, by decide +kernel⟩
theorem ok_27 {n : Nat} (hd : HD K mg fds) (I : AllOk P w K mg base fds n) : FnOk P w K mg base (L2.CX P w) (n + 1) (He.ga K "mixed") (fds 27) ["prime", "one", "other", "often"] (spF (gm K) 4 false (b_mixed (prog n))) :=
  have sN : List.Nodup (α := Str) ["prime", "one", "other", "often", "times", "place"] := sc_27.nd
  fn_ok (mv := [4]) (owN := []) (owL := []) (kr := .rp) (fd_27 hd) sc_27 rfl rfl (by decide) (fun h => nomatch h) fun cdv A outer s H E hr =>
    have tk := takesX (P := P) (w := w) (K := K) (mg := mg) (base := base) (N := ["prime", "one", "other", "often", "times", "place"]) (qual := "mixed") (scope := defScope (top 44)) (f := He.ga K "mixed") (cdv := cdv) (A := A) (outer := outer) (s := s) (H := H) (E := E)
    have px := passX (P := P) (w := w) (K := K) (mg := mg) (base := base) (N := ["prime", "one", "other", "often", "times", "place"]) (qual := "mixed") (scope := defScope (top 44)) (f := He.ga K "mixed") (cdv := cdv) (A := A) (outer := outer) (s := s) (H := H) (E := E)
    (SSs.cons (SS.asgMv sN rfl (.inl rfl) (by decide) (by decide : (4 : Nat) < 6) (SE.dict (by rfl) (by rfl) (hd.hfr 10 _ rfl) (SE.toRd (SE.ix (Room.u50 hr) (SE.toRd (SE.var rfl (.inl rfl))) (SE.toRd SE.int)))) rfl)
      (SSs.cons (SS.for_ (hw := by exact fun h => nomatch h) (by exact fun h => nomatch h) px rfl (SI.any (SE.ix (Room.u50 hr) (SE.toRd (SE.var rfl (.inl rfl))) (SE.toRd SE.int))) (SG.name sN rfl (.inl rfl) (by decide) (by decide : (5 : Nat) < 6)) (SSs.one (SS.put (Room.u50 hr) rfl (.inl rfl) (by decide) (SE.toRp (SE.op op_modD (SE.toRd (SE.op op_addD (SE.toRd (SE.get (Room.u50 hr) (SE.mvR rfl (.inl rfl)) (SE.var rfl (.inl rfl)) SE.int ⟨rfl, rfl, rfl, rfl⟩)) (SE.toRd (SE.op op_mulD (SE.toRd (SE.var rfl (.inl rfl))) (SE.toRd (SE.ix (Room.u50 hr) (SE.toRd (SE.ix (Room.u50 hr) (SE.toRd (SE.var rfl (.inl rfl))) (SE.toRd SE.int))) (SE.toRd (SE.var rfl (.inl rfl))))))))) (SE.toRd (SE.var rfl (.inl rfl))))) (SE.var rfl (.inl rfl)))))
      (SSs.one (SS.retRp (SE.toRp (SE.tup (SA.cons (.inl rfl) (SE.call (o := false) I.h15 hr (bn_15 hd) (ln_15 _) tk (by rfl) (hd.hgl 15 _ rfl).1 (hd.hgl 15 _ rfl).2 (SA.cons (.inl rfl) (SE.var rfl (.inl rfl)) (SA.cons (.inl rfl) (SE.ix (Room.u50 hr) (SE.toRd (SE.var rfl (.inl rfl))) (SE.toRd SE.int)) (SA.cons (.inl rfl) (SE.ix (Room.u50 hr) (SE.toRd (SE.var rfl (.inl rfl))) (SE.toRd SE.int)) (SA.cons (.inl rfl) (SE.var rfl (.inl rfl)) SA.nil))))) (SA.cons (.inl rfl) (SE.mvF rfl (.inl rfl)) SA.nil))))))))
theorem sc_28 : FnScope ["told", "cell"] ["told", "cell"] (defScope (top 45)) := ⟨rfl, rfl, rfl, by decide +kernel, rfl, by decide +kernel, by decide +kernel⟩
theorem ok_28 {n : Nat} (hd : HD K mg fds) (I : AllOk P w K mg base fds n) : FnOk P w K mg base (L2.CX P w) (n + 1) (He.ga K "part_of") (fds 28) ["told", "cell"] (spF (gm K) 2 false (b_part_of (prog n))) :=
  have sN : List.Nodup (α := Str) ["told", "cell"] := sc_28.nd
  fn_ok (mv := []) (owN := []) (owL := []) (kr := .rp) (fd_28 hd) sc_28 rfl rfl (by decide) (fun h => nomatch h) fun cdv A outer s H E hr =>
    have tk := takesX (P := P) (w := w) (K := K) (mg := mg) (base := base) (N := ["told", "cell"]) (qual := "part_of") (scope := defScope (top 45)) (f := He.ga K "part_of") (cdv := cdv) (A := A) (outer := outer) (s := s) (H := H) (E := E)
    have px := passX (P := P) (w := w) (K := K) (mg := mg) (base := base) (N := ["told", "cell"]) (qual := "part_of") (scope := defScope (top 45)) (f := He.ga K "part_of") (cdv := cdv) (A := A) (outer := outer) (s := s) (H := H) (E := E)
    (SSs.one (SS.retRp (SE.get (Room.u50 hr) (SE.toRd (SE.dict (by rfl) (by rfl) (hd.hfr 10 _ rfl) (SE.toRd (SE.ix (Room.u50 hr) (SE.toRd (SE.var rfl (.inl rfl))) (SE.toRd SE.int))))) (SE.var rfl (.inl rfl)) SE.int ⟨rfl, rfl, rfl, rfl⟩)))
theorem sc_29 : FnScope ["prime", "pair", "heads", "found", "cell", "head", "much"] ["prime", "pair", "heads"] (defScope (top 46)) := ⟨rfl, rfl, rfl, by decide +kernel, rfl, by decide +kernel, by decide +kernel⟩
theorem ok_29 {n : Nat} (hd : HD K mg fds) (I : AllOk P w K mg base fds n) : FnOk P w K mg base (L2.CX P w) (n + 1) (He.ga K "cleared") (fds 29) ["prime", "pair", "heads"] (spF (gm K) 3 false (b_cleared (prog n))) :=
  have sN : List.Nodup (α := Str) ["prime", "pair", "heads", "found", "cell", "head", "much"] := sc_29.nd
  fn_ok (mv := []) (owN := []) (owL := []) (kr := .rp) (fd_29 hd) sc_29 rfl rfl (by decide) (fun h => nomatch h) fun cdv A outer s H E hr =>
    have tk := takesX (P := P) (w := w) (K := K) (mg := mg) (base := base) (N := ["prime", "pair", "heads", "found", "cell", "head", "much"]) (qual := "cleared") (scope := defScope (top 46)) (f := He.ga K "cleared") (cdv := cdv) (A := A) (outer := outer) (s := s) (H := H) (E := E)
    have px := passX (P := P) (w := w) (K := K) (mg := mg) (base := base) (N := ["prime", "pair", "heads", "found", "cell", "head", "much"]) (qual := "cleared") (scope := defScope (top 46)) (f := He.ga K "cleared") (cdv := cdv) (A := A) (outer := outer) (s := s) (H := H) (E := E)
    (SSs.cons (SS.asg (SE.var rfl (.inl rfl)) (SG.name sN rfl (.inl rfl) (by decide) (by decide : (3 : Nat) < 7)))
      (SSs.cons (SS.for_ (hw := by exact fun h => nomatch h) (by exact fun h => nomatch h) px rfl (SI.any (SE.var rfl (.inl rfl))) (SG.tup (n := 0) rfl (SGs.cons (SG.name sN rfl (.inl rfl) (by decide) (by decide : (4 : Nat) < 7)) (SGs.cons (SG.name sN rfl (.inl rfl) (by decide) (by decide : (5 : Nat) < 7)) SGs.nil))) (SSs.cons (SS.asg (SE.call (o := false) I.h28 hr (bn_28 hd) (ln_28 _) (takes_unl tk) (by rfl) (hd.hgl 28 _ rfl).1 (hd.hgl 28 _ rfl).2 (SA.cons (.inl rfl) (SE.ix (Room.u50 hr) (SE.toRd (SE.var rfl (.inl rfl))) (SE.toRd SE.int)) (SA.cons (.inl rfl) (SE.var rfl (.inl rfl)) SA.nil))) (SG.name sN rfl (.inl rfl) (by decide) (by decide : (6 : Nat) < 7)))
      (SSs.one (SS.ite (SX.cmp (ne_F (Room.u50 hr)) (SE.toRd (SE.var rfl (.inl rfl))) (SE.toRd SE.int) rfl) (SSs.one (SS.asg (SE.call (o := false) I.h27 hr (bn_27 hd) (ln_27 _) (takes_unl tk) (by rfl) (hd.hgl 27 _ rfl).1 (hd.hgl 27 _ rfl).2 (SA.cons (.inl rfl) (SE.var rfl (.inl rfl)) (SA.cons (.inl rfl) (SE.var rfl (.inl rfl)) (SA.cons (.inl rfl) (SE.var rfl (.inl rfl)) (SA.cons (.inl rfl) (SE.toRp (SE.un un_negD (SE.toRd (SE.var rfl (.inl rfl))))) SA.nil))))) (SG.name sN rfl (.inl rfl) (by decide) (by decide : (3 : Nat) < 7)))) SSs.nil))))
      (SSs.one (SS.retRp (SE.var rfl (.inl rfl))))))
theorem sc_30 : FnScope ["prime", "pairs", "heads", "broken", "pair", "own", "cell", "much", "name", "head"] ["prime", "pairs"] (defScope (top 47)) := ⟨rfl, rfl, rfl, by decide +kernel, rfl, by decide +kernel, by decide +kernel⟩
theorem ok_30 {n : Nat} (hd : HD K mg fds) (I : AllOk P w K mg base fds n) : FnOk P w K mg base (L2.CX P w) (n + 1) (He.ga K "reduced") (fds 30) ["prime", "pairs"] (spF (gm K) 2 false (b_reduced (prog n))) :=
  have sN : List.Nodup (α := Str) ["prime", "pairs", "heads", "broken", "pair", "own", "cell", "much", "name", "head"] := sc_30.nd
  fn_ok (mv := []) (owN := []) (owL := []) (kr := .rp) (fd_30 hd) sc_30 rfl rfl (by decide) (fun h => nomatch h) fun cdv A outer s H E hr =>
    have tk := takesX (P := P) (w := w) (K := K) (mg := mg) (base := base) (N := ["prime", "pairs", "heads", "broken", "pair", "own", "cell", "much", "name", "head"]) (qual := "reduced") (scope := defScope (top 47)) (f := He.ga K "reduced") (cdv := cdv) (A := A) (outer := outer) (s := s) (H := H) (E := E)
    have px := passX (P := P) (w := w) (K := K) (mg := mg) (base := base) (N := ["prime", "pairs", "heads", "broken", "pair", "own", "cell", "much", "name", "head"]) (qual := "reduced") (scope := defScope (top 47)) (f := He.ga K "reduced") (cdv := cdv) (A := A) (outer := outer) (s := s) (H := H) (E := E)
    (SSs.cons (SS.parL (b1 := false) rfl sN rfl rfl (by decide) (by decide : (2 : Nat) < 10) (by decide : (3 : Nat) < 10) rfl rfl (by decide) (fun h => nomatch h) (fun _ => by decide) (SE.toRp (SE.lst SA.nil)) SE.non rfl rfl rfl rfl)
      (SSs.cons (SS.for_ (hw := by exact fun h => nomatch h) (by exact fun h => nomatch h) px rfl (SI.any (SE.var rfl (.inl rfl))) (SG.name sN rfl (.inl rfl) (by decide) (by decide : (4 : Nat) < 10)) (SSs.cons (SS.asg (SE.call (o := false) I.h29 hr (bn_29 hd) (ln_29 _) (takes_unl tk) (by rfl) (hd.hgl 29 _ rfl).1 (hd.hgl 29 _ rfl).2 (SA.cons (.inl rfl) (SE.var rfl (.inr (.inl rfl))) (SA.cons (.inl rfl) (SE.var rfl (.inl rfl)) (SA.cons (.inl rfl) (SE.var rfl (.inl rfl)) SA.nil)))) (SG.name sN rfl (.inr rfl) (by decide) (by decide : (5 : Nat) < 10)))
      (SSs.cons (SS.ite (SX.cmp (eq_F (Room.u50 hr)) (SE.toRd (SE.ix (Room.u50 hr) (SE.toRd (SE.ix (Room.u50 hr) (SE.toRd (SE.var rfl (.inr (.inl rfl)))) (SE.toRd SE.int))) (SE.toRd SE.int))) (SE.toRd (SE.tup SA.nil)) rfl) (SSs.cons (SS.asg (SE.ife (SX.bool (SW.and (SX.cmp (ne_F (Room.u50 hr)) (SE.toRd (SE.ix (Room.u50 hr) (SE.toRd (SE.ix (Room.u50 hr) (SE.toRd (SE.var rfl (.inr (.inl rfl)))) (SE.toRd SE.int))) (SE.toRd SE.int))) (SE.toRd SE.int) rfl) (SW.one_and (SX.cmp is_F (SE.toRd (SE.var rfl (.inl rfl))) (SE.toRd SE.non) rfl)))) (SE.var rfl (.inr (.inl rfl))) (SE.var rfl (.inl rfl))) (SG.name sN rfl (.inl rfl) (by decide) (by decide : (3 : Nat) < 10)))
      (SSs.one SS.cnt)) SSs.nil)
      (SSs.cons (SS.asg (SE.ix (Room.u50 hr) (SE.toRd (SE.ix (Room.u50 hr) (SE.toRd (SE.ix (Room.u50 hr) (SE.toRd (SE.var rfl (.inr (.inl rfl)))) (SE.toRd SE.int))) (SE.toRd SE.int))) (SE.toRd SE.int)) (SG.tup (n := 0) rfl (SGs.cons (SG.name sN rfl (.inr rfl) (by decide) (by decide : (6 : Nat) < 10)) (SGs.cons (SG.name sN rfl (.inl rfl) (by decide) (by decide : (7 : Nat) < 10)) SGs.nil))))
      (SSs.cons (SS.asg (SE.call (o := false) I.h27 hr (bn_27 hd) (ln_27 _) (takes_unl tk) (by rfl) (hd.hgl 27 _ rfl).1 (hd.hgl 27 _ rfl).2 (SA.cons (.inl rfl) (SE.var rfl (.inr (.inl rfl))) (SA.cons (.inl rfl) (SE.toRp (SE.tup (SA.cons (.inl rfl) (SE.glob (by rfl) (hd.hcs 4 _ _ rfl)) (SA.cons (.inl rfl) (SE.toRp SE.dct0) SA.nil)))) (SA.cons (.inl rfl) (SE.var rfl (.inr (.inl rfl))) (SA.cons (.inl rfl) (SE.call (o := false) I.h11 hr (bn_11 hd) (ln_11 _) (takes_unl tk) (by rfl) (hd.hgl 11 _ rfl).1 (hd.hgl 11 _ rfl).2 (SA.cons (.inl rfl) (SE.var rfl (.inr (.inl rfl))) (SA.cons (.inl rfl) (SE.var rfl (.inl rfl)) SA.nil))) SA.nil))))) (SG.name sN rfl (.inr rfl) (by decide) (by decide : (5 : Nat) < 10)))
      (SSs.one (SS.asg (SE.toRp (SE.op op_addD (SE.toRd (SE.comp (own := [("name", 8), ("head", 9)]) (vs := [8, 9]) (hw := by exact fun h => nomatch h) rfl sN (SI.any (SE.var rfl (.inl rfl))) (blkOk_by (by rfl)) (fun _ _ _ _ _ => (SG.tup (n := 0) rfl (SGs.cons (SG.name sN rfl (.inl rfl) (by decide) (by decide : (8 : Nat) < 10)) (SGs.cons (SG.name sN rfl (.inl rfl) (by decide) (by decide : (9 : Nat) < 10)) SGs.nil)))) (fun _ _ _ _ _ => ST.nil) (fun _ _ _ _ _ => (SE.toRp (SE.tup (SA.cons (.inl rfl) (SE.var rfl (.inl rfl)) (SA.cons (.inl rfl) (SE.call (o := false) I.h29 hr (bn_29 hd) (ln_29 _) L2.takes0 (by rfl) (hd.hgl 29 _ rfl).1 (hd.hgl 29 _ rfl).2 (SA.cons (.inl rfl) (SE.var rfl (.inr (.inl rfl))) (SA.cons (.inl rfl) (SE.var rfl (.inl rfl)) (SA.cons (.inl rfl) (SE.toRp (SE.lst (SA.cons (.inl rfl) (SE.toRp (SE.tup (SA.cons (.inl rfl) (SE.var rfl (.inr (.inl rfl))) (SA.cons (.inl rfl) (SE.var rfl (.inr (.inl rfl))) SA.nil)))) SA.nil))) SA.nil)))) SA.nil))))))) (SE.toRd (SE.lst (SA.cons (.inl rfl) (SE.toRp (SE.tup (SA.cons (.inl rfl) (SE.var rfl (.inr (.inl rfl))) (SA.cons (.inl rfl) (SE.var rfl (.inr (.inl rfl))) SA.nil)))) SA.nil))))) (SG.name sN rfl (.inl rfl) (by decide) (by decide : (2 : Nat) < 10)))))))))
      (SSs.one (SS.retRp (SE.toRp (SE.tup (SA.cons (.inl rfl) (SE.var rfl (.inl rfl)) (SA.cons (.inl rfl) (SE.var rfl (.inl rfl)) SA.nil))))))))
theorem sc_31 : FnScope ["times", "place"] ["times"] (defScope (top 48)) := ⟨rfl, rfl, rfl, by decide +kernel, rfl, by decide +kernel, by decide +kernel⟩
theorem ok_31 {n : Nat} (hd : HD K mg fds) (I : AllOk P w K mg base fds n) : FnOk P w K mg base (L2.CX P w) (n + 1) (He.ga K "times_told") (fds 31) ["times"] (spF (gm K) 1 false (b_times_told (prog n))) :=
  have sN : List.Nodup (α := Str) ["times", "place"] := sc_31.nd
  fn_ok (mv := []) (owN := []) (owL := []) (kr := .rp) (fd_31 hd) sc_31 rfl rfl (by decide) (fun h => nomatch h) fun cdv A outer s H E hr =>
    have tk := takesX (P := P) (w := w) (K := K) (mg := mg) (base := base) (N := ["times", "place"]) (qual := "times_told") (scope := defScope (top 48)) (f := He.ga K "times_told") (cdv := cdv) (A := A) (outer := outer) (s := s) (H := H) (E := E)
    have px := passX (P := P) (w := w) (K := K) (mg := mg) (base := base) (N := ["times", "place"]) (qual := "times_told") (scope := defScope (top 48)) (f := He.ga K "times_told") (cdv := cdv) (A := A) (outer := outer) (s := s) (H := H) (E := E)
    (SSs.one (SS.retRp (SE.toRp (SE.ty1 (o := true) tuple_F (by rfl) (hd.hfr 2 _ rfl) boot_tuple (SE.toRd (SE.comp (own := [("place", 1)]) (vs := [1]) (hw := by exact fun h => nomatch h) rfl sN (SI.any (SE.toRp (SE.blt1 (o := true) (sorted_F (by rfl)) (by rfl) (hd.hfr 8 _ rfl) boot_sorted (SE.toRd (SE.var rfl (.inr (.inl rfl))))))) (blkOk_by (by rfl)) (fun _ _ _ _ _ => (SG.name sN rfl (.inl rfl) (by decide) (by decide : (1 : Nat) < 2))) (fun _ _ _ _ _ => (ST.one (SX.cmp (ne_F (Room.u50 hr)) (SE.toRd (SE.ix (Room.u50 hr) (SE.toRd (SE.var rfl (.inr (.inl rfl)))) (SE.toRd (SE.var rfl (.inl rfl))))) (SE.toRd SE.int) rfl))) (fun _ _ _ _ _ => (SE.toRp (SE.tup (SA.cons (.inl rfl) (SE.var rfl (.inl rfl)) (SA.cons (.inl rfl) (SE.ix (Room.u50 hr) (SE.toRd (SE.var rfl (.inr (.inl rfl)))) (SE.toRd (SE.var rfl (.inl rfl)))) SA.nil)))))))))))
theorem sc_32 : FnScope ["prime", "goal", "known"] ["prime", "goal", "known"] (defScope (top 49)) := ⟨rfl, rfl, rfl, by decide +kernel, rfl, by decide +kernel, by decide +kernel⟩
theorem ok_32 {n : Nat} (hd : HD K mg fds) (I : AllOk P w K mg base fds n) : FnOk P w K mg base (L2.CX P w) (n + 1) (He.ga K "goal_sum") (fds 32) ["prime", "goal", "known"] (spF (gm K) 3 false (b_goal_sum (prog n))) :=
  have sN : List.Nodup (α := Str) ["prime", "goal", "known"] := sc_32.nd
  fn_ok (mv := []) (owN := []) (owL := []) (kr := .rp) (fd_32 hd) sc_32 rfl rfl (by decide) (fun h => nomatch h) fun cdv A outer s H E hr =>
    have tk := takesX (P := P) (w := w) (K := K) (mg := mg) (base := base) (N := ["prime", "goal", "known"]) (qual := "goal_sum") (scope := defScope (top 49)) (f := He.ga K "goal_sum") (cdv := cdv) (A := A) (outer := outer) (s := s) (H := H) (E := E)
    have px := passX (P := P) (w := w) (K := K) (mg := mg) (base := base) (N := ["prime", "goal", "known"]) (qual := "goal_sum") (scope := defScope (top 49)) (f := He.ga K "goal_sum") (cdv := cdv) (A := A) (outer := outer) (s := s) (H := H) (E := E)
    (SSs.one (SS.retRp (SE.ife (SX.cmp isn_F (SE.toRd (SE.var rfl (.inl rfl))) (SE.toRd SE.non) rfl) (SE.call (o := false) I.h21 hr (bn_21 hd) (ln_21 _) tk (by rfl) (hd.hgl 21 _ rfl).1 (hd.hgl 21 _ rfl).2 (SA.cons (.inl rfl) (SE.var rfl (.inl rfl)) (SA.cons (.inl rfl) (SE.call (o := false) I.h22 hr (bn_22 hd) (ln_22 _) tk (by rfl) (hd.hgl 22 _ rfl).1 (hd.hgl 22 _ rfl).2 (SA.cons (.inl rfl) (SE.var rfl (.inl rfl)) (SA.cons (.inl rfl) (SE.var rfl (.inl rfl)) (SA.cons (.inl rfl) (SE.var rfl (.inl rfl)) SA.nil)))) SA.nil))) SE.non)))
theorem sc_33 : FnScope ["prime", "aim", "heads", "left", "place"] ["prime", "aim", "heads"] (defScope (top 50)) := ⟨rfl, rfl, rfl, by decide +kernel, rfl, by decide +kernel, by decide +kernel⟩
theorem ok_33 {n : Nat} (hd : HD K mg fds) (I : AllOk P w K mg base fds n) : FnOk P w K mg base (L2.CX P w) (n + 1) (He.ga K "shown_by") (fds 33) ["prime", "aim", "heads"] (spF (gm K) 3 false (b_shown_by (prog n))) :=
  have sN : List.Nodup (α := Str) ["prime", "aim", "heads", "left", "place"] := sc_33.nd
  fn_ok (mv := []) (owN := []) (owL := []) (kr := .rp) (fd_33 hd) sc_33 rfl rfl (by decide) (fun h => nomatch h) fun cdv A outer s H E hr =>
    have tk := takesX (P := P) (w := w) (K := K) (mg := mg) (base := base) (N := ["prime", "aim", "heads", "left", "place"]) (qual := "shown_by") (scope := defScope (top 50)) (f := He.ga K "shown_by") (cdv := cdv) (A := A) (outer := outer) (s := s) (H := H) (E := E)
    have px := passX (P := P) (w := w) (K := K) (mg := mg) (base := base) (N := ["prime", "aim", "heads", "left", "place"]) (qual := "shown_by") (scope := defScope (top 50)) (f := He.ga K "shown_by") (cdv := cdv) (A := A) (outer := outer) (s := s) (H := H) (E := E)
    (SSs.cons (SS.ite (SX.cmp is_F (SE.toRd (SE.var rfl (.inl rfl))) (SE.toRd SE.non) rfl) (SSs.one (SS.retRp SE.non)) SSs.nil)
      (SSs.cons (SS.asg (SE.call (o := false) I.h29 hr (bn_29 hd) (ln_29 _) tk (by rfl) (hd.hgl 29 _ rfl).1 (hd.hgl 29 _ rfl).2 (SA.cons (.inl rfl) (SE.var rfl (.inr (.inl rfl))) (SA.cons (.inl rfl) (SE.toRp (SE.tup (SA.cons (.inl rfl) (SE.var rfl (.inl rfl)) (SA.cons (.inl rfl) (SE.toRp SE.dct0) SA.nil)))) (SA.cons (.inl rfl) (SE.var rfl (.inl rfl)) SA.nil)))) (SG.name sN rfl (.inr rfl) (by decide) (by decide : (3 : Nat) < 5)))
      (SSs.cons (SS.ite (SX.cmp (ne_F (Room.u50 hr)) (SE.toRd (SE.ix (Room.u50 hr) (SE.toRd (SE.var rfl (.inr (.inl rfl)))) (SE.toRd SE.int))) (SE.toRd (SE.glob (by rfl) (hd.hcs 4 _ _ rfl))) rfl) (SSs.one (SS.retRp SE.non)) SSs.nil)
      (SSs.one (SS.retRp (SE.toRp (SE.dict (by rfl) (by rfl) (hd.hfr 10 _ rfl) (SE.toRd (SE.comp (own := [("place", 4)]) (vs := [4]) (hw := by exact fun h => nomatch h) rfl sN (SI.any (SE.ix (Room.u50 hr) (SE.toRd (SE.var rfl (.inr (.inl rfl)))) (SE.toRd SE.int))) (blkOk_by (by rfl)) (fun _ _ _ _ _ => (SG.name sN rfl (.inl rfl) (by decide) (by decide : (4 : Nat) < 5))) (fun _ _ _ _ _ => ST.nil) (fun _ _ _ _ _ => (SE.toRp (SE.tup (SA.cons (.inl rfl) (SE.var rfl (.inl rfl)) (SA.cons (.inl rfl) (SE.toRp (SE.op op_modD (SE.toRd (SE.un un_negD (SE.toRd (SE.ix (Room.u50 hr) (SE.toRd (SE.ix (Room.u50 hr) (SE.toRd (SE.var rfl (.inr (.inl rfl)))) (SE.toRd SE.int))) (SE.toRd (SE.var rfl (.inl rfl))))))) (SE.toRd (SE.var rfl (.inr (.inl rfl)))))) SA.nil))))))))))))))
theorem sc_34 : FnScope ["prime", "rows", "goal", "known", "row", "own"] ["prime", "rows", "goal", "known"] (defScope (top 51)) := ⟨rfl, rfl, rfl, by decide +kernel, rfl, by decide +kernel, by decide +kernel⟩
theorem ok_34 {n : Nat} (hd : HD K mg fds) (I : AllOk P w K mg base fds n) : FnOk P w K mg base (L2.CX P w) (n + 1) (He.ga K "cell_to_cut") (fds 34) ["prime", "rows", "goal", "known"] (spF (gm K) 4 false (b_cell_to_cut (prog n))) :=
  have sN : List.Nodup (α := Str) ["prime", "rows", "goal", "known", "row", "own"] := sc_34.nd
  fn_ok (mv := []) (owN := []) (owL := []) (kr := .rp) (fd_34 hd) sc_34 rfl rfl (by decide) (fun h => nomatch h) fun cdv A outer s H E hr =>
    have tk := takesX (P := P) (w := w) (K := K) (mg := mg) (base := base) (N := ["prime", "rows", "goal", "known", "row", "own"]) (qual := "cell_to_cut") (scope := defScope (top 51)) (f := He.ga K "cell_to_cut") (cdv := cdv) (A := A) (outer := outer) (s := s) (H := H) (E := E)
    have px := passX (P := P) (w := w) (K := K) (mg := mg) (base := base) (N := ["prime", "rows", "goal", "known", "row", "own"]) (qual := "cell_to_cut") (scope := defScope (top 51)) (f := He.ga K "cell_to_cut") (cdv := cdv) (A := A) (outer := outer) (s := s) (H := H) (E := E)
    (SSs.cons (SS.for_ (hw := by exact fun h => nomatch h) (by exact fun h => nomatch h) px rfl (SI.any (SE.toRp (SE.op op_addD (SE.toRd (SE.var rfl (.inl rfl))) (SE.toRd (SE.ife (SX.cmp isn_F (SE.toRd (SE.var rfl (.inl rfl))) (SE.toRd SE.non) rfl) (SE.tup (SA.cons (.inl rfl) (SE.var rfl (.inl rfl)) SA.nil)) (SE.tup SA.nil)))))) (SG.name sN rfl (.inl rfl) (by decide) (by decide : (4 : Nat) < 6)) (SSs.cons (SS.asg (SE.call (o := false) I.h22 hr (bn_22 hd) (ln_22 _) (takes_unl tk) (by rfl) (hd.hgl 22 _ rfl).1 (hd.hgl 22 _ rfl).2 (SA.cons (.inl rfl) (SE.var rfl (.inl rfl)) (SA.cons (.inl rfl) (SE.var rfl (.inl rfl)) (SA.cons (.inl rfl) (SE.var rfl (.inl rfl)) SA.nil)))) (SG.name sN rfl (.inl rfl) (by decide) (by decide : (5 : Nat) < 6)))
      (SSs.one (SS.ite (SX.cmp is_F (SE.toRd (SE.call (o := false) I.h21 hr (bn_21 hd) (ln_21 _) (takes_unl tk) (by rfl) (hd.hgl 21 _ rfl).1 (hd.hgl 21 _ rfl).2 (SA.cons (.inl rfl) (SE.var rfl (.inl rfl)) (SA.cons (.inl rfl) (SE.var rfl (.inl rfl)) SA.nil)))) (SE.toRd SE.non) rfl) (SSs.one (SS.retRp (SE.toRp (SE.blt2 (o := true) (min2_F (by rfl)) (by rfl) (hd.hfr 13 _ rfl) boot_min (SE.toRd (SE.ix (Room.u50 hr) (SE.toRd (SE.ix (Room.u50 hr) (SE.toRd (SE.ix (Room.u50 hr) (SE.toRd (SE.ix (Room.u50 hr) (SE.toRd (SE.var rfl (.inl rfl))) (SE.toRd SE.int))) (SE.toRd SE.int))) (SE.toRd SE.int))) (SE.toRd SE.int))) (SE.toRd (SE.ix (Room.u50 hr) (SE.toRd (SE.ix (Room.u50 hr) (SE.toRd (SE.ix (Room.u50 hr) (SE.toRd (SE.ix (Room.u50 hr) (SE.toRd (SE.var rfl (.inl rfl))) (SE.toRd SE.int))) (SE.toRd SE.int))) (SE.toRd SE.int))) (SE.toRd SE.int))))))) SSs.nil))))
      (SSs.one (SS.retRp SE.non)))
theorem sc_35 : FnScope ["prime", "many", "heads", "known", "free", "table", "cell", "told", "_", "much", "name", "other", "own"] ["prime", "many", "heads", "known", "free"] (defScope (top 52)) := ⟨rfl, rfl, rfl, by decide +kernel, rfl, by decide +kernel, by decide +kernel⟩
theorem ok_35 {n : Nat} (hd : HD K mg fds) (I : AllOk P w K mg base fds n) : FnOk P w K mg base (L2.CX P w) (n + 1) (He.ga K "solved_by") (fds 35) ["prime", "many", "heads", "known", "free"] (spF (gm K) 5 false (b_solved_by (prog n))) :=
  have sN : List.Nodup (α := Str) ["prime", "many", "heads", "known", "free", "table", "cell", "told", "_", "much", "name", "other", "own"] := sc_35.nd
  fn_ok (mv := [5]) (owN := []) (owL := []) (kr := .rp) (fd_35 hd) sc_35 rfl rfl (by decide) (fun h => nomatch h) fun cdv A outer s H E hr =>
    have tk := takesX (P := P) (w := w) (K := K) (mg := mg) (base := base) (N := ["prime", "many", "heads", "known", "free", "table", "cell", "told", "_", "much", "name", "other", "own"]) (qual := "solved_by") (scope := defScope (top 52)) (f := He.ga K "solved_by") (cdv := cdv) (A := A) (outer := outer) (s := s) (H := H) (E := E)
    have px := passX (P := P) (w := w) (K := K) (mg := mg) (base := base) (N := ["prime", "many", "heads", "known", "free", "table", "cell", "told", "_", "much", "name", "other", "own"]) (qual := "solved_by") (scope := defScope (top 52)) (f := He.ga K "solved_by") (cdv := cdv) (A := A) (outer := outer) (s := s) (H := H) (E := E)
    (SSs.cons (SS.asgMv sN rfl (.inr rfl) (by decide) (by decide : (5 : Nat) < 13) (SE.dict (by rfl) (by rfl) (hd.hfr 10 _ rfl) (SE.toRd (SE.var rfl (.inl rfl)))) rfl)
      (SSs.cons (SS.for_ (hw := by exact fun h => nomatch h) (by exact fun h => nomatch h) px rfl (SI.range1 (by rfl) (hd.hfr 9 _ rfl) (SA.cons (.inl rfl) (SE.var rfl (.inl rfl)) SA.nil)) (SG.name sN rfl (.inr rfl) (by decide) (by decide : (6 : Nat) < 13)) (SSs.one (SS.ite (SX.bool (SW.and (SX.cmp (nin_F (Room.u50 hr)) (SE.toRd (SE.var rfl (.inr (.inl rfl)))) (SE.mvR rfl (.inr (.inl rfl))) rfl) (SW.one_and (SX.cmp (nin_F (Room.u50 hr)) (SE.toRd (SE.var rfl (.inr (.inl rfl)))) (SE.toRd (SE.comp (own := [("name", 10), ("_", 8)]) (vs := [10, 8]) (hw := by exact fun h => nomatch h) rfl sN (SI.any (SE.var rfl (.inl rfl))) (blkOk_by (by rfl)) (fun _ _ _ _ _ => (SG.tup (n := 0) rfl (SGs.cons (SG.name sN rfl (.inl rfl) (by decide) (by decide : (10 : Nat) < 13)) (SGs.cons (SG.name sN rfl (.inl rfl) (by decide) (by decide : (8 : Nat) < 13)) SGs.nil)))) (fun _ _ _ _ _ => ST.nil) (fun _ _ _ _ _ => (SE.var rfl (.inl rfl))))) rfl)))) (SSs.one (SS.put (Room.u50 hr) rfl (.inr (.inl rfl)) (by decide) (SE.get (Room.u50 hr) (SE.toRd (SE.var rfl (.inl rfl))) (SE.var rfl (.inr (.inl rfl))) SE.int ⟨rfl, rfl, rfl, rfl⟩) (SE.var rfl (.inr (.inl rfl))))) SSs.nil)))
      (SSs.cons (SS.for_ (hw := by exact fun h => nomatch h) (by exact fun h => nomatch h) px rfl (SI.any (SE.var rfl (.inl rfl))) (SG.tup (n := 0) rfl (SGs.cons (SG.name sN rfl (.inr rfl) (by decide) (by decide : (6 : Nat) < 13)) (SGs.cons (SG.tup (n := 0) rfl (SGs.cons (SG.name sN rfl (.inl rfl) (by decide) (by decide : (7 : Nat) < 13)) (SGs.cons (SG.name sN rfl (.inl rfl) (by decide) (by decide : (8 : Nat) < 13)) SGs.nil))) SGs.nil))) (SSs.cons (SS.asg (SE.toRp (SE.op op_addD (SE.toRd (SE.ix (Room.u50 hr) (SE.toRd (SE.var rfl (.inl rfl))) (SE.toRd SE.int))) (SE.toRd (SE.blt1 (o := true) (sum_F (by rfl)) (by rfl) (hd.hfr 11 _ rfl) boot_sum (SE.toRd (SE.comp (own := [("other", 11), ("own", 12)]) (vs := [11, 12]) (hw := by exact fun h => nomatch h) rfl sN (SI.any (SE.ix (Room.u50 hr) (SE.toRd (SE.var rfl (.inl rfl))) (SE.toRd SE.int))) (blkOk_by (by rfl)) (fun _ _ _ _ _ => (SG.tup (n := 0) rfl (SGs.cons (SG.name sN rfl (.inl rfl) (by decide) (by decide : (11 : Nat) < 13)) (SGs.cons (SG.name sN rfl (.inl rfl) (by decide) (by decide : (12 : Nat) < 13)) SGs.nil)))) (fun _ _ _ _ _ => (ST.one (SX.cmp (ne_F (Room.u50 hr)) (SE.toRd (SE.var rfl (.inl rfl))) (SE.toRd (SE.var rfl (.inr (.inl rfl)))) rfl))) (fun _ _ _ _ _ => (SE.toRp (SE.op op_mulD (SE.toRd (SE.var rfl (.inl rfl))) (SE.toRd (SE.ix (Room.u50 hr) (SE.mvR rfl (.inr (.inl rfl))) (SE.toRd (SE.var rfl (.inl rfl)))))))))))))) (SG.name sN rfl (.inl rfl) (by decide) (by decide : (9 : Nat) < 13)))
      (SSs.one (SS.put (Room.u50 hr) rfl (.inr (.inl rfl)) (by decide) (SE.toRp (SE.op op_modD (SE.toRd (SE.un un_negD (SE.toRd (SE.var rfl (.inl rfl))))) (SE.toRd (SE.var rfl (.inl rfl))))) (SE.var rfl (.inr (.inl rfl)))))))
      (SSs.one (SS.retRp (SE.toRp (SE.ty1 (o := true) tuple_F (by rfl) (hd.hfr 2 _ rfl) boot_tuple (SE.toRd (SE.comp (own := [("cell", 6)]) (vs := [6]) (hw := by exact fun h => nomatch h) rfl sN (SI.range1 (by rfl) (hd.hfr 9 _ rfl) (SA.cons (.inl rfl) (SE.var rfl (.inl rfl)) SA.nil)) (blkOk_by (by rfl)) (fun _ _ _ _ _ => (SG.name sN rfl (.inl rfl) (by decide) (by decide : (6 : Nat) < 13))) (fun _ _ _ _ _ => ST.nil) (fun _ _ _ _ _ => (SE.ix (Room.u50 hr) (SE.mvR rfl (.inr (.inl rfl))) (SE.toRd (SE.var rfl (.inl rfl))))))))))))))
theorem sc_36 : FnScope ["prime", "many", "heads", "known", "goal", "first", "left"] ["prime", "many", "heads", "known", "goal"] (defScope (top 53)) := ⟨rfl, rfl, rfl, by decide +kernel, rfl, by decide +kernel, by decide +kernel⟩
theorem ok_36 {n : Nat} (hd : HD K mg fds) (I : AllOk P w K mg base fds n) : FnOk P w K mg base (L2.CX P w) (n + 1) (He.ga K "breaking_in") (fds 36) ["prime", "many", "heads", "known", "goal"] (spF (gm K) 5 false (b_breaking_in (prog n))) :=
  have sN : List.Nodup (α := Str) ["prime", "many", "heads", "known", "goal", "first", "left"] := sc_36.nd
  fn_ok (mv := []) (owN := []) (owL := []) (kr := .rp) (fd_36 hd) sc_36 rfl rfl (by decide) (fun h => nomatch h) fun cdv A outer s H E hr =>
    have tk := takesX (P := P) (w := w) (K := K) (mg := mg) (base := base) (N := ["prime", "many", "heads", "known", "goal", "first", "left"]) (qual := "breaking_in") (scope := defScope (top 53)) (f := He.ga K "breaking_in") (cdv := cdv) (A := A) (outer := outer) (s := s) (H := H) (E := E)
    have px := passX (P := P) (w := w) (K := K) (mg := mg) (base := base) (N := ["prime", "many", "heads", "known", "goal", "first", "left"]) (qual := "breaking_in") (scope := defScope (top 53)) (f := He.ga K "breaking_in") (cdv := cdv) (A := A) (outer := outer) (s := s) (H := H) (E := E)
    (SSs.cons (SS.asg (SE.call (o := false) I.h35 hr (bn_35 hd) (ln_35 _) tk (by rfl) (hd.hgl 35 _ rfl).1 (hd.hgl 35 _ rfl).2 (SA.cons (.inl rfl) (SE.var rfl (.inl rfl)) (SA.cons (.inl rfl) (SE.var rfl (.inl rfl)) (SA.cons (.inl rfl) (SE.var rfl (.inl rfl)) (SA.cons (.inl rfl) (SE.var rfl (.inl rfl)) (SA.cons (.inl rfl) (SE.toRp SE.dct0) SA.nil)))))) (SG.name sN rfl (.inl rfl) (by decide) (by decide : (5 : Nat) < 7)))
      (SSs.cons (SS.ite (SX.bool (SW.or (SX.cmp is_F (SE.toRd (SE.var rfl (.inl rfl))) (SE.toRd SE.non) rfl) (SW.one_or (SX.not (SX.val (SE.call (o := false) I.h20 hr (bn_20 hd) (ln_20 _) tk (by rfl) (hd.hgl 20 _ rfl).1 (hd.hgl 20 _ rfl).2 (SA.cons (.inl rfl) (SE.var rfl (.inl rfl)) (SA.cons (.inl rfl) (SE.var rfl (.inl rfl)) (SA.cons (.inl rfl) (SE.var rfl (.inl rfl)) SA.nil))))))))) (SSs.one (SS.retRp (SE.var rfl (.inl rfl)))) SSs.nil)
      (SSs.cons (SS.asg (SE.call (o := false) I.h29 hr (bn_29 hd) (ln_29 _) tk (by rfl) (hd.hgl 29 _ rfl).1 (hd.hgl 29 _ rfl).2 (SA.cons (.inl rfl) (SE.var rfl (.inl rfl)) (SA.cons (.inl rfl) (SE.toRp (SE.tup (SA.cons (.inl rfl) (SE.call (o := false) I.h32 hr (bn_32 hd) (ln_32 _) tk (by rfl) (hd.hgl 32 _ rfl).1 (hd.hgl 32 _ rfl).2 (SA.cons (.inl rfl) (SE.var rfl (.inl rfl)) (SA.cons (.inl rfl) (SE.var rfl (.inl rfl)) (SA.cons (.inl rfl) (SE.var rfl (.inl rfl)) SA.nil)))) (SA.cons (.inl rfl) (SE.toRp SE.dct0) SA.nil)))) (SA.cons (.inl rfl) (SE.var rfl (.inl rfl)) SA.nil)))) (SG.name sN rfl (.inl rfl) (by decide) (by decide : (6 : Nat) < 7)))
      (SSs.one (SS.retRp (SE.call (o := false) I.h35 hr (bn_35 hd) (ln_35 _) tk (by rfl) (hd.hgl 35 _ rfl).1 (hd.hgl 35 _ rfl).2 (SA.cons (.inl rfl) (SE.var rfl (.inl rfl)) (SA.cons (.inl rfl) (SE.var rfl (.inl rfl)) (SA.cons (.inl rfl) (SE.var rfl (.inl rfl)) (SA.cons (.inl rfl) (SE.var rfl (.inl rfl)) (SA.cons (.inl rfl) (SE.toRp (SE.dct1 (SE.ix (Room.u50 hr) (SE.toRd (SE.ix (Room.u50 hr) (SE.toRd (SE.ix (Room.u50 hr) (SE.toRd (SE.ix (Room.u50 hr) (SE.toRd (SE.var rfl (.inl rfl))) (SE.toRd SE.int))) (SE.toRd SE.int))) (SE.toRd SE.int))) (SE.toRd SE.int)) SE.int)) SA.nil)))))))))))
theorem sc_37 : FnScope ["prime", "many", "rows", "goal", "known", "heads", "broken", "shown", "goods", "cell", "papers", "rest", "paper", "filling", "head"] ["prime", "many", "rows", "goal", "known"] (defScope (top 54)) := ⟨rfl, rfl, rfl, by decide +kernel, rfl, by decide +kernel, by decide +kernel⟩
theorem ok_37 {n : Nat} (hd : HD K mg fds) (I : AllOk P w K mg base fds n) : FnOk P w K mg base (L2.CX P w) (n + 1) (He.ga K "sought") (fds 37) ["prime", "many", "rows", "goal", "known"] (spF (gm K) 5 false (b_sought (prog n))) :=
  have sN : List.Nodup (α := Str) ["prime", "many", "rows", "goal", "known", "heads", "broken", "shown", "goods", "cell", "papers", "rest", "paper", "filling", "head"] := sc_37.nd
  fn_ok (mv := [10]) (owN := []) (owL := []) (kr := .rp) (fd_37 hd) sc_37 rfl rfl (by decide) (fun h => nomatch h) fun cdv A outer s H E hr =>
    have tk := takesX (P := P) (w := w) (K := K) (mg := mg) (base := base) (N := ["prime", "many", "rows", "goal", "known", "heads", "broken", "shown", "goods", "cell", "papers", "rest", "paper", "filling", "head"]) (qual := "sought") (scope := defScope (top 54)) (f := He.ga K "sought") (cdv := cdv) (A := A) (outer := outer) (s := s) (H := H) (E := E)
    have px := passX (P := P) (w := w) (K := K) (mg := mg) (base := base) (N := ["prime", "many", "rows", "goal", "known", "heads", "broken", "shown", "goods", "cell", "papers", "rest", "paper", "filling", "head"]) (qual := "sought") (scope := defScope (top 54)) (f := He.ga K "sought") (cdv := cdv) (A := A) (outer := outer) (s := s) (H := H) (E := E)
    (SSs.cons (SS.asg (SE.call (o := false) I.h30 hr (bn_30 hd) (ln_30 _) tk (by rfl) (hd.hgl 30 _ rfl).1 (hd.hgl 30 _ rfl).2 (SA.cons (.inl rfl) (SE.var rfl (.inl rfl)) (SA.cons (.inl rfl) (SE.call (o := false) I.h26 hr (bn_26 hd) (ln_26 _) tk (by rfl) (hd.hgl 26 _ rfl).1 (hd.hgl 26 _ rfl).2 (SA.cons (.inl rfl) (SE.var rfl (.inl rfl)) (SA.cons (.inl rfl) (SE.var rfl (.inl rfl)) (SA.cons (.inl rfl) (SE.var rfl (.inl rfl)) SA.nil)))) SA.nil))) (SG.tup (n := 0) rfl (SGs.cons (SG.name sN rfl (.inl rfl) (by decide) (by decide : (5 : Nat) < 15)) (SGs.cons (SG.name sN rfl (.inl rfl) (by decide) (by decide : (6 : Nat) < 15)) SGs.nil))))
      (SSs.cons (SS.ite (SX.cmp isn_F (SE.toRd (SE.var rfl (.inl rfl))) (SE.toRd SE.non) rfl) (SSs.one (SS.retRp (SE.toRp (SE.tup (SA.cons (.inl rfl) (SE.toRp (SE.tup (SA.cons (.inl rfl) (SE.glob (by rfl) (hd.hcs 5 _ _ rfl)) (SA.cons (.inl rfl) (SE.call (o := false) I.h31 hr (bn_31 hd) (ln_31 _) tk (by rfl) (hd.hgl 31 _ rfl).1 (hd.hgl 31 _ rfl).2 (SA.cons (.inl rfl) (SE.ix (Room.u50 hr) (SE.toRd (SE.var rfl (.inl rfl))) (SE.toRd SE.int)) SA.nil)) SA.nil)))) (SA.cons (.inl rfl) SE.non SA.nil)))))) SSs.nil)
      (SSs.cons (SS.asg (SE.call (o := false) I.h33 hr (bn_33 hd) (ln_33 _) tk (by rfl) (hd.hgl 33 _ rfl).1 (hd.hgl 33 _ rfl).2 (SA.cons (.inl rfl) (SE.var rfl (.inl rfl)) (SA.cons (.inl rfl) (SE.call (o := false) I.h32 hr (bn_32 hd) (ln_32 _) tk (by rfl) (hd.hgl 32 _ rfl).1 (hd.hgl 32 _ rfl).2 (SA.cons (.inl rfl) (SE.var rfl (.inl rfl)) (SA.cons (.inl rfl) (SE.var rfl (.inl rfl)) (SA.cons (.inl rfl) (SE.var rfl (.inl rfl)) SA.nil)))) (SA.cons (.inl rfl) (SE.var rfl (.inl rfl)) SA.nil)))) (SG.name sN rfl (.inl rfl) (by decide) (by decide : (7 : Nat) < 15)))
      (SSs.cons (SS.ite (SX.cmp isn_F (SE.toRd (SE.var rfl (.inl rfl))) (SE.toRd SE.non) rfl) (SSs.one (SS.retRp (SE.toRp (SE.tup (SA.cons (.inl rfl) (SE.toRp (SE.tup (SA.cons (.inl rfl) (SE.glob (by rfl) (hd.hcs 6 _ _ rfl)) (SA.cons (.inl rfl) (SE.call (o := false) I.h31 hr (bn_31 hd) (ln_31 _) tk (by rfl) (hd.hgl 31 _ rfl).1 (hd.hgl 31 _ rfl).2 (SA.cons (.inl rfl) (SE.var rfl (.inl rfl)) SA.nil)) SA.nil)))) (SA.cons (.inl rfl) SE.non SA.nil)))))) SSs.nil)
      (SSs.cons (SS.asgLc (own := [("cell", 9), ("head", 14)]) (vs := [9, 14]) (hw := by exact fun h => nomatch h) rfl sN rfl rfl (by decide) (by decide : (8 : Nat) < 15) rfl (by rfl) (by rfl) (SI.any (SE.var rfl (.inl rfl))) (blkOk_by (by rfl)) (fun _ _ _ _ _ => (SG.tup (n := 0) rfl (SGs.cons (SG.name sN rfl (.inl rfl) (by decide) (by decide : (9 : Nat) < 15)) (SGs.cons (SG.name sN rfl (.inl rfl) (by decide) (by decide : (14 : Nat) < 15)) SGs.nil)))) (fun _ _ _ _ _ => (ST.one (SX.cmp (eq_F (Room.u50 hr)) (SE.toRd (SE.blt1 (o := true) len_F (by rfl) (hd.hfr 5 _ rfl) boot_len (SE.toRd (SE.ix (Room.u50 hr) (SE.toRd (SE.ix (Room.u50 hr) (SE.toRd (SE.var rfl (.inl rfl))) (SE.toRd SE.int))) (SE.toRd SE.int))))) (SE.toRd SE.int) rfl))) (fun _ _ _ _ _ => (SE.toRp (SE.tup (SA.cons (.inl rfl) (SE.var rfl (.inl rfl)) (SA.cons (.inl rfl) (SE.var rfl (.inl rfl)) SA.nil))))))
      (SSs.cons (SS.asg (SE.call (o := false) I.h34 hr (bn_34 hd) (ln_34 _) tk (by rfl) (hd.hgl 34 _ rfl).1 (hd.hgl 34 _ rfl).2 (SA.cons (.inl rfl) (SE.var rfl (.inl rfl)) (SA.cons (.inl rfl) (SE.var rfl (.inl rfl)) (SA.cons (.inl rfl) (SE.var rfl (.inl rfl)) (SA.cons (.inl rfl) (SE.var rfl (.inl rfl)) SA.nil))))) (SG.name sN rfl (.inl rfl) (by decide) (by decide : (9 : Nat) < 15)))
      (SSs.cons (SS.ite (SX.bool (SW.and (SX.cmp (ne_F (Room.u50 hr)) (SE.toRd (SE.var rfl (.inl rfl))) (SE.toRd (SE.lst SA.nil)) rfl) (SW.one_and (SX.cmp isn_F (SE.toRd (SE.var rfl (.inl rfl))) (SE.toRd SE.non) rfl)))) (SSs.one (SS.retRp (SE.call (o := false) I.h39 hr (bn_39 hd) (ln_39 _) tk (by rfl) (hd.hgl 39 _ rfl).1 (hd.hgl 39 _ rfl).2 (SA.cons (.inl rfl) (SE.var rfl (.inl rfl)) (SA.cons (.inl rfl) (SE.var rfl (.inl rfl)) (SA.cons (.inl rfl) (SE.var rfl (.inl rfl)) (SA.cons (.inl rfl) (SE.var rfl (.inl rfl)) (SA.cons (.inl rfl) (SE.var rfl (.inl rfl)) (SA.cons (.inl rfl) (SE.ix (Room.u50 hr) (SE.toRd (SE.var rfl (.inl rfl))) (SE.toRd SE.int)) SA.nil))))))))) SSs.nil)
      (SSs.cons (SS.ite (SX.cmp is_F (SE.toRd (SE.var rfl (.inl rfl))) (SE.toRd SE.non) rfl) (SSs.one (SS.retRp (SE.toRp (SE.tup (SA.cons (.inl rfl) SE.non (SA.cons (.inl rfl) (SE.call (o := false) I.h36 hr (bn_36 hd) (ln_36 _) tk (by rfl) (hd.hgl 36 _ rfl).1 (hd.hgl 36 _ rfl).2 (SA.cons (.inl rfl) (SE.var rfl (.inl rfl)) (SA.cons (.inl rfl) (SE.var rfl (.inl rfl)) (SA.cons (.inl rfl) (SE.var rfl (.inl rfl)) (SA.cons (.inl rfl) (SE.var rfl (.inl rfl)) (SA.cons (.inl rfl) (SE.var rfl (.inl rfl)) SA.nil)))))) SA.nil)))))) SSs.nil)
      (SSs.cons (SS.asgMv sN rfl (.inl rfl) (by decide) (by decide : (10 : Nat) < 15) (SE.lst SA.nil) rfl)
      (SSs.cons (SS.for_ (hw := by exact fun h => nomatch h) (by exact fun h => nomatch h) px rfl (SI.range1 (by rfl) (hd.hfr 9 _ rfl) (SA.cons (.inl rfl) (SE.var rfl (.inl rfl)) SA.nil)) (SG.name sN rfl (.inl rfl) (by decide) (by decide : (11 : Nat) < 15)) (SSs.cons (SS.asg (SE.call (o := false) I.h37 hr (bn_37 hd) (ln_37 _) (takes_unl tk) (by rfl) (hd.hgl 37 _ rfl).1 (hd.hgl 37 _ rfl).2 (SA.cons (.inl rfl) (SE.var rfl (.inl rfl)) (SA.cons (.inl rfl) (SE.var rfl (.inl rfl)) (SA.cons (.inl rfl) (SE.var rfl (.inl rfl)) (SA.cons (.inl rfl) (SE.var rfl (.inl rfl)) (SA.cons (.inl rfl) (SE.call (o := false) I.h38 hr (bn_38 hd) (ln_38 _) (takes_unl tk) (by rfl) (hd.hgl 38 _ rfl).1 (hd.hgl 38 _ rfl).2 (SA.cons (.inl rfl) (SE.var rfl (.inl rfl)) (SA.cons (.inl rfl) (SE.var rfl (.inl rfl)) (SA.cons (.inl rfl) (SE.var rfl (.inl rfl)) SA.nil)))) SA.nil)))))) (SG.tup (n := 0) rfl (SGs.cons (SG.name sN rfl (.inl rfl) (by decide) (by decide : (12 : Nat) < 15)) (SGs.cons (SG.name sN rfl (.inl rfl) (by decide) (by decide : (13 : Nat) < 15)) SGs.nil))))
      (SSs.cons (SS.ite (SX.cmp is_F (SE.toRd (SE.var rfl (.inl rfl))) (SE.toRd SE.non) rfl) (SSs.one (SS.retRp (SE.toRp (SE.tup (SA.cons (.inl rfl) SE.non (SA.cons (.inl rfl) (SE.var rfl (.inl rfl)) SA.nil)))))) SSs.nil)
      (SSs.one (SS.app rfl (.inl rfl) (by decide) (by decide) (SE.var rfl (.inl rfl)))))))
      (SSs.one (SS.retRp (SE.toRp (SE.tup (SA.cons (.inl rfl) (SE.toRp (SE.tup (SA.cons (.inl rfl) (SE.glob (by rfl) (hd.hcs 8 _ _ rfl)) (SA.cons (.inl rfl) (SE.var rfl (.inl rfl)) (SA.cons (.inl rfl) (SE.toRp (SE.ty1 (o := true) tuple_F (by rfl) (hd.hfr 2 _ rfl) boot_tuple (SE.mvR rfl (.inl rfl)))) SA.nil))))) (SA.cons (.inl rfl) SE.non SA.nil))))))))))))))))
theorem sc_38 : FnScope ["known", "cell", "rest", "found"] ["known", "cell", "rest"] (defScope (top 55)) := ⟨rfl, rfl, rfl, by decide +kernel, rfl, by decide +kernel, by decide +kernel⟩
theorem ok_38 {n : Nat} (hd : HD K mg fds) (I : AllOk P w K mg base fds n) : FnOk P w K mg base (L2.CX P w) (n + 1) (He.ga K "known_with") (fds 38) ["known", "cell", "rest"] (spF (gm K) 3 false (b_known_with (prog n))) :=
  have sN : List.Nodup (α := Str) ["known", "cell", "rest", "found"] := sc_38.nd
  fn_ok (mv := [3]) (owN := []) (owL := []) (kr := .rp) (fd_38 hd) sc_38 rfl rfl (by decide) (fun h => nomatch h) fun cdv A outer s H E hr =>
    have tk := takesX (P := P) (w := w) (K := K) (mg := mg) (base := base) (N := ["known", "cell", "rest", "found"]) (qual := "known_with") (scope := defScope (top 55)) (f := He.ga K "known_with") (cdv := cdv) (A := A) (outer := outer) (s := s) (H := H) (E := E)
    have px := passX (P := P) (w := w) (K := K) (mg := mg) (base := base) (N := ["known", "cell", "rest", "found"]) (qual := "known_with") (scope := defScope (top 55)) (f := He.ga K "known_with") (cdv := cdv) (A := A) (outer := outer) (s := s) (H := H) (E := E)
    (SSs.cons (SS.asgMv sN rfl (.inl rfl) (by decide) (by decide : (3 : Nat) < 4) (SE.dict (by rfl) (by rfl) (hd.hfr 10 _ rfl) (SE.toRd (SE.var rfl (.inl rfl)))) rfl)
      (SSs.cons (SS.put (Room.u50 hr) rfl (.inl rfl) (by decide) (SE.var rfl (.inl rfl)) (SE.var rfl (.inl rfl)))
      (SSs.one (SS.retRp (SE.mvF rfl (.inl rfl))))))
theorem sc_39 : FnScope ["prime", "many", "rows", "goal", "known", "pair", "cell", "told", "times", "paper", "filling"] ["prime", "many", "rows", "goal", "known", "pair"] (defScope (top 56)) := ⟨rfl, rfl, rfl, by decide +kernel, rfl, by decide +kernel, by decide +kernel⟩
theorem ok_39 {n : Nat} (hd : HD K mg fds) (I : AllOk P w K mg base fds n) : FnOk P w K mg base (L2.CX P w) (n + 1) (He.ga K "led_on") (fds 39) ["prime", "many", "rows", "goal", "known", "pair"] (spF (gm K) 6 false (b_led_on (prog n))) :=
  have sN : List.Nodup (α := Str) ["prime", "many", "rows", "goal", "known", "pair", "cell", "told", "times", "paper", "filling"] := sc_39.nd
  fn_ok (mv := []) (owN := []) (owL := []) (kr := .rp) (fd_39 hd) sc_39 rfl rfl (by decide) (fun h => nomatch h) fun cdv A outer s H E hr =>
    have tk := takesX (P := P) (w := w) (K := K) (mg := mg) (base := base) (N := ["prime", "many", "rows", "goal", "known", "pair", "cell", "told", "times", "paper", "filling"]) (qual := "led_on") (scope := defScope (top 56)) (f := He.ga K "led_on") (cdv := cdv) (A := A) (outer := outer) (s := s) (H := H) (E := E)
    have px := passX (P := P) (w := w) (K := K) (mg := mg) (base := base) (N := ["prime", "many", "rows", "goal", "known", "pair", "cell", "told", "times", "paper", "filling"]) (qual := "led_on") (scope := defScope (top 56)) (f := He.ga K "led_on") (cdv := cdv) (A := A) (outer := outer) (s := s) (H := H) (E := E)
    (SSs.cons (SS.asg (SE.var rfl (.inl rfl)) (SG.tup (n := 0) rfl (SGs.cons (SG.name sN rfl (.inl rfl) (by decide) (by decide : (6 : Nat) < 11)) (SGs.cons (SG.tup (n := 0) rfl (SGs.cons (SG.name sN rfl (.inl rfl) (by decide) (by decide : (7 : Nat) < 11)) (SGs.cons (SG.name sN rfl (.inl rfl) (by decide) (by decide : (8 : Nat) < 11)) SGs.nil))) SGs.nil))))
      (SSs.cons (SS.asg (SE.call (o := false) I.h37 hr (bn_37 hd) (ln_37 _) tk (by rfl) (hd.hgl 37 _ rfl).1 (hd.hgl 37 _ rfl).2 (SA.cons (.inl rfl) (SE.var rfl (.inl rfl)) (SA.cons (.inl rfl) (SE.var rfl (.inl rfl)) (SA.cons (.inl rfl) (SE.var rfl (.inl rfl)) (SA.cons (.inl rfl) (SE.var rfl (.inl rfl)) (SA.cons (.inl rfl) (SE.call (o := false) I.h38 hr (bn_38 hd) (ln_38 _) tk (by rfl) (hd.hgl 38 _ rfl).1 (hd.hgl 38 _ rfl).2 (SA.cons (.inl rfl) (SE.var rfl (.inl rfl)) (SA.cons (.inl rfl) (SE.var rfl (.inl rfl)) (SA.cons (.inl rfl) (SE.toRp (SE.op op_modD (SE.toRd (SE.un un_negD (SE.toRd (SE.ix (Room.u50 hr) (SE.toRd (SE.var rfl (.inl rfl))) (SE.toRd SE.int))))) (SE.toRd (SE.var rfl (.inl rfl))))) SA.nil)))) SA.nil)))))) (SG.tup (n := 0) rfl (SGs.cons (SG.name sN rfl (.inl rfl) (by decide) (by decide : (9 : Nat) < 11)) (SGs.cons (SG.name sN rfl (.inl rfl) (by decide) (by decide : (10 : Nat) < 11)) SGs.nil))))
      (SSs.cons (SS.ite (SX.cmp is_F (SE.toRd (SE.var rfl (.inl rfl))) (SE.toRd SE.non) rfl) (SSs.one (SS.retRp (SE.toRp (SE.tup (SA.cons (.inl rfl) SE.non (SA.cons (.inl rfl) (SE.var rfl (.inl rfl)) SA.nil)))))) SSs.nil)
      (SSs.one (SS.retRp (SE.toRp (SE.tup (SA.cons (.inl rfl) (SE.toRp (SE.tup (SA.cons (.inl rfl) (SE.glob (by rfl) (hd.hcs 7 _ _ rfl)) (SA.cons (.inl rfl) (SE.var rfl (.inl rfl)) (SA.cons (.inl rfl) (SE.call (o := false) I.h31 hr (bn_31 hd) (ln_31 _) tk (by rfl) (hd.hgl 31 _ rfl).1 (hd.hgl 31 _ rfl).2 (SA.cons (.inl rfl) (SE.var rfl (.inl rfl)) SA.nil)) (SA.cons (.inl rfl) (SE.var rfl (.inl rfl)) SA.nil)))))) (SA.cons (.inl rfl) SE.non SA.nil)))))))))
theorem sc_40 : FnScope ["prime", "many", "thing", "part"] ["prime", "many", "thing"] (defScope (top 57)) := ⟨rfl, rfl, rfl, by decide +kernel, rfl, by decide +kernel, by decide +kernel⟩
theorem ok_40 {n : Nat} (hd : HD K mg fds) (I : AllOk P w K mg base fds n) : FnOk P w K mg base (L2.CX P w) (n + 1) (He.ga K "fits_times") (fds 40) ["prime", "many", "thing"] (spF (gm K) 3 false (b_fits_times (prog n))) :=
  have sN : List.Nodup (α := Str) ["prime", "many", "thing", "part"] := sc_40.nd
  fn_ok (mv := []) (owN := []) (owL := []) (kr := .rp) (fd_40 hd) sc_40 rfl rfl (by decide) (fun h => nomatch h) fun cdv A outer s H E hr =>
    have tk := takesX (P := P) (w := w) (K := K) (mg := mg) (base := base) (N := ["prime", "many", "thing", "part"]) (qual := "fits_times") (scope := defScope (top 57)) (f := He.ga K "fits_times") (cdv := cdv) (A := A) (outer := outer) (s := s) (H := H) (E := E)
    have px := passX (P := P) (w := w) (K := K) (mg := mg) (base := base) (N := ["prime", "many", "thing", "part"]) (qual := "fits_times") (scope := defScope (top 57)) (f := He.ga K "fits_times") (cdv := cdv) (A := A) (outer := outer) (s := s) (H := H) (E := E)
    (SSs.cons (SS.ite (SX.bool (SW.or (SX.not (SX.val (SE.isi (k := 3) (by decide) (by rfl) (hd.hfr 0 _ rfl) (by rfl) (hd.hfr 2 _ rfl) boot_tuple (SE.toRd (SE.var rfl (.inl rfl)))))) (SW.one_or (SX.not (SX.val (SE.blt1 (o := true) (all_F (by rfl)) (by rfl) (hd.hfr 7 _ rfl) boot_all (SE.toRd (SE.comp (own := [("part", 3)]) (vs := [3]) (hw := by exact fun h => nomatch h) rfl sN (SI.any (SE.var rfl (.inl rfl))) (blkOk_by (by rfl)) (fun _ _ _ _ _ => (SG.name sN rfl (.inl rfl) (by decide) (by decide : (3 : Nat) < 4))) (fun _ _ _ _ _ => ST.nil) (fun _ _ _ _ _ => (SE.and (SE.call (o := false) I.h12 hr (bn_12 hd) (ln_12 _) L2.takes0 (by rfl) (hd.hgl 12 _ rfl).1 (hd.hgl 12 _ rfl).2 (SA.cons (.inl rfl) (SE.var rfl (.inr (.inl rfl))) (SA.cons (.inl rfl) (SE.var rfl (.inl rfl)) SA.nil))) (SE.one_bop (SE.toRp (SE.cmp lt_F (SE.toRd (SE.ix (Room.u50 hr) (SE.toRd (SE.var rfl (.inl rfl))) (SE.toRd SE.int))) (SE.toRd (SE.var rfl (.inr (.inl rfl)))) rfl))))))))))))) (SSs.one (SS.retRp SE.bl)) SSs.nil)
      (SSs.one (SS.retRp (SE.call (o := false) I.h5 hr (bn_5 hd) (ln_5 _) tk (by rfl) (hd.hgl 5 _ rfl).1 (hd.hgl 5 _ rfl).2 (SA.cons (.inl rfl) (SE.toRp (SE.ty1 (o := true) tuple_F (by rfl) (hd.hfr 2 _ rfl) boot_tuple (SE.toRd (SE.comp (own := [("part", 3)]) (vs := [3]) (hw := by exact fun h => nomatch h) rfl sN (SI.any (SE.var rfl (.inl rfl))) (blkOk_by (by rfl)) (fun _ _ _ _ _ => (SG.name sN rfl (.inl rfl) (by decide) (by decide : (3 : Nat) < 4))) (fun _ _ _ _ _ => ST.nil) (fun _ _ _ _ _ => (SE.ix (Room.u50 hr) (SE.toRd (SE.var rfl (.inl rfl))) (SE.toRd SE.int))))))) SA.nil)))))
theorem sc_41 : FnScope ["prime", "rows", "known", "times", "found", "place", "often", "own"] ["prime", "rows", "known", "times"] (defScope (top 58)) := ⟨rfl, rfl, rfl, by decide +kernel, rfl, by decide +kernel, by decide +kernel⟩
theorem ok_41 {n : Nat} (hd : HD K mg fds) (I : AllOk P w K mg base fds n) : FnOk P w K mg base (L2.CX P w) (n + 1) (He.ga K "sum_by") (fds 41) ["prime", "rows", "known", "times"] (spF (gm K) 4 false (b_sum_by (prog n))) :=
  have sN : List.Nodup (α := Str) ["prime", "rows", "known", "times", "found", "place", "often", "own"] := sc_41.nd
  fn_ok (mv := []) (owN := []) (owL := []) (kr := .rp) (fd_41 hd) sc_41 rfl rfl (by decide) (fun h => nomatch h) fun cdv A outer s H E hr =>
    have tk := takesX (P := P) (w := w) (K := K) (mg := mg) (base := base) (N := ["prime", "rows", "known", "times", "found", "place", "often", "own"]) (qual := "sum_by") (scope := defScope (top 58)) (f := He.ga K "sum_by") (cdv := cdv) (A := A) (outer := outer) (s := s) (H := H) (E := E)
    have px := passX (P := P) (w := w) (K := K) (mg := mg) (base := base) (N := ["prime", "rows", "known", "times", "found", "place", "often", "own"]) (qual := "sum_by") (scope := defScope (top 58)) (f := He.ga K "sum_by") (cdv := cdv) (A := A) (outer := outer) (s := s) (H := H) (E := E)
    (SSs.cons (SS.asg (SE.glob (by rfl) (hd.hcs 4 _ _ rfl)) (SG.name sN rfl (.inl rfl) (by decide) (by decide : (4 : Nat) < 8)))
      (SSs.cons (SS.for_ (hw := by exact fun h => nomatch h) (by exact fun h => nomatch h) px rfl (SI.any (SE.var rfl (.inl rfl))) (SG.tup (n := 0) rfl (SGs.cons (SG.name sN rfl (.inl rfl) (by decide) (by decide : (5 : Nat) < 8)) (SGs.cons (SG.name sN rfl (.inl rfl) (by decide) (by decide : (6 : Nat) < 8)) SGs.nil))) (SSs.cons (SS.asg (SE.call (o := false) I.h21 hr (bn_21 hd) (ln_21 _) (takes_unl tk) (by rfl) (hd.hgl 21 _ rfl).1 (hd.hgl 21 _ rfl).2 (SA.cons (.inl rfl) (SE.var rfl (.inl rfl)) (SA.cons (.inl rfl) (SE.call (o := false) I.h22 hr (bn_22 hd) (ln_22 _) (takes_unl tk) (by rfl) (hd.hgl 22 _ rfl).1 (hd.hgl 22 _ rfl).2 (SA.cons (.inl rfl) (SE.var rfl (.inl rfl)) (SA.cons (.inl rfl) (SE.ix (Room.u50 hr) (SE.toRd (SE.var rfl (.inl rfl))) (SE.toRd (SE.var rfl (.inl rfl)))) (SA.cons (.inl rfl) (SE.var rfl (.inl rfl)) SA.nil)))) SA.nil))) (SG.name sN rfl (.inl rfl) (by decide) (by decide : (7 : Nat) < 8)))
      (SSs.cons (SS.ite (SX.cmp is_F (SE.toRd (SE.var rfl (.inl rfl))) (SE.toRd SE.non) rfl) (SSs.one (SS.retRp SE.non)) SSs.nil)
      (SSs.one (SS.asg (SE.call (o := false) I.h15 hr (bn_15 hd) (ln_15 _) (takes_unl tk) (by rfl) (hd.hgl 15 _ rfl).1 (hd.hgl 15 _ rfl).2 (SA.cons (.inl rfl) (SE.var rfl (.inl rfl)) (SA.cons (.inl rfl) (SE.var rfl (.inl rfl)) (SA.cons (.inl rfl) (SE.var rfl (.inl rfl)) (SA.cons (.inl rfl) (SE.var rfl (.inl rfl)) SA.nil))))) (SG.name sN rfl (.inl rfl) (by decide) (by decide : (4 : Nat) < 8)))))))
      (SSs.one (SS.retRp (SE.var rfl (.inl rfl))))))
theorem sc_42 : FnScope ["sheet", "numbers", "own"] ["sheet", "numbers"] (defScope (top 61)) := ⟨rfl, rfl, rfl, by decide +kernel, rfl, by decide +kernel, by decide +kernel⟩
theorem ok_42 {n : Nat} (hd : HD K mg fds) (I : AllOk P w K mg base fds n) : FnOk P w K mg base (L2.CX P w) (n + 1) (He.ga K "sure_numbers") (fds 42) ["sheet", "numbers"] (spF (gm K) 2 false (b_sure_numbers (prog n))) :=
  have sN : List.Nodup (α := Str) ["sheet", "numbers", "own"] := sc_42.nd
  fn_ok (mv := []) (owN := []) (owL := []) (kr := .rp) (fd_42 hd) sc_42 rfl rfl (by decide) (fun h => nomatch h) fun cdv A outer s H E hr =>
    have tk := takesX (P := P) (w := w) (K := K) (mg := mg) (base := base) (N := ["sheet", "numbers", "own"]) (qual := "sure_numbers") (scope := defScope (top 61)) (f := He.ga K "sure_numbers") (cdv := cdv) (A := A) (outer := outer) (s := s) (H := H) (E := E)
    have px := passX (P := P) (w := w) (K := K) (mg := mg) (base := base) (N := ["sheet", "numbers", "own"]) (qual := "sure_numbers") (scope := defScope (top 61)) (f := He.ga K "sure_numbers") (cdv := cdv) (A := A) (outer := outer) (s := s) (H := H) (E := E)
    (SSs.cons (SS.asg (SE.call (o := false) I.h0 hr (bn_0 hd) (ln_0 _) tk (by rfl) (hd.hgl 0 _ rfl).1 (hd.hgl 0 _ rfl).2 (SA.cons (.inl rfl) (SE.var rfl (.inl rfl)) SA.nil)) (SG.name sN rfl (.inl rfl) (by decide) (by decide : (2 : Nat) < 3)))
      (SSs.cons (SS.ite (SX.bool (SW.or (SX.not (SX.val (SE.call (o := false) I.h7 hr (bn_7 hd) (ln_7 _) tk (by rfl) (hd.hgl 7 _ rfl).1 (hd.hgl 7 _ rfl).2 (SA.cons (.inl rfl) (SE.var rfl (.inl rfl)) (SA.cons (.inl rfl) (SE.ix (Room.u50 hr) (SE.toRd (SE.var rfl (.inl rfl))) (SE.toRd SE.int)) SA.nil))))) (SW.one_or (SX.cmp (ne_F (Room.u50 hr)) (SE.toRd (SE.blt1 (o := true) len_F (by rfl) (hd.hfr 5 _ rfl) boot_len (SE.toRd (SE.var rfl (.inl rfl))))) (SE.toRd (SE.blt1 (o := true) len_F (by rfl) (hd.hfr 5 _ rfl) boot_len (SE.toRd (SE.ix (Room.u50 hr) (SE.toRd (SE.var rfl (.inl rfl))) (SE.toRd SE.int))))) rfl)))) (SSs.one (SS.raiseE (by rfl) tk (hd.hec 0 _ rfl) (by rfl) (by rfl))) SSs.nil)
      (SSs.one (SS.retRp (SE.var rfl (.inl rfl))))))
theorem sc_43 : FnScope ["sheet", "numbers", "own"] ["sheet", "numbers"] (defScope (top 62)) := ⟨rfl, rfl, rfl, by decide +kernel, rfl, by decide +kernel, by decide +kernel⟩
theorem ok_43 {n : Nat} (hd : HD K mg fds) (I : AllOk P w K mg base fds n) : FnOk P w K mg base (L2.CX P w) (n + 1) (He.ga K "sure_bearing") (fds 43) ["sheet", "numbers"] (spF (gm K) 2 false (b_sure_bearing (prog n))) :=
  have sN : List.Nodup (α := Str) ["sheet", "numbers", "own"] := sc_43.nd
  fn_ok (mv := []) (owN := []) (owL := []) (kr := .rp) (fd_43 hd) sc_43 rfl rfl (by decide) (fun h => nomatch h) fun cdv A outer s H E hr =>
    have tk := takesX (P := P) (w := w) (K := K) (mg := mg) (base := base) (N := ["sheet", "numbers", "own"]) (qual := "sure_bearing") (scope := defScope (top 62)) (f := He.ga K "sure_bearing") (cdv := cdv) (A := A) (outer := outer) (s := s) (H := H) (E := E)
    have px := passX (P := P) (w := w) (K := K) (mg := mg) (base := base) (N := ["sheet", "numbers", "own"]) (qual := "sure_bearing") (scope := defScope (top 62)) (f := He.ga K "sure_bearing") (cdv := cdv) (A := A) (outer := outer) (s := s) (H := H) (E := E)
    (SSs.cons (SS.asg (SE.call (o := false) I.h25 hr (bn_25 hd) (ln_25 _) tk (by rfl) (hd.hgl 25 _ rfl).1 (hd.hgl 25 _ rfl).2 (SA.cons (.inl rfl) (SE.var rfl (.inl rfl)) SA.nil)) (SG.name sN rfl (.inl rfl) (by decide) (by decide : (2 : Nat) < 3)))
      (SSs.one (SS.retRp (SE.toRp (SE.tup (SA.cons (.inl rfl) (SE.var rfl (.inl rfl)) (SA.cons (.inl rfl) (SE.call (o := false) I.h42 hr (bn_42 hd) (ln_42 _) tk (by rfl) (hd.hgl 42 _ rfl).1 (hd.hgl 42 _ rfl).2 (SA.cons (.inl rfl) (SE.var rfl (.inl rfl)) (SA.cons (.inl rfl) (SE.var rfl (.inl rfl)) SA.nil))) SA.nil)))))))
theorem sc_44 : FnScope ["sheet", "numbers"] ["sheet", "numbers"] (defScope (top 63)) := ⟨rfl, rfl, rfl, by decide +kernel, rfl, by decide +kernel, by decide +kernel⟩
theorem ok_44 {n : Nat} (hd : HD K mg fds) (I : AllOk P w K mg base fds n) : FnOk P w K mg base (L2.CX P w) (n + 1) (He.ga K "known_inputs") (fds 44) ["sheet", "numbers"] (spF (gm K) 2 false (b_known_inputs (prog n))) :=
  have sN : List.Nodup (α := Str) ["sheet", "numbers"] := sc_44.nd
  fn_ok (mv := []) (owN := []) (owL := []) (kr := .rp) (fd_44 hd) sc_44 rfl rfl (by decide) (fun h => nomatch h) fun cdv A outer s H E hr =>
    have tk := takesX (P := P) (w := w) (K := K) (mg := mg) (base := base) (N := ["sheet", "numbers"]) (qual := "known_inputs") (scope := defScope (top 63)) (f := He.ga K "known_inputs") (cdv := cdv) (A := A) (outer := outer) (s := s) (H := H) (E := E)
    have px := passX (P := P) (w := w) (K := K) (mg := mg) (base := base) (N := ["sheet", "numbers"]) (qual := "known_inputs") (scope := defScope (top 63)) (f := He.ga K "known_inputs") (cdv := cdv) (A := A) (outer := outer) (s := s) (H := H) (E := E)
    (SSs.one (SS.retRp (SE.toRp (SE.dictZip (by rfl) (by rfl) (hd.hfr 10 _ rfl) (by rfl) (hd.hfr 6 _ rfl) (SE.toRd (SE.ix (Room.u50 hr) (SE.toRd (SE.var rfl (.inl rfl))) (SE.toRd SE.int))) (SE.toRd (SE.var rfl (.inl rfl)))))))
theorem sc_45 : FnScope ["sheet", "known"] ["sheet", "known"] (defScope (top 64)) := ⟨rfl, rfl, rfl, by decide +kernel, rfl, by decide +kernel, by decide +kernel⟩
theorem ok_45 {n : Nat} (hd : HD K mg fds) (I : AllOk P w K mg base fds n) : FnOk P w K mg base (L2.CX P w) (n + 1) (He.ga K "borne_in") (fds 45) ["sheet", "known"] (spF (gm K) 2 false (b_borne_in (prog n))) :=
  have sN : List.Nodup (α := Str) ["sheet", "known"] := sc_45.nd
  fn_ok (mv := []) (owN := []) (owL := []) (kr := .rp) (fd_45 hd) sc_45 rfl rfl (by decide) (fun h => nomatch h) fun cdv A outer s H E hr =>
    have tk := takesX (P := P) (w := w) (K := K) (mg := mg) (base := base) (N := ["sheet", "known"]) (qual := "borne_in") (scope := defScope (top 64)) (f := He.ga K "borne_in") (cdv := cdv) (A := A) (outer := outer) (s := s) (H := H) (E := E)
    have px := passX (P := P) (w := w) (K := K) (mg := mg) (base := base) (N := ["sheet", "known"]) (qual := "borne_in") (scope := defScope (top 64)) (f := He.ga K "borne_in") (cdv := cdv) (A := A) (outer := outer) (s := s) (H := H) (E := E)
    (SSs.one (SS.retRp (SE.call (o := false) I.h37 hr (bn_37 hd) (ln_37 _) tk (by rfl) (hd.hgl 37 _ rfl).1 (hd.hgl 37 _ rfl).2 (SA.cons (.inl rfl) (SE.ix (Room.u50 hr) (SE.toRd (SE.var rfl (.inl rfl))) (SE.toRd SE.int)) (SA.cons (.inl rfl) (SE.ix (Room.u50 hr) (SE.toRd (SE.var rfl (.inl rfl))) (SE.toRd SE.int)) (SA.cons (.inl rfl) (SE.ix (Room.u50 hr) (SE.toRd (SE.var rfl (.inl rfl))) (SE.toRd (SE.un un_negD (SE.toRd SE.int)))) (SA.cons (.inl rfl) SE.non (SA.cons (.inl rfl) (SE.var rfl (.inl rfl)) SA.nil))))))))
theorem sc_46 : FnScope ["prime", "many", "found", "_", "later", "lot", "rest"] ["prime", "many"] (defScope (top 65)) := ⟨rfl, rfl, rfl, by decide +kernel, rfl, by decide +kernel, by decide +kernel⟩
theorem ok_46 {n : Nat} (hd : HD K mg fds) (I : AllOk P w K mg base fds n) : FnOk P w K mg base (L2.CX P w) (n + 1) (He.ga K "all_lots") (fds 46) ["prime", "many"] (spF (gm K) 2 false (b_all_lots (prog n))) :=
  have sN : List.Nodup (α := Str) ["prime", "many", "found", "_", "later", "lot", "rest"] := sc_46.nd
  fn_ok (mv := [4]) (owN := []) (owL := []) (kr := .rp) (fd_46 hd) sc_46 rfl rfl (by decide) (fun h => nomatch h) fun cdv A outer s H E hr =>
    have tk := takesX (P := P) (w := w) (K := K) (mg := mg) (base := base) (N := ["prime", "many", "found", "_", "later", "lot", "rest"]) (qual := "all_lots") (scope := defScope (top 65)) (f := He.ga K "all_lots") (cdv := cdv) (A := A) (outer := outer) (s := s) (H := H) (E := E)
    have px := passX (P := P) (w := w) (K := K) (mg := mg) (base := base) (N := ["prime", "many", "found", "_", "later", "lot", "rest"]) (qual := "all_lots") (scope := defScope (top 65)) (f := He.ga K "all_lots") (cdv := cdv) (A := A) (outer := outer) (s := s) (H := H) (E := E)
    (SSs.cons (SS.asg (SE.toRp (SE.lst (SA.cons (.inl rfl) (SE.toRp (SE.tup SA.nil)) SA.nil))) (SG.name sN rfl (.inl rfl) (by decide) (by decide : (2 : Nat) < 7)))
      (SSs.cons (SS.for_ (hw := by exact fun h => nomatch h) (by exact fun h => nomatch h) px rfl (SI.range1 (by rfl) (hd.hfr 9 _ rfl) (SA.cons (.inl rfl) (SE.var rfl (.inl rfl)) SA.nil)) (SG.name sN rfl (.inl rfl) (by decide) (by decide : (3 : Nat) < 7)) (SSs.cons (SS.asgMv sN rfl (.inl rfl) (by decide) (by decide : (4 : Nat) < 7) (SE.lst SA.nil) rfl)
      (SSs.cons (SS.for_ (hw := by exact fun h => nomatch h) (by exact fun h => nomatch h) px rfl (SI.any (SE.var rfl (.inl rfl))) (SG.name sN rfl (.inr rfl) (by decide) (by decide : (5 : Nat) < 7)) (SSs.one (SS.ext rfl (.inl rfl) (by decide) (by decide) (SE.toRp (SE.comp (own := [("rest", 6)]) (vs := [6]) (hw := by exact fun h => nomatch h) rfl sN (SI.range1 (by rfl) (hd.hfr 9 _ rfl) (SA.cons (.inl rfl) (SE.var rfl (.inl rfl)) SA.nil)) (blkOk_by (by rfl)) (fun _ _ _ _ _ => (SG.name sN rfl (.inl rfl) (by decide) (by decide : (6 : Nat) < 7))) (fun _ _ _ _ _ => ST.nil) (fun _ _ _ _ _ => (SE.toRp (SE.op op_addD (SE.toRd (SE.var rfl (.inr (.inl rfl)))) (SE.toRd (SE.tup (SA.cons (.inl rfl) (SE.var rfl (.inl rfl)) SA.nil)))))))))))
      (SSs.cons (SS.ite (SX.cmp gt_F (SE.toRd (SE.blt1 (o := true) len_F (by rfl) (hd.hfr 5 _ rfl) boot_len (SE.mvR rfl (.inl rfl)))) (SE.toRd (SE.glob (by rfl) (hd.hcs 9 _ _ rfl))) rfl) (SSs.one (SS.raiseE (by rfl) (takes_unl tk) (hd.hec 2 _ rfl) (by rfl) (by rfl))) SSs.nil)
      (SSs.one (SS.asg (SE.mvF rfl (.inl rfl)) (SG.name sN rfl (.inl rfl) (by decide) (by decide : (2 : Nat) < 7))))))))
      (SSs.one (SS.retRp (SE.var rfl (.inl rfl))))))
theorem sc_47 : FnScope ["prime", "many", "found", "_"] ["prime", "many"] (defScope (top 73)) := ⟨rfl, rfl, rfl, by decide +kernel, rfl, by decide +kernel, by decide +kernel⟩
theorem ok_47 {n : Nat} (hd : HD K mg fds) (I : AllOk P w K mg base fds n) : FnOk P w K mg base (L2.CX P w) (n + 1) (He.ga K "counted_power") (fds 47) ["prime", "many"] (spF (gm K) 2 false (b_counted_power (prog n))) :=
  have sN : List.Nodup (α := Str) ["prime", "many", "found", "_"] := sc_47.nd
  fn_ok (mv := []) (owN := []) (owL := []) (kr := .rp) (fd_47 hd) sc_47 rfl rfl (by decide) (fun h => nomatch h) fun cdv A outer s H E hr =>
    have tk := takesX (P := P) (w := w) (K := K) (mg := mg) (base := base) (N := ["prime", "many", "found", "_"]) (qual := "counted_power") (scope := defScope (top 73)) (f := He.ga K "counted_power") (cdv := cdv) (A := A) (outer := outer) (s := s) (H := H) (E := E)
    have px := passX (P := P) (w := w) (K := K) (mg := mg) (base := base) (N := ["prime", "many", "found", "_"]) (qual := "counted_power") (scope := defScope (top 73)) (f := He.ga K "counted_power") (cdv := cdv) (A := A) (outer := outer) (s := s) (H := H) (E := E)
    (SSs.cons (SS.asg SE.int (SG.name sN rfl (.inl rfl) (by decide) (by decide : (2 : Nat) < 4)))
      (SSs.cons (SS.for_ (hw := by exact fun h => nomatch h) (by exact fun h => nomatch h) px rfl (SI.range1 (by rfl) (hd.hfr 9 _ rfl) (SA.cons (.inl rfl) (SE.var rfl (.inl rfl)) SA.nil)) (SG.name sN rfl (.inl rfl) (by decide) (by decide : (3 : Nat) < 4)) (SSs.one (SS.asg (SE.toRp (SE.op op_mulD (SE.toRd (SE.var rfl (.inl rfl))) (SE.toRd (SE.var rfl (.inl rfl))))) (SG.name sN rfl (.inl rfl) (by decide) (by decide : (2 : Nat) < 4)))))
      (SSs.one (SS.retRp (SE.var rfl (.inl rfl))))))
theorem sc_48 : FnScope ["prime", "many", "rows", "known", "heads", "broken", "here", "goods", "cell", "told", "times", "number", "paper", "pairs", "head", "rest", "_"] ["prime", "many", "rows", "known"] (defScope (top 74)) := ⟨rfl, rfl, rfl, by decide +kernel, rfl, by decide +kernel, by decide +kernel⟩
theorem ok_48 {n : Nat} (hd : HD K mg fds) (I : AllOk P w K mg base fds n) : FnOk P w K mg base (L2.CX P w) (n + 1) (He.ga K "counted") (fds 48) ["prime", "many", "rows", "known"] (spF (gm K) 4 false (b_counted (prog n))) :=
  have sN : List.Nodup (α := Str) ["prime", "many", "rows", "known", "heads", "broken", "here", "goods", "cell", "told", "times", "number", "paper", "pairs", "head", "rest", "_"] := sc_48.nd
  fn_ok (mv := []) (owN := []) (owL := []) (kr := .rp) (fd_48 hd) sc_48 rfl rfl (by decide) (fun h => nomatch h) fun cdv A outer s H E hr =>
    have tk := takesX (P := P) (w := w) (K := K) (mg := mg) (base := base) (N := ["prime", "many", "rows", "known", "heads", "broken", "here", "goods", "cell", "told", "times", "number", "paper", "pairs", "head", "rest", "_"]) (qual := "counted") (scope := defScope (top 74)) (f := He.ga K "counted") (cdv := cdv) (A := A) (outer := outer) (s := s) (H := H) (E := E)
    have px := passX (P := P) (w := w) (K := K) (mg := mg) (base := base) (N := ["prime", "many", "rows", "known", "heads", "broken", "here", "goods", "cell", "told", "times", "number", "paper", "pairs", "head", "rest", "_"]) (qual := "counted") (scope := defScope (top 74)) (f := He.ga K "counted") (cdv := cdv) (A := A) (outer := outer) (s := s) (H := H) (E := E)
    (SSs.cons (SS.asg (SE.call (o := false) I.h30 hr (bn_30 hd) (ln_30 _) tk (by rfl) (hd.hgl 30 _ rfl).1 (hd.hgl 30 _ rfl).2 (SA.cons (.inl rfl) (SE.var rfl (.inr (.inl rfl))) (SA.cons (.inl rfl) (SE.call (o := false) I.h26 hr (bn_26 hd) (ln_26 _) tk (by rfl) (hd.hgl 26 _ rfl).1 (hd.hgl 26 _ rfl).2 (SA.cons (.inl rfl) (SE.var rfl (.inr (.inl rfl))) (SA.cons (.inl rfl) (SE.var rfl (.inr (.inl rfl))) (SA.cons (.inl rfl) (SE.var rfl (.inr (.inl rfl))) SA.nil)))) SA.nil))) (SG.tup (n := 0) rfl (SGs.cons (SG.name sN rfl (.inl rfl) (by decide) (by decide : (4 : Nat) < 17)) (SGs.cons (SG.name sN rfl (.inl rfl) (by decide) (by decide : (5 : Nat) < 17)) SGs.nil))))
      (SSs.cons (SS.ite (SX.cmp isn_F (SE.toRd (SE.var rfl (.inl rfl))) (SE.toRd SE.non) rfl) (SSs.one (SS.retRp (SE.toRp (SE.tup (SA.cons (.inl rfl) SE.int (SA.cons (.inl rfl) (SE.toRp (SE.tup (SA.cons (.inl rfl) (SE.glob (by rfl) (hd.hcs 12 _ _ rfl)) (SA.cons (.inl rfl) (SE.call (o := false) I.h31 hr (bn_31 hd) (ln_31 _) tk (by rfl) (hd.hgl 31 _ rfl).1 (hd.hgl 31 _ rfl).2 (SA.cons (.inl rfl) (SE.ix (Room.u50 hr) (SE.toRd (SE.var rfl (.inl rfl))) (SE.toRd SE.int)) SA.nil)) SA.nil)))) SA.nil)))))) SSs.nil)
      (SSs.cons (SS.asg (SE.call (o := false) I.h34 hr (bn_34 hd) (ln_34 _) tk (by rfl) (hd.hgl 34 _ rfl).1 (hd.hgl 34 _ rfl).2 (SA.cons (.inl rfl) (SE.var rfl (.inr (.inl rfl))) (SA.cons (.inl rfl) (SE.var rfl (.inr (.inl rfl))) (SA.cons (.inl rfl) SE.non (SA.cons (.inl rfl) (SE.var rfl (.inr (.inl rfl))) SA.nil))))) (SG.name sN rfl (.inr rfl) (by decide) (by decide : (6 : Nat) < 17)))
      (SSs.cons (SS.ite (SX.cmp is_F (SE.toRd (SE.var rfl (.inr (.inl rfl)))) (SE.toRd SE.non) rfl) (SSs.one (SS.retRp (SE.toRp (SE.tup (SA.cons (.inl rfl) (SE.call (o := false) I.h47 hr (bn_47 hd) (ln_47 _) tk (by rfl) (hd.hgl 47 _ rfl).1 (hd.hgl 47 _ rfl).2 (SA.cons (.inl rfl) (SE.var rfl (.inr (.inl rfl))) (SA.cons (.inl rfl) (SE.toRp (SE.op op_subD (SE.toRd (SE.op op_subD (SE.toRd (SE.var rfl (.inr (.inl rfl)))) (SE.toRd (SE.blt1 (o := true) len_F (by rfl) (hd.hfr 5 _ rfl) boot_len (SE.toRd (SE.var rfl (.inr (.inl rfl)))))))) (SE.toRd (SE.blt1 (o := true) len_F (by rfl) (hd.hfr 5 _ rfl) boot_len (SE.toRd (SE.var rfl (.inl rfl))))))) SA.nil))) (SA.cons (.inl rfl) (SE.toRp (SE.tup (SA.cons (.inl rfl) (SE.glob (by rfl) (hd.hcs 13 _ _ rfl)) SA.nil))) SA.nil)))))) SSs.nil)
      (SSs.cons (SS.asgLc (own := [("cell", 8), ("head", 14)]) (vs := [8, 14]) (hw := by exact fun h => nomatch h) rfl sN rfl rfl (by decide) (by decide : (7 : Nat) < 17) rfl (by rfl) (by rfl) (SI.any (SE.var rfl (.inl rfl))) (blkOk_by (by rfl)) (fun _ _ _ _ _ => (SG.tup (n := 0) rfl (SGs.cons (SG.name sN rfl (.inl rfl) (by decide) (by decide : (8 : Nat) < 17)) (SGs.cons (SG.name sN rfl (.inl rfl) (by decide) (by decide : (14 : Nat) < 17)) SGs.nil)))) (fun _ _ _ _ _ => (ST.one (SX.cmp (eq_F (Room.u50 hr)) (SE.toRd (SE.blt1 (o := true) len_F (by rfl) (hd.hfr 5 _ rfl) boot_len (SE.toRd (SE.ix (Room.u50 hr) (SE.toRd (SE.ix (Room.u50 hr) (SE.toRd (SE.var rfl (.inl rfl))) (SE.toRd SE.int))) (SE.toRd SE.int))))) (SE.toRd SE.int) rfl))) (fun _ _ _ _ _ => (SE.toRp (SE.tup (SA.cons (.inl rfl) (SE.var rfl (.inl rfl)) (SA.cons (.inl rfl) (SE.var rfl (.inl rfl)) SA.nil))))))
      (SSs.cons (SS.ite (SX.cmp (ne_F (Room.u50 hr)) (SE.toRd (SE.var rfl (.inl rfl))) (SE.toRd (SE.lst SA.nil)) rfl) (SSs.cons (SS.asg (SE.ix (Room.u50 hr) (SE.toRd (SE.var rfl (.inl rfl))) (SE.toRd SE.int)) (SG.tup (n := 0) rfl (SGs.cons (SG.name sN rfl (.inl rfl) (by decide) (by decide : (8 : Nat) < 17)) (SGs.cons (SG.tup (n := 0) rfl (SGs.cons (SG.name sN rfl (.inl rfl) (by decide) (by decide : (9 : Nat) < 17)) (SGs.cons (SG.name sN rfl (.inl rfl) (by decide) (by decide : (10 : Nat) < 17)) SGs.nil))) SGs.nil))))
      (SSs.cons (SS.asg (SE.call (o := false) I.h48 hr (bn_48 hd) (ln_48 _) tk (by rfl) (hd.hgl 48 _ rfl).1 (hd.hgl 48 _ rfl).2 (SA.cons (.inl rfl) (SE.var rfl (.inr (.inl rfl))) (SA.cons (.inl rfl) (SE.var rfl (.inr (.inl rfl))) (SA.cons (.inl rfl) (SE.var rfl (.inr (.inl rfl))) (SA.cons (.inl rfl) (SE.call (o := false) I.h38 hr (bn_38 hd) (ln_38 _) tk (by rfl) (hd.hgl 38 _ rfl).1 (hd.hgl 38 _ rfl).2 (SA.cons (.inl rfl) (SE.var rfl (.inr (.inl rfl))) (SA.cons (.inl rfl) (SE.var rfl (.inl rfl)) (SA.cons (.inl rfl) (SE.toRp (SE.op op_modD (SE.toRd (SE.un un_negD (SE.toRd (SE.ix (Room.u50 hr) (SE.toRd (SE.var rfl (.inl rfl))) (SE.toRd SE.int))))) (SE.toRd (SE.var rfl (.inr (.inl rfl)))))) SA.nil)))) SA.nil))))) (SG.tup (n := 0) rfl (SGs.cons (SG.name sN rfl (.inl rfl) (by decide) (by decide : (11 : Nat) < 17)) (SGs.cons (SG.name sN rfl (.inl rfl) (by decide) (by decide : (12 : Nat) < 17)) SGs.nil))))
      (SSs.one (SS.retRp (SE.toRp (SE.tup (SA.cons (.inl rfl) (SE.var rfl (.inl rfl)) (SA.cons (.inl rfl) (SE.toRp (SE.tup (SA.cons (.inl rfl) (SE.glob (by rfl) (hd.hcs 14 _ _ rfl)) (SA.cons (.inl rfl) (SE.var rfl (.inl rfl)) (SA.cons (.inl rfl) (SE.call (o := false) I.h31 hr (bn_31 hd) (ln_31 _) tk (by rfl) (hd.hgl 31 _ rfl).1 (hd.hgl 31 _ rfl).2 (SA.cons (.inl rfl) (SE.var rfl (.inl rfl)) SA.nil)) (SA.cons (.inl rfl) (SE.var rfl (.inl rfl)) SA.nil)))))) SA.nil)))))))) SSs.nil)
      (SSs.cons (SS.asgLc (own := [("rest", 15)]) (vs := [15]) (hw := by exact fun h => nomatch h) rfl sN rfl rfl (by decide) (by decide : (13 : Nat) < 17) rfl (by rfl) (by rfl) (SI.range1 (by rfl) (hd.hfr 9 _ rfl) (SA.cons (.inl rfl) (SE.var rfl (.inr (.inl rfl))) SA.nil)) (blkOk_by (by rfl)) (fun _ _ _ _ _ => (SG.name sN rfl (.inl rfl) (by decide) (by decide : (15 : Nat) < 17))) (fun _ _ _ _ _ => ST.nil) (fun _ _ _ _ _ => (SE.call (o := false) I.h48 hr (bn_48 hd) (ln_48 _) L2.takes0 (by rfl) (hd.hgl 48 _ rfl).1 (hd.hgl 48 _ rfl).2 (SA.cons (.inl rfl) (SE.var rfl (.inr (.inl rfl))) (SA.cons (.inl rfl) (SE.var rfl (.inr (.inl rfl))) (SA.cons (.inl rfl) (SE.var rfl (.inr (.inl rfl))) (SA.cons (.inl rfl) (SE.call (o := false) I.h38 hr (bn_38 hd) (ln_38 _) L2.takes0 (by rfl) (hd.hgl 38 _ rfl).1 (hd.hgl 38 _ rfl).2 (SA.cons (.inl rfl) (SE.var rfl (.inr (.inl rfl))) (SA.cons (.inl rfl) (SE.var rfl (.inr (.inl rfl))) (SA.cons (.inl rfl) (SE.var rfl (.inl rfl)) SA.nil)))) SA.nil)))))))
      (SSs.one (SS.retRp (SE.toRp (SE.tup (SA.cons (.inl rfl) (SE.toRp (SE.blt1 (o := true) (sum_F (by rfl)) (by rfl) (hd.hfr 11 _ rfl) boot_sum (SE.toRd (SE.comp (own := [("number", 11), ("_", 16)]) (vs := [11, 16]) (hw := by exact fun h => nomatch h) rfl sN (SI.any (SE.var rfl (.inl rfl))) (blkOk_by (by rfl)) (fun _ _ _ _ _ => (SG.tup (n := 0) rfl (SGs.cons (SG.name sN rfl (.inl rfl) (by decide) (by decide : (11 : Nat) < 17)) (SGs.cons (SG.name sN rfl (.inl rfl) (by decide) (by decide : (16 : Nat) < 17)) SGs.nil)))) (fun _ _ _ _ _ => ST.nil) (fun _ _ _ _ _ => (SE.var rfl (.inl rfl))))))) (SA.cons (.inl rfl) (SE.toRp (SE.tup (SA.cons (.inl rfl) (SE.glob (by rfl) (hd.hcs 15 _ _ rfl)) (SA.cons (.inl rfl) (SE.var rfl (.inr (.inl rfl))) (SA.cons (.inl rfl) (SE.toRp (SE.ty1 (o := true) tuple_F (by rfl) (hd.hfr 2 _ rfl) boot_tuple (SE.toRd (SE.comp (own := [("_", 16), ("paper", 12)]) (vs := [16, 12]) (hw := by exact fun h => nomatch h) rfl sN (SI.any (SE.var rfl (.inl rfl))) (blkOk_by (by rfl)) (fun _ _ _ _ _ => (SG.tup (n := 0) rfl (SGs.cons (SG.name sN rfl (.inl rfl) (by decide) (by decide : (16 : Nat) < 17)) (SGs.cons (SG.name sN rfl (.inl rfl) (by decide) (by decide : (12 : Nat) < 17)) SGs.nil)))) (fun _ _ _ _ _ => ST.nil) (fun _ _ _ _ _ => (SE.var rfl (.inl rfl))))))) SA.nil))))) SA.nil)))))))))))))
theorem sc_49 : FnScope ["sheet", "own"] ["sheet"] (defScope (top 75)) := ⟨rfl, rfl, rfl, by decide +kernel, rfl, by decide +kernel, by decide +kernel⟩
theorem ok_49 {n : Nat} (hd : HD K mg fds) (I : AllOk P w K mg base fds n) : FnOk P w K mg base (L2.CX P w) (n + 1) (He.ga K "how_many_fillings") (fds 49) ["sheet"] (spF (gm K) 1 false (b_how_many_fillings (prog n))) :=
  have sN : List.Nodup (α := Str) ["sheet", "own"] := sc_49.nd
  fn_ok (mv := []) (owN := []) (owL := []) (kr := .rp) (fd_49 hd) sc_49 rfl rfl (by decide) (fun h => nomatch h) fun cdv A outer s H E hr =>
    have tk := takesX (P := P) (w := w) (K := K) (mg := mg) (base := base) (N := ["sheet", "own"]) (qual := "how_many_fillings") (scope := defScope (top 75)) (f := He.ga K "how_many_fillings") (cdv := cdv) (A := A) (outer := outer) (s := s) (H := H) (E := E)
    have px := passX (P := P) (w := w) (K := K) (mg := mg) (base := base) (N := ["sheet", "own"]) (qual := "how_many_fillings") (scope := defScope (top 75)) (f := He.ga K "how_many_fillings") (cdv := cdv) (A := A) (outer := outer) (s := s) (H := H) (E := E)
    (SSs.cons (SS.asg (SE.call (o := false) I.h25 hr (bn_25 hd) (ln_25 _) tk (by rfl) (hd.hgl 25 _ rfl).1 (hd.hgl 25 _ rfl).2 (SA.cons (.inl rfl) (SE.var rfl (.inl rfl)) SA.nil)) (SG.name sN rfl (.inl rfl) (by decide) (by decide : (1 : Nat) < 2)))
      (SSs.one (SS.retRp (SE.ix (Room.u50 hr) (SE.toRd (SE.call (o := false) I.h48 hr (bn_48 hd) (ln_48 _) tk (by rfl) (hd.hgl 48 _ rfl).1 (hd.hgl 48 _ rfl).2 (SA.cons (.inl rfl) (SE.ix (Room.u50 hr) (SE.toRd (SE.var rfl (.inl rfl))) (SE.toRd SE.int)) (SA.cons (.inl rfl) (SE.ix (Room.u50 hr) (SE.toRd (SE.var rfl (.inl rfl))) (SE.toRd SE.int)) (SA.cons (.inl rfl) (SE.ix (Room.u50 hr) (SE.toRd (SE.var rfl (.inl rfl))) (SE.toRd (SE.un un_negD (SE.toRd SE.int)))) (SA.cons (.inl rfl) (SE.toRp SE.dct0) SA.nil)))))) (SE.toRd SE.int)))))
theorem sc_50 : FnScope ["sheet", "numbers", "own", "told"] ["sheet", "numbers"] (defScope (top 76)) := ⟨rfl, rfl, rfl, by decide +kernel, rfl, by decide +kernel, by decide +kernel⟩
theorem ok_50 {n : Nat} (hd : HD K mg fds) (I : AllOk P w K mg base fds n) : FnOk P w K mg base (L2.CX P w) (n + 1) (He.ga K "how_many_for") (fds 50) ["sheet", "numbers"] (spF (gm K) 2 false (b_how_many_for (prog n))) :=
  have sN : List.Nodup (α := Str) ["sheet", "numbers", "own", "told"] := sc_50.nd
  fn_ok (mv := []) (owN := []) (owL := []) (kr := .rp) (fd_50 hd) sc_50 rfl rfl (by decide) (fun h => nomatch h) fun cdv A outer s H E hr =>
    have tk := takesX (P := P) (w := w) (K := K) (mg := mg) (base := base) (N := ["sheet", "numbers", "own", "told"]) (qual := "how_many_for") (scope := defScope (top 76)) (f := He.ga K "how_many_for") (cdv := cdv) (A := A) (outer := outer) (s := s) (H := H) (E := E)
    have px := passX (P := P) (w := w) (K := K) (mg := mg) (base := base) (N := ["sheet", "numbers", "own", "told"]) (qual := "how_many_for") (scope := defScope (top 76)) (f := He.ga K "how_many_for") (cdv := cdv) (A := A) (outer := outer) (s := s) (H := H) (E := E)
    (SSs.cons (SS.asg (SE.call (o := false) I.h43 hr (bn_43 hd) (ln_43 _) tk (by rfl) (hd.hgl 43 _ rfl).1 (hd.hgl 43 _ rfl).2 (SA.cons (.inl rfl) (SE.var rfl (.inl rfl)) (SA.cons (.inl rfl) (SE.var rfl (.inl rfl)) SA.nil))) (SG.tup (n := 0) rfl (SGs.cons (SG.name sN rfl (.inl rfl) (by decide) (by decide : (2 : Nat) < 4)) (SGs.cons (SG.name sN rfl (.inl rfl) (by decide) (by decide : (3 : Nat) < 4)) SGs.nil))))
      (SSs.one (SS.retRp (SE.ix (Room.u50 hr) (SE.toRd (SE.call (o := false) I.h48 hr (bn_48 hd) (ln_48 _) tk (by rfl) (hd.hgl 48 _ rfl).1 (hd.hgl 48 _ rfl).2 (SA.cons (.inl rfl) (SE.ix (Room.u50 hr) (SE.toRd (SE.var rfl (.inl rfl))) (SE.toRd SE.int)) (SA.cons (.inl rfl) (SE.ix (Room.u50 hr) (SE.toRd (SE.var rfl (.inl rfl))) (SE.toRd SE.int)) (SA.cons (.inl rfl) (SE.ix (Room.u50 hr) (SE.toRd (SE.var rfl (.inl rfl))) (SE.toRd (SE.un un_negD (SE.toRd SE.int)))) (SA.cons (.inl rfl) (SE.call (o := false) I.h44 hr (bn_44 hd) (ln_44 _) tk (by rfl) (hd.hgl 44 _ rfl).1 (hd.hgl 44 _ rfl).2 (SA.cons (.inl rfl) (SE.var rfl (.inl rfl)) (SA.cons (.inl rfl) (SE.var rfl (.inl rfl)) SA.nil))) SA.nil)))))) (SE.toRd SE.int)))))
theorem sc_51 : FnScope ["sheet", "numbers", "own", "told"] ["sheet", "numbers"] (defScope (top 77)) := ⟨rfl, rfl, rfl, by decide +kernel, rfl, by decide +kernel, by decide +kernel⟩
theorem ok_51 {n : Nat} (hd : HD K mg fds) (I : AllOk P w K mg base fds n) : FnOk P w K mg base (L2.CX P w) (n + 1) (He.ga K "count_paper") (fds 51) ["sheet", "numbers"] (spF (gm K) 2 false (b_count_paper (prog n))) :=
  have sN : List.Nodup (α := Str) ["sheet", "numbers", "own", "told"] := sc_51.nd
  fn_ok (mv := []) (owN := []) (owL := []) (kr := .rp) (fd_51 hd) sc_51 rfl rfl (by decide) (fun h => nomatch h) fun cdv A outer s H E hr =>
    have tk := takesX (P := P) (w := w) (K := K) (mg := mg) (base := base) (N := ["sheet", "numbers", "own", "told"]) (qual := "count_paper") (scope := defScope (top 77)) (f := He.ga K "count_paper") (cdv := cdv) (A := A) (outer := outer) (s := s) (H := H) (E := E)
    have px := passX (P := P) (w := w) (K := K) (mg := mg) (base := base) (N := ["sheet", "numbers", "own", "told"]) (qual := "count_paper") (scope := defScope (top 77)) (f := He.ga K "count_paper") (cdv := cdv) (A := A) (outer := outer) (s := s) (H := H) (E := E)
    (SSs.cons (SS.asg (SE.call (o := false) I.h43 hr (bn_43 hd) (ln_43 _) tk (by rfl) (hd.hgl 43 _ rfl).1 (hd.hgl 43 _ rfl).2 (SA.cons (.inl rfl) (SE.var rfl (.inl rfl)) (SA.cons (.inl rfl) (SE.var rfl (.inl rfl)) SA.nil))) (SG.tup (n := 0) rfl (SGs.cons (SG.name sN rfl (.inl rfl) (by decide) (by decide : (2 : Nat) < 4)) (SGs.cons (SG.name sN rfl (.inl rfl) (by decide) (by decide : (3 : Nat) < 4)) SGs.nil))))
      (SSs.one (SS.retRp (SE.ix (Room.u50 hr) (SE.toRd (SE.call (o := false) I.h48 hr (bn_48 hd) (ln_48 _) tk (by rfl) (hd.hgl 48 _ rfl).1 (hd.hgl 48 _ rfl).2 (SA.cons (.inl rfl) (SE.ix (Room.u50 hr) (SE.toRd (SE.var rfl (.inl rfl))) (SE.toRd SE.int)) (SA.cons (.inl rfl) (SE.ix (Room.u50 hr) (SE.toRd (SE.var rfl (.inl rfl))) (SE.toRd SE.int)) (SA.cons (.inl rfl) (SE.ix (Room.u50 hr) (SE.toRd (SE.var rfl (.inl rfl))) (SE.toRd (SE.un un_negD (SE.toRd SE.int)))) (SA.cons (.inl rfl) (SE.call (o := false) I.h44 hr (bn_44 hd) (ln_44 _) tk (by rfl) (hd.hgl 44 _ rfl).1 (hd.hgl 44 _ rfl).2 (SA.cons (.inl rfl) (SE.var rfl (.inl rfl)) (SA.cons (.inl rfl) (SE.var rfl (.inl rfl)) SA.nil))) SA.nil)))))) (SE.toRd SE.int)))))
theorem sc_52 : FnScope ["prime", "many", "rows", "known", "thing", "heads", "broken", "found", "rest"] ["prime", "many", "rows", "known", "thing"] (defScope (top 78)) := ⟨rfl, rfl, rfl, by decide +kernel, rfl, by decide +kernel, by decide +kernel⟩
theorem ok_52 {n : Nat} (hd : HD K mg fds) (I : AllOk P w K mg base fds n) : FnOk P w K mg base (L2.CX P w) (n + 1) (He.ga K "count_in") (fds 52) ["prime", "many", "rows", "known", "thing"] (spF (gm K) 5 false (b_count_in (prog n))) :=
  have sN : List.Nodup (α := Str) ["prime", "many", "rows", "known", "thing", "heads", "broken", "found", "rest"] := sc_52.nd
  fn_ok (mv := []) (owN := []) (owL := []) (kr := .rp) (fd_52 hd) sc_52 rfl rfl (by decide) (fun h => nomatch h) fun cdv A outer s H E hr =>
    have tk := takesX (P := P) (w := w) (K := K) (mg := mg) (base := base) (N := ["prime", "many", "rows", "known", "thing", "heads", "broken", "found", "rest"]) (qual := "count_in") (scope := defScope (top 78)) (f := He.ga K "count_in") (cdv := cdv) (A := A) (outer := outer) (s := s) (H := H) (E := E)
    have px := passX (P := P) (w := w) (K := K) (mg := mg) (base := base) (N := ["prime", "many", "rows", "known", "thing", "heads", "broken", "found", "rest"]) (qual := "count_in") (scope := defScope (top 78)) (f := He.ga K "count_in") (cdv := cdv) (A := A) (outer := outer) (s := s) (H := H) (E := E)
    (SSs.cons (SS.ite (SX.bool (SW.or (SX.not (SX.val (SE.isi (k := 3) (by decide) (by rfl) (hd.hfr 0 _ rfl) (by rfl) (hd.hfr 2 _ rfl) boot_tuple (SE.toRd (SE.var rfl (.inl rfl)))))) (SW.or (SX.cmp (eq_F (Room.u50 hr)) (SE.toRd (SE.var rfl (.inl rfl))) (SE.toRd (SE.tup SA.nil)) rfl) (SW.one_or (SX.not (SX.val (SE.isi (k := 2) (by decide) (by rfl) (hd.hfr 0 _ rfl) (by rfl) (hd.hfr 14 _ rfl) boot_str (SE.toRd (SE.ix (Room.u50 hr) (SE.toRd (SE.var rfl (.inl rfl))) (SE.toRd SE.int)))))))))) (SSs.one (SS.retRp SE.non)) SSs.nil)
      (SSs.cons (SS.ite (SX.bool (SW.and (SX.cmp (eq_F (Room.u50 hr)) (SE.toRd (SE.ix (Room.u50 hr) (SE.toRd (SE.var rfl (.inl rfl))) (SE.toRd SE.int))) (SE.toRd (SE.glob (by rfl) (hd.hcs 13 _ _ rfl))) rfl) (SW.one_and (SX.cmp (eq_F (Room.u50 hr)) (SE.toRd (SE.blt1 (o := true) len_F (by rfl) (hd.hfr 5 _ rfl) boot_len (SE.toRd (SE.var rfl (.inl rfl))))) (SE.toRd SE.int) rfl)))) (SSs.cons (SS.asg (SE.call (o := false) I.h30 hr (bn_30 hd) (ln_30 _) tk (by rfl) (hd.hgl 30 _ rfl).1 (hd.hgl 30 _ rfl).2 (SA.cons (.inl rfl) (SE.var rfl (.inl rfl)) (SA.cons (.inl rfl) (SE.call (o := false) I.h26 hr (bn_26 hd) (ln_26 _) tk (by rfl) (hd.hgl 26 _ rfl).1 (hd.hgl 26 _ rfl).2 (SA.cons (.inl rfl) (SE.var rfl (.inl rfl)) (SA.cons (.inl rfl) (SE.var rfl (.inl rfl)) (SA.cons (.inl rfl) (SE.var rfl (.inl rfl)) SA.nil)))) SA.nil))) (SG.tup (n := 0) rfl (SGs.cons (SG.name sN rfl (.inl rfl) (by decide) (by decide : (5 : Nat) < 9)) (SGs.cons (SG.name sN rfl (.inl rfl) (by decide) (by decide : (6 : Nat) < 9)) SGs.nil))))
      (SSs.cons (SS.ite (SX.bool (SW.or (SX.cmp isn_F (SE.toRd (SE.var rfl (.inl rfl))) (SE.toRd SE.non) rfl) (SW.one_or (SX.cmp isn_F (SE.toRd (SE.call (o := false) I.h34 hr (bn_34 hd) (ln_34 _) tk (by rfl) (hd.hgl 34 _ rfl).1 (hd.hgl 34 _ rfl).2 (SA.cons (.inl rfl) (SE.var rfl (.inl rfl)) (SA.cons (.inl rfl) (SE.var rfl (.inl rfl)) (SA.cons (.inl rfl) SE.non (SA.cons (.inl rfl) (SE.var rfl (.inl rfl)) SA.nil)))))) (SE.toRd SE.non) rfl)))) (SSs.one (SS.retRp SE.non)) SSs.nil)
      (SSs.one (SS.retRp (SE.call (o := false) I.h47 hr (bn_47 hd) (ln_47 _) tk (by rfl) (hd.hgl 47 _ rfl).1 (hd.hgl 47 _ rfl).2 (SA.cons (.inl rfl) (SE.var rfl (.inl rfl)) (SA.cons (.inl rfl) (SE.toRp (SE.op op_subD (SE.toRd (SE.op op_subD (SE.toRd (SE.var rfl (.inl rfl))) (SE.toRd (SE.blt1 (o := true) len_F (by rfl) (hd.hfr 5 _ rfl) boot_len (SE.toRd (SE.var rfl (.inl rfl))))))) (SE.toRd (SE.blt1 (o := true) len_F (by rfl) (hd.hfr 5 _ rfl) boot_len (SE.toRd (SE.var rfl (.inl rfl))))))) SA.nil))))))) SSs.nil)
      (SSs.cons (SS.ite (SX.bool (SW.and (SX.cmp (eq_F (Room.u50 hr)) (SE.toRd (SE.ix (Room.u50 hr) (SE.toRd (SE.var rfl (.inl rfl))) (SE.toRd SE.int))) (SE.toRd (SE.glob (by rfl) (hd.hcs 12 _ _ rfl))) rfl) (SW.and (SX.cmp (eq_F (Room.u50 hr)) (SE.toRd (SE.blt1 (o := true) len_F (by rfl) (hd.hfr 5 _ rfl) boot_len (SE.toRd (SE.var rfl (.inl rfl))))) (SE.toRd (SE.glob (by rfl) (hd.hcs 10 _ _ rfl))) rfl) (SW.one_and (SX.val (SE.call (o := false) I.h40 hr (bn_40 hd) (ln_40 _) tk (by rfl) (hd.hgl 40 _ rfl).1 (hd.hgl 40 _ rfl).2 (SA.cons (.inl rfl) (SE.var rfl (.inl rfl)) (SA.cons (.inl rfl) (SE.toRp (SE.blt1 (o := true) len_F (by rfl) (hd.hfr 5 _ rfl) boot_len (SE.toRd (SE.var rfl (.inl rfl))))) (SA.cons (.inl rfl) (SE.ix (Room.u50 hr) (SE.toRd (SE.var rfl (.inl rfl))) (SE.toRd SE.int)) SA.nil))))))))) (SSs.cons (SS.asg (SE.call (o := false) I.h41 hr (bn_41 hd) (ln_41 _) tk (by rfl) (hd.hgl 41 _ rfl).1 (hd.hgl 41 _ rfl).2 (SA.cons (.inl rfl) (SE.var rfl (.inl rfl)) (SA.cons (.inl rfl) (SE.var rfl (.inl rfl)) (SA.cons (.inl rfl) (SE.var rfl (.inl rfl)) (SA.cons (.inl rfl) (SE.ix (Room.u50 hr) (SE.toRd (SE.var rfl (.inl rfl))) (SE.toRd SE.int)) SA.nil))))) (SG.name sN rfl (.inl rfl) (by decide) (by decide : (7 : Nat) < 9)))
      (SSs.one (SS.retRp (SE.ife (SX.bool (SW.and (SX.cmp isn_F (SE.toRd (SE.var rfl (.inl rfl))) (SE.toRd SE.non) rfl) (SW.and (SX.cmp (eq_F (Room.u50 hr)) (SE.toRd (SE.ix (Room.u50 hr) (SE.toRd (SE.var rfl (.inl rfl))) (SE.toRd SE.int))) (SE.toRd (SE.tup SA.nil)) rfl) (SW.one_and (SX.cmp (ne_F (Room.u50 hr)) (SE.toRd (SE.ix (Room.u50 hr) (SE.toRd (SE.var rfl (.inl rfl))) (SE.toRd SE.int))) (SE.toRd SE.int) rfl))))) SE.int SE.non)))) SSs.nil)
      (SSs.cons (SS.ite (SX.bool (SW.and (SX.cmp (eq_F (Room.u50 hr)) (SE.toRd (SE.ix (Room.u50 hr) (SE.toRd (SE.var rfl (.inl rfl))) (SE.toRd SE.int))) (SE.toRd (SE.glob (by rfl) (hd.hcs 14 _ _ rfl))) rfl) (SW.and (SX.cmp (eq_F (Room.u50 hr)) (SE.toRd (SE.blt1 (o := true) len_F (by rfl) (hd.hfr 5 _ rfl) boot_len (SE.toRd (SE.var rfl (.inl rfl))))) (SE.toRd (SE.glob (by rfl) (hd.hcs 11 _ _ rfl))) rfl) (SW.one_and (SX.val (SE.call (o := false) I.h40 hr (bn_40 hd) (ln_40 _) tk (by rfl) (hd.hgl 40 _ rfl).1 (hd.hgl 40 _ rfl).2 (SA.cons (.inl rfl) (SE.var rfl (.inl rfl)) (SA.cons (.inl rfl) (SE.toRp (SE.blt1 (o := true) len_F (by rfl) (hd.hfr 5 _ rfl) boot_len (SE.toRd (SE.var rfl (.inl rfl))))) (SA.cons (.inl rfl) (SE.ix (Room.u50 hr) (SE.toRd (SE.var rfl (.inl rfl))) (SE.toRd (SE.glob (by rfl) (hd.hcs 10 _ _ rfl)))) SA.nil))))))))) (SSs.cons (SS.asg (SE.call (o := false) I.h41 hr (bn_41 hd) (ln_41 _) tk (by rfl) (hd.hgl 41 _ rfl).1 (hd.hgl 41 _ rfl).2 (SA.cons (.inl rfl) (SE.var rfl (.inl rfl)) (SA.cons (.inl rfl) (SE.var rfl (.inl rfl)) (SA.cons (.inl rfl) (SE.var rfl (.inl rfl)) (SA.cons (.inl rfl) (SE.ix (Room.u50 hr) (SE.toRd (SE.var rfl (.inl rfl))) (SE.toRd (SE.glob (by rfl) (hd.hcs 10 _ _ rfl)))) SA.nil))))) (SG.name sN rfl (.inl rfl) (by decide) (by decide : (7 : Nat) < 9)))
      (SSs.cons (SS.ite (SX.bool (SW.or (SX.cmp is_F (SE.toRd (SE.var rfl (.inl rfl))) (SE.toRd SE.non) rfl) (SW.or (SX.cmp (ne_F (Room.u50 hr)) (SE.toRd (SE.blt1 (o := true) len_F (by rfl) (hd.hfr 5 _ rfl) boot_len (SE.toRd (SE.ix (Room.u50 hr) (SE.toRd (SE.var rfl (.inl rfl))) (SE.toRd SE.int))))) (SE.toRd SE.int) rfl) (SW.or (SX.not (SX.val (SE.call (o := false) I.h3 hr (bn_3 hd) (ln_3 _) tk (by rfl) (hd.hgl 3 _ rfl).1 (hd.hgl 3 _ rfl).2 (SA.cons (.inl rfl) (SE.ix (Room.u50 hr) (SE.toRd (SE.var rfl (.inl rfl))) (SE.toRd SE.int)) (SA.cons (.inl rfl) (SE.var rfl (.inl rfl)) SA.nil))))) (SW.one_or (SX.cmp (ne_F (Room.u50 hr)) (SE.toRd (SE.ix (Room.u50 hr) (SE.toRd (SE.ix (Room.u50 hr) (SE.toRd (SE.ix (Room.u50 hr) (SE.toRd (SE.var rfl (.inl rfl))) (SE.toRd SE.int))) (SE.toRd SE.int))) (SE.toRd SE.int))) (SE.toRd (SE.ix (Room.u50 hr) (SE.toRd (SE.var rfl (.inl rfl))) (SE.toRd SE.int))) rfl)))))) (SSs.one (SS.retRp SE.non)) SSs.nil)
      (SSs.cons (SS.asg (SE.toRp (SE.op op_modD (SE.toRd (SE.op op_mulD (SE.toRd (SE.un un_negD (SE.toRd (SE.ix (Room.u50 hr) (SE.toRd (SE.var rfl (.inl rfl))) (SE.toRd SE.int))))) (SE.toRd (SE.call (o := false) I.h11 hr (bn_11 hd) (ln_11 _) tk (by rfl) (hd.hgl 11 _ rfl).1 (hd.hgl 11 _ rfl).2 (SA.cons (.inl rfl) (SE.var rfl (.inl rfl)) (SA.cons (.inl rfl) (SE.ix (Room.u50 hr) (SE.toRd (SE.ix (Room.u50 hr) (SE.toRd (SE.ix (Room.u50 hr) (SE.toRd (SE.var rfl (.inl rfl))) (SE.toRd SE.int))) (SE.toRd SE.int))) (SE.toRd SE.int)) SA.nil)))))) (SE.toRd (SE.var rfl (.inl rfl))))) (SG.name sN rfl (.inl rfl) (by decide) (by decide : (8 : Nat) < 9)))
      (SSs.one (SS.retRp (SE.call (o := false) I.h52 hr (bn_52 hd) (ln_52 _) tk (by rfl) (hd.hgl 52 _ rfl).1 (hd.hgl 52 _ rfl).2 (SA.cons (.inl rfl) (SE.var rfl (.inl rfl)) (SA.cons (.inl rfl) (SE.var rfl (.inl rfl)) (SA.cons (.inl rfl) (SE.var rfl (.inl rfl)) (SA.cons (.inl rfl) (SE.call (o := false) I.h38 hr (bn_38 hd) (ln_38 _) tk (by rfl) (hd.hgl 38 _ rfl).1 (hd.hgl 38 _ rfl).2 (SA.cons (.inl rfl) (SE.var rfl (.inl rfl)) (SA.cons (.inl rfl) (SE.ix (Room.u50 hr) (SE.toRd (SE.var rfl (.inl rfl))) (SE.toRd SE.int)) (SA.cons (.inl rfl) (SE.var rfl (.inl rfl)) SA.nil)))) (SA.cons (.inl rfl) (SE.ix (Room.u50 hr) (SE.toRd (SE.var rfl (.inl rfl))) (SE.toRd (SE.un un_negD (SE.toRd SE.int)))) SA.nil))))))))))) SSs.nil)
      (SSs.cons (SS.ite (SX.bool (SW.or (SX.cmp (ne_F (Room.u50 hr)) (SE.toRd (SE.ix (Room.u50 hr) (SE.toRd (SE.var rfl (.inl rfl))) (SE.toRd SE.int))) (SE.toRd (SE.glob (by rfl) (hd.hcs 15 _ _ rfl))) rfl) (SW.or (SX.cmp (ne_F (Room.u50 hr)) (SE.toRd (SE.blt1 (o := true) len_F (by rfl) (hd.hfr 5 _ rfl) boot_len (SE.toRd (SE.var rfl (.inl rfl))))) (SE.toRd (SE.op op_subD (SE.toRd (SE.glob (by rfl) (hd.hcs 11 _ _ rfl))) (SE.toRd SE.int))) rfl) (SW.or (SX.not (SX.val (SE.call (o := false) I.h3 hr (bn_3 hd) (ln_3 _) tk (by rfl) (hd.hgl 3 _ rfl).1 (hd.hgl 3 _ rfl).2 (SA.cons (.inl rfl) (SE.ix (Room.u50 hr) (SE.toRd (SE.var rfl (.inl rfl))) (SE.toRd SE.int)) (SA.cons (.inl rfl) (SE.var rfl (.inl rfl)) SA.nil))))) (SW.one_or (SX.cmp (in_F (Room.u50 hr)) (SE.toRd (SE.ix (Room.u50 hr) (SE.toRd (SE.var rfl (.inl rfl))) (SE.toRd SE.int))) (SE.toRd (SE.var rfl (.inl rfl))) rfl)))))) (SSs.one (SS.retRp SE.non)) SSs.nil)
      (SSs.one (SS.retRp (SE.call (o := false) I.h53 hr (bn_53 hd) (ln_53 _) tk (by rfl) (hd.hgl 53 _ rfl).1 (hd.hgl 53 _ rfl).2 (SA.cons (.inl rfl) (SE.var rfl (.inl rfl)) (SA.cons (.inl rfl) (SE.var rfl (.inl rfl)) (SA.cons (.inl rfl) (SE.var rfl (.inl rfl)) (SA.cons (.inl rfl) (SE.var rfl (.inl rfl)) (SA.cons (.inl rfl) (SE.var rfl (.inl rfl)) SA.nil)))))))))))))
theorem sc_53 : FnScope ["prime", "many", "rows", "known", "thing", "total", "rest", "paper", "number"] ["prime", "many", "rows", "known", "thing"] (defScope (top 79)) := ⟨rfl, rfl, rfl, by decide +kernel, rfl, by decide +kernel, by decide +kernel⟩
theorem ok_53 {n : Nat} (hd : HD K mg fds) (I : AllOk P w K mg base fds n) : FnOk P w K mg base (L2.CX P w) (n + 1) (He.ga K "counts_added") (fds 53) ["prime", "many", "rows", "known", "thing"] (spF (gm K) 5 false (b_counts_added (prog n))) :=
  have sN : List.Nodup (α := Str) ["prime", "many", "rows", "known", "thing", "total", "rest", "paper", "number"] := sc_53.nd
  fn_ok (mv := []) (owN := []) (owL := []) (kr := .rp) (fd_53 hd) sc_53 rfl rfl (by decide) (fun h => nomatch h) fun cdv A outer s H E hr =>
    have tk := takesX (P := P) (w := w) (K := K) (mg := mg) (base := base) (N := ["prime", "many", "rows", "known", "thing", "total", "rest", "paper", "number"]) (qual := "counts_added") (scope := defScope (top 79)) (f := He.ga K "counts_added") (cdv := cdv) (A := A) (outer := outer) (s := s) (H := H) (E := E)
    have px := passX (P := P) (w := w) (K := K) (mg := mg) (base := base) (N := ["prime", "many", "rows", "known", "thing", "total", "rest", "paper", "number"]) (qual := "counts_added") (scope := defScope (top 79)) (f := He.ga K "counts_added") (cdv := cdv) (A := A) (outer := outer) (s := s) (H := H) (E := E)
    (SSs.cons (SS.ite (SX.not (SX.val (SE.call (o := false) I.h4 hr (bn_4 hd) (ln_4 _) tk (by rfl) (hd.hgl 4 _ rfl).1 (hd.hgl 4 _ rfl).2 (SA.cons (.inl rfl) (SE.ix (Room.u50 hr) (SE.toRd (SE.var rfl (.inl rfl))) (SE.toRd (SE.glob (by rfl) (hd.hcs 10 _ _ rfl)))) (SA.cons (.inl rfl) (SE.var rfl (.inl rfl)) SA.nil))))) (SSs.one (SS.retRp SE.non)) SSs.nil)
      (SSs.cons (SS.asg SE.int (SG.name sN rfl (.inl rfl) (by decide) (by decide : (5 : Nat) < 9)))
      (SSs.cons (SS.for_ (hw := by exact fun _ => ⟨_, rfl⟩) (by exact fun h => nomatch h) px rfl (SI.enum (by rfl) (hd.hfr 12 _ rfl) (SA.cons (.inl rfl) (SE.ix (Room.u50 hr) (SE.toRd (SE.var rfl (.inl rfl))) (SE.toRd (SE.glob (by rfl) (hd.hcs 10 _ _ rfl)))) SA.nil)) (SG.tup (n := 0) rfl (SGs.cons (SG.name sN rfl (.inl rfl) (by decide) (by decide : (6 : Nat) < 9)) (SGs.cons (SG.name sN rfl (.inl rfl) (by decide) (by decide : (7 : Nat) < 9)) SGs.nil))) (SSs.cons (SS.asg (SE.call (o := false) I.h52 hr (bn_52 hd) (ln_52 _) (takes_unl tk) (by rfl) (hd.hgl 52 _ rfl).1 (hd.hgl 52 _ rfl).2 (SA.cons (.inl rfl) (SE.var rfl (.inl rfl)) (SA.cons (.inl rfl) (SE.var rfl (.inl rfl)) (SA.cons (.inl rfl) (SE.var rfl (.inl rfl)) (SA.cons (.inl rfl) (SE.call (o := false) I.h38 hr (bn_38 hd) (ln_38 _) (takes_unl tk) (by rfl) (hd.hgl 38 _ rfl).1 (hd.hgl 38 _ rfl).2 (SA.cons (.inl rfl) (SE.var rfl (.inl rfl)) (SA.cons (.inl rfl) (SE.ix (Room.u50 hr) (SE.toRd (SE.var rfl (.inl rfl))) (SE.toRd SE.int)) (SA.cons (.inl rfl) (SE.var rfl (.inl rfl)) SA.nil)))) (SA.cons (.inl rfl) (SE.var rfl (.inl rfl)) SA.nil)))))) (SG.name sN rfl (.inl rfl) (by decide) (by decide : (8 : Nat) < 9)))
      (SSs.cons (SS.ite (SX.cmp is_F (SE.toRd (SE.var rfl (.inl rfl))) (SE.toRd SE.non) rfl) (SSs.one (SS.retRp SE.non)) SSs.nil)
      (SSs.one (SS.asg (SE.toRp (SE.op op_addD (SE.toRd (SE.var rfl (.inl rfl))) (SE.toRd (SE.var rfl (.inl rfl))))) (SG.name sN rfl (.inl rfl) (by decide) (by decide : (5 : Nat) < 9)))))))
      (SSs.one (SS.retRp (SE.var rfl (.inl rfl)))))))
theorem sc_54 : FnScope ["sheet", "numbers", "thing", "own", "told"] ["sheet", "numbers", "thing"] (defScope (top 80)) := ⟨rfl, rfl, rfl, by decide +kernel, rfl, by decide +kernel, by decide +kernel⟩
theorem ok_54 {n : Nat} (hd : HD K mg fds) (I : AllOk P w K mg base fds n) : FnOk P w K mg base (L2.CX P w) (n + 1) (He.ga K "is_count_paper") (fds 54) ["sheet", "numbers", "thing"] (spF (gm K) 3 false (b_is_count_paper (prog n))) :=
  have sN : List.Nodup (α := Str) ["sheet", "numbers", "thing", "own", "told"] := sc_54.nd
  fn_ok (mv := []) (owN := []) (owL := []) (kr := .rp) (fd_54 hd) sc_54 rfl rfl (by decide) (fun h => nomatch h) fun cdv A outer s H E hr =>
    have tk := takesX (P := P) (w := w) (K := K) (mg := mg) (base := base) (N := ["sheet", "numbers", "thing", "own", "told"]) (qual := "is_count_paper") (scope := defScope (top 80)) (f := He.ga K "is_count_paper") (cdv := cdv) (A := A) (outer := outer) (s := s) (H := H) (E := E)
    have px := passX (P := P) (w := w) (K := K) (mg := mg) (base := base) (N := ["sheet", "numbers", "thing", "own", "told"]) (qual := "is_count_paper") (scope := defScope (top 80)) (f := He.ga K "is_count_paper") (cdv := cdv) (A := A) (outer := outer) (s := s) (H := H) (E := E)
    (SSs.cons (SS.asg (SE.call (o := false) I.h43 hr (bn_43 hd) (ln_43 _) tk (by rfl) (hd.hgl 43 _ rfl).1 (hd.hgl 43 _ rfl).2 (SA.cons (.inl rfl) (SE.var rfl (.inl rfl)) (SA.cons (.inl rfl) (SE.var rfl (.inl rfl)) SA.nil))) (SG.tup (n := 0) rfl (SGs.cons (SG.name sN rfl (.inl rfl) (by decide) (by decide : (3 : Nat) < 5)) (SGs.cons (SG.name sN rfl (.inl rfl) (by decide) (by decide : (4 : Nat) < 5)) SGs.nil))))
      (SSs.one (SS.retRp (SE.toRp (SE.cmp isn_F (SE.toRd (SE.call (o := false) I.h52 hr (bn_52 hd) (ln_52 _) tk (by rfl) (hd.hgl 52 _ rfl).1 (hd.hgl 52 _ rfl).2 (SA.cons (.inl rfl) (SE.ix (Room.u50 hr) (SE.toRd (SE.var rfl (.inl rfl))) (SE.toRd SE.int)) (SA.cons (.inl rfl) (SE.ix (Room.u50 hr) (SE.toRd (SE.var rfl (.inl rfl))) (SE.toRd SE.int)) (SA.cons (.inl rfl) (SE.ix (Room.u50 hr) (SE.toRd (SE.var rfl (.inl rfl))) (SE.toRd (SE.un un_negD (SE.toRd SE.int)))) (SA.cons (.inl rfl) (SE.call (o := false) I.h44 hr (bn_44 hd) (ln_44 _) tk (by rfl) (hd.hgl 44 _ rfl).1 (hd.hgl 44 _ rfl).2 (SA.cons (.inl rfl) (SE.var rfl (.inl rfl)) (SA.cons (.inl rfl) (SE.var rfl (.inl rfl)) SA.nil))) (SA.cons (.inl rfl) (SE.var rfl (.inl rfl)) SA.nil))))))) (SE.toRd SE.non) rfl)))))
theorem sc_55 : FnScope ["sheet", "numbers", "paper", "own", "told", "found"] ["sheet", "numbers", "paper"] (defScope (top 81)) := ⟨rfl, rfl, rfl, by decide +kernel, rfl, by decide +kernel, by decide +kernel⟩
theorem ok_55 {n : Nat} (hd : HD K mg fds) (I : AllOk P w K mg base fds n) : FnOk P w K mg base (L2.CX P w) (n + 1) (He.ga K "count_by_paper") (fds 55) ["sheet", "numbers", "paper"] (spF (gm K) 3 false (b_count_by_paper (prog n))) :=
  have sN : List.Nodup (α := Str) ["sheet", "numbers", "paper", "own", "told", "found"] := sc_55.nd
  fn_ok (mv := []) (owN := []) (owL := []) (kr := .rp) (fd_55 hd) sc_55 rfl rfl (by decide) (fun h => nomatch h) fun cdv A outer s H E hr =>
    have tk := takesX (P := P) (w := w) (K := K) (mg := mg) (base := base) (N := ["sheet", "numbers", "paper", "own", "told", "found"]) (qual := "count_by_paper") (scope := defScope (top 81)) (f := He.ga K "count_by_paper") (cdv := cdv) (A := A) (outer := outer) (s := s) (H := H) (E := E)
    have px := passX (P := P) (w := w) (K := K) (mg := mg) (base := base) (N := ["sheet", "numbers", "paper", "own", "told", "found"]) (qual := "count_by_paper") (scope := defScope (top 81)) (f := He.ga K "count_by_paper") (cdv := cdv) (A := A) (outer := outer) (s := s) (H := H) (E := E)
    (SSs.cons (SS.asg (SE.call (o := false) I.h43 hr (bn_43 hd) (ln_43 _) tk (by rfl) (hd.hgl 43 _ rfl).1 (hd.hgl 43 _ rfl).2 (SA.cons (.inl rfl) (SE.var rfl (.inl rfl)) (SA.cons (.inl rfl) (SE.var rfl (.inl rfl)) SA.nil))) (SG.tup (n := 0) rfl (SGs.cons (SG.name sN rfl (.inl rfl) (by decide) (by decide : (3 : Nat) < 6)) (SGs.cons (SG.name sN rfl (.inl rfl) (by decide) (by decide : (4 : Nat) < 6)) SGs.nil))))
      (SSs.cons (SS.asg (SE.call (o := false) I.h52 hr (bn_52 hd) (ln_52 _) tk (by rfl) (hd.hgl 52 _ rfl).1 (hd.hgl 52 _ rfl).2 (SA.cons (.inl rfl) (SE.ix (Room.u50 hr) (SE.toRd (SE.var rfl (.inl rfl))) (SE.toRd SE.int)) (SA.cons (.inl rfl) (SE.ix (Room.u50 hr) (SE.toRd (SE.var rfl (.inl rfl))) (SE.toRd SE.int)) (SA.cons (.inl rfl) (SE.ix (Room.u50 hr) (SE.toRd (SE.var rfl (.inl rfl))) (SE.toRd (SE.un un_negD (SE.toRd SE.int)))) (SA.cons (.inl rfl) (SE.call (o := false) I.h44 hr (bn_44 hd) (ln_44 _) tk (by rfl) (hd.hgl 44 _ rfl).1 (hd.hgl 44 _ rfl).2 (SA.cons (.inl rfl) (SE.var rfl (.inl rfl)) (SA.cons (.inl rfl) (SE.var rfl (.inl rfl)) SA.nil))) (SA.cons (.inl rfl) (SE.call (o := false) I.h0 hr (bn_0 hd) (ln_0 _) tk (by rfl) (hd.hgl 0 _ rfl).1 (hd.hgl 0 _ rfl).2 (SA.cons (.inl rfl) (SE.var rfl (.inl rfl)) SA.nil)) SA.nil)))))) (SG.name sN rfl (.inl rfl) (by decide) (by decide : (5 : Nat) < 6)))
      (SSs.cons (SS.ite (SX.cmp is_F (SE.toRd (SE.var rfl (.inl rfl))) (SE.toRd SE.non) rfl) (SSs.one (SS.raiseE (by rfl) tk (hd.hec 0 _ rfl) (by rfl) (by rfl))) SSs.nil)
      (SSs.one (SS.retRp (SE.var rfl (.inl rfl)))))))
theorem sc_56 : FnScope ["sheet", "own", "lots", "lot"] ["sheet"] (defScope (top 82)) := ⟨rfl, rfl, rfl, by decide +kernel, rfl, by decide +kernel, by decide +kernel⟩
theorem ok_56 {n : Nat} (hd : HD K mg fds) (I : AllOk P w K mg base fds n) : FnOk P w K mg base (L2.CX P w) (n + 1) (He.ga K "count_row") (fds 56) ["sheet"] (spF (gm K) 1 false (b_count_row (prog n))) :=
  have sN : List.Nodup (α := Str) ["sheet", "own", "lots", "lot"] := sc_56.nd
  fn_ok (mv := []) (owN := []) (owL := []) (kr := .rp) (fd_56 hd) sc_56 rfl rfl (by decide) (fun h => nomatch h) fun cdv A outer s H E hr =>
    have tk := takesX (P := P) (w := w) (K := K) (mg := mg) (base := base) (N := ["sheet", "own", "lots", "lot"]) (qual := "count_row") (scope := defScope (top 82)) (f := He.ga K "count_row") (cdv := cdv) (A := A) (outer := outer) (s := s) (H := H) (E := E)
    have px := passX (P := P) (w := w) (K := K) (mg := mg) (base := base) (N := ["sheet", "own", "lots", "lot"]) (qual := "count_row") (scope := defScope (top 82)) (f := He.ga K "count_row") (cdv := cdv) (A := A) (outer := outer) (s := s) (H := H) (E := E)
    (SSs.cons (SS.asg (SE.call (o := false) I.h25 hr (bn_25 hd) (ln_25 _) tk (by rfl) (hd.hgl 25 _ rfl).1 (hd.hgl 25 _ rfl).2 (SA.cons (.inl rfl) (SE.var rfl (.inl rfl)) SA.nil)) (SG.name sN rfl (.inr rfl) (by decide) (by decide : (1 : Nat) < 4)))
      (SSs.cons (SS.asg (SE.call (o := false) I.h46 hr (bn_46 hd) (ln_46 _) tk (by rfl) (hd.hgl 46 _ rfl).1 (hd.hgl 46 _ rfl).2 (SA.cons (.inl rfl) (SE.ix (Room.u50 hr) (SE.toRd (SE.var rfl (.inr (.inl rfl)))) (SE.toRd SE.int)) (SA.cons (.inl rfl) (SE.toRp (SE.blt1 (o := true) len_F (by rfl) (hd.hfr 5 _ rfl) boot_len (SE.toRd (SE.ix (Room.u50 hr) (SE.toRd (SE.var rfl (.inr (.inl rfl)))) (SE.toRd SE.int))))) SA.nil))) (SG.name sN rfl (.inl rfl) (by decide) (by decide : (2 : Nat) < 4)))
      (SSs.one (SS.retRp (SE.toRp (SE.comp (own := [("lot", 3)]) (vs := [3]) (hw := by exact fun h => nomatch h) rfl sN (SI.any (SE.var rfl (.inl rfl))) (blkOk_by (by rfl)) (fun _ _ _ _ _ => (SG.name sN rfl (.inl rfl) (by decide) (by decide : (3 : Nat) < 4))) (fun _ _ _ _ _ => ST.nil) (fun _ _ _ _ _ => (SE.toRp (SE.tup (SA.cons (.inl rfl) (SE.var rfl (.inl rfl)) (SA.cons (.inl rfl) (SE.ix (Room.u50 hr) (SE.toRd (SE.call (o := false) I.h48 hr (bn_48 hd) (ln_48 _) L2.takes0 (by rfl) (hd.hgl 48 _ rfl).1 (hd.hgl 48 _ rfl).2 (SA.cons (.inl rfl) (SE.ix (Room.u50 hr) (SE.toRd (SE.var rfl (.inr (.inl rfl)))) (SE.toRd SE.int)) (SA.cons (.inl rfl) (SE.ix (Room.u50 hr) (SE.toRd (SE.var rfl (.inr (.inl rfl)))) (SE.toRd SE.int)) (SA.cons (.inl rfl) (SE.ix (Room.u50 hr) (SE.toRd (SE.var rfl (.inr (.inl rfl)))) (SE.toRd (SE.un un_negD (SE.toRd SE.int)))) (SA.cons (.inl rfl) (SE.call (o := false) I.h44 hr (bn_44 hd) (ln_44 _) L2.takes0 (by rfl) (hd.hgl 44 _ rfl).1 (hd.hgl 44 _ rfl).2 (SA.cons (.inl rfl) (SE.var rfl (.inr (.inl rfl))) (SA.cons (.inl rfl) (SE.var rfl (.inl rfl)) SA.nil))) SA.nil)))))) (SE.toRd SE.int)) SA.nil)))))))))))
theorem sc_57 : FnScope ["sheet", "known", "cell", "found", "rest"] ["sheet", "known", "cell"] (defScope (top 83)) := ⟨rfl, rfl, rfl, by decide +kernel, rfl, by decide +kernel, by decide +kernel⟩
theorem ok_57 {n : Nat} (hd : HD K mg fds) (I : AllOk P w K mg base fds n) : FnOk P w K mg base (L2.CX P w) (n + 1) (He.ga K "had_at") (fds 57) ["sheet", "known", "cell"] (spF (gm K) 3 false (b_had_at (prog n))) :=
  have sN : List.Nodup (α := Str) ["sheet", "known", "cell", "found", "rest"] := sc_57.nd
  fn_ok (mv := [3]) (owN := []) (owL := []) (kr := .rp) (fd_57 hd) sc_57 rfl rfl (by decide) (fun h => nomatch h) fun cdv A outer s H E hr =>
    have tk := takesX (P := P) (w := w) (K := K) (mg := mg) (base := base) (N := ["sheet", "known", "cell", "found", "rest"]) (qual := "had_at") (scope := defScope (top 83)) (f := He.ga K "had_at") (cdv := cdv) (A := A) (outer := outer) (s := s) (H := H) (E := E)
    have px := passX (P := P) (w := w) (K := K) (mg := mg) (base := base) (N := ["sheet", "known", "cell", "found", "rest"]) (qual := "had_at") (scope := defScope (top 83)) (f := He.ga K "had_at") (cdv := cdv) (A := A) (outer := outer) (s := s) (H := H) (E := E)
    (SSs.cons (SS.ite (SX.cmp (in_F (Room.u50 hr)) (SE.toRd (SE.var rfl (.inl rfl))) (SE.toRd (SE.var rfl (.inl rfl))) rfl) (SSs.one (SS.retRp (SE.toRp (SE.ife (SX.cmp isn_F (SE.toRd (SE.ix (Room.u50 hr) (SE.toRd (SE.call (o := false) I.h45 hr (bn_45 hd) (ln_45 _) tk (by rfl) (hd.hgl 45 _ rfl).1 (hd.hgl 45 _ rfl).2 (SA.cons (.inl rfl) (SE.var rfl (.inl rfl)) (SA.cons (.inl rfl) (SE.var rfl (.inl rfl)) SA.nil)))) (SE.toRd SE.int))) (SE.toRd SE.non) rfl) (SE.tup (SA.cons (.inl rfl) (SE.ix (Room.u50 hr) (SE.toRd (SE.var rfl (.inl rfl))) (SE.toRd (SE.var rfl (.inl rfl)))) SA.nil)) (SE.tup SA.nil))))) SSs.nil)
      (SSs.cons (SS.asgMv sN rfl (.inl rfl) (by decide) (by decide : (3 : Nat) < 5) (SE.lst SA.nil) rfl)
      (SSs.cons (SS.for_ (hw := by exact fun h => nomatch h) (by exact fun h => nomatch h) px rfl (SI.range1 (by rfl) (hd.hfr 9 _ rfl) (SA.cons (.inl rfl) (SE.ix (Room.u50 hr) (SE.toRd (SE.var rfl (.inl rfl))) (SE.toRd SE.int)) SA.nil)) (SG.name sN rfl (.inl rfl) (by decide) (by decide : (4 : Nat) < 5)) (SSs.one (SS.ite (SX.cmp isn_F (SE.toRd (SE.ix (Room.u50 hr) (SE.toRd (SE.call (o := false) I.h45 hr (bn_45 hd) (ln_45 _) (takes_unl tk) (by rfl) (hd.hgl 45 _ rfl).1 (hd.hgl 45 _ rfl).2 (SA.cons (.inl rfl) (SE.var rfl (.inl rfl)) (SA.cons (.inl rfl) (SE.call (o := false) I.h38 hr (bn_38 hd) (ln_38 _) (takes_unl tk) (by rfl) (hd.hgl 38 _ rfl).1 (hd.hgl 38 _ rfl).2 (SA.cons (.inl rfl) (SE.var rfl (.inl rfl)) (SA.cons (.inl rfl) (SE.var rfl (.inl rfl)) (SA.cons (.inl rfl) (SE.var rfl (.inl rfl)) SA.nil)))) SA.nil)))) (SE.toRd SE.int))) (SE.toRd SE.non) rfl) (SSs.one (SS.app rfl (.inl rfl) (by decide) (by decide) (SE.var rfl (.inl rfl)))) SSs.nil)))
      (SSs.one (SS.retRp (SE.toRp (SE.ty1 (o := true) tuple_F (by rfl) (hd.hfr 2 _ rfl) boot_tuple (SE.mvR rfl (.inl rfl)))))))))
theorem sc_58 : FnScope ["sheet", "numbers", "cell", "own", "told"] ["sheet", "numbers", "cell"] (defScope (top 84)) := ⟨rfl, rfl, rfl, by decide +kernel, rfl, by decide +kernel, by decide +kernel⟩
theorem ok_58 {n : Nat} (hd : HD K mg fds) (I : AllOk P w K mg base fds n) : FnOk P w K mg base (L2.CX P w) (n + 1) (He.ga K "rests_had") (fds 58) ["sheet", "numbers", "cell"] (spF (gm K) 3 false (b_rests_had (prog n))) :=
  have sN : List.Nodup (α := Str) ["sheet", "numbers", "cell", "own", "told"] := sc_58.nd
  fn_ok (mv := []) (owN := []) (owL := []) (kr := .rp) (fd_58 hd) sc_58 rfl rfl (by decide) (fun h => nomatch h) fun cdv A outer s H E hr =>
    have tk := takesX (P := P) (w := w) (K := K) (mg := mg) (base := base) (N := ["sheet", "numbers", "cell", "own", "told"]) (qual := "rests_had") (scope := defScope (top 84)) (f := He.ga K "rests_had") (cdv := cdv) (A := A) (outer := outer) (s := s) (H := H) (E := E)
    have px := passX (P := P) (w := w) (K := K) (mg := mg) (base := base) (N := ["sheet", "numbers", "cell", "own", "told"]) (qual := "rests_had") (scope := defScope (top 84)) (f := He.ga K "rests_had") (cdv := cdv) (A := A) (outer := outer) (s := s) (H := H) (E := E)
    (SSs.cons (SS.asg (SE.call (o := false) I.h43 hr (bn_43 hd) (ln_43 _) tk (by rfl) (hd.hgl 43 _ rfl).1 (hd.hgl 43 _ rfl).2 (SA.cons (.inl rfl) (SE.var rfl (.inl rfl)) (SA.cons (.inl rfl) (SE.var rfl (.inl rfl)) SA.nil))) (SG.tup (n := 0) rfl (SGs.cons (SG.name sN rfl (.inl rfl) (by decide) (by decide : (3 : Nat) < 5)) (SGs.cons (SG.name sN rfl (.inl rfl) (by decide) (by decide : (4 : Nat) < 5)) SGs.nil))))
      (SSs.one (SS.retRp (SE.call (o := false) I.h57 hr (bn_57 hd) (ln_57 _) tk (by rfl) (hd.hgl 57 _ rfl).1 (hd.hgl 57 _ rfl).2 (SA.cons (.inl rfl) (SE.var rfl (.inl rfl)) (SA.cons (.inl rfl) (SE.call (o := false) I.h44 hr (bn_44 hd) (ln_44 _) tk (by rfl) (hd.hgl 44 _ rfl).1 (hd.hgl 44 _ rfl).2 (SA.cons (.inl rfl) (SE.var rfl (.inl rfl)) (SA.cons (.inl rfl) (SE.var rfl (.inl rfl)) SA.nil))) (SA.cons (.inl rfl) (SE.call (o := false) I.h9 hr (bn_9 hd) (ln_9 _) tk (by rfl) (hd.hgl 9 _ rfl).1 (hd.hgl 9 _ rfl).2 (SA.cons (.inl rfl) (SE.var rfl (.inl rfl)) (SA.cons (.inl rfl) (SE.ix (Room.u50 hr) (SE.toRd (SE.var rfl (.inl rfl))) (SE.toRd SE.int)) SA.nil))) SA.nil)))))))
theorem sc_59 : FnScope ["sheet", "numbers", "own", "told", "known", "had", "cell", "rests"] ["sheet", "numbers"] (defScope (top 85)) := ⟨rfl, rfl, rfl, by decide +kernel, rfl, by decide +kernel, by decide +kernel⟩
theorem ok_59 {n : Nat} (hd : HD K mg fds) (I : AllOk P w K mg base fds n) : FnOk P w K mg base (L2.CX P w) (n + 1) (He.ga K "fixed_cells") (fds 59) ["sheet", "numbers"] (spF (gm K) 2 false (b_fixed_cells (prog n))) :=
  have sN : List.Nodup (α := Str) ["sheet", "numbers", "own", "told", "known", "had", "cell", "rests"] := sc_59.nd
  fn_ok (mv := []) (owN := []) (owL := []) (kr := .rp) (fd_59 hd) sc_59 rfl rfl (by decide) (fun h => nomatch h) fun cdv A outer s H E hr =>
    have tk := takesX (P := P) (w := w) (K := K) (mg := mg) (base := base) (N := ["sheet", "numbers", "own", "told", "known", "had", "cell", "rests"]) (qual := "fixed_cells") (scope := defScope (top 85)) (f := He.ga K "fixed_cells") (cdv := cdv) (A := A) (outer := outer) (s := s) (H := H) (E := E)
    have px := passX (P := P) (w := w) (K := K) (mg := mg) (base := base) (N := ["sheet", "numbers", "own", "told", "known", "had", "cell", "rests"]) (qual := "fixed_cells") (scope := defScope (top 85)) (f := He.ga K "fixed_cells") (cdv := cdv) (A := A) (outer := outer) (s := s) (H := H) (E := E)
    (SSs.cons (SS.asg (SE.call (o := false) I.h43 hr (bn_43 hd) (ln_43 _) tk (by rfl) (hd.hgl 43 _ rfl).1 (hd.hgl 43 _ rfl).2 (SA.cons (.inl rfl) (SE.var rfl (.inl rfl)) (SA.cons (.inl rfl) (SE.var rfl (.inl rfl)) SA.nil))) (SG.tup (n := 0) rfl (SGs.cons (SG.name sN rfl (.inr rfl) (by decide) (by decide : (2 : Nat) < 8)) (SGs.cons (SG.name sN rfl (.inl rfl) (by decide) (by decide : (3 : Nat) < 8)) SGs.nil))))
      (SSs.cons (SS.asg (SE.call (o := false) I.h44 hr (bn_44 hd) (ln_44 _) tk (by rfl) (hd.hgl 44 _ rfl).1 (hd.hgl 44 _ rfl).2 (SA.cons (.inl rfl) (SE.var rfl (.inr (.inl rfl))) (SA.cons (.inl rfl) (SE.var rfl (.inl rfl)) SA.nil))) (SG.name sN rfl (.inr rfl) (by decide) (by decide : (4 : Nat) < 8)))
      (SSs.cons (SS.asgLc (own := [("cell", 6)]) (vs := [6]) (hw := by exact fun h => nomatch h) rfl sN rfl rfl (by decide) (by decide : (5 : Nat) < 8) rfl (by rfl) (by rfl) (SI.range1 (by rfl) (hd.hfr 9 _ rfl) (SA.cons (.inl rfl) (SE.ix (Room.u50 hr) (SE.toRd (SE.var rfl (.inr (.inl rfl)))) (SE.toRd SE.int)) SA.nil)) (blkOk_by (by rfl)) (fun _ _ _ _ _ => (SG.name sN rfl (.inl rfl) (by decide) (by decide : (6 : Nat) < 8))) (fun _ _ _ _ _ => ST.nil) (fun _ _ _ _ _ => (SE.call (o := false) I.h57 hr (bn_57 hd) (ln_57 _) L2.takes0 (by rfl) (hd.hgl 57 _ rfl).1 (hd.hgl 57 _ rfl).2 (SA.cons (.inl rfl) (SE.var rfl (.inr (.inl rfl))) (SA.cons (.inl rfl) (SE.var rfl (.inr (.inl rfl))) (SA.cons (.inl rfl) (SE.var rfl (.inl rfl)) SA.nil))))))
      (SSs.cons (SS.ite (SX.cmp (eq_F (Room.u50 hr)) (SE.toRd (SE.ix (Room.u50 hr) (SE.toRd (SE.var rfl (.inl rfl))) (SE.toRd SE.int))) (SE.toRd (SE.tup SA.nil)) rfl) (SSs.one (SS.raiseE (by rfl) tk (hd.hec 1 _ rfl) (by rfl) (by rfl))) SSs.nil)
      (SSs.one (SS.retRp (SE.toRp (SE.ty1 (o := true) tuple_F (by rfl) (hd.hfr 2 _ rfl) boot_tuple (SE.toRd (SE.comp (own := [("cell", 6), ("rests", 7)]) (vs := [6, 7]) (hw := by exact fun _ => ⟨_, rfl⟩) rfl sN (SI.enum (by rfl) (hd.hfr 12 _ rfl) (SA.cons (.inl rfl) (SE.var rfl (.inl rfl)) SA.nil)) (blkOk_by (by rfl)) (fun _ _ _ _ _ => (SG.tup (n := 0) rfl (SGs.cons (SG.name sN rfl (.inl rfl) (by decide) (by decide : (6 : Nat) < 8)) (SGs.cons (SG.name sN rfl (.inl rfl) (by decide) (by decide : (7 : Nat) < 8)) SGs.nil)))) (fun _ _ _ _ _ => (ST.one (SX.cmp (eq_F (Room.u50 hr)) (SE.toRd (SE.blt1 (o := true) len_F (by rfl) (hd.hfr 5 _ rfl) boot_len (SE.toRd (SE.var rfl (.inl rfl))))) (SE.toRd SE.int) rfl))) (fun _ _ _ _ _ => (SE.toRp (SE.tup (SA.cons (.inl rfl) (SE.var rfl (.inl rfl)) (SA.cons (.inl rfl) (SE.ix (Room.u50 hr) (SE.toRd (SE.var rfl (.inl rfl))) (SE.toRd SE.int)) SA.nil)))))))))))))))
theorem sc_60 : FnScope ["sheet", "numbers", "cell", "own", "told", "known", "here", "found", "rest"] ["sheet", "numbers", "cell"] (defScope (top 86)) := ⟨rfl, rfl, rfl, by decide +kernel, rfl, by decide +kernel, by decide +kernel⟩
theorem ok_60 {n : Nat} (hd : HD K mg fds) (I : AllOk P w K mg base fds n) : FnOk P w K mg base (L2.CX P w) (n + 1) (He.ga K "how_often") (fds 60) ["sheet", "numbers", "cell"] (spF (gm K) 3 false (b_how_often (prog n))) :=
  have sN : List.Nodup (α := Str) ["sheet", "numbers", "cell", "own", "told", "known", "here", "found", "rest"] := sc_60.nd
  fn_ok (mv := [7]) (owN := []) (owL := []) (kr := .rp) (fd_60 hd) sc_60 rfl rfl (by decide) (fun h => nomatch h) fun cdv A outer s H E hr =>
    have tk := takesX (P := P) (w := w) (K := K) (mg := mg) (base := base) (N := ["sheet", "numbers", "cell", "own", "told", "known", "here", "found", "rest"]) (qual := "how_often") (scope := defScope (top 86)) (f := He.ga K "how_often") (cdv := cdv) (A := A) (outer := outer) (s := s) (H := H) (E := E)
    have px := passX (P := P) (w := w) (K := K) (mg := mg) (base := base) (N := ["sheet", "numbers", "cell", "own", "told", "known", "here", "found", "rest"]) (qual := "how_often") (scope := defScope (top 86)) (f := He.ga K "how_often") (cdv := cdv) (A := A) (outer := outer) (s := s) (H := H) (E := E)
    (SSs.cons (SS.asg (SE.call (o := false) I.h43 hr (bn_43 hd) (ln_43 _) tk (by rfl) (hd.hgl 43 _ rfl).1 (hd.hgl 43 _ rfl).2 (SA.cons (.inl rfl) (SE.var rfl (.inl rfl)) (SA.cons (.inl rfl) (SE.var rfl (.inl rfl)) SA.nil))) (SG.tup (n := 0) rfl (SGs.cons (SG.name sN rfl (.inl rfl) (by decide) (by decide : (3 : Nat) < 9)) (SGs.cons (SG.name sN rfl (.inl rfl) (by decide) (by decide : (4 : Nat) < 9)) SGs.nil))))
      (SSs.cons (SS.parL (b1 := false) rfl sN rfl rfl (by decide) (by decide : (5 : Nat) < 9) (by decide : (6 : Nat) < 9) rfl rfl (by decide) (fun h => nomatch h) (fun _ => by decide) (SE.call (o := false) I.h44 hr (bn_44 hd) (ln_44 _) tk (by rfl) (hd.hgl 44 _ rfl).1 (hd.hgl 44 _ rfl).2 (SA.cons (.inl rfl) (SE.var rfl (.inl rfl)) (SA.cons (.inl rfl) (SE.var rfl (.inl rfl)) SA.nil))) (SE.call (o := false) I.h9 hr (bn_9 hd) (ln_9 _) tk (by rfl) (hd.hgl 9 _ rfl).1 (hd.hgl 9 _ rfl).2 (SA.cons (.inl rfl) (SE.var rfl (.inl rfl)) (SA.cons (.inl rfl) (SE.ix (Room.u50 hr) (SE.toRd (SE.var rfl (.inl rfl))) (SE.toRd SE.int)) SA.nil))) rfl rfl rfl rfl)
      (SSs.cons (SS.asgMv sN rfl (.inl rfl) (by decide) (by decide : (7 : Nat) < 9) (SE.lst SA.nil) rfl)
      (SSs.cons (SS.for_ (hw := by exact fun h => nomatch h) (by exact fun h => nomatch h) px rfl (SI.range1 (by rfl) (hd.hfr 9 _ rfl) (SA.cons (.inl rfl) (SE.ix (Room.u50 hr) (SE.toRd (SE.var rfl (.inl rfl))) (SE.toRd SE.int)) SA.nil)) (SG.name sN rfl (.inl rfl) (by decide) (by decide : (8 : Nat) < 9)) (SSs.one (SS.ite (SX.cmp (ne_F (Room.u50 hr)) (SE.toRd (SE.get (Room.u50 hr) (SE.toRd (SE.var rfl (.inl rfl))) (SE.var rfl (.inl rfl)) (SE.var rfl (.inl rfl)) ⟨rfl, rfl, rfl, rfl⟩)) (SE.toRd (SE.var rfl (.inl rfl))) rfl) (SSs.one (SS.app rfl (.inl rfl) (by decide) (by decide) SE.int)) (SSs.one (SS.app rfl (.inl rfl) (by decide) (by decide) (SE.ix (Room.u50 hr) (SE.toRd (SE.call (o := false) I.h48 hr (bn_48 hd) (ln_48 _) (takes_unl tk) (by rfl) (hd.hgl 48 _ rfl).1 (hd.hgl 48 _ rfl).2 (SA.cons (.inl rfl) (SE.ix (Room.u50 hr) (SE.toRd (SE.var rfl (.inl rfl))) (SE.toRd SE.int)) (SA.cons (.inl rfl) (SE.ix (Room.u50 hr) (SE.toRd (SE.var rfl (.inl rfl))) (SE.toRd SE.int)) (SA.cons (.inl rfl) (SE.ix (Room.u50 hr) (SE.toRd (SE.var rfl (.inl rfl))) (SE.toRd (SE.un un_negD (SE.toRd SE.int)))) (SA.cons (.inl rfl) (SE.call (o := false) I.h38 hr (bn_38 hd) (ln_38 _) (takes_unl tk) (by rfl) (hd.hgl 38 _ rfl).1 (hd.hgl 38 _ rfl).2 (SA.cons (.inl rfl) (SE.var rfl (.inl rfl)) (SA.cons (.inl rfl) (SE.var rfl (.inl rfl)) (SA.cons (.inl rfl) (SE.var rfl (.inl rfl)) SA.nil)))) SA.nil)))))) (SE.toRd SE.int)))))))
      (SSs.one (SS.retRp (SE.toRp (SE.ty1 (o := true) tuple_F (by rfl) (hd.hfr 2 _ rfl) boot_tuple (SE.mvR rfl (.inl rfl))))))))))
theorem sc_61 : FnScope ["one", "other", "near", "far"] ["one", "other"] (defScope (top 87)) := ⟨rfl, rfl, rfl, by decide +kernel, rfl, by decide +kernel, by decide +kernel⟩
theorem ok_61 {n : Nat} (hd : HD K mg fds) (I : AllOk P w K mg base fds n) : FnOk P w K mg base (L2.CX P w) (n + 1) (He.ga K "are_as_many") (fds 61) ["one", "other"] (spF (gm K) 2 false (b_are_as_many (prog n))) :=
  have sN : List.Nodup (α := Str) ["one", "other", "near", "far"] := sc_61.nd
  fn_ok (mv := []) (owN := []) (owL := []) (kr := .rp) (fd_61 hd) sc_61 rfl rfl (by decide) (fun h => nomatch h) fun cdv A outer s H E hr =>
    have tk := takesX (P := P) (w := w) (K := K) (mg := mg) (base := base) (N := ["one", "other", "near", "far"]) (qual := "are_as_many") (scope := defScope (top 87)) (f := He.ga K "are_as_many") (cdv := cdv) (A := A) (outer := outer) (s := s) (H := H) (E := E)
    have px := passX (P := P) (w := w) (K := K) (mg := mg) (base := base) (N := ["one", "other", "near", "far"]) (qual := "are_as_many") (scope := defScope (top 87)) (f := He.ga K "are_as_many") (cdv := cdv) (A := A) (outer := outer) (s := s) (H := H) (E := E)
    (SSs.cons (SS.parL (b1 := false) rfl sN rfl rfl (by decide) (by decide : (2 : Nat) < 4) (by decide : (3 : Nat) < 4) rfl rfl (by decide) (fun h => nomatch h) (fun _ => by decide) (SE.call (o := false) I.h25 hr (bn_25 hd) (ln_25 _) tk (by rfl) (hd.hgl 25 _ rfl).1 (hd.hgl 25 _ rfl).2 (SA.cons (.inl rfl) (SE.var rfl (.inl rfl)) SA.nil)) (SE.call (o := false) I.h25 hr (bn_25 hd) (ln_25 _) tk (by rfl) (hd.hgl 25 _ rfl).1 (hd.hgl 25 _ rfl).2 (SA.cons (.inl rfl) (SE.var rfl (.inl rfl)) SA.nil)) rfl rfl rfl rfl)
      (SSs.cons (SS.ite (SX.bool (SW.or (SX.cmp (ne_F (Room.u50 hr)) (SE.toRd (SE.ix (Room.u50 hr) (SE.toRd (SE.var rfl (.inl rfl))) (SE.toRd SE.int))) (SE.toRd (SE.ix (Room.u50 hr) (SE.toRd (SE.var rfl (.inl rfl))) (SE.toRd SE.int))) rfl) (SW.one_or (SX.cmp (ne_F (Room.u50 hr)) (SE.toRd (SE.blt1 (o := true) len_F (by rfl) (hd.hfr 5 _ rfl) boot_len (SE.toRd (SE.ix (Room.u50 hr) (SE.toRd (SE.var rfl (.inl rfl))) (SE.toRd SE.int))))) (SE.toRd (SE.blt1 (o := true) len_F (by rfl) (hd.hfr 5 _ rfl) boot_len (SE.toRd (SE.ix (Room.u50 hr) (SE.toRd (SE.var rfl (.inl rfl))) (SE.toRd SE.int))))) rfl)))) (SSs.one (SS.raiseE (by rfl) tk (hd.hec 0 _ rfl) (by rfl) (by rfl))) SSs.nil)
      (SSs.one (SS.retRp (SE.toRp (SE.cmp (eq_F (Room.u50 hr)) (SE.toRd (SE.call (o := false) I.h56 hr (bn_56 hd) (ln_56 _) tk (by rfl) (hd.hgl 56 _ rfl).1 (hd.hgl 56 _ rfl).2 (SA.cons (.inl rfl) (SE.var rfl (.inl rfl)) SA.nil))) (SE.toRd (SE.call (o := false) I.h56 hr (bn_56 hd) (ln_56 _) tk (by rfl) (hd.hgl 56 _ rfl).1 (hd.hgl 56 _ rfl).2 (SA.cons (.inl rfl) (SE.var rfl (.inl rfl)) SA.nil))) rfl))))))
theorem sc_62 : FnScope ["got", "due", "mine", "its"] ["got", "due"] (defScope (top 89)) := ⟨rfl, rfl, rfl, by decide +kernel, rfl, by decide +kernel, by decide +kernel⟩
theorem ok_62 {n : Nat} (hd : HD K mg fds) (I : AllOk P w K mg base fds n) : FnOk P w K mg base (L2.CX P w) (n + 1) (He.ga K "_law_same") (fds 62) ["got", "due"] (spF (gm K) 2 false (b_law_same (prog n))) :=
  have sN : List.Nodup (α := Str) ["got", "due", "mine", "its"] := sc_62.nd
  fn_ok (mv := []) (owN := []) (owL := []) (kr := .rp) (fd_62 hd) sc_62 rfl rfl (by decide) (fun h => nomatch h) fun cdv A outer s H E hr =>
    have tk := takesX (P := P) (w := w) (K := K) (mg := mg) (base := base) (N := ["got", "due", "mine", "its"]) (qual := "_law_same") (scope := defScope (top 89)) (f := He.ga K "_law_same") (cdv := cdv) (A := A) (outer := outer) (s := s) (H := H) (E := E)
    have px := passX (P := P) (w := w) (K := K) (mg := mg) (base := base) (N := ["got", "due", "mine", "its"]) (qual := "_law_same") (scope := defScope (top 89)) (f := He.ga K "_law_same") (cdv := cdv) (A := A) (outer := outer) (s := s) (H := H) (E := E)
    (SSs.cons (SS.ite (SX.val (SE.isi2 (k := 4) (k' := 3) (by decide) (by decide) (by rfl) (hd.hfr 0 _ rfl) (by rfl) (hd.hfr 1 _ rfl) boot_list (by rfl) (hd.hfr 2 _ rfl) boot_tuple (SE.toRd (SE.var rfl (.inl rfl))))) (SSs.cons (SS.ite (SX.bool (SW.or (SX.cmp (ne_F (Room.u50 hr)) (SE.toRd (SE.isi (k := 4) (by decide) (by rfl) (hd.hfr 0 _ rfl) (by rfl) (hd.hfr 1 _ rfl) boot_list (SE.toRd (SE.var rfl (.inl rfl))))) (SE.toRd (SE.isi (k := 4) (by decide) (by rfl) (hd.hfr 0 _ rfl) (by rfl) (hd.hfr 1 _ rfl) boot_list (SE.toRd (SE.var rfl (.inl rfl))))) rfl) (SW.one_or (SX.cmp (ne_F (Room.u50 hr)) (SE.toRd (SE.isi (k := 3) (by decide) (by rfl) (hd.hfr 0 _ rfl) (by rfl) (hd.hfr 2 _ rfl) boot_tuple (SE.toRd (SE.var rfl (.inl rfl))))) (SE.toRd (SE.isi (k := 3) (by decide) (by rfl) (hd.hfr 0 _ rfl) (by rfl) (hd.hfr 2 _ rfl) boot_tuple (SE.toRd (SE.var rfl (.inl rfl))))) rfl)))) (SSs.one (SS.retRp SE.bl)) SSs.nil)
      (SSs.one (SS.retRp (SE.toRp (SE.and (SE.cmp (eq_F (Room.u50 hr)) (SE.toRd (SE.blt1 (o := true) len_F (by rfl) (hd.hfr 5 _ rfl) boot_len (SE.toRd (SE.var rfl (.inl rfl))))) (SE.toRd (SE.blt1 (o := true) len_F (by rfl) (hd.hfr 5 _ rfl) boot_len (SE.toRd (SE.var rfl (.inl rfl))))) rfl) (SE.one_bop (SE.blt1 (o := true) (all_F (by rfl)) (by rfl) (hd.hfr 7 _ rfl) boot_all (SE.toRd (SE.comp (own := [("mine", 2), ("its", 3)]) (vs := [2, 3]) (hw := by exact fun _ => ⟨_, rfl⟩) rfl sN (SI.zip (by rfl) (hd.hfr 6 _ rfl) (SA.cons (.inl rfl) (SE.var rfl (.inl rfl)) (SA.cons (.inl rfl) (SE.var rfl (.inl rfl)) SA.nil))) (blkOk_by (by rfl)) (fun _ _ _ _ _ => (SG.tup (n := 0) rfl (SGs.cons (SG.name sN rfl (.inl rfl) (by decide) (by decide : (2 : Nat) < 4)) (SGs.cons (SG.name sN rfl (.inl rfl) (by decide) (by decide : (3 : Nat) < 4)) SGs.nil)))) (fun _ _ _ _ _ => ST.nil) (fun _ _ _ _ _ => (SE.call (o := false) I.h62 hr (bn_62 hd) (ln_62 _) L2.takes0 (by rfl) (hd.hgl 62 _ rfl).1 (hd.hgl 62 _ rfl).2 (SA.cons (.inl rfl) (SE.var rfl (.inl rfl)) (SA.cons (.inl rfl) (SE.var rfl (.inl rfl)) SA.nil))))))))))))) SSs.nil)
      (SSs.cons (SS.ite (SX.bool (SW.or (SX.cmp is_F (SE.toRd (SE.var rfl (.inl rfl))) (SE.toRd SE.non) rfl) (SW.one_or (SX.val (SE.isi2 (k := 0) (k' := 2) (by decide) (by decide) (by rfl) (hd.hfr 0 _ rfl) (by rfl) (hd.hfr 4 _ rfl) boot_bool (by rfl) (hd.hfr 14 _ rfl) boot_str (SE.toRd (SE.var rfl (.inl rfl)))))))) (SSs.one (SS.retRp (SE.toRp (SE.and (SE.cmp (eq_F (Room.u50 hr)) (SE.toRd (SE.var rfl (.inl rfl))) (SE.toRd (SE.var rfl (.inl rfl))) rfl) (SE.and (SE.cmp (eq_F (Room.u50 hr)) (SE.toRd (SE.isi (k := 0) (by decide) (by rfl) (hd.hfr 0 _ rfl) (by rfl) (hd.hfr 4 _ rfl) boot_bool (SE.toRd (SE.var rfl (.inl rfl))))) (SE.toRd (SE.isi (k := 0) (by decide) (by rfl) (hd.hfr 0 _ rfl) (by rfl) (hd.hfr 4 _ rfl) boot_bool (SE.toRd (SE.var rfl (.inl rfl))))) rfl) (SE.one_bop (SE.cmp (eq_F (Room.u50 hr)) (SE.toRd (SE.cmp is_F (SE.toRd (SE.var rfl (.inl rfl))) (SE.toRd SE.non) rfl)) (SE.toRd (SE.cmp is_F (SE.toRd (SE.var rfl (.inl rfl))) (SE.toRd SE.non) rfl)) rfl))))))) SSs.nil)
      (SSs.one (SS.retRp (SE.toRp (SE.and (SE.isi (k := 1) (by decide) (by rfl) (hd.hfr 0 _ rfl) (by rfl) (hd.hfr 3 _ rfl) boot_int (SE.toRd (SE.var rfl (.inl rfl)))) (SE.and (SE.not (SE.isi (k := 0) (by decide) (by rfl) (hd.hfr 0 _ rfl) (by rfl) (hd.hfr 4 _ rfl) boot_bool (SE.toRd (SE.var rfl (.inl rfl))))) (SE.one_bop (SE.cmp (eq_F (Room.u50 hr)) (SE.toRd (SE.var rfl (.inl rfl))) (SE.toRd (SE.var rfl (.inl rfl))) rfl)))))))))
theorem sc_63 : FnScope ["matter", "bit"] ["matter"] (defScope (top 90)) := ⟨rfl, rfl, rfl, by decide +kernel, rfl, by decide +kernel, by decide +kernel⟩
theorem ok_63 {n : Nat} (hd : HD K mg fds) (I : AllOk P w K mg base fds n) : FnOk P w K mg base (L2.CX P w) (n + 1) (He.ga K "_law_lists") (fds 63) ["matter"] (spF (gm K) 1 false (b_law_lists (prog n))) :=
  have sN : List.Nodup (α := Str) ["matter", "bit"] := sc_63.nd
  fn_ok (mv := []) (owN := []) (owL := []) (kr := .rp) (fd_63 hd) sc_63 rfl rfl (by decide) (fun h => nomatch h) fun cdv A outer s H E hr =>
    have tk := takesX (P := P) (w := w) (K := K) (mg := mg) (base := base) (N := ["matter", "bit"]) (qual := "_law_lists") (scope := defScope (top 90)) (f := He.ga K "_law_lists") (cdv := cdv) (A := A) (outer := outer) (s := s) (H := H) (E := E)
    have px := passX (P := P) (w := w) (K := K) (mg := mg) (base := base) (N := ["matter", "bit"]) (qual := "_law_lists") (scope := defScope (top 90)) (f := He.ga K "_law_lists") (cdv := cdv) (A := A) (outer := outer) (s := s) (H := H) (E := E)
    (SSs.one (SS.retRp (SE.ife (SX.val (SE.isi2 (k := 4) (k' := 3) (by decide) (by decide) (by rfl) (hd.hfr 0 _ rfl) (by rfl) (hd.hfr 1 _ rfl) boot_list (by rfl) (hd.hfr 2 _ rfl) boot_tuple (SE.toRd (SE.var rfl (.inl rfl))))) (SE.toRp (SE.comp (own := [("bit", 1)]) (vs := [1]) (hw := by exact fun h => nomatch h) rfl sN (SI.any (SE.var rfl (.inl rfl))) (blkOk_by (by rfl)) (fun _ _ _ _ _ => (SG.name sN rfl (.inl rfl) (by decide) (by decide : (1 : Nat) < 2))) (fun _ _ _ _ _ => ST.nil) (fun _ _ _ _ _ => (SE.call (o := false) I.h63 hr (bn_63 hd) (ln_63 _) L2.takes0 (by rfl) (hd.hgl 63 _ rfl).1 (hd.hgl 63 _ rfl).2 (SA.cons (.inl rfl) (SE.var rfl (.inl rfl)) SA.nil))))) (SE.var rfl (.inl rfl)))))
theorem sc_64 : FnScope ["z", "u", "b", "nil", "same", "root", "loose", "never"] [] (defScope (top 91)) := ⟨rfl, rfl, rfl, by decide +kernel, rfl, by decide +kernel, by decide +kernel⟩
theorem ok_64 {n : Nat} (hd : HD K mg fds) (I : AllOk P w K mg base fds n) : FnOk P w K mg base (L2.CX P w) (n + 1) (He.ga K "_law_scene") (fds 64) [] (spF (gm K) 0 false (b_law_scene (prog n))) :=
  have sN : List.Nodup (α := Str) ["z", "u", "b", "nil", "same", "root", "loose", "never"] := sc_64.nd
  fn_ok (mv := []) (owN := []) (owL := []) (kr := .rp) (fd_64 hd) sc_64 rfl rfl (by decide) (fun h => nomatch h) fun cdv A outer s H E hr =>
    have tk := takesX (P := P) (w := w) (K := K) (mg := mg) (base := base) (N := ["z", "u", "b", "nil", "same", "root", "loose", "never"]) (qual := "_law_scene") (scope := defScope (top 91)) (f := He.ga K "_law_scene") (cdv := cdv) (A := A) (outer := outer) (s := s) (H := H) (E := E)
    have px := passX (P := P) (w := w) (K := K) (mg := mg) (base := base) (N := ["z", "u", "b", "nil", "same", "root", "loose", "never"]) (qual := "_law_scene") (scope := defScope (top 91)) (f := He.ga K "_law_scene") (cdv := cdv) (A := A) (outer := outer) (s := s) (H := H) (E := E)
    (SSs.cons (SS.asg (SE.toRp (SE.tup (SA.cons (.inl rfl) (SE.toRp (SE.tup (SA.cons (.inl rfl) SE.int (SA.cons (.inl rfl) (SE.toRp (SE.tup (SA.cons (.inl rfl) (SE.toRp (SE.tup (SA.cons (.inl rfl) SE.int (SA.cons (.inl rfl) SE.int SA.nil)))) SA.nil))) SA.nil)))) (SA.cons (.inl rfl) (SE.toRp (SE.tup (SA.cons (.inl rfl) SE.int (SA.cons (.inl rfl) (SE.toRp (SE.tup (SA.cons (.inl rfl) (SE.toRp (SE.tup (SA.cons (.inl rfl) SE.int (SA.cons (.inl rfl) SE.int SA.nil)))) SA.nil))) SA.nil)))) (SA.cons (.inl rfl) (SE.toRp (SE.tup (SA.cons (.inl rfl) SE.int (SA.cons (.inl rfl) (SE.toRp (SE.tup (SA.cons (.inl rfl) (SE.toRp (SE.tup (SA.cons (.inl rfl) SE.int (SA.cons (.inl rfl) SE.int SA.nil)))) SA.nil))) SA.nil)))) (SA.cons (.inl rfl) (SE.toRp (SE.tup (SA.cons (.inl rfl) SE.int (SA.cons (.inl rfl) (SE.toRp (SE.tup SA.nil)) SA.nil)))) SA.nil)))))) (SG.tup (n := 0) rfl (SGs.cons (SG.name sN rfl (.inl rfl) (by decide) (by decide : (0 : Nat) < 8)) (SGs.cons (SG.name sN rfl (.inl rfl) (by decide) (by decide : (1 : Nat) < 8)) (SGs.cons (SG.name sN rfl (.inl rfl) (by decide) (by decide : (2 : Nat) < 8)) (SGs.cons (SG.name sN rfl (.inl rfl) (by decide) (by decide : (3 : Nat) < 8)) SGs.nil))))))
      (SSs.cons (SS.asg (SE.toRp (SE.tup (SA.cons (.inl rfl) SE.int (SA.cons (.inl rfl) SE.int (SA.cons (.inl rfl) (SE.toRp (SE.tup (SA.cons (.inl rfl) SE.int SA.nil))) (SA.cons (.inl rfl) (SE.toRp (SE.tup (SA.cons (.inl rfl) SE.int SA.nil))) (SA.cons (.inl rfl) (SE.toRp (SE.tup (SA.cons (.inl rfl) (SE.toRp (SE.tup (SA.cons (.inl rfl) (SE.var rfl (.inl rfl)) (SA.cons (.inl rfl) (SE.var rfl (.inl rfl)) (SA.cons (.inl rfl) (SE.toRp (SE.tup (SA.cons (.inl rfl) SE.int (SA.cons (.inl rfl) (SE.toRp (SE.tup (SA.cons (.inl rfl) (SE.toRp (SE.tup (SA.cons (.inl rfl) SE.int (SA.cons (.inl rfl) SE.int SA.nil)))) SA.nil))) SA.nil)))) SA.nil))))) (SA.cons (.inl rfl) (SE.toRp (SE.tup (SA.cons (.inl rfl) (SE.var rfl (.inl rfl)) (SA.cons (.inl rfl) (SE.var rfl (.inl rfl)) (SA.cons (.inl rfl) (SE.var rfl (.inl rfl)) SA.nil))))) SA.nil)))) SA.nil))))))) (SG.name sN rfl (.inl rfl) (by decide) (by decide : (4 : Nat) < 8)))
      (SSs.cons (SS.asg (SE.toRp (SE.tup (SA.cons (.inl rfl) SE.int (SA.cons (.inl rfl) SE.int (SA.cons (.inl rfl) (SE.toRp (SE.tup (SA.cons (.inl rfl) SE.int SA.nil))) (SA.cons (.inl rfl) (SE.toRp (SE.tup (SA.cons (.inl rfl) SE.int SA.nil))) (SA.cons (.inl rfl) (SE.toRp (SE.tup (SA.cons (.inl rfl) (SE.toRp (SE.tup (SA.cons (.inl rfl) (SE.var rfl (.inl rfl)) (SA.cons (.inl rfl) (SE.var rfl (.inl rfl)) (SA.cons (.inl rfl) (SE.var rfl (.inl rfl)) SA.nil))))) SA.nil))) SA.nil))))))) (SG.name sN rfl (.inl rfl) (by decide) (by decide : (5 : Nat) < 8)))
      (SSs.cons (SS.asg (SE.toRp (SE.tup (SA.cons (.inl rfl) SE.int (SA.cons (.inl rfl) SE.int (SA.cons (.inl rfl) (SE.toRp (SE.tup SA.nil)) (SA.cons (.inl rfl) (SE.toRp (SE.tup (SA.cons (.inl rfl) SE.int (SA.cons (.inl rfl) SE.int SA.nil)))) (SA.cons (.inl rfl) (SE.toRp (SE.tup (SA.cons (.inl rfl) (SE.toRp (SE.tup (SA.cons (.inl rfl) (SE.toRp (SE.tup (SA.cons (.inl rfl) SE.int (SA.cons (.inl rfl) (SE.toRp (SE.tup SA.nil)) SA.nil)))) (SA.cons (.inl rfl) (SE.toRp (SE.tup (SA.cons (.inl rfl) SE.int (SA.cons (.inl rfl) (SE.toRp (SE.tup (SA.cons (.inl rfl) (SE.toRp (SE.tup (SA.cons (.inl rfl) SE.int (SA.cons (.inl rfl) SE.int SA.nil)))) (SA.cons (.inl rfl) (SE.toRp (SE.tup (SA.cons (.inl rfl) SE.int (SA.cons (.inl rfl) SE.int SA.nil)))) SA.nil)))) SA.nil)))) (SA.cons (.inl rfl) (SE.toRp (SE.tup (SA.cons (.inl rfl) SE.int (SA.cons (.inl rfl) (SE.toRp (SE.tup SA.nil)) SA.nil)))) SA.nil))))) SA.nil))) SA.nil))))))) (SG.name sN rfl (.inl rfl) (by decide) (by decide : (6 : Nat) < 8)))
      (SSs.cons (SS.asg (SE.toRp (SE.tup (SA.cons (.inl rfl) SE.int (SA.cons (.inl rfl) SE.int (SA.cons (.inl rfl) (SE.toRp (SE.tup (SA.cons (.inl rfl) SE.int (SA.cons (.inl rfl) SE.int SA.nil)))) (SA.cons (.inl rfl) (SE.toRp (SE.tup SA.nil)) (SA.cons (.inl rfl) (SE.toRp (SE.tup (SA.cons (.inl rfl) (SE.toRp (SE.tup (SA.cons (.inl rfl) (SE.toRp (SE.tup (SA.cons (.inl rfl) SE.int (SA.cons (.inl rfl) (SE.toRp (SE.tup SA.nil)) SA.nil)))) (SA.cons (.inl rfl) (SE.toRp (SE.tup (SA.cons (.inl rfl) SE.int (SA.cons (.inl rfl) (SE.toRp (SE.tup SA.nil)) SA.nil)))) (SA.cons (.inl rfl) (SE.var rfl (.inl rfl)) SA.nil))))) SA.nil))) SA.nil))))))) (SG.name sN rfl (.inl rfl) (by decide) (by decide : (7 : Nat) < 8)))
      (SSs.one (SS.retRp (SE.toRp (SE.tup (SA.cons (.inl rfl) (SE.var rfl (.inl rfl)) (SA.cons (.inl rfl) (SE.var rfl (.inl rfl)) (SA.cons (.inl rfl) (SE.var rfl (.inl rfl)) (SA.cons (.inl rfl) (SE.var rfl (.inl rfl)) SA.nil)))))))))))))
theorem sc_65 : FnScope ["same", "root", "loose", "never", "got", "due", "turned_v", "cubes", "own", "rest"] [] (defScope (top 92)) := ⟨rfl, rfl, rfl, by decide +kernel, rfl, by decide +kernel, by decide +kernel⟩
theorem ok_65 {n : Nat} (hd : HD K mg fds) (I : AllOk P w K mg base fds n) : FnOk P w K mg base (L2.CX P w) (n + 1) (He.ga K "_law_counts_right") (fds 65) [] (spF (gm K) 0 false (b_law_counts_right (prog n))) :=
  have sN : List.Nodup (α := Str) ["same", "root", "loose", "never", "got", "due", "turned_v", "cubes", "own", "rest"] := sc_65.nd
  fn_ok (mv := []) (owN := []) (owL := []) (kr := .rp) (fd_65 hd) sc_65 rfl rfl (by decide) (fun h => nomatch h) fun cdv A outer s H E hr =>
    have tk := takesX (P := P) (w := w) (K := K) (mg := mg) (base := base) (N := ["same", "root", "loose", "never", "got", "due", "turned_v", "cubes", "own", "rest"]) (qual := "_law_counts_right") (scope := defScope (top 92)) (f := He.ga K "_law_counts_right") (cdv := cdv) (A := A) (outer := outer) (s := s) (H := H) (E := E)
    have px := passX (P := P) (w := w) (K := K) (mg := mg) (base := base) (N := ["same", "root", "loose", "never", "got", "due", "turned_v", "cubes", "own", "rest"]) (qual := "_law_counts_right") (scope := defScope (top 92)) (f := He.ga K "_law_counts_right") (cdv := cdv) (A := A) (outer := outer) (s := s) (H := H) (E := E)
    (SSs.cons (SS.asg (SE.call0 (o := false) I.h64 hr (bn_64 hd) tk (by rfl) (hd.hgl 64 _ rfl).1 (hd.hgl 64 _ rfl).2) (SG.tup (n := 0) rfl (SGs.cons (SG.name sN rfl (.inr rfl) (by decide) (by decide : (0 : Nat) < 10)) (SGs.cons (SG.name sN rfl (.inr rfl) (by decide) (by decide : (1 : Nat) < 10)) (SGs.cons (SG.name sN rfl (.inl rfl) (by decide) (by decide : (2 : Nat) < 10)) (SGs.cons (SG.name sN rfl (.inl rfl) (by decide) (by decide : (3 : Nat) < 10)) SGs.nil))))))
      (SSs.cons (SS.asg (SE.toRp (SE.lst (SA.cons (.inl rfl) (SE.toRp (SE.comp (own := [("own", 8)]) (vs := [8]) (hw := by exact fun h => nomatch h) rfl sN (SI.any (SE.toRp (SE.tup (SA.cons (.inl rfl) (SE.var rfl (.inr (.inl rfl))) (SA.cons (.inl rfl) (SE.var rfl (.inr (.inl rfl))) (SA.cons (.inl rfl) (SE.var rfl (.inl rfl)) (SA.cons (.inl rfl) (SE.var rfl (.inl rfl)) SA.nil))))))) (blkOk_by (by rfl)) (fun _ _ _ _ _ => (SG.name sN rfl (.inl rfl) (by decide) (by decide : (8 : Nat) < 10))) (fun _ _ _ _ _ => ST.nil) (fun _ _ _ _ _ => (SE.call (o := false) I.h49 hr (bn_49 hd) (ln_49 _) L2.takes0 (by rfl) (hd.hgl 49 _ rfl).1 (hd.hgl 49 _ rfl).2 (SA.cons (.inl rfl) (SE.var rfl (.inl rfl)) SA.nil))))) (SA.cons (.inl rfl) (SE.callK (o := false) (ks := ["sheet"]) (ix := [0]) I.h49 hr (FunD.bindsK (fd_49 hd) fun _ _ _ _ _ _ ws hl => match ws, hl with | [_], _ => rfl) (ln_49 _) tk (by rfl) (hd.hgl 49 _ rfl).1 (hd.hgl 49 _ rfl).2 (SK.cons (SE.call (o := false) I.h63 hr (bn_63 hd) (ln_63 _) tk (by rfl) (hd.hgl 63 _ rfl).1 (hd.hgl 63 _ rfl).2 (SA.cons (.inl rfl) (SE.var rfl (.inr (.inl rfl))) SA.nil)) SK.nil) (by rfl) (by rfl)) (SA.cons (.inl rfl) (SE.toRp (SE.comp (own := [("rest", 9)]) (vs := [9]) (hw := by exact fun h => nomatch h) rfl sN (SI.range1 (by rfl) (hd.hfr 9 _ rfl) (SA.cons (.inl rfl) SE.int SA.nil)) (blkOk_by (by rfl)) (fun _ _ _ _ _ => (SG.name sN rfl (.inl rfl) (by decide) (by decide : (9 : Nat) < 10))) (fun _ _ _ _ _ => ST.nil) (fun _ _ _ _ _ => (SE.call (o := false) I.h50 hr (bn_50 hd) (ln_50 _) L2.takes0 (by rfl) (hd.hgl 50 _ rfl).1 (hd.hgl 50 _ rfl).2 (SA.cons (.inl rfl) (SE.var rfl (.inr (.inl rfl))) (SA.cons (.inl rfl) (SE.toRp (SE.tup (SA.cons (.inl rfl) (SE.var rfl (.inl rfl)) SA.nil))) SA.nil)))))) (SA.cons (.inl rfl) (SE.toRp (SE.comp (own := [("rest", 9)]) (vs := [9]) (hw := by exact fun h => nomatch h) rfl sN (SI.range1 (by rfl) (hd.hfr 9 _ rfl) (SA.cons (.inl rfl) SE.int SA.nil)) (blkOk_by (by rfl)) (fun _ _ _ _ _ => (SG.name sN rfl (.inl rfl) (by decide) (by decide : (9 : Nat) < 10))) (fun _ _ _ _ _ => ST.nil) (fun _ _ _ _ _ => (SE.call (o := false) I.h50 hr (bn_50 hd) (ln_50 _) L2.takes0 (by rfl) (hd.hgl 50 _ rfl).1 (hd.hgl 50 _ rfl).2 (SA.cons (.inl rfl) (SE.var rfl (.inr (.inl rfl))) (SA.cons (.inl rfl) (SE.toRp (SE.tup (SA.cons (.inl rfl) (SE.var rfl (.inl rfl)) SA.nil))) SA.nil)))))) (SA.cons (.inl rfl) (SE.call (o := false) I.h50 hr (bn_50 hd) (ln_50 _) tk (by rfl) (hd.hgl 50 _ rfl).1 (hd.hgl 50 _ rfl).2 (SA.cons (.inl rfl) (SE.var rfl (.inl rfl)) (SA.cons (.inl rfl) (SE.toRp (SE.tup SA.nil)) SA.nil))) (SA.cons (.inl rfl) (SE.callK (o := false) (ks := ["numbers", "sheet"]) (ix := [1, 0]) I.h50 hr (FunD.bindsK (fd_50 hd) fun _ _ _ _ _ _ ws hl => match ws, hl with | [_, _], _ => rfl) (ln_50 _) tk (by rfl) (hd.hgl 50 _ rfl).1 (hd.hgl 50 _ rfl).2 (SK.cons (SE.toRp (SE.lst (SA.cons (.inl rfl) SE.int (SA.cons (.inl rfl) SE.int SA.nil)))) (SK.cons (SE.call (o := false) I.h63 hr (bn_63 hd) (ln_63 _) tk (by rfl) (hd.hgl 63 _ rfl).1 (hd.hgl 63 _ rfl).2 (SA.cons (.inl rfl) (SE.var rfl (.inl rfl)) SA.nil)) SK.nil)) (by rfl) (by rfl)) SA.nil)))))))) (SG.name sN rfl (.inl rfl) (by decide) (by decide : (4 : Nat) < 10)))
      (SSs.cons (SS.asg (SE.toRp (SE.lst (SA.cons (.inl rfl) (SE.toRp (SE.lst (SA.cons (.inl rfl) SE.int (SA.cons (.inl rfl) SE.int (SA.cons (.inl rfl) SE.int (SA.cons (.inl rfl) SE.int SA.nil)))))) (SA.cons (.inl rfl) SE.int (SA.cons (.inl rfl) (SE.toRp (SE.lst (SA.cons (.inl rfl) SE.int (SA.cons (.inl rfl) SE.int (SA.cons (.inl rfl) SE.int (SA.cons (.inl rfl) SE.int (SA.cons (.inl rfl) SE.int SA.nil))))))) (SA.cons (.inl rfl) (SE.toRp (SE.lst (SA.cons (.inl rfl) SE.int (SA.cons (.inl rfl) SE.int (SA.cons (.inl rfl) SE.int (SA.cons (.inl rfl) SE.int (SA.cons (.inl rfl) SE.int (SA.cons (.inl rfl) SE.int (SA.cons (.inl rfl) SE.int SA.nil))))))))) (SA.cons (.inl rfl) SE.int (SA.cons (.inl rfl) SE.int SA.nil)))))))) (SG.name sN rfl (.inl rfl) (by decide) (by decide : (5 : Nat) < 10)))
      (SSs.cons (SS.asg (SE.toRp (SE.op op_addD (SE.toRd (SE.var rfl (.inl rfl))) (SE.toRd (SE.lst (SA.cons (.inl rfl) (SE.call (o := false) I.h56 hr (bn_56 hd) (ln_56 _) tk (by rfl) (hd.hgl 56 _ rfl).1 (hd.hgl 56 _ rfl).2 (SA.cons (.inl rfl) (SE.var rfl (.inr (.inl rfl))) SA.nil)) (SA.cons (.inl rfl) (SE.call (o := false) I.h56 hr (bn_56 hd) (ln_56 _) tk (by rfl) (hd.hgl 56 _ rfl).1 (hd.hgl 56 _ rfl).2 (SA.cons (.inl rfl) (SE.var rfl (.inl rfl)) SA.nil)) (SA.cons (.inl rfl) (SE.toRp (SE.blt1 (o := true) len_F (by rfl) (hd.hfr 5 _ rfl) boot_len (SE.toRd (SE.callK (o := false) (ks := ["sheet"]) (ix := [0]) I.h56 hr (FunD.bindsK (fd_56 hd) fun _ _ _ _ _ _ ws hl => match ws, hl with | [_], _ => rfl) (ln_56 _) tk (by rfl) (hd.hgl 56 _ rfl).1 (hd.hgl 56 _ rfl).2 (SK.cons (SE.call (o := false) I.h63 hr (bn_63 hd) (ln_63 _) tk (by rfl) (hd.hgl 63 _ rfl).1 (hd.hgl 63 _ rfl).2 (SA.cons (.inl rfl) (SE.var rfl (.inl rfl)) SA.nil)) SK.nil) (by rfl) (by rfl))))) (SA.cons (.inl rfl) (SE.ix (Room.u50 hr) (SE.toRd (SE.call (o := false) I.h56 hr (bn_56 hd) (ln_56 _) tk (by rfl) (hd.hgl 56 _ rfl).1 (hd.hgl 56 _ rfl).2 (SA.cons (.inl rfl) (SE.var rfl (.inl rfl)) SA.nil))) (SE.toRd SE.int)) (SA.cons (.inl rfl) (SE.call (o := false) I.h56 hr (bn_56 hd) (ln_56 _) tk (by rfl) (hd.hgl 56 _ rfl).1 (hd.hgl 56 _ rfl).2 (SA.cons (.inl rfl) (SE.toRp (SE.tup (SA.cons (.inl rfl) SE.int (SA.cons (.inl rfl) SE.int (SA.cons (.inl rfl) (SE.toRp (SE.tup SA.nil)) (SA.cons (.inl rfl) (SE.toRp (SE.tup SA.nil)) (SA.cons (.inl rfl) (SE.toRp (SE.tup SA.nil)) SA.nil))))))) SA.nil)) SA.nil))))))))) (SG.name sN rfl (.inl rfl) (by decide) (by decide : (4 : Nat) < 10)))
      (SSs.cons (SS.asg (SE.toRp (SE.op op_addD (SE.toRd (SE.var rfl (.inl rfl))) (SE.toRd (SE.lst (SA.cons (.inl rfl) (SE.toRp (SE.lst (SA.cons (.inl rfl) (SE.toRp (SE.tup (SA.cons (.inl rfl) (SE.toRp (SE.tup (SA.cons (.inl rfl) SE.int SA.nil))) (SA.cons (.inl rfl) SE.int SA.nil)))) (SA.cons (.inl rfl) (SE.toRp (SE.tup (SA.cons (.inl rfl) (SE.toRp (SE.tup (SA.cons (.inl rfl) SE.int SA.nil))) (SA.cons (.inl rfl) SE.int SA.nil)))) (SA.cons (.inl rfl) (SE.toRp (SE.tup (SA.cons (.inl rfl) (SE.toRp (SE.tup (SA.cons (.inl rfl) SE.int SA.nil))) (SA.cons (.inl rfl) SE.int SA.nil)))) (SA.cons (.inl rfl) (SE.toRp (SE.tup (SA.cons (.inl rfl) (SE.toRp (SE.tup (SA.cons (.inl rfl) SE.int SA.nil))) (SA.cons (.inl rfl) SE.int SA.nil)))) (SA.cons (.inl rfl) (SE.toRp (SE.tup (SA.cons (.inl rfl) (SE.toRp (SE.tup (SA.cons (.inl rfl) SE.int SA.nil))) (SA.cons (.inl rfl) SE.int SA.nil)))) SA.nil))))))) (SA.cons (.inl rfl) (SE.toRp (SE.lst (SA.cons (.inl rfl) (SE.toRp (SE.tup (SA.cons (.inl rfl) (SE.toRp (SE.tup SA.nil)) (SA.cons (.inl rfl) SE.int SA.nil)))) SA.nil))) (SA.cons (.inl rfl) SE.int (SA.cons (.inl rfl) (SE.toRp (SE.tup (SA.cons (.inl rfl) (SE.toRp (SE.tup (SA.cons (.inl rfl) SE.int (SA.cons (.inl rfl) SE.int SA.nil)))) (SA.cons (.inl rfl) SE.int SA.nil)))) (SA.cons (.inl rfl) (SE.toRp (SE.lst (SA.cons (.inl rfl) (SE.toRp (SE.tup (SA.cons (.inl rfl) (SE.toRp (SE.tup SA.nil)) (SA.cons (.inl rfl) SE.int SA.nil)))) SA.nil))) SA.nil))))))))) (SG.name sN rfl (.inl rfl) (by decide) (by decide : (5 : Nat) < 10)))
      (SSs.cons (SS.asg (SE.toRp (SE.tup (SA.cons (.inl rfl) SE.int (SA.cons (.inl rfl) SE.int (SA.cons (.inl rfl) (SE.toRp (SE.tup (SA.cons (.inl rfl) SE.int SA.nil))) (SA.cons (.inl rfl) (SE.toRp (SE.tup (SA.cons (.inl rfl) SE.int SA.nil))) (SA.cons (.inl rfl) (SE.toRp (SE.tup (SA.cons (.inl rfl) (SE.toRp (SE.tup (SA.cons (.inl rfl) (SE.toRp (SE.tup (SA.cons (.inl rfl) SE.int (SA.cons (.inl rfl) (SE.toRp (SE.tup (SA.cons (.inl rfl) (SE.toRp (SE.tup (SA.cons (.inl rfl) SE.int (SA.cons (.inl rfl) SE.int SA.nil)))) SA.nil))) SA.nil)))) (SA.cons (.inl rfl) (SE.toRp (SE.tup (SA.cons (.inl rfl) SE.int (SA.cons (.inl rfl) (SE.toRp (SE.tup (SA.cons (.inl rfl) (SE.toRp (SE.tup (SA.cons (.inl rfl) SE.int (SA.cons (.inl rfl) SE.int SA.nil)))) SA.nil))) SA.nil)))) (SA.cons (.inl rfl) (SE.toRp (SE.tup (SA.cons (.inl rfl) SE.int (SA.cons (.inl rfl) (SE.toRp (SE.tup (SA.cons (.inl rfl) (SE.toRp (SE.tup (SA.cons (.inl rfl) SE.int (SA.cons (.inl rfl) SE.int SA.nil)))) SA.nil))) SA.nil)))) SA.nil))))) SA.nil))) SA.nil))))))) (SG.name sN rfl (.inl rfl) (by decide) (by decide : (6 : Nat) < 10)))
      (SSs.cons (SS.asg (SE.toRp (SE.tup (SA.cons (.inl rfl) SE.int (SA.cons (.inl rfl) SE.int (SA.cons (.inl rfl) (SE.toRp (SE.tup (SA.cons (.inl rfl) SE.int SA.nil))) (SA.cons (.inl rfl) (SE.toRp (SE.tup (SA.cons (.inl rfl) SE.int SA.nil))) (SA.cons (.inl rfl) (SE.toRp (SE.tup (SA.cons (.inl rfl) (SE.toRp (SE.tup (SA.cons (.inl rfl) (SE.toRp (SE.tup (SA.cons (.inl rfl) SE.int (SA.cons (.inl rfl) (SE.toRp (SE.tup (SA.cons (.inl rfl) (SE.toRp (SE.tup (SA.cons (.inl rfl) SE.int (SA.cons (.inl rfl) SE.int SA.nil)))) SA.nil))) SA.nil)))) (SA.cons (.inl rfl) (SE.toRp (SE.tup (SA.cons (.inl rfl) SE.int (SA.cons (.inl rfl) (SE.toRp (SE.tup (SA.cons (.inl rfl) (SE.toRp (SE.tup (SA.cons (.inl rfl) SE.int (SA.cons (.inl rfl) SE.int SA.nil)))) SA.nil))) SA.nil)))) (SA.cons (.inl rfl) (SE.toRp (SE.tup (SA.cons (.inl rfl) SE.int (SA.cons (.inl rfl) (SE.toRp (SE.tup (SA.cons (.inl rfl) (SE.toRp (SE.tup (SA.cons (.inl rfl) SE.int (SA.cons (.inl rfl) SE.int SA.nil)))) SA.nil))) SA.nil)))) SA.nil))))) SA.nil))) SA.nil))))))) (SG.name sN rfl (.inl rfl) (by decide) (by decide : (7 : Nat) < 10)))
      (SSs.cons (SS.asg (SE.toRp (SE.op op_addD (SE.toRd (SE.var rfl (.inl rfl))) (SE.toRd (SE.lst (SA.cons (.inl rfl) (SE.call (o := false) I.h61 hr (bn_61 hd) (ln_61 _) tk (by rfl) (hd.hgl 61 _ rfl).1 (hd.hgl 61 _ rfl).2 (SA.cons (.inl rfl) (SE.var rfl (.inr (.inl rfl))) (SA.cons (.inl rfl) (SE.var rfl (.inl rfl)) SA.nil))) (SA.cons (.inl rfl) (SE.callK (o := false) (ks := ["other", "one"]) (ix := [1, 0]) I.h61 hr (FunD.bindsK (fd_61 hd) fun _ _ _ _ _ _ ws hl => match ws, hl with | [_, _], _ => rfl) (ln_61 _) tk (by rfl) (hd.hgl 61 _ rfl).1 (hd.hgl 61 _ rfl).2 (SK.cons (SE.call (o := false) I.h63 hr (bn_63 hd) (ln_63 _) tk (by rfl) (hd.hgl 63 _ rfl).1 (hd.hgl 63 _ rfl).2 (SA.cons (.inl rfl) (SE.var rfl (.inl rfl)) SA.nil)) (SK.cons (SE.call (o := false) I.h63 hr (bn_63 hd) (ln_63 _) tk (by rfl) (hd.hgl 63 _ rfl).1 (hd.hgl 63 _ rfl).2 (SA.cons (.inl rfl) (SE.var rfl (.inr (.inl rfl))) SA.nil)) SK.nil)) (by rfl) (by rfl)) (SA.cons (.inl rfl) (SE.call (o := false) I.h61 hr (bn_61 hd) (ln_61 _) tk (by rfl) (hd.hgl 61 _ rfl).1 (hd.hgl 61 _ rfl).2 (SA.cons (.inl rfl) (SE.var rfl (.inr (.inl rfl))) (SA.cons (.inl rfl) (SE.toRp (SE.op op_addD (SE.toRd (SE.cutH (SE.toRd (SE.var rfl (.inr (.inl rfl)))) (SE.toRd SE.int))) (SE.toRd (SE.tup (SA.cons (.inl rfl) (SE.toRp (SE.op op_addD (SE.toRd (SE.ix (Room.u50 hr) (SE.toRd (SE.var rfl (.inr (.inl rfl)))) (SE.toRd SE.int))) (SE.toRd (SE.tup (SA.cons (.inl rfl) (SE.toRp (SE.tup (SA.cons (.inl rfl) (SE.toRp (SE.tup (SA.cons (.inl rfl) SE.int (SA.cons (.inl rfl) (SE.toRp (SE.tup SA.nil)) SA.nil)))) (SA.cons (.inl rfl) (SE.toRp (SE.tup (SA.cons (.inl rfl) SE.int (SA.cons (.inl rfl) (SE.toRp (SE.tup (SA.cons (.inl rfl) (SE.toRp (SE.tup (SA.cons (.inl rfl) SE.int (SA.cons (.inl rfl) SE.int SA.nil)))) SA.nil))) SA.nil)))) (SA.cons (.inl rfl) (SE.toRp (SE.tup (SA.cons (.inl rfl) SE.int (SA.cons (.inl rfl) (SE.toRp (SE.tup SA.nil)) SA.nil)))) SA.nil))))) SA.nil))))) SA.nil))))) SA.nil))) (SA.cons (.inl rfl) (SE.call (o := false) I.h61 hr (bn_61 hd) (ln_61 _) tk (by rfl) (hd.hgl 61 _ rfl).1 (hd.hgl 61 _ rfl).2 (SA.cons (.inl rfl) (SE.var rfl (.inl rfl)) (SA.cons (.inl rfl) (SE.toRp (SE.tup (SA.cons (.inl rfl) SE.int (SA.cons (.inl rfl) SE.int (SA.cons (.inl rfl) (SE.toRp (SE.tup SA.nil)) (SA.cons (.inl rfl) (SE.toRp (SE.tup SA.nil)) (SA.cons (.inl rfl) (SE.toRp (SE.tup SA.nil)) SA.nil))))))) SA.nil))) SA.nil)))))))) (SG.name sN rfl (.inl rfl) (by decide) (by decide : (4 : Nat) < 10)))
      (SSs.cons (SS.asg (SE.toRp (SE.op op_addD (SE.toRd (SE.var rfl (.inl rfl))) (SE.toRd (SE.lst (SA.cons (.inl rfl) SE.bl (SA.cons (.inl rfl) SE.bl (SA.cons (.inl rfl) SE.bl (SA.cons (.inl rfl) SE.bl SA.nil)))))))) (SG.name sN rfl (.inl rfl) (by decide) (by decide : (5 : Nat) < 10)))
      (SSs.cons (SS.asg (SE.toRp (SE.op op_addD (SE.toRd (SE.var rfl (.inl rfl))) (SE.toRd (SE.lst (SA.cons (.inl rfl) (SE.toRp (SE.comp (own := [("rest", 9)]) (vs := [9]) (hw := by exact fun h => nomatch h) rfl sN (SI.range1 (by rfl) (hd.hfr 9 _ rfl) (SA.cons (.inl rfl) SE.int SA.nil)) (blkOk_by (by rfl)) (fun _ _ _ _ _ => (SG.name sN rfl (.inl rfl) (by decide) (by decide : (9 : Nat) < 10))) (fun _ _ _ _ _ => ST.nil) (fun _ _ _ _ _ => (SE.call (o := false) I.h58 hr (bn_58 hd) (ln_58 _) L2.takes0 (by rfl) (hd.hgl 58 _ rfl).1 (hd.hgl 58 _ rfl).2 (SA.cons (.inl rfl) (SE.var rfl (.inr (.inl rfl))) (SA.cons (.inl rfl) (SE.toRp (SE.tup (SA.cons (.inl rfl) (SE.var rfl (.inl rfl)) SA.nil))) (SA.cons (.inl rfl) SE.int SA.nil))))))) (SA.cons (.inl rfl) (SE.call (o := false) I.h58 hr (bn_58 hd) (ln_58 _) tk (by rfl) (hd.hgl 58 _ rfl).1 (hd.hgl 58 _ rfl).2 (SA.cons (.inl rfl) (SE.var rfl (.inr (.inl rfl))) (SA.cons (.inl rfl) (SE.toRp (SE.tup (SA.cons (.inl rfl) SE.int SA.nil))) (SA.cons (.inl rfl) SE.int SA.nil)))) (SA.cons (.inl rfl) (SE.call (o := false) I.h58 hr (bn_58 hd) (ln_58 _) tk (by rfl) (hd.hgl 58 _ rfl).1 (hd.hgl 58 _ rfl).2 (SA.cons (.inl rfl) (SE.var rfl (.inr (.inl rfl))) (SA.cons (.inl rfl) (SE.toRp (SE.tup (SA.cons (.inl rfl) SE.int SA.nil))) (SA.cons (.inl rfl) SE.int SA.nil)))) (SA.cons (.inl rfl) (SE.call (o := false) I.h58 hr (bn_58 hd) (ln_58 _) tk (by rfl) (hd.hgl 58 _ rfl).1 (hd.hgl 58 _ rfl).2 (SA.cons (.inl rfl) (SE.var rfl (.inr (.inl rfl))) (SA.cons (.inl rfl) (SE.toRp (SE.tup (SA.cons (.inl rfl) SE.int SA.nil))) (SA.cons (.inl rfl) SE.int SA.nil)))) (SA.cons (.inl rfl) (SE.callK (o := false) (ks := ["cell", "numbers", "sheet"]) (ix := [2, 1, 0]) I.h58 hr (FunD.bindsK (fd_58 hd) fun _ _ _ _ _ _ ws hl => match ws, hl with | [_, _, _], _ => rfl) (ln_58 _) tk (by rfl) (hd.hgl 58 _ rfl).1 (hd.hgl 58 _ rfl).2 (SK.cons SE.int (SK.cons (SE.toRp (SE.lst (SA.cons (.inl rfl) SE.int SA.nil))) (SK.cons (SE.call (o := false) I.h63 hr (bn_63 hd) (ln_63 _) tk (by rfl) (hd.hgl 63 _ rfl).1 (hd.hgl 63 _ rfl).2 (SA.cons (.inl rfl) (SE.var rfl (.inr (.inl rfl))) SA.nil)) SK.nil))) (by rfl) (by rfl)) (SA.cons (.inl rfl) (SE.call (o := false) I.h58 hr (bn_58 hd) (ln_58 _) tk (by rfl) (hd.hgl 58 _ rfl).1 (hd.hgl 58 _ rfl).2 (SA.cons (.inl rfl) (SE.var rfl (.inl rfl)) (SA.cons (.inl rfl) (SE.toRp (SE.tup (SA.cons (.inl rfl) SE.int (SA.cons (.inl rfl) SE.int SA.nil)))) (SA.cons (.inl rfl) SE.int SA.nil)))) (SA.cons (.inl rfl) (SE.call (o := false) I.h58 hr (bn_58 hd) (ln_58 _) tk (by rfl) (hd.hgl 58 _ rfl).1 (hd.hgl 58 _ rfl).2 (SA.cons (.inl rfl) (SE.var rfl (.inl rfl)) (SA.cons (.inl rfl) (SE.toRp (SE.tup SA.nil)) (SA.cons (.inl rfl) SE.int SA.nil)))) SA.nil))))))))))) (SG.name sN rfl (.inl rfl) (by decide) (by decide : (4 : Nat) < 10)))
      (SSs.cons (SS.asg (SE.toRp (SE.op op_addD (SE.toRd (SE.var rfl (.inl rfl))) (SE.toRd (SE.lst (SA.cons (.inl rfl) (SE.toRp (SE.lst (SA.cons (.inl rfl) (SE.toRp (SE.tup (SA.cons (.inl rfl) SE.int SA.nil))) (SA.cons (.inl rfl) (SE.toRp (SE.tup (SA.cons (.inl rfl) SE.int (SA.cons (.inl rfl) SE.int SA.nil)))) (SA.cons (.inl rfl) (SE.toRp (SE.tup (SA.cons (.inl rfl) SE.int (SA.cons (.inl rfl) SE.int SA.nil)))) (SA.cons (.inl rfl) (SE.toRp (SE.tup SA.nil)) (SA.cons (.inl rfl) (SE.toRp (SE.tup (SA.cons (.inl rfl) SE.int (SA.cons (.inl rfl) SE.int SA.nil)))) (SA.cons (.inl rfl) (SE.toRp (SE.tup SA.nil)) (SA.cons (.inl rfl) (SE.toRp (SE.tup SA.nil)) SA.nil))))))))) (SA.cons (.inl rfl) (SE.toRp (SE.tup (SA.cons (.inl rfl) SE.int SA.nil))) (SA.cons (.inl rfl) (SE.toRp (SE.tup SA.nil)) (SA.cons (.inl rfl) (SE.toRp (SE.tup (SA.cons (.inl rfl) SE.int (SA.cons (.inl rfl) SE.int (SA.cons (.inl rfl) SE.int (SA.cons (.inl rfl) SE.int (SA.cons (.inl rfl) SE.int SA.nil))))))) (SA.cons (.inl rfl) (SE.toRp (SE.tup (SA.cons (.inl rfl) SE.int SA.nil))) (SA.cons (.inl rfl) (SE.toRp (SE.tup SA.nil)) (SA.cons (.inl rfl) (SE.toRp (SE.tup (SA.cons (.inl rfl) SE.int (SA.cons (.inl rfl) SE.int (SA.cons (.inl rfl) SE.int SA.nil))))) SA.nil))))))))))) (SG.name sN rfl (.inl rfl) (by decide) (by decide : (5 : Nat) < 10)))
      (SSs.cons (SS.asg (SE.toRp (SE.op op_addD (SE.toRd (SE.var rfl (.inl rfl))) (SE.toRd (SE.lst (SA.cons (.inl rfl) (SE.call (o := false) I.h60 hr (bn_60 hd) (ln_60 _) tk (by rfl) (hd.hgl 60 _ rfl).1 (hd.hgl 60 _ rfl).2 (SA.cons (.inl rfl) (SE.var rfl (.inr (.inl rfl))) (SA.cons (.inl rfl) (SE.toRp (SE.tup (SA.cons (.inl rfl) SE.int SA.nil))) (SA.cons (.inl rfl) SE.int SA.nil)))) (SA.cons (.inl rfl) (SE.call (o := false) I.h60 hr (bn_60 hd) (ln_60 _) tk (by rfl) (hd.hgl 60 _ rfl).1 (hd.hgl 60 _ rfl).2 (SA.cons (.inl rfl) (SE.var rfl (.inr (.inl rfl))) (SA.cons (.inl rfl) (SE.toRp (SE.tup (SA.cons (.inl rfl) SE.int SA.nil))) (SA.cons (.inl rfl) SE.int SA.nil)))) (SA.cons (.inl rfl) (SE.call (o := false) I.h60 hr (bn_60 hd) (ln_60 _) tk (by rfl) (hd.hgl 60 _ rfl).1 (hd.hgl 60 _ rfl).2 (SA.cons (.inl rfl) (SE.var rfl (.inr (.inl rfl))) (SA.cons (.inl rfl) (SE.toRp (SE.tup (SA.cons (.inl rfl) SE.int SA.nil))) (SA.cons (.inl rfl) SE.int SA.nil)))) (SA.cons (.inl rfl) (SE.call (o := false) I.h60 hr (bn_60 hd) (ln_60 _) tk (by rfl) (hd.hgl 60 _ rfl).1 (hd.hgl 60 _ rfl).2 (SA.cons (.inl rfl) (SE.var rfl (.inl rfl)) (SA.cons (.inl rfl) (SE.toRp (SE.tup SA.nil)) (SA.cons (.inl rfl) SE.int SA.nil)))) (SA.cons (.inl rfl) (SE.callK (o := false) (ks := ["cell", "numbers", "sheet"]) (ix := [2, 1, 0]) I.h60 hr (FunD.bindsK (fd_60 hd) fun _ _ _ _ _ _ ws hl => match ws, hl with | [_, _, _], _ => rfl) (ln_60 _) tk (by rfl) (hd.hgl 60 _ rfl).1 (hd.hgl 60 _ rfl).2 (SK.cons SE.int (SK.cons (SE.toRp (SE.lst (SA.cons (.inl rfl) SE.int SA.nil))) (SK.cons (SE.call (o := false) I.h63 hr (bn_63 hd) (ln_63 _) tk (by rfl) (hd.hgl 63 _ rfl).1 (hd.hgl 63 _ rfl).2 (SA.cons (.inl rfl) (SE.var rfl (.inr (.inl rfl))) SA.nil)) SK.nil))) (by rfl) (by rfl)) (SA.cons (.inl rfl) (SE.call (o := false) I.h60 hr (bn_60 hd) (ln_60 _) tk (by rfl) (hd.hgl 60 _ rfl).1 (hd.hgl 60 _ rfl).2 (SA.cons (.inl rfl) (SE.var rfl (.inr (.inl rfl))) (SA.cons (.inl rfl) (SE.toRp (SE.tup (SA.cons (.inl rfl) SE.int SA.nil))) (SA.cons (.inl rfl) SE.int SA.nil)))) SA.nil)))))))))) (SG.name sN rfl (.inl rfl) (by decide) (by decide : (4 : Nat) < 10)))
      (SSs.cons (SS.asg (SE.toRp (SE.op op_addD (SE.toRd (SE.var rfl (.inl rfl))) (SE.toRd (SE.lst (SA.cons (.inl rfl) (SE.toRp (SE.tup (SA.cons (.inl rfl) SE.int (SA.cons (.inl rfl) SE.int (SA.cons (.inl rfl) SE.int (SA.cons (.inl rfl) SE.int (SA.cons (.inl rfl) SE.int (SA.cons (.inl rfl) SE.int (SA.cons (.inl rfl) SE.int SA.nil))))))))) (SA.cons (.inl rfl) (SE.toRp (SE.tup (SA.cons (.inl rfl) SE.int (SA.cons (.inl rfl) SE.int (SA.cons (.inl rfl) SE.int (SA.cons (.inl rfl) SE.int (SA.cons (.inl rfl) SE.int (SA.cons (.inl rfl) SE.int (SA.cons (.inl rfl) SE.int SA.nil))))))))) (SA.cons (.inl rfl) (SE.toRp (SE.tup (SA.cons (.inl rfl) SE.int (SA.cons (.inl rfl) SE.int (SA.cons (.inl rfl) SE.int (SA.cons (.inl rfl) SE.int (SA.cons (.inl rfl) SE.int SA.nil))))))) (SA.cons (.inl rfl) (SE.toRp (SE.tup (SA.cons (.inl rfl) SE.int (SA.cons (.inl rfl) SE.int (SA.cons (.inl rfl) SE.int SA.nil))))) (SA.cons (.inl rfl) (SE.toRp (SE.tup (SA.cons (.inl rfl) SE.int (SA.cons (.inl rfl) SE.int (SA.cons (.inl rfl) SE.int (SA.cons (.inl rfl) SE.int (SA.cons (.inl rfl) SE.int SA.nil))))))) (SA.cons (.inl rfl) (SE.toRp (SE.op op_mulD (SE.toRd (SE.tup (SA.cons (.inl rfl) SE.int SA.nil))) (SE.toRd SE.int))) SA.nil)))))))))) (SG.name sN rfl (.inl rfl) (by decide) (by decide : (5 : Nat) < 10)))
      (SSs.cons (SS.asg (SE.toRp (SE.op op_addD (SE.toRd (SE.var rfl (.inl rfl))) (SE.toRd (SE.lst (SA.cons (.inl rfl) (SE.call (o := false) I.h59 hr (bn_59 hd) (ln_59 _) tk (by rfl) (hd.hgl 59 _ rfl).1 (hd.hgl 59 _ rfl).2 (SA.cons (.inl rfl) (SE.var rfl (.inr (.inl rfl))) (SA.cons (.inl rfl) (SE.toRp (SE.tup (SA.cons (.inl rfl) SE.int SA.nil))) SA.nil))) (SA.cons (.inl rfl) (SE.call (o := false) I.h59 hr (bn_59 hd) (ln_59 _) tk (by rfl) (hd.hgl 59 _ rfl).1 (hd.hgl 59 _ rfl).2 (SA.cons (.inl rfl) (SE.var rfl (.inr (.inl rfl))) (SA.cons (.inl rfl) (SE.toRp (SE.tup (SA.cons (.inl rfl) SE.int SA.nil))) SA.nil))) (SA.cons (.inl rfl) (SE.call (o := false) I.h59 hr (bn_59 hd) (ln_59 _) tk (by rfl) (hd.hgl 59 _ rfl).1 (hd.hgl 59 _ rfl).2 (SA.cons (.inl rfl) (SE.var rfl (.inr (.inl rfl))) (SA.cons (.inl rfl) (SE.toRp (SE.tup (SA.cons (.inl rfl) SE.int SA.nil))) SA.nil))) (SA.cons (.inl rfl) (SE.call (o := false) I.h59 hr (bn_59 hd) (ln_59 _) tk (by rfl) (hd.hgl 59 _ rfl).1 (hd.hgl 59 _ rfl).2 (SA.cons (.inl rfl) (SE.var rfl (.inr (.inl rfl))) (SA.cons (.inl rfl) (SE.toRp (SE.tup (SA.cons (.inl rfl) SE.int SA.nil))) SA.nil))) (SA.cons (.inl rfl) (SE.callK (o := false) (ks := ["numbers", "sheet"]) (ix := [1, 0]) I.h59 hr (FunD.bindsK (fd_59 hd) fun _ _ _ _ _ _ ws hl => match ws, hl with | [_, _], _ => rfl) (ln_59 _) tk (by rfl) (hd.hgl 59 _ rfl).1 (hd.hgl 59 _ rfl).2 (SK.cons (SE.toRp (SE.lst SA.nil)) (SK.cons (SE.call (o := false) I.h63 hr (bn_63 hd) (ln_63 _) tk (by rfl) (hd.hgl 63 _ rfl).1 (hd.hgl 63 _ rfl).2 (SA.cons (.inl rfl) (SE.var rfl (.inl rfl)) SA.nil)) SK.nil)) (by rfl) (by rfl)) (SA.cons (.inl rfl) (SE.call (o := false) I.h59 hr (bn_59 hd) (ln_59 _) tk (by rfl) (hd.hgl 59 _ rfl).1 (hd.hgl 59 _ rfl).2 (SA.cons (.inl rfl) (SE.toRp (SE.tup (SA.cons (.inl rfl) SE.int (SA.cons (.inl rfl) SE.int (SA.cons (.inl rfl) (SE.toRp (SE.tup SA.nil)) (SA.cons (.inl rfl) (SE.toRp (SE.tup SA.nil)) (SA.cons (.inl rfl) (SE.toRp (SE.tup (SA.cons (.inl rfl) (SE.toRp (SE.tup (SA.cons (.inl rfl) (SE.toRp (SE.tup (SA.cons (.inl rfl) SE.int (SA.cons (.inl rfl) (SE.toRp (SE.tup (SA.cons (.inl rfl) (SE.toRp (SE.tup (SA.cons (.inl rfl) SE.int (SA.cons (.inl rfl) SE.int SA.nil)))) SA.nil))) SA.nil)))) (SA.cons (.inl rfl) (SE.toRp (SE.tup (SA.cons (.inl rfl) SE.int (SA.cons (.inl rfl) (SE.toRp (SE.tup (SA.cons (.inl rfl) (SE.toRp (SE.tup (SA.cons (.inl rfl) SE.int (SA.cons (.inl rfl) SE.int SA.nil)))) SA.nil))) SA.nil)))) (SA.cons (.inl rfl) (SE.toRp (SE.tup (SA.cons (.inl rfl) SE.int (SA.cons (.inl rfl) (SE.toRp (SE.tup SA.nil)) SA.nil)))) SA.nil))))) SA.nil))) SA.nil))))))) (SA.cons (.inl rfl) (SE.toRp (SE.tup SA.nil)) SA.nil))) SA.nil)))))))))) (SG.name sN rfl (.inl rfl) (by decide) (by decide : (4 : Nat) < 10)))
      (SSs.one (SS.retRp (SE.call (o := false) I.h62 hr (bn_62 hd) (ln_62 _) tk (by rfl) (hd.hgl 62 _ rfl).1 (hd.hgl 62 _ rfl).2 (SA.cons (.inl rfl) (SE.var rfl (.inl rfl)) (SA.cons (.inl rfl) (SE.toRp (SE.op op_addD (SE.toRd (SE.var rfl (.inl rfl))) (SE.toRd (SE.lst (SA.cons (.inl rfl) (SE.toRp (SE.tup (SA.cons (.inl rfl) (SE.toRp (SE.tup (SA.cons (.inl rfl) SE.int (SA.cons (.inl rfl) SE.int SA.nil)))) (SA.cons (.inl rfl) (SE.toRp (SE.tup (SA.cons (.inl rfl) SE.int (SA.cons (.inl rfl) SE.int SA.nil)))) SA.nil)))) (SA.cons (.inl rfl) (SE.toRp (SE.tup (SA.cons (.inl rfl) (SE.toRp (SE.tup (SA.cons (.inl rfl) SE.int (SA.cons (.inl rfl) SE.int SA.nil)))) (SA.cons (.inl rfl) (SE.toRp (SE.tup (SA.cons (.inl rfl) SE.int (SA.cons (.inl rfl) SE.int SA.nil)))) (SA.cons (.inl rfl) (SE.toRp (SE.tup (SA.cons (.inl rfl) SE.int (SA.cons (.inl rfl) SE.int SA.nil)))) SA.nil))))) (SA.cons (.inl rfl) (SE.toRp (SE.tup (SA.cons (.inl rfl) (SE.toRp (SE.tup (SA.cons (.inl rfl) SE.int (SA.cons (.inl rfl) SE.int SA.nil)))) SA.nil))) (SA.cons (.inl rfl) (SE.toRp (SE.tup (SA.cons (.inl rfl) (SE.toRp (SE.tup (SA.cons (.inl rfl) SE.int (SA.cons (.inl rfl) SE.int SA.nil)))) (SA.cons (.inl rfl) (SE.toRp (SE.tup (SA.cons (.inl rfl) SE.int (SA.cons (.inl rfl) SE.int SA.nil)))) SA.nil)))) (SA.cons (.inl rfl) (SE.toRp (SE.tup SA.nil)) (SA.cons (.inl rfl) (SE.toRp (SE.tup (SA.cons (.inl rfl) (SE.toRp (SE.tup (SA.cons (.inl rfl) SE.int (SA.cons (.inl rfl) SE.int SA.nil)))) SA.nil))) SA.nil)))))))))) SA.nil)))))))))))))))))))
theorem sc_66 : FnScope ["same", "root", "loose", "never", "free", "none", "things", "got", "due", "cut", "bad", "sheet", "numbers", "much", "told", "own"] [] (defScope (top 93)) := ⟨rfl, rfl, rfl, by decide +kernel, rfl, by decide +kernel, by decide +kernel⟩
theorem ok_66 {n : Nat} (hd : HD K mg fds) (I : AllOk P w K mg base fds n) : FnOk P w K mg base (L2.CX P w) (n + 1) (He.ga K "_law_papers_right") (fds 66) [] (spF (gm K) 0 false (b_law_papers_right (prog n))) :=
  have sN : List.Nodup (α := Str) ["same", "root", "loose", "never", "free", "none", "things", "got", "due", "cut", "bad", "sheet", "numbers", "much", "told", "own"] := sc_66.nd
  fn_ok (mv := []) (owN := []) (owL := []) (kr := .rp) (fd_66 hd) sc_66 rfl rfl (by decide) (fun h => nomatch h) fun cdv A outer s H E hr =>
    have tk := takesX (P := P) (w := w) (K := K) (mg := mg) (base := base) (N := ["same", "root", "loose", "never", "free", "none", "things", "got", "due", "cut", "bad", "sheet", "numbers", "much", "told", "own"]) (qual := "_law_papers_right") (scope := defScope (top 93)) (f := He.ga K "_law_papers_right") (cdv := cdv) (A := A) (outer := outer) (s := s) (H := H) (E := E)
    have px := passX (P := P) (w := w) (K := K) (mg := mg) (base := base) (N := ["same", "root", "loose", "never", "free", "none", "things", "got", "due", "cut", "bad", "sheet", "numbers", "much", "told", "own"]) (qual := "_law_papers_right") (scope := defScope (top 93)) (f := He.ga K "_law_papers_right") (cdv := cdv) (A := A) (outer := outer) (s := s) (H := H) (E := E)
    (SSs.cons (SS.asg (SE.call0 (o := false) I.h64 hr (bn_64 hd) tk (by rfl) (hd.hgl 64 _ rfl).1 (hd.hgl 64 _ rfl).2) (SG.tup (n := 0) rfl (SGs.cons (SG.name sN rfl (.inr rfl) (by decide) (by decide : (0 : Nat) < 16)) (SGs.cons (SG.name sN rfl (.inl rfl) (by decide) (by decide : (1 : Nat) < 16)) (SGs.cons (SG.name sN rfl (.inl rfl) (by decide) (by decide : (2 : Nat) < 16)) (SGs.cons (SG.name sN rfl (.inl rfl) (by decide) (by decide : (3 : Nat) < 16)) SGs.nil))))))
      (SSs.cons (SS.asg (SE.toRp (SE.tup (SA.cons (.inl rfl) (SE.toRp (SE.tup (SA.cons (.inl rfl) (SE.str rfl) SA.nil))) (SA.cons (.inl rfl) (SE.toRp (SE.tup (SA.cons (.inl rfl) (SE.str rfl) (SA.cons (.inl rfl) (SE.toRp (SE.tup (SA.cons (.inl rfl) (SE.toRp (SE.tup (SA.cons (.inl rfl) SE.int (SA.cons (.inl rfl) SE.int SA.nil)))) SA.nil))) SA.nil)))) SA.nil)))) (SG.tup (n := 0) rfl (SGs.cons (SG.name sN rfl (.inl rfl) (by decide) (by decide : (4 : Nat) < 16)) (SGs.cons (SG.name sN rfl (.inl rfl) (by decide) (by decide : (5 : Nat) < 16)) SGs.nil))))
      (SSs.cons (SS.asg (SE.toRp (SE.lst (SA.cons (.inl rfl) (SE.var rfl (.inl rfl)) (SA.cons (.inl rfl) (SE.toRp (SE.tup (SA.cons (.inl rfl) (SE.str rfl) (SA.cons (.inl rfl) SE.int (SA.cons (.inl rfl) (SE.toRp (SE.tup (SA.cons (.inl rfl) (SE.toRp (SE.tup (SA.cons (.inl rfl) SE.int (SA.cons (.inl rfl) SE.int SA.nil)))) SA.nil))) (SA.cons (.inl rfl) (SE.var rfl (.inl rfl)) SA.nil)))))) (SA.cons (.inl rfl) (SE.toRp (SE.tup (SA.cons (.inl rfl) (SE.str rfl) (SA.cons (.inl rfl) SE.int (SA.cons (.inl rfl) (SE.toRp (SE.tup (SA.cons (.inl rfl) (SE.var rfl (.inl rfl)) (SA.cons (.inl rfl) (SE.var rfl (.inl rfl)) (SA.cons (.inl rfl) (SE.var rfl (.inl rfl)) (SA.cons (.inl rfl) (SE.var rfl (.inl rfl)) (SA.cons (.inl rfl) (SE.var rfl (.inl rfl)) SA.nil))))))) SA.nil))))) (SA.cons (.inl rfl) (SE.toRp (SE.tup (SA.cons (.inl rfl) (SE.str rfl) (SA.cons (.inl rfl) SE.int (SA.cons (.inl rfl) (SE.toRp (SE.tup (SA.cons (.inl rfl) (SE.toRp (SE.tup (SA.cons (.inl rfl) SE.int (SA.cons (.inl rfl) SE.int SA.nil)))) SA.nil))) (SA.cons (.inl rfl) (SE.var rfl (.inl rfl)) SA.nil)))))) (SA.cons (.inl rfl) (SE.toRp (SE.tup (SA.cons (.inl rfl) (SE.str rfl) (SA.cons (.inl rfl) SE.int (SA.cons (.inl rfl) (SE.toRp (SE.tup (SA.cons (.inl rfl) (SE.toRp (SE.tup (SA.cons (.inl rfl) SE.int (SA.cons (.inl rfl) SE.int SA.nil)))) SA.nil))) (SA.cons (.inl rfl) (SE.var rfl (.inl rfl)) SA.nil)))))) (SA.cons (.inl rfl) (SE.toRp (SE.tup (SA.cons (.inl rfl) (SE.str rfl) (SA.cons (.inl rfl) SE.int (SA.cons (.inl rfl) (SE.toRp (SE.tup (SA.cons (.inl rfl) (SE.toRp (SE.tup (SA.cons (.inl rfl) SE.int (SA.cons (.inl rfl) SE.int SA.nil)))) SA.nil))) (SA.cons (.inl rfl) (SE.var rfl (.inl rfl)) SA.nil)))))) (SA.cons (.inl rfl) (SE.var rfl (.inl rfl)) (SA.cons (.inl rfl) (SE.toRp (SE.lst (SA.cons (.inl rfl) (SE.str rfl) SA.nil))) (SA.cons (.inl rfl) (SE.toRp (SE.tup (SA.cons (.inl rfl) (SE.str rfl) (SA.cons (.inl rfl) (SE.toRp (SE.tup SA.nil)) SA.nil)))) (SA.cons (.inl rfl) SE.non (SA.cons (.inl rfl) (SE.toRp (SE.tup SA.nil)) (SA.cons (.inl rfl) (SE.toRp (SE.tup (SA.cons (.inl rfl) (SE.str rfl) (SA.cons (.inl rfl) SE.int (SA.cons (.inl rfl) (SE.toRp (SE.op op_mulD (SE.toRd (SE.tup (SA.cons (.inl rfl) (SE.var rfl (.inl rfl)) SA.nil))) (SE.toRd SE.int))) SA.nil))))) (SA.cons (.inl rfl) (SE.toRp (SE.tup (SA.cons (.inl rfl) (SE.str rfl) (SA.cons (.inl rfl) SE.int (SA.cons (.inl rfl) (SE.toRp (SE.op op_mulD (SE.toRd (SE.tup (SA.cons (.inl rfl) (SE.var rfl (.inl rfl)) SA.nil))) (SE.toRd SE.int))) SA.nil))))) (SA.cons (.inl rfl) (SE.toRp (SE.tup (SA.cons (.inl rfl) (SE.str rfl) (SA.cons (.inl rfl) SE.int (SA.cons (.inl rfl) (SE.toRp (SE.op op_mulD (SE.toRd (SE.tup (SA.cons (.inl rfl) (SE.var rfl (.inl rfl)) SA.nil))) (SE.toRd SE.int))) SA.nil))))) (SA.cons (.inl rfl) (SE.toRp (SE.tup (SA.cons (.inl rfl) (SE.str rfl) (SA.cons (.inl rfl) SE.int (SA.cons (.inl rfl) (SE.toRp (SE.op op_mulD (SE.toRd (SE.tup (SA.cons (.inl rfl) (SE.var rfl (.inl rfl)) SA.nil))) (SE.toRd SE.int))) SA.nil))))) (SA.cons (.inl rfl) (SE.toRp (SE.tup (SA.cons (.inl rfl) (SE.str rfl) (SA.cons (.inl rfl) (SE.toRp (SE.tup SA.nil)) SA.nil)))) (SA.cons (.inl rfl) (SE.toRp (SE.tup (SA.cons (.inl rfl) (SE.str rfl) (SA.cons (.inl rfl) SE.int (SA.cons (.inl rfl) (SE.toRp (SE.tup (SA.cons (.inl rfl) (SE.toRp (SE.tup (SA.cons (.inl rfl) SE.int (SA.cons (.inl rfl) SE.int SA.nil)))) SA.nil))) (SA.cons (.inl rfl) (SE.var rfl (.inl rfl)) SA.nil)))))) SA.nil))))))))))))))))))) (SG.name sN rfl (.inl rfl) (by decide) (by decide : (6 : Nat) < 16)))
      (SSs.cons (SS.asg (SE.toRp (SE.lst (SA.cons (.inl rfl) (SE.toRp (SE.comp (own := [("own", 15)]) (vs := [15]) (hw := by exact fun h => nomatch h) rfl sN (SI.any (SE.var rfl (.inl rfl))) (blkOk_by (by rfl)) (fun _ _ _ _ _ => (SG.name sN rfl (.inl rfl) (by decide) (by decide : (15 : Nat) < 16))) (fun _ _ _ _ _ => ST.nil) (fun _ _ _ _ _ => (SE.call (o := false) I.h54 hr (bn_54 hd) (ln_54 _) L2.takes0 (by rfl) (hd.hgl 54 _ rfl).1 (hd.hgl 54 _ rfl).2 (SA.cons (.inl rfl) (SE.var rfl (.inr (.inl rfl))) (SA.cons (.inl rfl) (SE.toRp (SE.tup (SA.cons (.inl rfl) SE.int SA.nil))) (SA.cons (.inl rfl) (SE.var rfl (.inl rfl)) SA.nil))))))) (SA.cons (.inl rfl) (SE.callK (o := false) (ks := ["thing", "numbers", "sheet"]) (ix := [2, 1, 0]) I.h54 hr (FunD.bindsK (fd_54 hd) fun _ _ _ _ _ _ ws hl => match ws, hl with | [_, _, _], _ => rfl) (ln_54 _) tk (by rfl) (hd.hgl 54 _ rfl).1 (hd.hgl 54 _ rfl).2 (SK.cons (SE.var rfl (.inl rfl)) (SK.cons (SE.toRp (SE.lst (SA.cons (.inl rfl) SE.int SA.nil))) (SK.cons (SE.call (o := false) I.h63 hr (bn_63 hd) (ln_63 _) tk (by rfl) (hd.hgl 63 _ rfl).1 (hd.hgl 63 _ rfl).2 (SA.cons (.inl rfl) (SE.var rfl (.inr (.inl rfl))) SA.nil)) SK.nil))) (by rfl) (by rfl)) SA.nil)))) (SG.name sN rfl (.inl rfl) (by decide) (by decide : (7 : Nat) < 16)))
      (SSs.cons (SS.asg (SE.toRp (SE.lst (SA.cons (.inl rfl) (SE.toRp (SE.op op_addD (SE.toRd (SE.op op_addD (SE.toRd (SE.op op_addD (SE.toRd (SE.op op_mulD (SE.toRd (SE.lst (SA.cons (.inl rfl) SE.bl SA.nil))) (SE.toRd SE.int))) (SE.toRd (SE.op op_mulD (SE.toRd (SE.lst (SA.cons (.inl rfl) SE.bl SA.nil))) (SE.toRd SE.int))))) (SE.toRd (SE.lst (SA.cons (.inl rfl) SE.bl SA.nil))))) (SE.toRd (SE.op op_mulD (SE.toRd (SE.lst (SA.cons (.inl rfl) SE.bl SA.nil))) (SE.toRd SE.int))))) (SA.cons (.inl rfl) SE.bl SA.nil)))) (SG.name sN rfl (.inl rfl) (by decide) (by decide : (8 : Nat) < 16)))
      (SSs.cons (SS.asg (SE.toRp (SE.op op_addD (SE.toRd (SE.var rfl (.inl rfl))) (SE.toRd (SE.comp (own := [("own", 15)]) (vs := [15]) (hw := by exact fun h => nomatch h) rfl sN (SI.any (SE.toRp (SE.tup (SA.cons (.inl rfl) (SE.var rfl (.inl rfl)) (SA.cons (.inl rfl) (SE.ix (Room.u50 hr) (SE.toRd (SE.var rfl (.inl rfl))) (SE.toRd SE.int)) (SA.cons (.inl rfl) (SE.ix (Room.u50 hr) (SE.toRd (SE.var rfl (.inl rfl))) (SE.toRd SE.int)) (SA.cons (.inl rfl) (SE.ix (Room.u50 hr) (SE.toRd (SE.var rfl (.inl rfl))) (SE.toRd SE.int)) (SA.cons (.inl rfl) (SE.ix (Room.u50 hr) (SE.toRd (SE.var rfl (.inl rfl))) (SE.toRd SE.int)) SA.nil)))))))) (blkOk_by (by rfl)) (fun _ _ _ _ _ => (SG.name sN rfl (.inl rfl) (by decide) (by decide : (15 : Nat) < 16))) (fun _ _ _ _ _ => ST.nil) (fun _ _ _ _ _ => (SE.call (o := false) I.h55 hr (bn_55 hd) (ln_55 _) L2.takes0 (by rfl) (hd.hgl 55 _ rfl).1 (hd.hgl 55 _ rfl).2 (SA.cons (.inl rfl) (SE.var rfl (.inr (.inl rfl))) (SA.cons (.inl rfl) (SE.toRp (SE.tup (SA.cons (.inl rfl) SE.int SA.nil))) (SA.cons (.inl rfl) (SE.var rfl (.inl rfl)) SA.nil))))))))) (SG.name sN rfl (.inl rfl) (by decide) (by decide : (7 : Nat) < 16)))
      (SSs.cons (SS.asg (SE.toRp (SE.op op_addD (SE.toRd (SE.var rfl (.inl rfl))) (SE.toRd (SE.op op_mulD (SE.toRd (SE.lst (SA.cons (.inl rfl) SE.int SA.nil))) (SE.toRd SE.int))))) (SG.name sN rfl (.inl rfl) (by decide) (by decide : (8 : Nat) < 16)))
      (SSs.cons (SS.asg (SE.toRp (SE.tup (SA.cons (.inl rfl) (SE.str rfl) (SA.cons (.inl rfl) SE.int (SA.cons (.inl rfl) (SE.toRp (SE.tup (SA.cons (.inl rfl) (SE.var rfl (.inl rfl)) (SA.cons (.inl rfl) (SE.var rfl (.inl rfl)) (SA.cons (.inl rfl) (SE.var rfl (.inl rfl)) (SA.cons (.inl rfl) (SE.var rfl (.inl rfl)) (SA.cons (.inl rfl) (SE.var rfl (.inl rfl)) (SA.cons (.inl rfl) (SE.var rfl (.inl rfl)) (SA.cons (.inl rfl) (SE.var rfl (.inl rfl)) SA.nil))))))))) SA.nil))))) (SG.name sN rfl (.inl rfl) (by decide) (by decide : (9 : Nat) < 16)))
      (SSs.cons (SS.asg (SE.toRp (SE.tup (SA.cons (.inl rfl) (SE.str rfl) (SA.cons (.inl rfl) SE.int (SA.cons (.inl rfl) (SE.toRp (SE.tup (SA.cons (.inl rfl) (SE.var rfl (.inl rfl)) (SA.cons (.inl rfl) (SE.var rfl (.inl rfl)) (SA.cons (.inl rfl) (SE.var rfl (.inl rfl)) (SA.cons (.inl rfl) (SE.var rfl (.inl rfl)) (SA.cons (.inl rfl) (SE.var rfl (.inl rfl)) (SA.cons (.inl rfl) (SE.var rfl (.inl rfl)) (SA.cons (.inl rfl) (SE.var rfl (.inl rfl)) SA.nil))))))))) SA.nil))))) (SG.name sN rfl (.inl rfl) (by decide) (by decide : (10 : Nat) < 16)))
      (SSs.cons (SS.asg (SE.toRp (SE.op op_addD (SE.toRd (SE.var rfl (.inl rfl))) (SE.toRd (SE.lst (SA.cons (.inl rfl) (SE.call (o := false) I.h54 hr (bn_54 hd) (ln_54 _) tk (by rfl) (hd.hgl 54 _ rfl).1 (hd.hgl 54 _ rfl).2 (SA.cons (.inl rfl) (SE.var rfl (.inl rfl)) (SA.cons (.inl rfl) (SE.toRp (SE.tup (SA.cons (.inl rfl) SE.int SA.nil))) (SA.cons (.inl rfl) (SE.var rfl (.inl rfl)) SA.nil)))) (SA.cons (.inl rfl) (SE.call (o := false) I.h54 hr (bn_54 hd) (ln_54 _) tk (by rfl) (hd.hgl 54 _ rfl).1 (hd.hgl 54 _ rfl).2 (SA.cons (.inl rfl) (SE.var rfl (.inl rfl)) (SA.cons (.inl rfl) (SE.toRp (SE.tup (SA.cons (.inl rfl) SE.int SA.nil))) (SA.cons (.inl rfl) (SE.var rfl (.inl rfl)) SA.nil)))) (SA.cons (.inl rfl) (SE.call (o := false) I.h54 hr (bn_54 hd) (ln_54 _) tk (by rfl) (hd.hgl 54 _ rfl).1 (hd.hgl 54 _ rfl).2 (SA.cons (.inl rfl) (SE.var rfl (.inl rfl)) (SA.cons (.inl rfl) (SE.toRp (SE.tup (SA.cons (.inl rfl) SE.int SA.nil))) (SA.cons (.inl rfl) (SE.var rfl (.inl rfl)) SA.nil)))) (SA.cons (.inl rfl) (SE.callK (o := false) (ks := ["paper", "numbers", "sheet"]) (ix := [2, 1, 0]) I.h55 hr (FunD.bindsK (fd_55 hd) fun _ _ _ _ _ _ ws hl => match ws, hl with | [_, _, _], _ => rfl) (ln_55 _) tk (by rfl) (hd.hgl 55 _ rfl).1 (hd.hgl 55 _ rfl).2 (SK.cons (SE.call (o := false) I.h63 hr (bn_63 hd) (ln_63 _) tk (by rfl) (hd.hgl 63 _ rfl).1 (hd.hgl 63 _ rfl).2 (SA.cons (.inl rfl) (SE.var rfl (.inl rfl)) SA.nil)) (SK.cons (SE.toRp (SE.lst (SA.cons (.inl rfl) SE.int SA.nil))) (SK.cons (SE.call (o := false) I.h63 hr (bn_63 hd) (ln_63 _) tk (by rfl) (hd.hgl 63 _ rfl).1 (hd.hgl 63 _ rfl).2 (SA.cons (.inl rfl) (SE.var rfl (.inl rfl)) SA.nil)) SK.nil))) (by rfl) (by rfl)) (SA.cons (.inl rfl) (SE.call (o := false) I.h54 hr (bn_54 hd) (ln_54 _) tk (by rfl) (hd.hgl 54 _ rfl).1 (hd.hgl 54 _ rfl).2 (SA.cons (.inl rfl) (SE.var rfl (.inl rfl)) (SA.cons (.inl rfl) (SE.toRp (SE.tup (SA.cons (.inl rfl) SE.int SA.nil))) (SA.cons (.inl rfl) (SE.var rfl (.inl rfl)) SA.nil)))) (SA.cons (.inl rfl) (SE.call (o := false) I.h55 hr (bn_55 hd) (ln_55 _) tk (by rfl) (hd.hgl 55 _ rfl).1 (hd.hgl 55 _ rfl).2 (SA.cons (.inl rfl) (SE.var rfl (.inl rfl)) (SA.cons (.inl rfl) (SE.toRp (SE.tup (SA.cons (.inl rfl) SE.int (SA.cons (.inl rfl) SE.int SA.nil)))) (SA.cons (.inl rfl) (SE.var rfl (.inl rfl)) SA.nil)))) (SA.cons (.inl rfl) (SE.call (o := false) I.h54 hr (bn_54 hd) (ln_54 _) tk (by rfl) (hd.hgl 54 _ rfl).1 (hd.hgl 54 _ rfl).2 (SA.cons (.inl rfl) (SE.var rfl (.inl rfl)) (SA.cons (.inl rfl) (SE.toRp (SE.tup (SA.cons (.inl rfl) SE.int (SA.cons (.inl rfl) SE.int SA.nil)))) (SA.cons (.inl rfl) (SE.var rfl (.inl rfl)) SA.nil)))) (SA.cons (.inl rfl) (SE.call (o := false) I.h54 hr (bn_54 hd) (ln_54 _) tk (by rfl) (hd.hgl 54 _ rfl).1 (hd.hgl 54 _ rfl).2 (SA.cons (.inl rfl) (SE.var rfl (.inl rfl)) (SA.cons (.inl rfl) (SE.toRp (SE.tup (SA.cons (.inl rfl) SE.int (SA.cons (.inl rfl) SE.int SA.nil)))) (SA.cons (.inl rfl) (SE.toRp (SE.tup (SA.cons (.inl rfl) (SE.str rfl) (SA.cons (.inl rfl) (SE.toRp (SE.tup SA.nil)) SA.nil)))) SA.nil)))) SA.nil)))))))))))) (SG.name sN rfl (.inl rfl) (by decide) (by decide : (7 : Nat) < 16)))
      (SSs.cons (SS.asg (SE.toRp (SE.op op_addD (SE.toRd (SE.var rfl (.inl rfl))) (SE.toRd (SE.lst (SA.cons (.inl rfl) SE.bl (SA.cons (.inl rfl) SE.bl (SA.cons (.inl rfl) SE.bl (SA.cons (.inl rfl) SE.int (SA.cons (.inl rfl) SE.bl (SA.cons (.inl rfl) SE.int (SA.cons (.inl rfl) SE.bl (SA.cons (.inl rfl) SE.bl SA.nil)))))))))))) (SG.name sN rfl (.inl rfl) (by decide) (by decide : (8 : Nat) < 16)))
      (SSs.cons (SS.for_ (hw := by exact fun h => nomatch h) (by exact fun h => nomatch h) px rfl (SI.any (SE.toRp (SE.tup (SA.cons (.inl rfl) (SE.toRp (SE.tup (SA.cons (.inl rfl) (SE.var rfl (.inr (.inl rfl))) (SA.cons (.inl rfl) (SE.toRp (SE.tup (SA.cons (.inl rfl) SE.int SA.nil))) (SA.cons (.inl rfl) SE.int SA.nil))))) (SA.cons (.inl rfl) (SE.toRp (SE.tup (SA.cons (.inl rfl) (SE.var rfl (.inr (.inl rfl))) (SA.cons (.inl rfl) (SE.toRp (SE.tup (SA.cons (.inl rfl) SE.int SA.nil))) (SA.cons (.inl rfl) SE.int SA.nil))))) (SA.cons (.inl rfl) (SE.toRp (SE.tup (SA.cons (.inl rfl) (SE.var rfl (.inl rfl)) (SA.cons (.inl rfl) (SE.toRp (SE.tup (SA.cons (.inl rfl) SE.int SA.nil))) (SA.cons (.inl rfl) SE.int SA.nil))))) (SA.cons (.inl rfl) (SE.toRp (SE.tup (SA.cons (.inl rfl) (SE.var rfl (.inl rfl)) (SA.cons (.inl rfl) (SE.toRp (SE.tup (SA.cons (.inl rfl) SE.int SA.nil))) (SA.cons (.inl rfl) SE.int SA.nil))))) (SA.cons (.inl rfl) (SE.toRp (SE.tup (SA.cons (.inl rfl) (SE.var rfl (.inl rfl)) (SA.cons (.inl rfl) (SE.toRp (SE.tup SA.nil)) (SA.cons (.inl rfl) SE.int SA.nil))))) (SA.cons (.inl rfl) (SE.toRp (SE.tup (SA.cons (.inl rfl) (SE.var rfl (.inl rfl)) (SA.cons (.inl rfl) (SE.toRp (SE.tup (SA.cons (.inl rfl) SE.int (SA.cons (.inl rfl) SE.int SA.nil)))) (SA.cons (.inl rfl) SE.int SA.nil))))) SA.nil))))))))) (SG.tup (n := 0) rfl (SGs.cons (SG.name sN rfl (.inl rfl) (by decide) (by decide : (11 : Nat) < 16)) (SGs.cons (SG.name sN rfl (.inl rfl) (by decide) (by decide : (12 : Nat) < 16)) (SGs.cons (SG.name sN rfl (.inl rfl) (by decide) (by decide : (13 : Nat) < 16)) SGs.nil)))) (SSs.cons (SS.asg (SE.call (o := false) I.h51 hr (bn_51 hd) (ln_51 _) (takes_unl tk) (by rfl) (hd.hgl 51 _ rfl).1 (hd.hgl 51 _ rfl).2 (SA.cons (.inl rfl) (SE.var rfl (.inl rfl)) (SA.cons (.inl rfl) (SE.var rfl (.inl rfl)) SA.nil))) (SG.name sN rfl (.inl rfl) (by decide) (by decide : (14 : Nat) < 16)))
      (SSs.cons (SS.asg (SE.toRp (SE.op op_addD (SE.toRd (SE.var rfl (.inl rfl))) (SE.toRd (SE.lst (SA.cons (.inl rfl) (SE.call (o := false) I.h54 hr (bn_54 hd) (ln_54 _) (takes_unl tk) (by rfl) (hd.hgl 54 _ rfl).1 (hd.hgl 54 _ rfl).2 (SA.cons (.inl rfl) (SE.var rfl (.inl rfl)) (SA.cons (.inl rfl) (SE.var rfl (.inl rfl)) (SA.cons (.inl rfl) (SE.var rfl (.inl rfl)) SA.nil)))) (SA.cons (.inl rfl) (SE.call (o := false) I.h55 hr (bn_55 hd) (ln_55 _) (takes_unl tk) (by rfl) (hd.hgl 55 _ rfl).1 (hd.hgl 55 _ rfl).2 (SA.cons (.inl rfl) (SE.var rfl (.inl rfl)) (SA.cons (.inl rfl) (SE.var rfl (.inl rfl)) (SA.cons (.inl rfl) (SE.var rfl (.inl rfl)) SA.nil)))) (SA.cons (.inl rfl) (SE.toRp (SE.cmp (eq_F (Room.u50 hr)) (SE.toRd (SE.callK (o := false) (ks := ["numbers", "sheet"]) (ix := [1, 0]) I.h51 hr (FunD.bindsK (fd_51 hd) fun _ _ _ _ _ _ ws hl => match ws, hl with | [_, _], _ => rfl) (ln_51 _) (takes_unl tk) (by rfl) (hd.hgl 51 _ rfl).1 (hd.hgl 51 _ rfl).2 (SK.cons (SE.toRp (SE.ty1 (o := true) list_F (by rfl) (hd.hfr 1 _ rfl) boot_list (SE.toRd (SE.var rfl (.inl rfl))))) (SK.cons (SE.call (o := false) I.h63 hr (bn_63 hd) (ln_63 _) (takes_unl tk) (by rfl) (hd.hgl 63 _ rfl).1 (hd.hgl 63 _ rfl).2 (SA.cons (.inl rfl) (SE.var rfl (.inl rfl)) SA.nil)) SK.nil)) (by rfl) (by rfl))) (SE.toRd (SE.var rfl (.inl rfl))) rfl)) SA.nil))))))) (SG.name sN rfl (.inl rfl) (by decide) (by decide : (7 : Nat) < 16)))
      (SSs.one (SS.asg (SE.toRp (SE.op op_addD (SE.toRd (SE.var rfl (.inl rfl))) (SE.toRd (SE.lst (SA.cons (.inl rfl) SE.bl (SA.cons (.inl rfl) (SE.var rfl (.inl rfl)) (SA.cons (.inl rfl) SE.bl SA.nil))))))) (SG.name sN rfl (.inl rfl) (by decide) (by decide : (8 : Nat) < 16)))))))
      (SSs.one (SS.retRp (SE.call (o := false) I.h62 hr (bn_62 hd) (ln_62 _) tk (by rfl) (hd.hgl 62 _ rfl).1 (hd.hgl 62 _ rfl).2 (SA.cons (.inl rfl) (SE.var rfl (.inl rfl)) (SA.cons (.inl rfl) (SE.var rfl (.inl rfl)) SA.nil)))))))))))))))))
theorem sc_67 : FnScope ["door", "sheet", "more", "last", "told", "slip_a", "slip_b", "slip_c"] ["door", "sheet", "more", "last"] (defScope (top 94)) := ⟨rfl, rfl, rfl, by decide +kernel, rfl, by decide +kernel, by decide +kernel⟩
theorem ok_67 {n : Nat} (hd : HD K mg fds) (I : AllOk P w K mg base fds n) : FnOk P w K mg base (L2.CX P w) (n + 1) (He.ga K "_law_heard") (fds 67) ["door", "sheet", "more", "last"] (spF (gm K) 4 false (b_law_heard (prog n))) :=
  have sN : List.Nodup (α := Str) ["door", "sheet", "more", "last", "told", "slip_a", "slip_b", "slip_c"] := sc_67.nd
  fn_ok (mv := []) (owN := []) (owL := []) (kr := .rp) (fd_67 hd) sc_67 rfl rfl (by decide) (fun h => nomatch h) fun cdv A outer s H E hr =>
    have tk := takesX (P := P) (w := w) (K := K) (mg := mg) (base := base) (N := ["door", "sheet", "more", "last", "told", "slip_a", "slip_b", "slip_c"]) (qual := "_law_heard") (scope := defScope (top 94)) (f := He.ga K "_law_heard") (cdv := cdv) (A := A) (outer := outer) (s := s) (H := H) (E := E)
    have px := passX (P := P) (w := w) (K := K) (mg := mg) (base := base) (N := ["door", "sheet", "more", "last", "told", "slip_a", "slip_b", "slip_c"]) (qual := "_law_heard") (scope := defScope (top 94)) (f := He.ga K "_law_heard") (cdv := cdv) (A := A) (outer := outer) (s := s) (H := H) (E := E)
    (SSs.cons (SS.asg SE.non (SG.name sN rfl (.inl rfl) (by decide) (by decide : (4 : Nat) < 8)))
      (SSs.cons (SS.tryA rfl rfl sN tk (.asg (l := [117, 110, 102, 105, 116]) (ecF hd (j := 0) rfl) rfl rfl ⟨rfl, rfl, .inl (hd.hec 0 _ rfl).at_⟩ (by decide) rfl rfl (by decide : (4 : Nat) < 8) (by decide) (by decide : (5 : Nat) < 8) (fun _ _ _ hz hf => pe_word (ecF hd (j := 0) rfl).is hz hf rfl rfl rfl (hd.hfr 0 _ rfl) rfl (hd.hfr 15 _ rfl) rfl rfl rfl rfl rfl rfl rfl) rfl rfl rfl (.asg (l := [112, 97, 112, 101, 114]) (ecF hd (j := 1) rfl) rfl rfl ⟨rfl, rfl, .inl (hd.hec 1 _ rfl).at_⟩ (by decide) rfl rfl (by decide : (4 : Nat) < 8) (by decide) (by decide : (6 : Nat) < 8) (fun _ _ _ hz hf => pe_word (ecF hd (j := 1) rfl).is hz hf rfl rfl rfl (hd.hfr 0 _ rfl) rfl (hd.hfr 15 _ rfl) rfl rfl rfl rfl rfl rfl rfl) rfl rfl rfl (.asg (l := [109, 97, 110, 121]) (ecF hd (j := 2) rfl) rfl rfl ⟨rfl, rfl, .inl (hd.hec 2 _ rfl).at_⟩ (by decide) rfl rfl (by decide : (4 : Nat) < 8) (by decide) (by decide : (7 : Nat) < 8) (fun _ _ _ hz hf => pe_word (ecF hd (j := 2) rfl).is hz hf rfl rfl rfl (hd.hfr 0 _ rfl) rfl (hd.hfr 15 _ rfl) rfl rfl rfl rfl rfl rfl rfl) rfl rfl rfl .nil))) (fun _ _ _ tk0 px0 => (SSs.one (SS.ite (SX.cmp lt_F (SE.toRd (SE.var rfl (.inl rfl))) (SE.toRd SE.int) rfl) (SSs.one (SS.asg (SE.ife (SX.cmp lt_F (SE.toRd (SE.var rfl (.inl rfl))) (SE.toRd SE.int) rfl) (SE.callV (tabOk hd I) hr tk0 (SE.ix (Room.u50 hr) (SE.toRd (SE.lst (SA.cons (.inl rfl) (SE.fn (by rfl) (hd.hgl 49 _ rfl).1 (by rfl)) (SA.cons (.inl rfl) (SE.fn (by rfl) (hd.hgl 56 _ rfl).1 (by rfl)) SA.nil)))) (SE.toRd (SE.var rfl (.inl rfl)))) (SA.cons (.inl rfl) (SE.var rfl (.inl rfl)) SA.nil) (by rfl) (by rfl) (fun h => call_sub h)) (SE.callV (tabOk hd I) hr tk0 (SE.ix (Room.u50 hr) (SE.toRd (SE.lst (SA.cons (.inl rfl) (SE.fn (by rfl) (hd.hgl 50 _ rfl).1 (by rfl)) (SA.cons (.inl rfl) (SE.fn (by rfl) (hd.hgl 51 _ rfl).1 (by rfl)) SA.nil)))) (SE.toRd (SE.op op_subD (SE.toRd (SE.var rfl (.inl rfl))) (SE.toRd SE.int)))) (SA.cons (.inl rfl) (SE.var rfl (.inl rfl)) (SA.cons (.inl rfl) (SE.var rfl (.inl rfl)) SA.nil)) (by rfl) (by rfl) (fun h => call_sub h))) (SG.name sN rfl (.inl rfl) (by decide) (by decide : (4 : Nat) < 8)))) (SSs.one (SS.ite (SX.cmp lt_F (SE.toRd (SE.var rfl (.inl rfl))) (SE.toRd SE.int) rfl) (SSs.one (SS.asg (SE.ife (SX.cmp (eq_F (Room.u50 hr)) (SE.toRd (SE.var rfl (.inl rfl))) (SE.toRd SE.int) rfl) (SE.call (o := false) I.h59 hr (bn_59 hd) (ln_59 _) tk0 (by rfl) (hd.hgl 59 _ rfl).1 (hd.hgl 59 _ rfl).2 (SA.cons (.inl rfl) (SE.var rfl (.inl rfl)) (SA.cons (.inl rfl) (SE.var rfl (.inl rfl)) SA.nil))) (SE.ife (SX.cmp (eq_F (Room.u50 hr)) (SE.toRd (SE.var rfl (.inl rfl))) (SE.toRd SE.int) rfl) (SE.call (o := false) I.h61 hr (bn_61 hd) (ln_61 _) tk0 (by rfl) (hd.hgl 61 _ rfl).1 (hd.hgl 61 _ rfl).2 (SA.cons (.inl rfl) (SE.var rfl (.inl rfl)) (SA.cons (.inl rfl) (SE.var rfl (.inl rfl)) SA.nil))) (SE.callV (tabOk hd I) hr tk0 (SE.ix (Room.u50 hr) (SE.toRd (SE.lst (SA.cons (.inl rfl) (SE.fn (by rfl) (hd.hgl 58 _ rfl).1 (by rfl)) (SA.cons (.inl rfl) (SE.fn (by rfl) (hd.hgl 60 _ rfl).1 (by rfl)) SA.nil)))) (SE.toRd (SE.op op_subD (SE.toRd (SE.var rfl (.inl rfl))) (SE.toRd SE.int)))) (SA.cons (.inl rfl) (SE.var rfl (.inl rfl)) (SA.cons (.inl rfl) (SE.var rfl (.inl rfl)) (SA.cons (.inl rfl) (SE.var rfl (.inl rfl)) SA.nil))) (by rfl) (by rfl) (fun h => call_sub h)))) (SG.name sN rfl (.inl rfl) (by decide) (by decide : (4 : Nat) < 8)))) (SSs.one (SS.asg (SE.ife (SX.cmp (eq_F (Room.u50 hr)) (SE.toRd (SE.var rfl (.inl rfl))) (SE.toRd SE.int) rfl) (SE.call (o := false) I.h54 hr (bn_54 hd) (ln_54 _) tk0 (by rfl) (hd.hgl 54 _ rfl).1 (hd.hgl 54 _ rfl).2 (SA.cons (.inl rfl) (SE.var rfl (.inl rfl)) (SA.cons (.inl rfl) (SE.var rfl (.inl rfl)) (SA.cons (.inl rfl) SE.non SA.nil)))) (SE.call (o := false) I.h55 hr (bn_55 hd) (ln_55 _) tk0 (by rfl) (hd.hgl 55 _ rfl).1 (hd.hgl 55 _ rfl).2 (SA.cons (.inl rfl) (SE.var rfl (.inl rfl)) (SA.cons (.inl rfl) (SE.var rfl (.inl rfl)) (SA.cons (.inl rfl) (SE.var rfl (.inl rfl)) SA.nil))))) (SG.name sN rfl (.inl rfl) (by decide) (by decide : (4 : Nat) < 8))))))))))
      (SSs.one (SS.retRp (SE.var rfl (.inl rfl))))))
theorem sc_68 : FnScope ["script", "same", "root", "loose", "never", "got", "free", "own", "due", "wide", "door"] ["script"] (defScope (top 95)) := ⟨rfl, rfl, rfl, by decide +kernel, rfl, by decide +kernel, by decide +kernel⟩
theorem ok_68 {n : Nat} (hd : HD K mg fds) (I : AllOk P w K mg base fds n) : FnOk P w K mg base (L2.CX P w) (n + 1) (He.ga K "law") (fds 68) ["script"] (spF (gm K) 1 false (b_law (prog n))) :=
  have sN : List.Nodup (α := Str) ["script", "same", "root", "loose", "never", "got", "free", "own", "due", "wide", "door"] := sc_68.nd
  fn_ok (mv := [5]) (owN := []) (owL := []) (kr := .rp) (fd_68 hd) sc_68 rfl rfl (by decide) (fun h => nomatch h) fun cdv A outer s H E hr =>
    have tk := takesX (P := P) (w := w) (K := K) (mg := mg) (base := base) (N := ["script", "same", "root", "loose", "never", "got", "free", "own", "due", "wide", "door"]) (qual := "law") (scope := defScope (top 95)) (f := He.ga K "law") (cdv := cdv) (A := A) (outer := outer) (s := s) (H := H) (E := E)
    have px := passX (P := P) (w := w) (K := K) (mg := mg) (base := base) (N := ["script", "same", "root", "loose", "never", "got", "free", "own", "due", "wide", "door"]) (qual := "law") (scope := defScope (top 95)) (f := He.ga K "law") (cdv := cdv) (A := A) (outer := outer) (s := s) (H := H) (E := E)
    (SSs.cons (SS.asg (SE.call0 (o := false) I.h64 hr (bn_64 hd) tk (by rfl) (hd.hgl 64 _ rfl).1 (hd.hgl 64 _ rfl).2) (SG.tup (n := 0) rfl (SGs.cons (SG.name sN rfl (.inr rfl) (by decide) (by decide : (1 : Nat) < 11)) (SGs.cons (SG.name sN rfl (.inl rfl) (by decide) (by decide : (2 : Nat) < 11)) (SGs.cons (SG.name sN rfl (.inl rfl) (by decide) (by decide : (3 : Nat) < 11)) (SGs.cons (SG.name sN rfl (.inl rfl) (by decide) (by decide : (4 : Nat) < 11)) SGs.nil))))))
      (SSs.cons (SS.parC (b1 := true) rfl sN rfl rfl (by decide) (by decide : (5 : Nat) < 11) (by decide : (6 : Nat) < 11) (.inl rfl) (.inr rfl) (by decide) (fun _ => by decide) (fun h => nomatch h) (SE.lst SA.nil) (SE.toRp (SE.tup (SA.cons (.inl rfl) (SE.str rfl) SA.nil))) rfl)
      (SSs.cons (SS.for_ (hw := by exact fun h => nomatch h) (by exact fun h => nomatch h) px rfl (SI.any (SE.toRp (SE.tup (SA.cons (.inl rfl) SE.non (SA.cons (.inl rfl) SE.int (SA.cons (.inl rfl) (SE.toRp (SE.cutH (SE.toRd (SE.var rfl (.inr (.inl rfl)))) (SE.toRd SE.int))) (SA.cons (.inl rfl) (SE.toRp (SE.op op_addD (SE.toRd (SE.tup (SA.cons (.inl rfl) SE.int SA.nil))) (SE.toRd (SE.cutL (SE.toRd (SE.var rfl (.inr (.inl rfl)))) (SE.toRd SE.int))))) (SA.cons (.inl rfl) (SE.toRp (SE.op op_addD (SE.toRd (SE.tup (SA.cons (.inl rfl) SE.int (SA.cons (.inl rfl) SE.int SA.nil)))) (SE.toRd (SE.cutL (SE.toRd (SE.var rfl (.inr (.inl rfl)))) (SE.toRd SE.int))))) (SA.cons (.inl rfl) (SE.toRp (SE.op op_addD (SE.toRd (SE.op op_addD (SE.toRd (SE.cutH (SE.toRd (SE.var rfl (.inr (.inl rfl)))) (SE.toRd SE.int))) (SE.toRd (SE.tup (SA.cons (.inl rfl) (SE.toRp (SE.tup (SA.cons (.inl rfl) SE.int SA.nil))) SA.nil))))) (SE.toRd (SE.cutL (SE.toRd (SE.var rfl (.inr (.inl rfl)))) (SE.toRd SE.int))))) (SA.cons (.inl rfl) (SE.toRp (SE.op op_addD (SE.toRd (SE.cutH (SE.toRd (SE.var rfl (.inr (.inl rfl)))) (SE.toRd SE.int))) (SE.toRd (SE.tup (SA.cons (.inl rfl) (SE.toRp (SE.tup (SA.cons (.inl rfl) SE.non SA.nil))) SA.nil))))) SA.nil)))))))))) (SG.name sN rfl (.inr rfl) (by decide) (by decide : (7 : Nat) < 11)) (SSs.one (SS.asgMv sN rfl (.inl rfl) (by decide) (by decide : (5 : Nat) < 11) (SE.op op_addD (SE.toRd (SE.op op_addD (SE.mvR rfl (.inl rfl)) (SE.toRd (SE.comp (own := [("door", 10)]) (vs := [10]) (hw := by exact fun h => nomatch h) rfl sN (SI.any (SE.toRp (SE.tup (SA.cons (.inl rfl) SE.int (SA.cons (.inl rfl) SE.int (SA.cons (.inl rfl) SE.int (SA.cons (.inl rfl) SE.int (SA.cons (.inl rfl) SE.int (SA.cons (.inl rfl) SE.int (SA.cons (.inl rfl) SE.int (SA.cons (.inl rfl) SE.int (SA.cons (.inl rfl) SE.int SA.nil)))))))))))) (blkOk_by (by rfl)) (fun _ _ _ _ _ => (SG.name sN rfl (.inl rfl) (by decide) (by decide : (10 : Nat) < 11))) (fun _ _ _ _ _ => ST.nil) (fun _ _ _ _ _ => (SE.call (o := false) I.h67 hr (bn_67 hd) (ln_67 _) L2.takes0 (by rfl) (hd.hgl 67 _ rfl).1 (hd.hgl 67 _ rfl).2 (SA.cons (.inl rfl) (SE.var rfl (.inl rfl)) (SA.cons (.inl rfl) (SE.var rfl (.inr (.inl rfl))) (SA.cons (.inl rfl) (SE.toRp (SE.tup (SA.cons (.inl rfl) SE.int SA.nil))) (SA.cons (.inl rfl) (SE.ife (SX.cmp (eq_F (Room.u50 hr)) (SE.toRd (SE.var rfl (.inl rfl))) (SE.toRd SE.int) rfl) (SE.var rfl (.inr (.inl rfl))) SE.int) SA.nil)))))))))) (SE.toRd (SE.lst (SA.cons (.inl rfl) (SE.call (o := false) I.h67 hr (bn_67 hd) (ln_67 _) (takes_unl tk) (by rfl) (hd.hgl 67 _ rfl).1 (hd.hgl 67 _ rfl).2 (SA.cons (.inl rfl) SE.int (SA.cons (.inl rfl) (SE.var rfl (.inr (.inl rfl))) (SA.cons (.inl rfl) (SE.var rfl (.inr (.inl rfl))) (SA.cons (.inl rfl) SE.non SA.nil))))) (SA.cons (.inl rfl) (SE.call (o := false) I.h67 hr (bn_67 hd) (ln_67 _) (takes_unl tk) (by rfl) (hd.hgl 67 _ rfl).1 (hd.hgl 67 _ rfl).2 (SA.cons (.inl rfl) SE.int (SA.cons (.inl rfl) (SE.var rfl (.inr (.inl rfl))) (SA.cons (.inl rfl) (SE.var rfl (.inr (.inl rfl))) (SA.cons (.inl rfl) SE.non SA.nil))))) SA.nil))))) rfl)))
      (SSs.cons (SS.for_ (hw := by exact fun h => nomatch h) (by exact fun h => nomatch h) px rfl (SI.any (SE.toRp (SE.tup (SA.cons (.inl rfl) SE.non (SA.cons (.inl rfl) (SE.toRp (SE.tup SA.nil)) (SA.cons (.inl rfl) (SE.toRp (SE.tup (SA.cons (.inl rfl) SE.int SA.nil))) (SA.cons (.inl rfl) (SE.toRp (SE.tup (SA.cons (.inl rfl) SE.int (SA.cons (.inl rfl) SE.int SA.nil)))) (SA.cons (.inl rfl) SE.int (SA.cons (.inl rfl) (SE.toRp (SE.tup (SA.cons (.inl rfl) SE.bl SA.nil))) (SA.cons (.inl rfl) (SE.toRp (SE.tup (SA.cons (.inl rfl) (SE.toRp (SE.un un_negD (SE.toRd SE.int))) SA.nil))) SA.nil)))))))))) (SG.name sN rfl (.inr rfl) (by decide) (by decide : (7 : Nat) < 11)) (SSs.one (SS.asgMv sN rfl (.inl rfl) (by decide) (by decide : (5 : Nat) < 11) (SE.op op_addD (SE.mvR rfl (.inl rfl)) (SE.toRd (SE.comp (own := [("door", 10)]) (vs := [10]) (hw := by exact fun h => nomatch h) rfl sN (SI.any (SE.toRp (SE.tup (SA.cons (.inl rfl) SE.int (SA.cons (.inl rfl) SE.int (SA.cons (.inl rfl) SE.int (SA.cons (.inl rfl) SE.int (SA.cons (.inl rfl) SE.int (SA.cons (.inl rfl) SE.int (SA.cons (.inl rfl) SE.int SA.nil)))))))))) (blkOk_by (by rfl)) (fun _ _ _ _ _ => (SG.name sN rfl (.inl rfl) (by decide) (by decide : (10 : Nat) < 11))) (fun _ _ _ _ _ => ST.nil) (fun _ _ _ _ _ => (SE.call (o := false) I.h67 hr (bn_67 hd) (ln_67 _) L2.takes0 (by rfl) (hd.hgl 67 _ rfl).1 (hd.hgl 67 _ rfl).2 (SA.cons (.inl rfl) (SE.var rfl (.inl rfl)) (SA.cons (.inl rfl) (SE.var rfl (.inr (.inl rfl))) (SA.cons (.inl rfl) (SE.var rfl (.inr (.inl rfl))) (SA.cons (.inl rfl) (SE.ife (SX.cmp (eq_F (Room.u50 hr)) (SE.toRd (SE.var rfl (.inl rfl))) (SE.toRd SE.int) rfl) (SE.var rfl (.inr (.inl rfl))) SE.int) SA.nil))))))))) rfl)))
      (SSs.cons (SS.for_ (hw := by exact fun h => nomatch h) (by exact fun h => nomatch h) px rfl (SI.any (SE.toRp (SE.tup (SA.cons (.inl rfl) SE.non (SA.cons (.inl rfl) SE.int (SA.cons (.inl rfl) (SE.toRp (SE.un un_negD (SE.toRd SE.int))) (SA.cons (.inl rfl) SE.bl (SA.cons (.inl rfl) (SE.toRp (SE.tup (SA.cons (.inl rfl) SE.int SA.nil))) (SA.cons (.inl rfl) (SE.str rfl) SA.nil))))))))) (SG.name sN rfl (.inr rfl) (by decide) (by decide : (7 : Nat) < 11)) (SSs.one (SS.asgMv sN rfl (.inl rfl) (by decide) (by decide : (5 : Nat) < 11) (SE.op op_addD (SE.mvR rfl (.inl rfl)) (SE.toRd (SE.comp (own := [("door", 10)]) (vs := [10]) (hw := by exact fun h => nomatch h) rfl sN (SI.any (SE.toRp (SE.tup (SA.cons (.inl rfl) SE.int (SA.cons (.inl rfl) SE.int SA.nil))))) (blkOk_by (by rfl)) (fun _ _ _ _ _ => (SG.name sN rfl (.inl rfl) (by decide) (by decide : (10 : Nat) < 11))) (fun _ _ _ _ _ => ST.nil) (fun _ _ _ _ _ => (SE.call (o := false) I.h67 hr (bn_67 hd) (ln_67 _) L2.takes0 (by rfl) (hd.hgl 67 _ rfl).1 (hd.hgl 67 _ rfl).2 (SA.cons (.inl rfl) (SE.var rfl (.inl rfl)) (SA.cons (.inl rfl) (SE.var rfl (.inr (.inl rfl))) (SA.cons (.inl rfl) (SE.toRp (SE.tup (SA.cons (.inl rfl) SE.int SA.nil))) (SA.cons (.inl rfl) (SE.var rfl (.inr (.inl rfl))) SA.nil))))))))) rfl)))
      (SSs.cons (SS.for_ (hw := by exact fun h => nomatch h) (by exact fun h => nomatch h) px rfl (SI.any (SE.toRp (SE.tup (SA.cons (.inl rfl) SE.non (SA.cons (.inl rfl) (SE.toRp (SE.tup (SA.cons (.inl rfl) (SE.str rfl) (SA.cons (.inl rfl) SE.int SA.nil)))) (SA.cons (.inl rfl) (SE.toRp (SE.tup (SA.cons (.inl rfl) (SE.str rfl) (SA.cons (.inl rfl) (SE.toRp (SE.tup SA.nil)) SA.nil)))) (SA.cons (.inl rfl) (SE.toRp (SE.tup (SA.cons (.inl rfl) (SE.str rfl) (SA.cons (.inl rfl) SE.int (SA.cons (.inl rfl) (SE.toRp (SE.tup (SA.cons (.inl rfl) (SE.toRp (SE.tup (SA.cons (.inl rfl) SE.int (SA.cons (.inl rfl) SE.int SA.nil)))) SA.nil))) (SA.cons (.inl rfl) (SE.var rfl (.inr (.inl rfl))) SA.nil)))))) (SA.cons (.inl rfl) SE.int (SA.cons (.inl rfl) (SE.toRp (SE.tup (SA.cons (.inl rfl) (SE.str rfl) (SA.cons (.inl rfl) SE.int (SA.cons (.inl rfl) (SE.toRp (SE.op op_mulD (SE.toRd (SE.tup (SA.cons (.inl rfl) (SE.var rfl (.inr (.inl rfl))) SA.nil))) (SE.toRd SE.int))) SA.nil))))) SA.nil))))))))) (SG.name sN rfl (.inr rfl) (by decide) (by decide : (7 : Nat) < 11)) (SSs.one (SS.app rfl (.inl rfl) (by decide) (by decide) (SE.call (o := false) I.h67 hr (bn_67 hd) (ln_67 _) (takes_unl tk) (by rfl) (hd.hgl 67 _ rfl).1 (hd.hgl 67 _ rfl).2 (SA.cons (.inl rfl) SE.int (SA.cons (.inl rfl) (SE.var rfl (.inr (.inl rfl))) (SA.cons (.inl rfl) (SE.toRp (SE.tup (SA.cons (.inl rfl) SE.int SA.nil))) (SA.cons (.inl rfl) (SE.var rfl (.inr (.inl rfl))) SA.nil))))))))
      (SSs.cons (SS.asgMv sN rfl (.inl rfl) (by decide) (by decide : (5 : Nat) < 11) (SE.op op_addD (SE.mvR rfl (.inl rfl)) (SE.toRd (SE.lst (SA.cons (.inl rfl) (SE.call (o := false) I.h67 hr (bn_67 hd) (ln_67 _) tk (by rfl) (hd.hgl 67 _ rfl).1 (hd.hgl 67 _ rfl).2 (SA.cons (.inl rfl) SE.int (SA.cons (.inl rfl) (SE.var rfl (.inr (.inl rfl))) (SA.cons (.inl rfl) (SE.var rfl (.inl rfl)) (SA.cons (.inl rfl) SE.non SA.nil))))) (SA.cons (.inl rfl) (SE.call (o := false) I.h67 hr (bn_67 hd) (ln_67 _) tk (by rfl) (hd.hgl 67 _ rfl).1 (hd.hgl 67 _ rfl).2 (SA.cons (.inl rfl) SE.int (SA.cons (.inl rfl) (SE.var rfl (.inl rfl)) (SA.cons (.inl rfl) (SE.var rfl (.inl rfl)) (SA.cons (.inl rfl) SE.non SA.nil))))) (SA.cons (.inl rfl) (SE.call (o := false) I.h67 hr (bn_67 hd) (ln_67 _) tk (by rfl) (hd.hgl 67 _ rfl).1 (hd.hgl 67 _ rfl).2 (SA.cons (.inl rfl) SE.int (SA.cons (.inl rfl) (SE.var rfl (.inr (.inl rfl))) (SA.cons (.inl rfl) (SE.toRp (SE.op op_addD (SE.toRd (SE.op op_addD (SE.toRd (SE.cutH (SE.toRd (SE.var rfl (.inr (.inl rfl)))) (SE.toRd SE.int))) (SE.toRd (SE.tup (SA.cons (.inl rfl) (SE.toRp (SE.tup SA.nil)) SA.nil))))) (SE.toRd (SE.cutL (SE.toRd (SE.var rfl (.inr (.inl rfl)))) (SE.toRd SE.int))))) (SA.cons (.inl rfl) SE.non SA.nil))))) SA.nil)))))) rfl)
      (SSs.cons (SS.asg (SE.toRp (SE.op op_mulD (SE.toRd (SE.lst (SA.cons (.inl rfl) (SE.toRp (SE.lst (SA.cons (.inl rfl) (SE.str rfl) (SA.cons (.inl rfl) SE.bl SA.nil)))) SA.nil))) (SE.toRd (SE.blt1 (o := true) len_F (by rfl) (hd.hfr 5 _ rfl) boot_len (SE.mvR rfl (.inl rfl)))))) (SG.name sN rfl (.inl rfl) (by decide) (by decide : (8 : Nat) < 11)))
      (SSs.cons (SS.asgMv sN rfl (.inl rfl) (by decide) (by decide : (5 : Nat) < 11) (SE.op op_addD (SE.mvR rfl (.inl rfl)) (SE.toRd (SE.lst (SA.cons (.inl rfl) (SE.call (o := false) I.h67 hr (bn_67 hd) (ln_67 _) tk (by rfl) (hd.hgl 67 _ rfl).1 (hd.hgl 67 _ rfl).2 (SA.cons (.inl rfl) SE.int (SA.cons (.inl rfl) (SE.var rfl (.inl rfl)) (SA.cons (.inl rfl) (SE.toRp (SE.tup (SA.cons (.inl rfl) SE.int SA.nil))) (SA.cons (.inl rfl) SE.non SA.nil))))) (SA.cons (.inl rfl) (SE.call (o := false) I.h67 hr (bn_67 hd) (ln_67 _) tk (by rfl) (hd.hgl 67 _ rfl).1 (hd.hgl 67 _ rfl).2 (SA.cons (.inl rfl) SE.int (SA.cons (.inl rfl) (SE.var rfl (.inl rfl)) (SA.cons (.inl rfl) (SE.toRp (SE.tup (SA.cons (.inl rfl) SE.int (SA.cons (.inl rfl) SE.int SA.nil)))) (SA.cons (.inl rfl) SE.non SA.nil))))) SA.nil))))) rfl)
      (SSs.cons (SS.asg (SE.toRp (SE.tup (SA.cons (.inl rfl) SE.int (SA.cons (.inl rfl) SE.int (SA.cons (.inl rfl) (SE.toRp (SE.tup (SA.cons (.inl rfl) SE.int (SA.cons (.inl rfl) SE.int (SA.cons (.inl rfl) SE.int SA.nil))))) (SA.cons (.inl rfl) (SE.toRp (SE.tup (SA.cons (.inl rfl) SE.int SA.nil))) (SA.cons (.inl rfl) (SE.toRp (SE.tup SA.nil)) SA.nil))))))) (SG.name sN rfl (.inl rfl) (by decide) (by decide : (9 : Nat) < 11)))
      (SSs.cons (SS.asgMv sN rfl (.inl rfl) (by decide) (by decide : (5 : Nat) < 11) (SE.op op_addD (SE.mvR rfl (.inl rfl)) (SE.toRd (SE.lst (SA.cons (.inl rfl) (SE.call (o := false) I.h67 hr (bn_67 hd) (ln_67 _) tk (by rfl) (hd.hgl 67 _ rfl).1 (hd.hgl 67 _ rfl).2 (SA.cons (.inl rfl) SE.int (SA.cons (.inl rfl) (SE.var rfl (.inl rfl)) (SA.cons (.inl rfl) SE.non (SA.cons (.inl rfl) SE.non SA.nil))))) (SA.cons (.inl rfl) (SE.call (o := false) I.h67 hr (bn_67 hd) (ln_67 _) tk (by rfl) (hd.hgl 67 _ rfl).1 (hd.hgl 67 _ rfl).2 (SA.cons (.inl rfl) SE.int (SA.cons (.inl rfl) (SE.var rfl (.inl rfl)) (SA.cons (.inl rfl) (SE.var rfl (.inl rfl)) (SA.cons (.inl rfl) SE.non SA.nil))))) (SA.cons (.inl rfl) (SE.call (o := false) I.h67 hr (bn_67 hd) (ln_67 _) tk (by rfl) (hd.hgl 67 _ rfl).1 (hd.hgl 67 _ rfl).2 (SA.cons (.inl rfl) SE.int (SA.cons (.inl rfl) (SE.var rfl (.inl rfl)) (SA.cons (.inl rfl) SE.non (SA.cons (.inl rfl) SE.non SA.nil))))) (SA.cons (.inl rfl) (SE.call (o := false) I.h67 hr (bn_67 hd) (ln_67 _) tk (by rfl) (hd.hgl 67 _ rfl).1 (hd.hgl 67 _ rfl).2 (SA.cons (.inl rfl) SE.int (SA.cons (.inl rfl) (SE.var rfl (.inl rfl)) (SA.cons (.inl rfl) (SE.toRp (SE.tup (SA.cons (.inl rfl) SE.int (SA.cons (.inl rfl) SE.int (SA.cons (.inl rfl) SE.int SA.nil))))) (SA.cons (.inl rfl) SE.non SA.nil))))) SA.nil))))))) rfl)
      (SSs.cons (SS.asg (SE.toRp (SE.op op_addD (SE.toRd (SE.op op_addD (SE.toRd (SE.op op_addD (SE.toRd (SE.var rfl (.inl rfl))) (SE.toRd (SE.op op_mulD (SE.toRd (SE.lst (SA.cons (.inl rfl) (SE.toRp (SE.lst (SA.cons (.inl rfl) (SE.str rfl) (SA.cons (.inl rfl) SE.bl SA.nil)))) SA.nil))) (SE.toRd SE.int))))) (SE.toRd (SE.op op_mulD (SE.toRd (SE.lst (SA.cons (.inl rfl) (SE.toRp (SE.lst (SA.cons (.inl rfl) (SE.str rfl) (SA.cons (.inl rfl) SE.bl SA.nil)))) SA.nil))) (SE.toRd SE.int))))) (SE.toRd (SE.lst (SA.cons (.inl rfl) SE.int (SA.cons (.inl rfl) SE.int SA.nil)))))) (SG.name sN rfl (.inl rfl) (by decide) (by decide : (8 : Nat) < 11)))
      (SSs.one (SS.fin [5] (SS.retRp (SE.and (SE.call (o := false) I.h62 hr (bn_62 hd) (ln_62 _) tk (by rfl) (hd.hgl 62 _ rfl).1 (hd.hgl 62 _ rfl).2 (SA.cons (.inl rfl) (SE.mvF rfl (.inl rfl)) (SA.cons (.inl rfl) (SE.var rfl (.inl rfl)) SA.nil))) (SE.and (SE.call0 (o := false) I.h65 hr (bn_65 hd) tk (by rfl) (hd.hgl 65 _ rfl).1 (hd.hgl 65 _ rfl).2) (SE.one_bop (SE.call0 (o := false) I.h66 hr (bn_66 hd) tk (by rfl) (hd.hgl 66 _ rfl).1 (hd.hgl 66 _ rfl).2))))) rfl))))))))))))))
theorem all0 : AllOk P w K mg base fds 0 := ⟨fn_bad fun _ => rfl, fn_bad fun _ => rfl, fn_bad fun _ => rfl, fn_bad fun _ => rfl, fn_bad fun _ => rfl, fn_bad fun _ => rfl, fn_bad fun _ => rfl, fn_bad fun _ => rfl, fn_bad fun _ => rfl, fn_bad fun _ => rfl, fn_bad fun _ => rfl, fn_bad fun _ => rfl, fn_bad fun _ => rfl, fn_bad fun _ => rfl, fn_bad fun _ => rfl, fn_bad fun _ => rfl, fn_bad fun _ => rfl, fn_bad fun _ => rfl, fn_bad fun _ => rfl, fn_bad fun _ => rfl, fn_bad fun _ => rfl, fn_bad fun _ => rfl, fn_bad fun _ => rfl, fn_bad fun _ => rfl, fn_bad fun _ => rfl, fn_bad fun _ => rfl, fn_bad fun _ => rfl, fn_bad fun _ => rfl, fn_bad fun _ => rfl, fn_bad fun _ => rfl, fn_bad fun _ => rfl, fn_bad fun _ => rfl, fn_bad fun _ => rfl, fn_bad fun _ => rfl, fn_bad fun _ => rfl, fn_bad fun _ => rfl, fn_bad fun _ => rfl, fn_bad fun _ => rfl, fn_bad fun _ => rfl, fn_bad fun _ => rfl, fn_bad fun _ => rfl, fn_bad fun _ => rfl, fn_bad fun _ => rfl, fn_bad fun _ => rfl, fn_bad fun _ => rfl, fn_bad fun _ => rfl, fn_bad fun _ => rfl, fn_bad fun _ => rfl, fn_bad fun _ => rfl, fn_bad fun _ => rfl, fn_bad fun _ => rfl, fn_bad fun _ => rfl, fn_bad fun _ => rfl, fn_bad fun _ => rfl, fn_bad fun _ => rfl, fn_bad fun _ => rfl, fn_bad fun _ => rfl, fn_bad fun _ => rfl, fn_bad fun _ => rfl, fn_bad fun _ => rfl, fn_bad fun _ => rfl, fn_bad fun _ => rfl, fn_bad fun _ => rfl, fn_bad fun _ => rfl, fn_bad fun _ => rfl, fn_bad fun _ => rfl, fn_bad fun _ => rfl, fn_bad fun _ => rfl, fn_bad fun _ => rfl⟩
theorem allS {n : Nat} (hd : HD K mg fds) (I : AllOk P w K mg base fds n) : AllOk P w K mg base fds (n + 1) := ⟨ok_0 hd I, ok_1 hd I, ok_2 hd I, ok_3 hd I, ok_4 hd I, ok_5 hd I, ok_6 hd I, ok_7 hd I, ok_8 hd I, ok_9 hd I, ok_10 hd I, ok_11 hd I, ok_12 hd I, ok_13 hd I, ok_14 hd I, ok_15 hd I, ok_16 hd I, ok_17 hd I, ok_18 hd I, ok_19 hd I, ok_20 hd I, ok_21 hd I, ok_22 hd I, ok_23 hd I, ok_24 hd I, ok_25 hd I, ok_26 hd I, ok_27 hd I, ok_28 hd I, ok_29 hd I, ok_30 hd I, ok_31 hd I, ok_32 hd I, ok_33 hd I, ok_34 hd I, ok_35 hd I, ok_36 hd I, ok_37 hd I, ok_38 hd I, ok_39 hd I, ok_40 hd I, ok_41 hd I, ok_42 hd I, ok_43 hd I, ok_44 hd I, ok_45 hd I, ok_46 hd I, ok_47 hd I, ok_48 hd I, ok_49 hd I, ok_50 hd I, ok_51 hd I, ok_52 hd I, ok_53 hd I, ok_54 hd I, ok_55 hd I, ok_56 hd I, ok_57 hd I, ok_58 hd I, ok_59 hd I, ok_60 hd I, ok_61 hd I, ok_62 hd I, ok_63 hd I, ok_64 hd I, ok_65 hd I, ok_66 hd I, ok_67 hd I, ok_68 hd I⟩
theorem allN (hd : HD K mg fds) : ∀ n, AllOk P w K mg base fds n
  | 0 => all0
  | n + 1 => allS hd (allN hd n)
end
end F

set_option maxHeartbeats 0
namespace F
open PySem PySem.Spec PyProof.Rows L2
theorem law_eq (n : Nat) : (prog (n + 1)).f_law = b_law (prog n) := rfl
theorem ev_0 : isT ((prog 39).f_law_counts_right []) = true := by
  decide +kernel
theorem ev_1 : isT ((prog 39).f_law_papers_right []) = true := by
  decide +kernel
theorem ev_law : isT ((prog 40).f_law [.exv 0]) = true := by
  have e : (prog 40).f_law = b_law (prog 39) := law_eq 39
  rw [e]
  unfold b_law s_law
  rw [isT_call ev_0, isT_call ev_1]
  decide +kernel
/-! ### the head -/
def nm0 : List PySem.Str := ["Unfit", "NoPaper", "TooMany", "tupled", "is_number", "is_from_one", "is_below", "is_tuple_of", "rises", "set_of", "are_below", "is_set_below"]
def nm1 : List PySem.Str := ["sure_below", "PRIMES", "is_told_prime", "turned", "PAIR_sheets", "THREE", "FIVE", "NIL", "fits_part", "fits_sum", "sum_told", "added"]
def nm2 : List PySem.Str := ["worth_in", "put_into", "fits_row", "cells_of_row", "row_kept", "straight_sum", "under_known", "are_rows_of", "is_sheet", "sure_sheet", "BREAK", "SHOWN"]
def nm3 : List PySem.Str := ["LEAD_proofs", "CUT_proofs", "straight_ones", "mixed", "part_of", "cleared", "reduced", "times_told", "goal_sum", "shown_by", "cell_to_cut", "solved_by"]
def nm4 : List PySem.Str := ["breaking_in", "sought", "known_with", "led_on", "fits_times", "sum_by", "MOST_LOTS", "sure_numbers", "sure_bearing", "known_inputs", "borne_in", "all_lots"]
def nm5 : List PySem.Str := ["PAIR_counts", "FOUR", "NONE", "FREE", "LEAD_counts", "CUT_counts", "counted_power", "counted", "how_many_fillings", "how_many_for", "count_paper", "count_in"]
def nm6 : List PySem.Str := ["counts_added", "is_count_paper", "count_by_paper", "count_row", "had_at", "rests_had", "fixed_cells", "how_often", "are_as_many", "_law_same", "_law_lists", "_law_scene"]
def nm7 : List PySem.Str := ["_law_counts_right", "_law_papers_right", "_law_heard"]
def loose : List PySem.Str := nm0 ++ nm1 ++ nm2 ++ nm3 ++ nm4 ++ nm5 ++ nm6 ++ nm7
abbrev RR : PySem.W.OpenRow := PySem.W.OpenLaw.row PySem.Challenge.rw_fillproof_k56_counts_of_fillings_by_hand
abbrev hk : PySem.W.Hook := hookF 4 lGl lFr lDn lCs lEc
def ob (s : PySem.W.SharedT) : He.AlD := obsFG 4 lGl lFr lDn lCs lEc (HandSHeadRun.getT s)
theorem ob_eq (s : PySem.W.SharedT) : ob s = hk.obs s.abs := obsFG_eq (HandSHeadRun.getT_eq s)
theorem head_run (w : World) : HandSHeadRun.RunEq RR (PySem.W.view RR.prog [95]) hk ob 3000 loose w := by
  intro os
  kernel_rfl
end F
open PySem PySem.W PySem.Calls PyProof.Rows
theorem PySem.Challenge.cw_fillproof_k56_counts_of_fillings_by_hand_holds : PySem.Challenge.rw_fillproof_k56_counts_of_fillings_by_hand.Holds := by
  w_on; o_law
  refine HandSHeadRun.head_any (r := F.RR) (q := view F.RR.prog [95]) (H := F.hk) (ob := F.ob) (M := 3000) (loose := F.loose) (d := HandSHeadRun.topDef F.RR.prog 95) (kwd := []) F.ob_eq
    (by kernel_rfl) (fun s => by kernel_rfl) F.head_run (by kernel_rfl) (by kernel_rfl) (by kernel_rfl) (by rfl) (by first | assumption | decide +kernel) (by decide +kernel) ⟨rfl, rfl, rfl, rfl, rfl, by decide +kernel⟩ ?hw ?hc
  case hw => w_witness2
  case hc =>
    refine L2.walk_ofE (l := PySem.Challenge.rw_fillproof_k56_counts_of_fillings_by_hand) (n := 63) (k := 40) (x := "script") (CX := F.CXU (PySem.Challenge.rw_fillproof_k56_counts_of_fillings_by_hand).prog) rfl (by decide) (by kernel_rfl) ⟨rfl, by decide, by decide⟩ ?F F.cxu_none
    intro w mg fa h Y G hmg0
    obtain ⟨K, KX, c⟩ := Y
    obtain ⟨fds, hd⟩ := F.hd_of KX G c
    have hmg : mg ("law" : PySem.Str) = some (.ref fa) := by
      have e : (HandSHeadRun.topDef F.RR.prog 95).name = ("law" : PySem.Str) := by kernel_rfl
      rw [← e]
      exact hmg0
    have e := hmg.symm.trans (hd.hgl 68 "law" rfl).1
    cases e
    exact ⟨K, fds 68, _, KX, fun s u => L2.FunD.bindsA (ps := ["script"]) (F.fd_68 hd) (fun _ _ _ _ _ _ us hl => match us, hl with | [_], _ => rfl) s [u] rfl,
      fun H a ns _ _ _ => F.law_sp (g := F.gm K) F.ev_law H a, fun base _ _ => F.fn_cxu (F.allN (P := (PySem.Challenge.rw_fillproof_k56_counts_of_fillings_by_hand).prog) (w := w) (base := base) hd 40).h68⟩
