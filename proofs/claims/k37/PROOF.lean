import PyProof.Rows.All
import Wide.All
import OpenK.AllK
import Wide.FinOn
import HandS.Ends
import HandS.EndTab
import HandS.HeadHook4
import HandS.Lambda
import HandS.Head0
import HandS.Head1
import HandS.Head2
import HandS.HeadEnd
import HandS.Words
import HandS.ForMost
import HandS.Text
import HandS.Codes
import HandS.ForExc
import HandS.Conv
import HandS.TupMul
import HandS.TupAny
import HandS.Style
import HandS.Walk
import HandS.Deep
import HandS.Wide
import PyProof.Rows.IntBool
import HandS.IsInst
import KE.DataMinMax
import PyProof.SumAny
import HandS.Zip
import HandS.ExcOwn
import HandS.WordsExc
import KE.SortData
import PyProof.Claim2Refuses
import HandS.SetFor
import HandS.Strs
import HandS.ExcValue
import KE.DataFind
import HandS.HotCalls
import HandS.ExcIs
import PyProof.Rows.ReprOcc
import HandS.FStr
import HandS.Flow
import PySem.Challenge.RW_ringlots_k37_counts_by_hand_and_by_names
set_option Elab.async false
set_option linter.all false
set_option maxRecDepth 100000
set_option maxHeartbeats 0
/-! A small evaluator: values are trees (frozen tuples and lists) and a store for changed objects. -/
namespace RL
open PySem (Str)
inductive W where
  | non | bl (b : Bool) | int (i : Int) | str (x : Str)
  | rs (w : W)
  | tup (ws : List W) | lst (ws : List W)
  | fr (ws : List W)
  | loc (n : Nat)
  | emp
  | dk (k : Int) (w : W)
  /-- a pair that a walk by twos gives, for its targets -/
  | pr (ws : List W)
  deriving Inhabited
inductive Ob where
  | lst (ws : List W)
  /-- an object of a class of the program's own, its fields -/
  | ins (c : Str) (fs : List (Str × W))
abbrev Hs := List Ob
abbrev Env := List (Option W)
inductive R (α : Type) where
  | ok (a : α) (h : Hs) | ex (c : Str) (h : Hs) | bad
def R.bind {α β : Type} : R α → (α → Hs → R β) → R β
  | .ok a h, f => f a h
  | .ex c h, _ => .ex c h
  | .bad, _ => .bad
def R.of {α : Type} (o : Option α) (h : Hs) : R α := match o with
  | some a => .ok a h
  | none => .bad
def R.ofH {α : Type} (o : Option (α × Hs)) : R α := match o with
  | some (a, h) => .ok a h
  | none => .bad
inductive Bop | add | sub | mul | fdiv | mod | pow
inductive Cop | eq | ne | lt | le | gt | ge | isin | notin | is | isnot | net
inductive Bi | len | lent | sum | suml | sorted | all | any | tuple | list | max | min | isint | isbool | istup | isstr | islst | repr | int | str | mint
inductive Mt | append | extend | pop | index | count | tindex | tcount
mutual
inductive E where
  | v (i : Nat) | c (w : W) | g (x : Str) (w : W)
  | bin (op : Bop) (a b : E) | neg (a : E)
  | not (a : E) | and (a b : E) | or (a b : E) | ite (t a b : E)
  | cmp (a : E) (cs : Cs)
  | idx (a b : E) | sl (a : E) (lo hi : Oe)
  | tup (es : Es) | lst (es : Es) | mls (es : Es) | mut (e : E)
  | comp (tg : List Nat) (it : It) (t : Oe) (el : E)
  | lrng (a : Oe) (b : E) | trng (a : Oe) (b : E)
  | call (f : Nat) (es : Es) | callh (f : Nat) (es : Es) | callg (f : Nat) (es : Es)
  | kcall (f : Nat) (ns : List Str) (pm : List Nat) (es : Es)
  | blt (b : Bi) (es : Es)
  | meth (m : Mt) (o : E) (es : Es)
  | sset (e : E)
  | said (e : E)
  | emp
  | made (c : Str) (v : Bool)
  | bangs (e : E)
  | rev (e : E)
  | paren (e : E)
  | dk (k : Int) (e : E)
  | join (x : Str) (e : E) | split (e : E) (c : Nat) | fstr (es : Es) | rep1 (x : Str) (e : E)
  | tidx (a b : E) | tsl (a : E) (lo hi : Oe) | orS (e : E) (x : Str) | splitv (e m : E)
  | fld (c f : Str) (o : E) | mcg (c m : Str) (i : Nat) (o : E) (es : Es) | make (c : Str) (i : Nat) (es : Es)
  | klen (c : Str) (i : Nat) (o : E) | krep (c : Str) (i : Nat) (o : E)
inductive Oe where
  | none | some (e : E)
inductive Es where
  | nil | cons (e : E) (es : Es)
inductive Cs where
  | one (op : Cop) (e : E) | cons (op : Cop) (e : E) (cs : Cs)
inductive It where
  | seq (e : E) | rng (e : E) | rng2 (a b : E) | rngd (a b : E) | enum (e : E) | zip (a b : E)
end
mutual
inductive S where
  | set (i : Nat) (e : E) | sets (is : List Nat) (e : E) | par (is : List Nat) (es : Es)
  | sub (o i e : E) | sub2 (o i o2 i2 e : E) | sfld (c f : Str) (o e : E)
  | exp (e : E)
  | ret (e : E) | raise (c : Str) | pass | brk | cont
  | ite (t : E) (a b : Ss)
  | forr (tg : List Nat) (it : It) (b : Ss)
  | whil (n : Nat) (t : E) (b : Ss)
  | tryy (b : Ss)
inductive Ss where
  | nil | cons (s : S) (ss : Ss) | kill (is : List Nat) (ss : Ss)
end
structure Fn where
  ar : Nat
  nl : Nat
  body : Ss
/-! ### values -/
mutual
/-- no object of the store from n on is named -/
def W.lowr (n : Nat) : W → Bool
  | .loc m => decide (m < n)
  | .tup ws => W.lowrs n ws
  | .lst ws => W.lowrs n ws
  | .fr ws => W.lowrs n ws
  | .pr _ => false
  | .rs w => W.lowr n w
  | .dk _ w => W.lowr n w
  | _ => true
def W.lowrs (n : Nat) : List W → Bool
  | [] => true
  | x :: xs => W.lowr n x && W.lowrs n xs
end
def b2i : Bool → Int
  | true => 1
  | false => 0
mutual
/-- == of frozen data -/
def W.eqv : W → W → Bool
  | .non, .non => true
  | .bl a, .bl b => a == b
  | .bl a, .int b => b2i a == b
  | .int a, .bl b => a == b2i b
  | .int a, .int b => a == b
  | .str a, .str b => a == b
  | .tup a, .tup b => W.eqvs a b
  | .lst a, .lst b => W.eqvs a b
  | _, _ => false
def W.eqvs : List W → List W → Bool
  | [], [] => true
  | x :: xs, y :: ys => W.eqv x y && W.eqvs xs ys
  | _, _ => false
end
mutual
/-- the same, kind by kind -/
def W.same : W → W → Bool
  | .non, .non => true
  | .bl a, .bl b => a == b
  | .int a, .int b => a == b
  | .str a, .str b => a == b
  | .rs a, .rs b => W.same a b
  | .tup a, .tup b => W.sames a b
  | .lst a, .lst b => W.sames a b
  | .loc a, .loc b => a == b
  | .emp, .emp => true
  | .dk a x, .dk b y => a == b && W.same x y
  | _, _ => false
def W.sames : List W → List W → Bool
  | [], [] => true
  | x :: xs, y :: ys => W.same x y && W.sames xs ys
  | _, _ => false
end
def sOk (x : Str) : Bool := x.cps.all (· < 0x110000)
mutual
/-- what == is told of -/
def W.good : W → Bool
  | .non => true
  | .bl _ => true
  | .int _ => true
  | .str x => sOk x
  | .rs _ => false
  | .tup ws => W.goods ws
  | .lst ws => W.goods ws
  | .loc _ => false
  | .fr _ => false
  | .emp => false
  | .dk _ _ => false
  | .pr _ => false
def W.goods : List W → Bool
  | [] => true
  | x :: xs => W.good x && W.goods xs
end
mutual
def W.dp : W → Nat
  | .tup ws => W.dps ws + 1
  | .lst ws => W.dps ws + 1
  | .emp => 1
  | .dk _ w => W.dp w + 1
  | _ => 0
def W.dps : List W → Nat
  | [] => 0
  | x :: xs => max (W.dp x) (W.dps xs)
end
mutual
/-- no lists, empty mappings may be -/
def W.flat : W → Bool
  | .non => true
  | .bl _ => true
  | .int _ => true
  | .str x => sOk x
  | .tup ws => W.flats ws
  | .emp => true
  | .dk _ w => W.flat w
  | _ => false
def W.flats : List W → Bool
  | [] => true
  | x :: xs => W.flat x && W.flats xs
end
def W.data (d : Nat) (w : W) : Bool := W.good w && decide (W.dp w ≤ d)
def W.datas (d : Nat) (ws : List W) : Bool := W.goods ws && decide (W.dps ws ≤ d)
mutual
/-- < of asInts and tuples of such -/
def W.lt : W → W → Option Bool
  | .int a, .int b => some (decide (a < b))
  | .tup a, .tup b => W.lts a b
  | _, _ => none
def W.lts : List W → List W → Option Bool
  | [], [] => some false
  | [], _ :: _ => some true
  | _ :: _, [] => some false
  | x :: xs, y :: ys => if W.eqv x y then W.lts xs ys else W.lt x y
end
/-- tuples d deep, of whole numbers -/
def isK : Nat → W → Bool
  | 0, .int _ => true
  | d + 1, .tup ws => ws.all (isK d)
  | _, _ => false
def nonE : W → Bool
  | .tup (_ :: _) => true
  | _ => false
/-- what sorted takes -/
def sortable (ws : List W) : Bool := ws.all (isK 0) || (ws.all nonE && (ws.all (isK 1) || ws.all (isK 2) || ws.all (isK 3)))
def insrt (x : W) : List W → Option (List W)
  | [] => some [x]
  | y :: ys => match W.lt y x with
    | none => none
    | some false => some (x :: y :: ys)
    | some true => (insrt x ys).map fun r => y :: r
def srt : List W → Option (List W)
  | [] => some []
  | x :: xs => (srt xs).bind fun r => insrt x r
/-! ### texts, by their signs -/
def sgs (x : Str) : List Nat := x.cps.toList
def ofS (l : List Nat) : Str := ⟨l.toArray⟩
def gluN (s : List Nat) : List (List Nat) → List Nat
  | [] => []
  | p :: r => match r with
    | [] => p
    | _ :: _ => p ++ (s ++ gluN s r)
def cutN (c : Nat) (acc : List Nat) : List Nat → List (List Nat)
  | [] => [acc]
  | x :: r => if x = c then acc :: cutN c [] r else cutN c (acc ++ [x]) r
def asStr : W → Option Str
  | .str x => some x
  | _ => none
def asStrs : List W → Option (List Str)
  | [] => some []
  | x :: r => (asStr x).bind fun i => (asStrs r).map fun s => i :: s
def digN : List Nat → Option Int
  | [d] => if 48 ≤ d ∧ d ≤ 57 then some ((d : Int) - 48) else none
  | _ => none
/-- the text of a number below ten, of any other one -/
def numS (i : Int) : Str := if 0 ≤ i ∧ i ≤ 9 then ofS [48 + i.toNat] else Str.ofString (toString i)
/-- what stands in an f-string -/
def fmtW : W → Option Str
  | .str x => some x
  | .int i => if i.natAbs.log2 < 1920 then some (numS i) else none
  | _ => none
def tlen (l : List Str) : Nat := (l.map fun x => x.length).sum
/-- a text with signs between its parts -/
def gluW (x : Str) (ys : List Str) : Option W := if tlen ys + ys.length * x.length ≤ 100000 then some (.str (ofS (gluN (sgs x) (ys.map sgs)))) else none
def splitW (c : Nat) : W → Option W
  | .str z => if z.length ≤ 100000 ∧ c < 256 then some (.lst ((cutN c [] (sgs z)).map fun l => .str (ofS l))) else none
  | _ => none
/-- cut at a sign that a text is -/
def splitV : W → W → Option W
  | y, .str m => match sgs m with
    | [c] => splitW c y
    | _ => none
  | _, _ => none
def rep1W (x : Str) : W → Option W
  | .int i => if 0 ≤ i ∧ i ≤ 1 then some (.str (if i = 1 then x else ofS [])) else none
  | _ => none
/-! ### the store, items -/
def listAt (h : Hs) (n : Nat) : Option (List W) := match h[n]? with
  | some (.lst ws) => some ws
  | _ => none
def items (h : Hs) : W → Option (List W)
  | .tup ws => some ws
  | .lst ws => some ws
  | .fr ws => some ws
  | .loc n => listAt h n
  | _ => none
def asInt : W → Option Int
  | .int i => some i
  | _ => none
def asBl : W → Option Bool
  | .bl b => some b
  | _ => none
def sumI : List W → Option Int
  | [] => some 0
  | x :: r => (asInt x).bind fun i => (sumI r).map fun s => i + s
def sumL (h : Hs) : List W → Option (List W)
  | [] => some []
  | .lst ws :: r => (sumL h r).map fun s => ws ++ s
  | _ => none
def allB : List W → Option Bool
  | [] => some true
  | x :: r => (asBl x).bind fun b => (allB r).map fun s => b && s
def anyB : List W → Option Bool
  | [] => some false
  | x :: r => (asBl x).bind fun b => (anyB r).map fun s => b || s
def maxI : List Int → Option Int
  | [] => none
  | [x] => some x
  | x :: y :: r => (maxI (y :: r)).map fun m => if m < x then x else m
def minI : List Int → Option Int
  | [] => none
  | [x] => some x
  | x :: y :: r => (minI (y :: r)).map fun m => if x < m then x else m
def asInts : List W → Option (List Int)
  | [] => some []
  | x :: r => (asInt x).bind fun i => (asInts r).map fun s => i :: s
def rngL (lo : Int) : Nat → List W
  | 0 => []
  | n + 1 => .int lo :: rngL (lo + 1) n
def enumL (i : Int) : List W → List W
  | [] => []
  | x :: xs => .pr [.int i, x] :: enumL (i + 1) xs
def zipL : List W → List W → List W
  | x :: xs, y :: ys => .pr [x, y] :: zipL xs ys
  | _, _ => []
def isIn (x : W) : List W → Bool
  | [] => false
  | y :: ys => W.eqv y x || isIn x ys
def countIn (x : W) : List W → Int
  | [] => 0
  | y :: ys => b2i (W.eqv y x) + countIn x ys
def indexIn (x : W) : Int → List W → Option Int
  | _, [] => none
  | i, y :: ys => if W.eqv y x then some i else indexIn x (i + 1) ys
/-- whole numbers, rising, each once -/
def uins (x : Int) : List Int → List Int
  | [] => [x]
  | y :: ys => if x < y then x :: y :: ys else if x = y then y :: ys else y :: uins x ys
def usort : List Int → List Int
  | [] => []
  | x :: r => uins x (usort r)
def lim : Nat := 100000
def sIx (n d : Nat) (o : Option Int) : Nat := match o with
  | none => d
  | some v => if v < 0 then ((n : Int) + v).toNat else min v.toNat n
def ixN (n : Nat) (i : Int) : Option Nat := if 0 ≤ i then (if i < n then some i.toNat else none) else if 0 ≤ i + n then some (i + n).toNat else none
def two62 : Int := 4611686018427387904
def inRng (i : Int) : Bool := decide (-two62 ≤ i) && decide (i < two62)
def items0 : W → Option (List W)
  | .tup ws => some ws
  | .lst ws => some ws
  | _ => none
def cut (ws : List W) (lo hi : Option Int) : List W := (ws.drop (sIx ws.length 0 lo)).take (sIx ws.length ws.length hi - sIx ws.length 0 lo)
def rept (n : Nat) (ws : List W) : List W := match n with
  | 0 => []
  | n + 1 => ws ++ rept n ws
def two64 : Int := 18446744073709551616
def small (i : Int) : Bool := decide (-two64 < i) && decide (i < two64)
def dep : Nat := 60
def wlog (b : Int) : Bool := decide (b.natAbs.log2 < 9000)
def wide (_ : Int) : Bool := true
mutual
/-- what a text of it may weigh -/
def W.wt : W → Nat
  | .str x => x.length
  | .int i => i.natAbs.log2 + 1
  | .tup ws => W.wts ws
  | .lst ws => W.wts ws
  | .dk k w => k.natAbs.log2 + 1 + W.wt w + 2
  | _ => 0
def W.wts : List W → Nat
  | [] => 0
  | x :: xs => W.wt x + 1 + W.wts xs
end
mutual
/-- all ints lie below b -/
def W.sm (b : Nat) : W → Bool
  | .int i => decide (i.natAbs < b)
  | .tup ws => W.sms b ws
  | .lst ws => W.sms b ws
  | .dk k w => decide (k.natAbs < b) && W.sm b w
  | _ => true
def W.sms (b : Nat) : List W → Bool
  | [] => true
  | x :: xs => W.sm b x && W.sms b xs
end
def twelve : Nat := 1000000000000
def lg : Nat := 1920
def isEmp : W → Bool
  | .emp => true
  | _ => false
/-- its text can be shown -/
def W.shows (w : W) : Bool := ((W.good w || W.flat w) && decide (W.dp w ≤ 50)) && ((W.sm twelve w && decide (W.wt w ≤ 1048576)) || (W.sm (2 ^ lg) w && decide (W.wt w ≤ 8000)))
/-- the items of a list of the program's own -/
def itemsL (h : Hs) : W → Option (List W)
  | .lst ws => some ws
  | .loc n => listAt h n
  | _ => none
/-- the items of a list of the program's own, or of a tuple -/
def itemsT (h : Hs) : W → Option (List W)
  | .tup ws => some ws
  | .lst ws => some ws
  | .loc n => listAt h n
  | _ => none
/-- a changed list, as it stands -/
def deref (h : Hs) : W → W
  | .loc n => match listAt h n with
    | some ws => .lst ws
    | none => .loc n
  | w => w
/-- k deep, all changed lists as they stand -/
def full : Nat → Hs → W → W
  | 0, _, w => w
  | k + 1, h, .loc n => match listAt h n with
    | some ws => .lst (ws.map (full k h))
    | none => .loc n
  | k + 1, h, .lst ws => .lst (ws.map (full k h))
  | _ + 1, _, w => w
def eqW (h : Hs) (x y : W) : Option Bool := if W.data dep (deref h x) && W.data dep (deref h y) then some (W.eqv (deref h x) (deref h y)) else
  if W.data dep (full 2 h x) && W.data dep (full 2 h y) then some (W.eqv (full 2 h x) (full 2 h y)) else none
def cat (h : Hs) (x y : W) : Option W := match x, y with
  | .tup a, .tup b => if a.length + b.length ≤ lim then some (.tup (a ++ b)) else none
  | .tup _, _ => none
  | _, .tup _ => none
  | .str a, .str b => if a.length + b.length ≤ lim then some (.str (a ++ b)) else none
  | x, y => (itemsL h x).bind fun a => (itemsL h y).bind fun b => if a.length + b.length ≤ lim then some (.lst (a ++ b)) else none
def bop (op : Bop) (x y : W) (h : Hs) : Option W := match op, x, y with
  | .add, .int a, .int b => some (.int (a + b))
  | .add, .bl a, .int b => some (.int (b2i a + b))
  | .sub, .int a, .int b => some (.int (a - b))
  | .mul, .int a, .int b => if small a || small b || (wlog a && wlog b) then some (.int (a * b)) else none
  | .fdiv, .int a, .int b => if 0 < b ∧ wide b = true then some (.int (a / b)) else none
  | .mod, .int a, .int b => if 0 < b then some (.int (a % b)) else none
  | .pow, .int a, .int b => if 0 ≤ b ∧ b ≤ 1000 ∧ small a then some (.int (a ^ b.toNat)) else none
  | .mul, .lst a, .int b => if a.length * b.toNat ≤ lim ∧ inRng b then some (.lst (rept b.toNat a)) else none
  | .mul, .tup a, .int b => if 0 < a.length ∧ a.length ≤ 1000 ∧ 0 ≤ b ∧ b ≤ 1000 then some (.tup (rept b.toNat a)) else none
  | .add, x, y => cat h x y
  | _, _, _ => none
def lexI : List Int → List Int → Bool
  | [], [] => false
  | [], _ :: _ => true
  | _ :: _, [] => false
  | x :: xs, y :: ys => if x = y then lexI xs ys else decide (x < y)
def isNon : W → Bool
  | .non => true
  | _ => false
/-- a truth's text -/
def truthS : Bool → Str
  | true => Str.ofString "True"
  | false => Str.ofString "False"
mutual
/-- whole numbers and tuples of such -/
def W.pl : W → Bool
  | .int _ => true
  | .tup ws => W.pls ws
  | _ => false
def W.pls : List W → Bool
  | [] => true
  | x :: xs => W.pl x && W.pls xs
end
/-- a text -/
def txB : W → Bool
  | .str x => sOk x
  | .rs w => W.pl w
  | _ => false
def cutL {α : Type} (ws : List α) (lo hi : Option Int) : List α := (ws.drop (sIx ws.length 0 lo)).take (sIx ws.length ws.length hi - sIx ws.length 0 lo)
/-- one sign of a text -/
def txAt : W → W → Option W
  | .str z, .int i => if z.length ≤ 100000 then (ixN z.length i).bind fun j => (sgs z)[j]?.map fun c => .str (ofS [c]) else none
  | _, _ => none
def txCut (l u : Option Int) : W → Option W
  | .str z => if z.length ≤ 100000 then some (.str (ofS (cutL (sgs z) l u))) else none
  | _ => none
/-- a text, or another one where it is empty -/
def orW (x : Str) : W → Option W
  | .str z => if z.length ≤ 100000 then some (.str (if z.length = 0 then x else z)) else none
  | _ => none
/-- one sign in a text -/
def signIn : W → W → Option W
  | .str a, .str b => match sgs a with
    | [c] => some (.bl ((sgs b).any fun d => c == d))
    | _ => none
  | _, _ => none
def cop (op : Cop) (x y : W) (h : Hs) : Option W := match op with
  | .eq => match x, y with
    | .rs a, .rs b => if W.same a b then some (.bl true) else none
    | x, y => (eqW h x y).map .bl
  | .ne => match x, y with
    | .rs a, .rs b => if W.same a b then some (.bl false) else none
    | .rs (.bl a), .str b => some (.bl (!(truthS a == b)))
    | x, y => (eqW h x y).map fun b => .bl (!b)
  | .lt => match x, y with
    | .int a, .int b => some (.bl (decide (a < b)))
    | .tup a, .tup b => (asInts a).bind fun xs => (asInts b).map fun ys => .bl (lexI xs ys)
    | _, _ => none
  | .le => match x, y with
    | .int a, .int b => some (.bl (decide (a ≤ b)))
    | _, _ => none
  | .gt => match x, y with
    | .int a, .int b => some (.bl (decide (b < a)))
    | _, _ => none
  | .ge => match x, y with
    | .int a, .int b => some (.bl (decide (b ≤ a)))
    | _, _ => none
  | .isin => match items h y with
    | some ys => if W.data dep x && W.datas dep ys then some (.bl (isIn x ys)) else none
    | none => signIn x y
  | .notin => match items h y with
    | some ys => if W.data dep x && W.datas dep ys then some (.bl (!isIn x ys)) else none
    | none => ((signIn x y).bind asBl).map fun b => .bl (!b)
  | .is => match y with
    | .non => some (.bl (isNon x))
    | .bl b => (asBl x).map fun a => .bl (decide (a = b))
    | _ => none
  | .net => match x, y with
    | .lst xs, .lst ys => if xs.all txB && W.sames xs ys then some (.bl false) else none
    | _, _ => none
  | .isnot => match y with
    | .non => some (.bl (!isNon x))
    | .bl b => (asBl x).map fun a => .bl (!decide (a = b))
    | _ => none
/-- the least of tuples of whole numbers -/
def minW : W → List W → Option W
  | x, [] => some x
  | x, y :: r => match W.lt y x with
    | some true => minW y r
    | some false => minW x r
    | none => none
def minT : List W → Option W
  | y :: r => if (y :: r).all (isK 1) = true then minW y r else none
  | [] => none
/-- what of the store is named is a list -/
def aList (h : Hs) : W → Option Unit
  | .loc n => (listAt h n).map fun _ => ()
  | .pr _ => none
  | _ => some ()
def blt (b : Bi) (ws : List W) (h : Hs) : Option W := match b, ws with
  | .len, [x] => (items h x).map fun xs => .int xs.length
  | .lent, [.str z] => if z.length ≤ 100000 then some (.int z.length) else none
  | .sum, [x] => ((itemsT h x).bind sumI).map .int
  | .suml, [x, .lst []] => (itemsL h x).bind fun ys => match sumL h ys with
    | some xs => if xs.length ≤ lim then some (.lst xs) else none
    | none => none
  | .sorted, [x] => (items h x).bind fun xs => if sortable xs = true then (srt xs).map .lst else none
  | .all, [x] => ((itemsL h x).bind allB).map .bl
  | .any, [x] => ((itemsL h x).bind anyB).map .bl
  | .tuple, [x] => (items h x).map .tup
  | .list, [x] => (items h x).map .lst
  | .max, [x] => (((itemsT h x).bind asInts).bind maxI).map .int
  | .min, [x] => (((itemsT h x).bind asInts).bind minI).map .int
  | .max, [.int a, .int b] => some (.int (if b > a then b else a))
  | .min, [.int a, .int b] => some (.int (if b < a then b else a))
  | .isint, [x] => (aList h x).map fun _ => .bl (match x with | .int _ => true | .bl _ => true | _ => false)
  | .isbool, [x] => (aList h x).map fun _ => .bl (match x with | .bl _ => true | _ => false)
  | .istup, [x] => (aList h x).map fun _ => .bl (match x with | .tup _ => true | _ => false)
  | .isstr, [x] => (aList h x).map fun _ => .bl (match x with | .str _ => true | .rs _ => true | _ => false)
  | .islst, [x] => (aList h x).map fun _ => .bl (match x with | .lst _ => true | .loc _ => true | .fr _ => true | _ => false)
  | .repr, [.emp] => some (.rs .emp)
  | .repr, [x] => if W.shows (deref h x) then some (.rs (deref h x)) else none
  | .int, [.bl b] => some (.int (b2i b))
  | .int, [.int b] => some (.int b)
  | .int, [.str z] => (digN (sgs z)).map .int
  | .str, [.int i] => if i.natAbs.log2 < 1920 then some (.str (numS i)) else none
  | .mint, [x] => (itemsL h x).bind minT
  | _, _ => none
def meth (m : Mt) (o : W) (ws : List W) (h : Hs) : Option (W × Hs) := match m, o, ws with
  | .append, .loc n, [w] => (listAt h n).bind fun xs => if xs.length < lim then some (.non, h.set n (.lst (xs ++ [w]))) else none
  | .extend, .loc n, [w] => (listAt h n).bind fun xs => match w with
    | .lst ys => if xs.length + ys.length ≤ lim then some (.non, h.set n (.lst (xs ++ ys))) else none
    | _ => none
  | .pop, .loc n, [] => (listAt h n).bind fun xs => xs[xs.length - 1]?.map fun x => (x, h.set n (.lst xs.dropLast))
  | .pop, .loc n, [.int i] => (listAt h n).bind fun xs => if inRng i then ((ixN xs.length i).bind fun k => xs[k]?.map fun x => (x, h.set n (.lst (xs.eraseIdx k)))) else none
  | .index, o, [w] => (itemsL h o).bind fun xs => if W.data dep w && W.datas dep xs then (indexIn w 0 xs).map fun i => (.int i, h) else none
  | .count, o, [w] => (itemsL h o).bind fun xs => if W.data dep w && W.datas dep xs then some (.int (countIn w xs), h) else none
  | .tindex, .tup xs, [w] => if W.data dep w && W.datas dep xs then (indexIn w 0 xs).map fun i => (.int i, h) else none
  | .tcount, .tup xs, [w] => if W.data dep w && W.datas dep xs then some (.int (countIn w xs), h) else none
  | _, _, _ => none
/-- sorted(set(t)) -/
def ssetW : W → Option W
  | .tup xs => (asInts xs).bind fun ns => if ns.length < 64 then some (.lst ((usort ns).map .int)) else none
  | _ => none
/-- what has a list's methods -/
def metAt (h : Hs) (x : W) : Option Unit := (itemsL h x).map fun _ => ()
/-- what has a tuple's methods -/
def metTp : W → Option Unit
  | .tup _ => some ()
  | _ => none
def metAs : Mt → Hs → W → Option Unit
  | .append, h, x => metAt h x
  | .extend, h, x => metAt h x
  | .pop, h, x => metAt h x
  | .index, h, x => metAt h x
  | .count, h, x => metAt h x
  | .tindex, _, x => metTp x
  | .tcount, _, x => metTp x
def setsE : List Nat → List W → Env → Option Env
  | [], [], ρ => some ρ
  | i :: is, w :: ws, ρ => setsE is ws (ρ.set i (some w))
  | _, _, _ => none
def bindT (is : List Nat) (w : W) (ρ : Env) : Option Env := match is with
  | [i] => some (ρ.set i (some w))
  | is => match w with
    | .tup ws => setsE is ws ρ
    | .pr ws => setsE is ws ρ
    | _ => none
def kill (ρ : Env) : List Nat → Env
  | [] => ρ
  | i :: r => (kill ρ r).set i none
/-- two of one kind -/
inductive Iv where
  | ws (ws : List W) | loc (n : Nat)
def zipV (x y : W) : Option Iv := match x, y with
  | .tup a, .tup b => some (.ws (zipL a b))
  | .lst a, .lst b => some (.ws (zipL a b))
  | _, _ => none
/-- what a walk goes over: written items, or a changed list, item by item as it stands -/
def itemsV (h : Hs) : W → Option Iv
  | .tup ws => some (.ws ws)
  | .lst ws => some (.ws ws)
  | .fr ws => some (.ws ws)
  | .loc n => (listAt h n).map fun _ => .loc n
  | _ => none
/-- one turn of a comprehension; an exception is none of ours -/
def R.noEx {α : Type} : R α → R α
  | .ex _ _ => .bad
  | r => r
def compL (f : W → Hs → R (Option W)) : List W → Hs → R (List W)
  | [], h => .ok [] h
  | x :: xs, h => (f x h).bind fun o h => (compL f xs h).bind fun r h => match o with
    | some w => .ok (w :: r) h
    | none => .ok r h
def compN (f : W → Hs → R (Option W)) (n : Nat) : Nat → Nat → Hs → R (List W)
  | 0, i, h => match listAt h n with
    | some ws => if ws.length ≤ i then .ok [] h else .bad
    | none => .bad
  | k + 1, i, h => match listAt h n with
    | none => .bad
    | some ws => match ws[i]? with
      | none => .ok [] h
      | some x => (f x h).bind fun o h => (compN f n k (i + 1) h).bind fun r h => match o with
        | some w => .ok (w :: r) h
        | none => .ok r h
def compV (f : W → Hs → R (Option W)) (v : Iv) (h : Hs) : R (List W) := match v with
  | .ws ws => compL f ws h
  | .loc n => compN f n (match listAt h n with | some ws => ws.length | none => 0) 0 h
/-- a list made since k, as it stands -/
def derefN (k : Nat) (h : Hs) (w : W) : W := match w with
  | .loc n => if k ≤ n then (match listAt h n with
    | some ws => .lst ws
    | none => .loc n) else .loc n
  | w => w
def backP (w : W) (h : Hs) : R W := if W.lowr 0 w then .ok w h else .bad
def callP (r : R W) (ws : List W) (h : Hs) : R W := if W.lowrs 0 ws then (match r with
  | .ok w h' => backP (derefN 0 h' w) h
  | .ex c _ => .ex c h
  | .bad => .bad) else .bad
def Ob.lowr (n : Nat) : Ob → Bool
  | .lst ws => W.lowrs n ws
  | .ins _ fs => W.lowrs n (fs.map fun p => p.2)
def backG (w : W) (h h' : Hs) : R W := if W.lowr h.length w && (h'.take h.length).all (Ob.lowr h.length) && decide (h.length ≤ h'.length) then .ok w (h'.take h.length) else .bad
def callG (r : R W) (h : Hs) : R W := match r with
  | .ok w h' => backG (derefN h.length h' w) h h'
  | .ex c h' => if (h'.take h.length).all (Ob.lowr h.length) && decide (h.length ≤ h'.length) then .ex c (h'.take h.length) else .bad
  | .bad => .bad
/-! ### objects of own classes -/
def lenN : Str := Str.ofString "__len__"
def reprM : Str := Str.ofString "__repr__"
def insAt (h : Hs) : W → Option (Str × List (Str × W))
  | .loc n => match h[n]? with
    | some (.ins c fs) => some (c, fs)
    | _ => none
  | _ => none
def lookW (f : Str) : List (Str × W) → Option W
  | [] => none
  | (g, w) :: r => if f = g then some w else lookW f r
def putW (f : Str) (w : W) : List (Str × W) → List (Str × W)
  | [] => [(f, w)]
  | (g, x) :: r => if g = f then (g, w) :: r else (g, x) :: putW f w r
/-- a field -/
def fldW (h : Hs) (c f : Str) (x : W) : Option W := (insAt h x).bind fun p => if p.1 = c then lookW f p.2 else none
/-- it is of the class, and has no field of that name -/
def isIns (h : Hs) (c m : Str) (x : W) : Option Unit := (insAt h x).bind fun p => if p.1 = c ∧ lookW m p.2 = none then some () else none
def setFld (h : Hs) (c f : Str) (y : W) : W → Option Hs
  | .loc n => match h[n]? with
    | some (.ins d fs) => if d = c ∧ fs.length < 100 then some (h.set n (.ins d (putW f y fs))) else none
    | _ => none
  | _ => none
/-- what len(..) tells of an own __len__ -/
def lenV : W → Option W
  | .int n => if 0 ≤ n ∧ n ≤ 1000000 then some (.int n) else none
  | _ => none
def repV : W → Option W
  | .str z => some (.str z)
  | _ => none
/-- behind an own __init__ -/
def madeR (n : Nat) : R W → R W
  | .ok .non h' => .ok (.loc n) h'
  | .ok _ _ => .bad
  | .ex c h' => .ex c h'
  | .bad => .bad
def slc (h : Hs) (x : W) (l u : Option Int) : Option W := match x with
  | .tup xs => some (.tup (cut xs l u))
  | x => (items h x).map fun xs => .lst (cut xs l u)
def rngV (a b : Int) : Option (List W) := if (b - a).toNat ≤ lim ∧ inRng a ∧ inRng b then some (rngL a (b - a).toNat) else none
/-- by name: the parameters' values, out of the written ones -/
def permW (pm : List Nat) (ws : List W) : List W := pm.map fun i => (ws[i]?).getD .non
abbrev CF := Nat → List W → Hs → R W
/-- the classes of refusals, in the order of their marks, and their words -/
def exCs : List Str := [(Str.ofString "NoDeal"), (Str.ofString "NoSeat"), (Str.ofString "NoParting"), (Str.ofString "NoNumber"), (Str.ofString "NotAlike"), (Str.ofString "NoLots"), (Str.ofString "NoRow"), (Str.ofString "NoWishes"), (Str.ofString "NotNow"), (Str.ofString "NoSizes"), (Str.ofString "NoWalk"), (Str.ofString "NoCoins"), (Str.ofString "NoSplit"), (Str.ofString "NothingDone"), (Str.ofString "NoText"), (Str.ofString "NoKeeper"), (Str.ofString "NoLine")]
def exLs : List Str := [(Str.ofString "deal"), (Str.ofString "seat"), (Str.ofString "parting"), (Str.ofString "number"), (Str.ofString "alike"), (Str.ofString "lots"), (Str.ofString "row"), (Str.ofString "wishes"), (Str.ofString "now"), (Str.ofString "sizes"), (Str.ofString "walk"), (Str.ofString "coins"), (Str.ofString "split"), (Str.ofString "done"), (Str.ofString "text"), (Str.ofString "keeper"), (Str.ofString "line")]
def wordOf (c : Str) : List Str → List Str → Option Str
  | x :: xs, y :: ys => if c = x then some y else wordOf c xs ys
  | _, _ => none
/-- its text begins with no such sign -/
def noBang : W → Bool
  | .non => true
  | .bl _ => true
  | .int _ => true
  | .tup _ => true
  | .lst _ => true
  | .emp => true
  | _ => false
def bangW : W → Option W
  | .rs w => if (noBang w && (isEmp w || W.shows w)) = true then some (.bl false) else none
  | .str x => if x.length ≤ 1000 then some (.bl (decide (x.cps[0]? = some 33))) else none
  | _ => none
/-- whether its text begins with no such bracket -/
def parenW : W → Option W
  | .rs (.tup ws) => if W.shows (.tup ws) = true then some (.bl false) else none
  | _ => none
/-- the other way about -/
def revW (h : Hs) : W → Option W
  | .tup ws => some (.tup ws.reverse)
  | x => (itemsL h x).map fun ws => .lst ws.reverse
/-- downwards -/
def rngDL (lo : Int) : Nat → List W
  | 0 => []
  | n + 1 => .int lo :: rngDL (lo - 1) n
def rngD (a b : Int) : Option (List W) := if (a - b).toNat ≤ lim ∧ inRng a ∧ inRng b then some (rngDL a (a - b).toNat) else none
/-- what is said of an outcome: a text of it, or the word of the refusal -/
def saidR : R W → R W
  | .ok w h => R.of (blt .repr [w] h) h
  | .ex c h => match wordOf c exCs exLs with
    | some x => .ok (.str (Str.ofString "! " ++ x)) h
    | none => .bad
  | .bad => .bad
def turnF (t : Env → Hs → R Bool) (g : Env → Hs → R W) (tg : List Nat) (ρ : Env) (x : W) (h : Hs) : R (Option W) := match bindT tg x (kill ρ tg) with
  | none => .bad
  | some ρ' => ((t ρ' h).bind fun b h => if b = true then (g ρ' h).bind fun w h => .ok (some w) h else .ok none h).noEx
mutual
def evE (cf : CF) : E → Env → Hs → R W
  | .v i, ρ, h => match ρ[i]? with
    | some (some w) => .ok w h
    | _ => .bad
  | .c w, _, h => .ok w h
  | .g _ w, _, h => .ok w h
  | .bin op a b, ρ, h => (evE cf a ρ h).bind fun x h => (evE cf b ρ h).bind fun y h => R.of (bop op x y h) h
  | .neg a, ρ, h => (evE cf a ρ h).bind fun x h => R.of ((asInt x).map fun i => .int (-i)) h
  | .not a, ρ, h => (evE cf a ρ h).bind fun x h => R.of ((asBl x).map fun b => .bl (!b)) h
  | .and a b, ρ, h => (evE cf a ρ h).bind fun x h => (R.of (asBl x) h).bind fun c h => if c = true then evE cf b ρ h else .ok (.bl false) h
  | .or a b, ρ, h => (evE cf a ρ h).bind fun x h => (R.of (asBl x) h).bind fun c h => if c = true then .ok (.bl true) h else evE cf b ρ h
  | .ite t a b, ρ, h => (evE cf t ρ h).bind fun x h => (R.of (asBl x) h).bind fun c h => if c = true then evE cf a ρ h else evE cf b ρ h
  | .cmp a cs, ρ, h => (evE cf a ρ h).bind fun x h => evCs cf cs x ρ h
  | .idx a b, ρ, h => (evE cf a ρ h).bind fun x h => (evE cf b ρ h).bind fun y h => R.of ((asInt y).bind fun i => (items h x).bind fun xs => (ixN xs.length i).bind fun j => xs[j]?) h
  | .sl a lo hi, ρ, h => (evE cf a ρ h).bind fun x h => (evOe cf lo ρ h).bind fun l h => (evOe cf hi ρ h).bind fun u h => R.of (slc h x l u) h
  | .tup es, ρ, h => (evEs cf es ρ h).bind fun ws h => .ok (.tup ws) h
  | .lst es, ρ, h => (evEs cf es ρ h).bind fun ws h => .ok (.lst ws) h
  | .mls es, ρ, h => (evEs cf es ρ h).bind fun ws h => .ok (.loc h.length) (h ++ [.lst ws])
  | .mut e, ρ, h => (evE cf e ρ h).bind fun x h => match x with
    | .lst ws => .ok (.loc h.length) (h ++ [.lst ws])
    | _ => .bad
  | .comp tg it t el, ρ, h => (evIt cf it ρ h).bind fun v h => (compV (turnF (fun ρ h => evT cf t ρ h) (fun ρ h => evE cf el ρ h) tg ρ) v h).bind fun ws h => .ok (.lst ws) h
  | .lrng a b, ρ, h => (evOe cf a ρ h).bind fun i h => (evE cf b ρ h).bind fun y h => R.of ((asInt y).bind fun j => (rngV (i.getD 0) j).map .lst) h
  | .trng a b, ρ, h => (evOe cf a ρ h).bind fun i h => (evE cf b ρ h).bind fun y h => R.of ((asInt y).bind fun j => (rngV (i.getD 0) j).map .tup) h
  | .call f es, ρ, h => (evEs cf es ρ h).bind fun ws h => callP (cf f ws []) ws h
  | .callh f es, ρ, h => (evEs cf es ρ h).bind fun ws h => cf f ws h
  | .callg f es, ρ, h => (evEs cf es ρ h).bind fun ws h => callG (cf f ws h) h
  | .kcall f ns pm es, ρ, h => (evEs cf es ρ h).bind fun ws h => if ws.length = ns.length then callP (cf f (permW pm ws) []) (permW pm ws) h else .bad
  | .blt b es, ρ, h => (evEs cf es ρ h).bind fun ws h => R.of (blt b ws h) h
  | .meth m o es, ρ, h => (evE cf o ρ h).bind fun x h => (R.of (metAs m h x) h).bind fun _ h => (evEs cf es ρ h).bind fun ws h => R.ofH (meth m x ws h)
  | .sset e, ρ, h => (evE cf e ρ h).bind fun x h => R.of (ssetW x) h
  | .said e, ρ, h => saidR (evE cf e ρ h)
  | .emp, _, h => .ok .emp h
  | .made _ _, _, h => .ok (.bl true) h
  | .bangs e, ρ, h => (evE cf e ρ h).bind fun x h => R.of (bangW x) h
  | .rev e, ρ, h => (evE cf e ρ h).bind fun x h => R.of (revW h x) h
  | .paren e, ρ, h => (evE cf e ρ h).bind fun x h => R.of (parenW x) h
  | .dk k e, ρ, h => (evE cf e ρ h).bind fun x h => .ok (.dk k x) h
  | .join x e, ρ, h => (evE cf e ρ h).bind fun y h => R.of (((itemsL h y).bind asStrs).bind (gluW x)) h
  | .split e c, ρ, h => (evE cf e ρ h).bind fun y h => R.of (splitW c y) h
  | .fstr es, ρ, h => evF cf es (ofS []) ρ h
  | .rep1 x e, ρ, h => (evE cf e ρ h).bind fun y h => R.of (rep1W x y) h
  | .tidx a b, ρ, h => (evE cf a ρ h).bind fun x h => (evE cf b ρ h).bind fun y h => R.of (txAt x y) h
  | .tsl a lo hi, ρ, h => (evE cf a ρ h).bind fun x h => (evOe cf lo ρ h).bind fun l h => (evOe cf hi ρ h).bind fun u h => R.of (txCut l u x) h
  | .orS e x, ρ, h => (evE cf e ρ h).bind fun y h => R.of (orW x y) h
  | .fld c f o, ρ, h => (evE cf o ρ h).bind fun x h => R.of (fldW h c f x) h
  | .mcg c m i o es, ρ, h => (evE cf o ρ h).bind fun x h => (R.of (isIns h c m x) h).bind fun _ h => (evEs cf es ρ h).bind fun ws h => callG (cf i (x :: ws) h) h
  | .make c i es, ρ, h => (evEs cf es ρ h).bind fun ws h => madeR h.length (cf i (.loc h.length :: ws) (h ++ [.ins c []]))
  | .klen c i o, ρ, h => (evE cf o ρ h).bind fun x h => (R.of (isIns h c (Str.ofString "") x) h).bind fun _ h => (callG (cf i [x] h) h).noEx.bind fun v h => R.of (lenV v) h
  | .krep c i o, ρ, h => (evE cf o ρ h).bind fun x h => (R.of (isIns h c (Str.ofString "") x) h).bind fun _ h => (callG (cf i [x] h) h).noEx.bind fun v h => R.of (repV v) h
  | .splitv e m, ρ, h => (evE cf e ρ h).bind fun y h => (R.of (asStr y) h).bind fun z h => (evE cf m ρ h).bind fun u h => R.of (splitV (.str z) u) h
/-- a test, left out or not -/
def evT (cf : CF) : Oe → Env → Hs → R Bool
  | .none, _, h => .ok true h
  | .some e, ρ, h => (evE cf e ρ h).bind fun x h => R.of (asBl x) h
/-- a slice's bound -/
def evOe (cf : CF) : Oe → Env → Hs → R (Option Int)
  | .none, _, h => .ok none h
  | .some e, ρ, h => (evE cf e ρ h).bind fun x h => R.of ((asInt x).map some) h
def evEs (cf : CF) : Es → Env → Hs → R (List W)
  | .nil, _, h => .ok [] h
  | .cons e es, ρ, h => (evE cf e ρ h).bind fun w h => (evEs cf es ρ h).bind fun ws h => .ok (w :: ws) h
/-- an f-string's parts, one behind the other -/
def evF (cf : CF) : Es → Str → Env → Hs → R W
  | .nil, a, _, h => .ok (.str a) h
  | .cons e es, a, ρ, h => (evE cf e ρ h).bind fun w h => match fmtW w with
    | some y => if a.length + y.length ≤ 100000 then evF cf es (ofS (sgs a ++ sgs y)) ρ h else .bad
    | none => .bad
def evCs (cf : CF) : Cs → W → Env → Hs → R W
  | .one op e, x, ρ, h => (evE cf e ρ h).bind fun y h => R.of (cop op x y h) h
  | .cons op e cs, x, ρ, h => (evE cf e ρ h).bind fun y h => (R.of (cop op x y h) h).bind fun z h => (R.of (asBl z) h).bind fun c h => if c = true then evCs cf cs y ρ h else .ok (.bl false) h
def evIt (cf : CF) : It → Env → Hs → R Iv
  | .seq e, ρ, h => (evE cf e ρ h).bind fun x h => R.of (itemsV h x) h
  | .rng e, ρ, h => (evE cf e ρ h).bind fun x h => R.of ((asInt x).bind fun n => (rngV 0 n).map .ws) h
  | .rng2 a b, ρ, h => (evE cf a ρ h).bind fun x h => (evE cf b ρ h).bind fun y h => R.of ((asInt x).bind fun n => (asInt y).bind fun m => (rngV n m).map .ws) h
  | .rngd a b, ρ, h => (evE cf a ρ h).bind fun x h => (evE cf b ρ h).bind fun y h => R.of ((asInt x).bind fun n => (asInt y).bind fun m => (rngD n m).map .ws) h
  | .enum e, ρ, h => (evE cf e ρ h).bind fun x h => R.of ((items0 x).map fun xs => .ws (enumL 0 xs)) h
  | .zip a b, ρ, h => (evE cf a ρ h).bind fun x h => (evE cf b ρ h).bind fun y h => R.of (zipV x y) h
end
/-! ### statements -/
inductive RS where
  | nx (ρ : Env) (h : Hs) | rt (w : W) (h : Hs) | br (ρ : Env) (h : Hs) | ct (ρ : Env) (h : Hs) | ex (c : Str) (ρ : Env) (h : Hs) | bad
def RS.bind : RS → (Env → Hs → RS) → RS
  | .nx ρ h, f => f ρ h
  | r, _ => r
def R.bindS {α : Type} (ρ : Env) : R α → (α → Hs → RS) → RS
  | .ok a h, f => f a h
  | .ex c h, _ => .ex c ρ h
  | .bad, _ => .bad
/-- a turn's end: what goes on with the loop, what leaves it -/
def RS.turn : RS → (Env → Hs → RS) → RS
  | .nx ρ h, f => f ρ h
  | .ct ρ h, f => f ρ h
  | .br ρ h, _ => .nx ρ h
  | r, _ => r
def forL (f : W → Env → Hs → RS) : List W → Env → Hs → RS
  | [], ρ, h => .nx ρ h
  | x :: xs, ρ, h => (f x ρ h).turn fun ρ h => forL f xs ρ h
def forN (f : W → Env → Hs → RS) (n : Nat) : Nat → Nat → Env → Hs → RS
  | 0, i, ρ, h => match listAt h n with
    | some ws => if ws.length ≤ i then .nx ρ h else .bad
    | none => .bad
  | k + 1, i, ρ, h => match listAt h n with
    | none => .bad
    | some ws => match ws[i]? with
      | none => .nx ρ h
      | some x => (f x ρ h).turn fun ρ h => forN f n k (i + 1) ρ h
def forV (f : W → Env → Hs → RS) (v : Iv) (ρ : Env) (h : Hs) : RS := match v with
  | .ws ws => forL f ws ρ h
  | .loc n => forN f n (match listAt h n with | some ws => ws.length | none => 0) 0 ρ h
def whileF (t : Env → Hs → R Bool) (f : Env → Hs → RS) : Nat → Env → Hs → RS
  | 0, _, _ => .bad
  | k + 1, ρ, h => (t ρ h).bindS ρ fun b h => if b then (f ρ h).turn fun ρ h => whileF t f k ρ h else .nx ρ h
def bodyF (g : Env → Hs → RS) (tg : List Nat) (x : W) (ρ : Env) (h : Hs) : RS := match bindT tg x ρ with
  | some ρ => g ρ h
  | none => .bad
/-- what no exception leaves -/
def RS.noX : RS → RS
  | .ex _ _ _ => .bad
  | r => r
/-- a list of the store with something else in one place -/
def setAt (h : Hs) (x y w : W) : Option Hs := match x, asInt y with
  | .loc n, some j => (listAt h n).bind fun xs => (ixN xs.length j).map fun k => h.set n (.lst (xs.set k w))
  | _, _ => none
def twoW : W → Option (W × W)
  | .tup [a, b] => some (a, b)
  | _ => none
mutual
def evS (cf : CF) : S → Env → Hs → RS
  | .set i e, ρ, h => (evE cf e ρ h).bindS ρ fun w h => .nx (ρ.set i (some w)) h
  | .sets is e, ρ, h => (evE cf e ρ h).bindS ρ fun w h => match bindT is w ρ with
    | some ρ => .nx ρ h
    | none => .bad
  | .par is es, ρ, h => (evEs cf es ρ h).bindS ρ fun ws h => match setsE is ws ρ with
    | some ρ => .nx ρ h
    | none => .bad
  | .sub o i e, ρ, h => (evE cf e ρ h).bindS ρ fun w h => (evE cf o ρ h).bindS ρ fun x h => (evE cf i ρ h).bindS ρ fun y h => match x, asInt y with
    | .loc n, some j => (match listAt h n with
      | some xs => (match ixN xs.length j with
        | some k => .nx ρ (h.set n (.lst (xs.set k w)))
        | none => .bad)
      | none => .bad)
    | _, _ => .bad
  | .sfld c f o e, ρ, h => (evE cf e ρ h).bindS ρ fun y h => (evE cf o ρ h).bindS ρ fun x h => (R.ofH ((setFld h c f y x).map fun h => (W.non, h))).bindS ρ fun _ h => .nx ρ h
  | .sub2 o i o2 i2 e, ρ, h => (evE cf e ρ h).bindS ρ fun w h => (R.of (twoW w) h).bindS ρ fun q h => (evE cf o ρ h).bindS ρ fun x h => (evE cf i ρ h).bindS ρ fun y h => (R.ofH ((setAt h x y q.1).map fun h => (W.non, h))).bindS ρ fun _ h =>
      (evE cf o2 ρ h).bindS ρ fun x h => (evE cf i2 ρ h).bindS ρ fun y h => (R.ofH ((setAt h x y q.2).map fun h => (W.non, h))).bindS ρ fun _ h => .nx ρ h
  | .exp e, ρ, h => (evE cf e ρ h).bindS ρ fun _ h => .nx ρ h
  | .ret e, ρ, h => (evE cf e ρ h).bindS ρ fun w h => .rt w h
  | .raise c, ρ, h => .ex c ρ h
  | .pass, ρ, h => .nx ρ h
  | .brk, ρ, h => .br ρ h
  | .cont, ρ, h => .ct ρ h
  | .ite t a b, ρ, h => (evE cf t ρ h).bindS ρ fun x h => (R.of (asBl x) h).bindS ρ fun c h => if c = true then evSs cf a ρ h else evSs cf b ρ h
  | .forr tg it b, ρ, h => (evIt cf it ρ h).bindS ρ fun v h => forV (bodyF (fun ρ h => evSs cf b ρ h) tg) v ρ h
  | .whil n t b, ρ, h => whileF (fun ρ h => (evE cf t ρ h).bind fun x h => R.of (asBl x) h) (fun ρ h => evSs cf b ρ h) n ρ h
  | .tryy b, ρ, h => (evSs cf b ρ h).noX
def evSs (cf : CF) : Ss → Env → Hs → RS
  | .nil, ρ, h => .nx ρ h
  | .cons s ss, ρ, h => (evS cf s ρ h).bind fun ρ h => evSs cf ss ρ h
  | .kill is ss, ρ, h => evSs cf ss (kill ρ is) h
end
def RS.out : RS → R W
  | .nx _ h => .ok .non h
  | .rt w h => .ok w h
  | .ex c _ h => .ex c h
  | _ => .bad
def callF (fs : Nat → Option Fn) : Nat → CF
  | 0, _, _, _ => .bad
  | k + 1, f, ws, h => match fs f with
    | none => .bad
    | some fn => if ws.length = fn.ar then (evSs (callF fs k) fn.body (ws.map some ++ List.replicate (fn.nl - fn.ar) none) h).out else .bad
end RL

/-! What a law's run names: the tables, what is asked of the head. -/
namespace RL
open PySem.Spec PySem PyProof.Rows L2
/-- a def: its number, name, text, its names' places, its parameters -/
structure Df where
  id : Nat
  x : Str
  st : Stmt
  N : List Str
  ps : List Str
  lm : Bool
  /-- the class whose method it is -/
  cl : Option Str
/-- where it stands -/
def Df.at_ (d : Df) : Str × Option Str := match d.cl with
  | none => (d.x, none)
  | some c => (c, some d.x)
/-- its name with its class's -/
def Df.q (d : Df) : Str := match d.cl with
  | none => d.x
  | some c => c ++ Str.ofString "." ++ d.x
def saidN : Str := Str.ofString "_law_said"
def ringN : Str := Str.ofString "RingError"
/-- what a text leans on: the defs by their numbers, global constants, free names, exceptions -/
structure Tb where
  fn : List (Nat × Str)
  gl : List (Str × RL.W)
  fr : List Str
  ex : List Str
  kw : List (Nat × Str × List Str × List Nat)
  lam : Bool
  /-- methods: number, class, name; classes with their __init__; fields -/
  ms : List (Nat × Str × Str)
  ci : List (Nat × Str)
  na : List (Str × Str)
def reprN : Str := Str.ofString "repr"
/-- the three defs that tell what is said of a call -/
structure Sd where
  stS : Stmt
  stK : Stmt
  stM : Stmt
  a : Str
  e : Str
  r : Str
  xK : Str
  xM : Str
  ek : Str
  m : Str
  n : Str
  y : Str
def Sd.dS (s : Sd) : Df := ⟨0, saidN, s.stS, [], [s.a], false, none⟩
def Sd.dK (s : Sd) : Df := ⟨0, s.xK, s.stK, [], [s.ek], false, none⟩
def Sd.dM (s : Sd) : Df := ⟨0, s.xM, s.stM, [], [s.ek], false, none⟩
/-- the name of a def's lambdas -/
def lamQ (d : Df) : Str := (envOfC d.q (defScope d.st) 0 0 .none).qual ++ "<lambda>"
def noLists (K : PySem.W.Frag) : Bool := K.all fun p => !decide (p.2.cls = .type "list")
def dfOf (d : Df) : He.DefD := ⟨d.at_, d.x, d.q, defArgs d.st, defBody d.st, defScope d.st, [], []⟩
def faGl : List (Str × RL.W) → List He.Fa
  | [] => []
  | (x, .int i) :: r => .int x i :: faGl r
  | (x, .str z) :: r => .str x z :: faGl r
  | _ :: r => faGl r
def sdDs (o : Option Sd) : List Df := match o with
  | some s => [s.dS, s.dK, s.dM]
  | none => []
def faSd (o : Option Sd) : List He.Fa := match o with
  | some s => .free reprN :: .free (Str.ofString "isinstance") :: .free (Str.ofString "ValueError") :: .glo s.r :: (exCs.map .glo ++ (exCs.map (fun c => .exm c s.r true) ++ [.glo ringN]))
  | none => []
/-- of classes -/
def faCl (T : Tb) : List He.Fa := T.ms.map (fun p => .cls p.2.1) ++ (T.ms.map (fun p => .meth p.2.1 p.2.2) ++ (T.ci.map (fun p => .mkr p.2) ++ (T.ci.map (fun p => .glo p.2) ++ (T.na.map (fun p => .cls p.1) ++ T.na.map (fun p => .noat p.1 p.2)))))
def faOf (D : List Df) (T : Tb) (o : Option Sd) : List He.Fa := (D ++ sdDs o).map (fun d => .glo (d.cl.getD d.x)) ++ (T.fr.map .free ++ (faGl T.gl ++ (T.ex.map .exc ++ (T.ex.map .glo ++ (faSd o ++ faCl T)))))
def fnOf (D : List Df) (o : Option Sd) : List He.DefD := (D ++ sdDs o).map dfOf
def lams (D : List Df) : List Df := D.filter fun d => d.lm
def tfOf (D : List Df) : List He.Defn := (lams D).map fun d => (d.x, none)
def excB (K : PySem.W.Frag) (C : Addr) : Bool := He.eqO (PySem.W.findIn K (.ref C) "__getattribute__") (some (some (.builtin "BaseException.__getattribute__"))) && He.eqO (PySem.W.findIn K (.ref C) "__getattr__") (some none) &&
  decide (PySem.W.subIn K (.ref C) (.type "BaseException") = some true) && PySem.W.hasDictIn K C && He.eqO (PySem.W.findIn K (.ref C) "__class__") (some (some (.builtin "object.__class__"))) &&
  He.eqO (PySem.W.specialIn K (.builtin "object.__class__") "__get__") (some (some (.builtin "getset_descriptor.__get__"))) && decide (PySem.W.takesIn K (.builtin "object.__class__") = some true) && decide (PySem.W.mroIn K C (.type "object") = some true)
def sdX (K : PySem.W.Frag) : Bool := exCs.all fun c => excB K (He.ga K c) && exCs.all (fun d => decide (PySem.W.kitOne K (.ref (He.ga K c)) (.ref (He.ga K d)) = some (decide (c = d)))) && decide (PySem.W.kitOne K (.ref (He.ga K c)) (.type "ValueError") = some true) && decide (PySem.W.kitOne K (.ref (He.ga K c)) (.ref (He.ga K ringN)) = some true)
def exB (D : List Df) (o : Option Sd) (K : PySem.W.Frag) : Bool := noLists K && (!o.isSome || sdX K) && (lams D).all fun d => (lams D).all fun d' => !decide ((He.cT K (d.x, none)).2 = (He.cT K (d'.x, none)).2) || decide (lamQ d = lamQ d')
end RL

namespace K37
open RL PySem.Spec PySem PyProof.Rows L2
abbrev pw : Program := PySem.Challenge.pw_ringlots_k37_counts_by_hand_and_by_names
def tp (i : Nat) : Stmt := pw.main.body.getD i (.Pass ⟨0, 0, 0, 0⟩)
def d_is_whole : Df := ⟨13, (Str.ofString "is_whole"), tp 5, [(Str.ofString "thing")], [(Str.ofString "thing")], false, none⟩
def d_is_among : Df := ⟨14, (Str.ofString "is_among"), tp 6, [(Str.ofString "thing"), (Str.ofString "least"), (Str.ofString "most")], [(Str.ofString "thing"), (Str.ofString "least"), (Str.ofString "most")], false, none⟩
def d_need_seats : Df := ⟨121, (Str.ofString "need_seats"), tp 14, [(Str.ofString "seats")], [(Str.ofString "seats")], false, none⟩
def d_product : Df := ⟨101, (Str.ofString "product"), tp 8, [(Str.ofString "numbers"), (Str.ofString "found"), (Str.ofString "number")], [(Str.ofString "numbers")], false, none⟩
def d_orders : Df := ⟨102, (Str.ofString "orders"), tp 9, [(Str.ofString "many")], [(Str.ofString "many")], false, none⟩
def d_halves : Df := ⟨103, (Str.ofString "halves"), tp 10, [(Str.ofString "many")], [(Str.ofString "many")], false, none⟩
def d_how_many : Df := ⟨122, (Str.ofString "how_many"), tp 15, [(Str.ofString "seats")], [(Str.ofString "seats")], false, none⟩
def d_whole_rows : Df := ⟨123, (Str.ofString "whole_rows"), tp 16, [(Str.ofString "seats")], [(Str.ofString "seats")], false, none⟩
def d_chosen : Df := ⟨126, (Str.ofString "chosen"), tp 13, [(Str.ofString "many"), (Str.ofString "few")], [(Str.ofString "many"), (Str.ofString "few")], false, none⟩
def d_with_lots : Df := ⟨127, (Str.ofString "with_lots"), tp 17, [(Str.ofString "seats"), (Str.ofString "lots")], [(Str.ofString "seats"), (Str.ofString "lots")], false, none⟩
def d_are_sizes : Df := ⟨128, (Str.ofString "are_sizes"), tp 18, [(Str.ofString "thing"), (Str.ofString "one")], [(Str.ofString "thing")], false, none⟩
def d_with_sizes : Df := ⟨351, (Str.ofString "with_sizes"), tp 19, [(Str.ofString "sizes"), (Str.ofString "seats"), (Str.ofString "found"), (Str.ofString "one")], [(Str.ofString "sizes")], false, none⟩
def d_rising : Df := ⟨133, (Str.ofString "rising"), tp 20, [(Str.ofString "seats"), (Str.ofString "many")], [(Str.ofString "seats"), (Str.ofString "many")], false, none⟩
def d_shared : Df := ⟨137, (Str.ofString "shared"), tp 21, [(Str.ofString "one"), (Str.ofString "other")], [(Str.ofString "one"), (Str.ofString "other")], false, none⟩
def d_stay : Df := ⟨138, (Str.ofString "stay"), tp 22, [(Str.ofString "seats"), (Str.ofString "by"), (Str.ofString "part")], [(Str.ofString "seats"), (Str.ofString "by")], false, none⟩
def d__law_hand_right : Df := ⟨352, (Str.ofString "_law_hand_right"), tp 27, [(Str.ofString "_law_at"), (Str.ofString "_law_few"), (Str.ofString "_law_some"), (Str.ofString "_law_each"), (Str.ofString "_law_long"), (Str.ofString "_law_turn")], [], false, none⟩
def d__law_pen : Df := ⟨0, (Str.ofString "_law_pen"), tp 25, [(Str.ofString "_law_cell")], [(Str.ofString "_law_cell")], false, none⟩
def d__law_cell_at : Df := ⟨1, (Str.ofString "_law_cell_at"), tp 24, [(Str.ofString "_law_script"), (Str.ofString "_law_k")], [(Str.ofString "_law_script"), (Str.ofString "_law_k")], false, none⟩
def d__law_draw : Df := ⟨2, (Str.ofString "_law_draw"), tp 26, [(Str.ofString "_law_pen_here"), (Str.ofString "_law_count"), (Str.ofString "_law_found"), (Str.ofString "_law_mixed")], [(Str.ofString "_law_pen_here"), (Str.ofString "_law_count")], false, none⟩
def d_law : Df := ⟨353, (Str.ofString "law"), tp 28, [(Str.ofString "_law_script"), (Str.ofString "_law_k"), (Str.ofString "_law_pen_here"), (Str.ofString "_law_wide"), (Str.ofString "_law_few"), (Str.ofString "_law_long"), (Str.ofString "_law_turn"), (Str.ofString "_law_lap"), (Str.ofString "_law_some")], [(Str.ofString "_law_script")], false, none⟩
def D : List Df := [d_is_whole, d_is_among, d_need_seats, d_product, d_orders, d_halves, d_how_many, d_whole_rows, d_chosen, d_with_lots, d_are_sizes, d_with_sizes, d_rising, d_shared, d_stay, d__law_hand_right, d__law_pen, d__law_cell_at, d__law_draw, d_law]
def T : Tb := ⟨[(13, (Str.ofString "is_whole")), (14, (Str.ofString "is_among")), (101, (Str.ofString "product")), (102, (Str.ofString "orders")), (121, (Str.ofString "need_seats")), (103, (Str.ofString "halves")), (126, (Str.ofString "chosen")), (128, (Str.ofString "are_sizes")), (137, (Str.ofString "shared")), (122, (Str.ofString "how_many")), (123, (Str.ofString "whole_rows")), (127, (Str.ofString "with_lots")), (351, (Str.ofString "with_sizes")), (133, (Str.ofString "rising")), (138, (Str.ofString "stay")), (352, (Str.ofString "_law_hand_right")), (0, (Str.ofString "_law_pen")), (1, (Str.ofString "_law_cell_at")), (2, (Str.ofString "_law_draw"))], [((Str.ofString "MOST"), (.int (60)))], [(Str.ofString "isinstance"), (Str.ofString "int"), (Str.ofString "bool"), (Str.ofString "list"), (Str.ofString "range"), (Str.ofString "tuple"), (Str.ofString "len"), (Str.ofString "all"), (Str.ofString "sum"), (Str.ofString "sorted"), (Str.ofString "set"), (Str.ofString "max"), (Str.ofString "min")], [(Str.ofString "NoNumber"), (Str.ofString "NoSizes")], [(122, (Str.ofString "how_many"), [(Str.ofString "seats")], [0]), (123, (Str.ofString "whole_rows"), [(Str.ofString "seats")], [0]), (127, (Str.ofString "with_lots"), [(Str.ofString "lots"), (Str.ofString "seats")], [1, 0]), (351, (Str.ofString "with_sizes"), [(Str.ofString "sizes")], [0]), (133, (Str.ofString "rising"), [(Str.ofString "many"), (Str.ofString "seats")], [1, 0]), (138, (Str.ofString "stay"), [(Str.ofString "by"), (Str.ofString "seats")], [1, 0])], true, [], [], []⟩
abbrev so : Option Sd := none
def loose : List PySem.Str := [(Str.ofString "RingError"), (Str.ofString "NoNumber"), (Str.ofString "NoSizes"), (Str.ofString "is_whole"), (Str.ofString "is_among"), (Str.ofString "product"), (Str.ofString "orders"), (Str.ofString "halves"), (Str.ofString "MOST"), (Str.ofString "chosen"), (Str.ofString "need_seats"), (Str.ofString "how_many"), (Str.ofString "whole_rows"), (Str.ofString "with_lots"), (Str.ofString "are_sizes"), (Str.ofString "with_sizes"), (Str.ofString "rising"), (Str.ofString "shared"), (Str.ofString "stay"), (Str.ofString "_law_cell_at"), (Str.ofString "_law_pen"), (Str.ofString "_law_draw"), (Str.ofString "_law_hand_right")]
abbrev R : PySem.W.OpenRow := PySem.W.OpenLaw.row PySem.Challenge.rw_ringlots_k37_counts_by_hand_and_by_names
abbrev hk : PySem.W.Hook := He.hookX 4 (faOf D T so) (RL.fnOf D so) [] (tfOf D) (exB D so)
def ob (s : PySem.W.SharedT) : He.AlX := He.obsX 4 (faOf D T so) (RL.fnOf D so) [] (tfOf D) (exB D so) (HandSHeadRun.getT s)
theorem ob_eq (s : PySem.W.SharedT) : ob s = hk.obs s.abs := He.obsX_eq (HandSHeadRun.getT_eq s)
theorem run (w : World) : HandSHeadRun.RunEq R (PySem.W.view R.prog [28]) hk ob 20000 loose w := by
  intro os
  kernel_rfl
end K37


/-! Texts by their signs, and the kit's texts. -/
namespace RL
open PySem.Spec PySem PyProof.Rows L2
theorem sgs_ofS (l : List Nat) : sgs (ofS l) = l := by simp [sgs, ofS]
theorem ofS_sgs (x : Str) : ofS (sgs x) = x := SX.S_tl x
theorem len_sgs (x : Str) : x.length = (sgs x).length := by
  show x.cps.size = x.cps.toList.length
  simp
theorem ofS_len (l : List Nat) : (ofS l).length = l.length := by rw [len_sgs, sgs_ofS]
theorem ofS_cat (x y : Str) : ofS (sgs x ++ sgs y) = x ++ y := by
  have := SX.S_cat (sgs x) (sgs y)
  rw [show SX.S (sgs x) = x from ofS_sgs x, show SX.S (sgs y) = y from ofS_sgs y] at this
  exact this.symm
theorem gluN_is (s : List Nat) : ∀ ls : List (List Nat), gluN s ls = TL.joinL s ls
  | [] => rfl
  | [_] => rfl
  | p :: q :: r => by
    show p ++ (s ++ gluN s (q :: r)) = p ++ (s ++ TL.joinL s (q :: r))
    rw [gluN_is s (q :: r)]
theorem map_ofS (ys : List Str) : (ys.map sgs).map ofS = ys := by
  induction ys with
  | nil => rfl
  | cons y ys ih => rw [List.map_cons, List.map_cons, ih, ofS_sgs]
theorem glu_is (x : Str) (ys : List Str) : Txt.join x ys = ofS (gluN (sgs x) (ys.map sgs)) := by
  have := SX.join_S (sgs x) (ys.map sgs)
  rw [show SX.S (sgs x) = x from ofS_sgs x, show (ys.map sgs).map SX.S = ys from map_ofS ys] at this
  rw [this, gluN_is]
  rfl
theorem one_pre (c x : Nat) (r : List Nat) : TL.pre [c] (x :: r) = decide (x = c) := by
  show (([x] : List Nat) == [c]) = decide (x = c)
  by_cases h : x = c
  · rw [h]; simp
  · simp [h]
theorem cutN_is (c : Nat) : ∀ (l acc : List Nat), TL.spl [c] 0 acc l = cutN c acc l
  | [], acc => TL.spl_nil _ _ _
  | x :: r, acc => by
    show _ = (if x = c then acc :: cutN c [] r else cutN c (acc ++ [x]) r)
    by_cases h : x = c
    · rw [if_pos h, TL.spl_hit (by rw [one_pre, decide_eq_true h])]
      show acc :: TL.spl [c] 0 [] r = _
      rw [cutN_is c r []]
    · rw [if_neg h, TL.spl_miss (by rw [one_pre, decide_eq_false h]), cutN_is c r (acc ++ [x])]
theorem cut_is (x : Str) {c : Nat} (hc : c < 256) : Txt.split x (ofS [c]) = (cutN c [] (sgs x)).map ofS := by
  have := SX.split_S (a := sgs x) (b := [c]) (by simp) (by simp [hc])
  rw [show SX.S (sgs x) = x from ofS_sgs x] at this
  rw [show (ofS [c]) = SX.S [c] from rfl, this, cutN_is]
  rfl
theorem numS_is (i : Int) : numS i = Str.ofString (toString i) := by
  unfold numS
  split
  · rename_i h
    obtain ⟨h0, h9⟩ := h
    obtain ⟨n, rfl⟩ := (Int.eq_ofNat_of_zero_le h0)
    have hn : n ≤ 9 := by omega
    have all : ∀ m : Nat, m ≤ 9 → ofS [48 + ((m : Nat) : Int).toNat] = Str.ofString (toString ((m : Nat) : Int)) := by decide +kernel
    exact all n hn
  · rfl
theorem digN_is {z : Str} {n : Int} (h : digN (sgs z) = some n) : intText? z = some n ∧ z.length ≤ 640 := by
  have e := ofS_sgs z
  generalize sgs z = l at h e
  subst e
  match l, h with
  | [d], h =>
    have h : (if 48 ≤ d ∧ d ≤ 57 then some ((d : Int) - 48) else none) = some n := h
    split at h
    · rename_i hd
      cases h
      have all : ∀ m : Nat, m ≤ 57 → 48 ≤ m → intText? (ofS [m]) = some ((m : Int) - 48) := by decide +kernel
      exact ⟨all d hd.2 hd.1, by rw [ofS_len]; simp⟩
    · cases h
theorem asStr_some {x : RL.W} {b : Str} (h : asStr x = some b) : x = .str b := by
  cases x <;> simp [asStr] at h
  rw [h]
theorem asStrs_some : ∀ {ws : List RL.W} {ys : List Str}, asStrs ws = some ys → ws = ys.map RL.W.str
  | [], ys, e => by cases e; rfl
  | x :: r, ys, e => by
    simp only [asStrs] at e
    obtain ⟨i, hi, e⟩ := Option.bind_eq_some_iff.mp e
    obtain ⟨s, hs, e⟩ := Option.map_eq_some_iff.mp e
    subst e
    rw [asStr_some hi, asStrs_some hs]
    rfl
theorem signIn_some {x y z : RL.W} (h : signIn x y = some z) : ∃ c b, x = .str ⟨#[c]⟩ ∧ y = .str b ∧ z = .bl (decide (c ∈ b.cps.toList)) := by
  unfold signIn at h
  split at h
  · rename_i a b
    split at h
    · rename_i c ha
      cases h
      refine ⟨c, b, ?_, rfl, ?_⟩
      · rw [← ofS_sgs a, ha]; rfl
      · congr 1
        rw [Bool.eq_iff_iff]
        show List.any b.cps.toList (fun d => c == d) = true ↔ _
        rw [List.any_eq_true, decide_eq_true_iff]
        exact ⟨fun ⟨x, hx, e⟩ => by rw [eq_of_beq e]; exact hx, fun hx => ⟨c, hx, beq_self_eq_true c⟩⟩
    · cases h
  · cases h
theorem big_line {n : Nat} (h : n ≤ 100000) : n ≤ sizeLine := Nat.le_trans h (by rw [sizeLine_eq]; decide)
end RL

/-! What a value, a store, a frame of the small evaluator stand for in the hand layer's heap. -/
namespace RL
open PySem.Spec PySem PyProof.Rows L2
mutual
def toD : W → PyData
  | .bl b => .bool b
  | .int i => .int i
  | .str x => .str x
  | .tup ws => .tuple (toDs ws)
  | .lst ws => .list (toDs ws)
  | .emp => .dict []
  | .dk k w => .dict [(.int k, toD w)]
  | _ => .none
def toDs : List W → List PyData
  | [] => []
  | x :: xs => toD x :: toDs xs
end
def txt (w : W) : Str := (toD w).shown
/-- the tables of code objects that lambdas fill, each with the name of its lambdas -/
class Tabl where
  T : List (Addr × Str)
  /-- the classes of the program's own, by their names -/
  C : Str → Addr
/-- the objects that callers hide -/
structure Gx where
  φ : Addr → Prop
/-- a stands apart from what may change -/
def Gx.fz (G : Gx) (α : List Addr) (a : Addr) : Prop := ¬ G.φ a ∧ a ∉ α
mutual
inductive Rep (G : Gx) (H : Hp) (α : List Addr) : W → V → Prop
  | non : Rep G H α .non .non
  | bl (b : Bool) : Rep G H α (.bl b) (.bl b)
  | int (i : Int) : Rep G H α (.int i) (.int i)
  | str (x : Str) : Rep G H α (.str x) (.str x)
  | rs (w : W) : Rep G H α (.rs w) (.str (txt w))
  | tup {a : Addr} {o : Obj} {vs : List V} {ws : List W} : H a = some (.frz o (.tup vs)) → o.dict = none → G.fz α a → Reps G H α ws vs → Rep G H α (.tup ws) (.ref a)
  | lst {a : Addr} {vs : List V} {ws : List W} : H a = some (.lst vs) → G.fz α a → Reps G H α ws vs → Rep G H α (.lst ws) (.ref a)
  | fr {a : Addr} {o : Obj} {vs : List V} {ws : List W} : H a = some (.frz o (.lst vs)) → G.fz α a → Reps G H α ws vs → Rep G H α (.fr ws) (.ref a)
  | loc {n : Nat} {a : Addr} : α[n]? = some a → Rep G H α (.loc n) (.ref a)
  | emp {a : Addr} : H a = some (.dK []) → G.fz α a → Rep G H α .emp (.ref a)
  | pr {a : Addr} {vs : List V} {ws : List W} : H a = some (.tup vs) → G.fz α a → Reps G H α ws vs → Rep G H α (.pr ws) (.ref a)
  | dk {a : Addr} {k : Int} {v : V} {w : W} : H a = some (.dK [(.inl k, v)]) → G.fz α a → Rep G H α w v → Rep G H α (.dk k w) (.ref a)
inductive Reps (G : Gx) (H : Hp) (α : List Addr) : List W → List V → Prop
  | nil : Reps G H α [] []
  | cons {w : W} {v : V} {ws : List W} {vs : List V} : Rep G H α w v → Reps G H α ws vs → Reps G H α (w :: ws) (v :: vs)
end
/-- the heap grew: objects that are none of the store's stand as they stood -/
structure Ext (H : Hp) (α : List Addr) (H' : Hp) (α' : List Addr) : Prop where
  pre : ∃ β, α' = α ++ β ∧ ∀ b ∈ β, H b = none
  keep : ∀ a o, H a = some o → a ∉ α → (∀ ps, o ≠ .tbl ps) → H' a = some o
  dom : ∀ a, H' a = none → H a = none
theorem Ext.refl (H : Hp) (α : List Addr) : Ext H α H α := ⟨⟨[], by simp, fun _ h => nomatch h⟩, fun _ _ h _ _ => h, fun _ h => h⟩
theorem Ext.nin {H H' : Hp} {α α' : List Addr} (e : Ext H α H' α') {a : Addr} {o : HO} (h : H a = some o) (n : a ∉ α) : a ∉ α' := by
  obtain ⟨β, rfl, hb⟩ := e.pre
  intro m
  rcases List.mem_append.mp m with m | m
  · exact n m
  · rw [hb a m] at h; cases h
theorem Ext.trans {H H1 H2 : Hp} {α α1 α2 : List Addr} (a : Ext H α H1 α1) (b : Ext H1 α1 H2 α2) : Ext H α H2 α2 := by
  refine ⟨?_, fun c o h n t => b.keep c o (a.keep c o h n t) (a.nin h n) t, fun c h => a.dom c (b.dom c h)⟩
  obtain ⟨β, rfl, hb⟩ := a.pre
  obtain ⟨γ, rfl, hg⟩ := b.pre
  refine ⟨β ++ γ, by simp, fun c hc => ?_⟩
  obtain hc | hc := List.mem_append.mp hc
  · exact hb c hc
  · exact a.dom c (hg c hc)
theorem Ext.get {H H' : Hp} {α α' : List Addr} (e : Ext H α H' α') {n : Nat} {a : Addr} (h : α[n]? = some a) : α'[n]? = some a := by
  obtain ⟨β, rfl, _⟩ := e.pre
  rw [List.getElem?_append_left (List.getElem?_eq_some_iff.mp h).1]; exact h
theorem Ext.rd {H H' : Hp} {α α' : List Addr} (e : Ext H α H' α') {a : Addr} {u : HO} (h : Rd H a u) (n : a ∉ α) (t : ∀ ps, u ≠ .tbl ps) : Rd H' a u := by
  rcases h with h | ⟨o, h⟩
  · exact .inl (e.keep _ _ h n t)
  · exact .inr ⟨o, e.keep _ _ h n fun _ z => nomatch z⟩
theorem Ext.new {H : Hp} {α : List Addr} {p : Addr} {o : HO} (hp : H p = none) : Ext H α (upd H p o) α :=
  ⟨⟨[], by simp, fun _ h => nomatch h⟩, fun a u h _ _ => by rw [upd_ne (ne_of_none h hp)]; exact h, fun a h => by
    by_cases e : a = p
    · subst e; exact hp
    · rw [upd_ne e] at h; exact h⟩
theorem Ext.push {H : Hp} {α : List Addr} {p : Addr} {o : HO} (hp : H p = none) : Ext H α (upd H p o) (α ++ [p]) :=
  ⟨⟨[p], rfl, fun b h => by rw [List.mem_singleton.mp h]; exact hp⟩, fun a u h _ _ => by rw [upd_ne (ne_of_none h hp)]; exact h, fun a h => by
    by_cases e : a = p
    · subst e; exact hp
    · rw [upd_ne e] at h; exact h⟩
theorem Ext.set {H : Hp} {α : List Addr} {p : Addr} {o : HO} (hp : p ∈ α) (hn : H p ≠ none) : Ext H α (upd H p o) α :=
  ⟨⟨[], by simp, fun _ h => nomatch h⟩, fun a u h n _ => by rw [upd_ne (fun e => n (by rw [e]; exact hp))]; exact h, fun a h => by
    by_cases e : a = p
    · subst e; rw [upd_same] at h; cases h
    · rw [upd_ne e] at h; exact h⟩
mutual
theorem Rep.mono {G : Gx} {H H' : Hp} {α α' : List Addr} (e : Ext H α H' α') : ∀ {w : W} {v : V}, Rep G H α w v → Rep G H' α' w v
  | _, _, .non => .non
  | _, _, .bl b => .bl b
  | _, _, .int i => .int i
  | _, _, .str x => .str x
  | _, _, .rs w => .rs w
  | _, _, .tup h d n r => .tup (e.keep _ _ h n.2 fun _ z => nomatch z) d ⟨n.1, e.nin h n.2⟩ (Reps.mono e r)
  | _, _, .lst h n r => .lst (e.keep _ _ h n.2 fun _ z => nomatch z) ⟨n.1, e.nin h n.2⟩ (Reps.mono e r)
  | _, _, .pr h n r => .pr (e.keep _ _ h n.2 fun _ z => nomatch z) ⟨n.1, e.nin h n.2⟩ (Reps.mono e r)
  | _, _, .fr h n r => .fr (e.keep _ _ h n.2 fun _ z => nomatch z) ⟨n.1, e.nin h n.2⟩ (Reps.mono e r)
  | _, _, .loc h => .loc (e.get h)
  | _, _, .emp h n => .emp (e.keep _ _ h n.2 fun _ z => nomatch z) ⟨n.1, e.nin h n.2⟩
  | _, _, .dk h n r => .dk (e.keep _ _ h n.2 fun _ z => nomatch z) ⟨n.1, e.nin h n.2⟩ (Rep.mono e r)
theorem Reps.mono {G : Gx} {H H' : Hp} {α α' : List Addr} (e : Ext H α H' α') : ∀ {ws : List W} {vs : List V}, Reps G H α ws vs → Reps G H' α' ws vs
  | _, _, .nil => .nil
  | _, _, .cons h r => .cons (Rep.mono e h) (Reps.mono e r)
end
theorem Reps.length {G : Gx} {H : Hp} {α : List Addr} : ∀ {ws : List W} {vs : List V}, Reps G H α ws vs → ws.length = vs.length
  | _, _, .nil => rfl
  | _, _, .cons _ r => by rw [List.length_cons, List.length_cons, Reps.length r]
theorem Reps.get {G : Gx} {H : Hp} {α : List Addr} : ∀ {ws : List W} {vs : List V} {i : Nat} {w : W}, Reps G H α ws vs → ws[i]? = some w → ∃ v, vs[i]? = some v ∧ Rep G H α w v
  | _, _, _, _, .nil, h => by simp at h
  | _, _, 0, _, .cons h _, e => by simp at e; subst e; exact ⟨_, rfl, h⟩
  | _, _, i + 1, _, .cons _ r, e => by
    obtain ⟨v, h1, h2⟩ := Reps.get (i := i) r (by simpa using e)
    exact ⟨v, by simpa using h1, h2⟩
theorem Reps.set {G : Gx} {H : Hp} {α : List Addr} {w : W} {v : V} (h : Rep G H α w v) : ∀ {ws : List W} {vs : List V} (i : Nat), Reps G H α ws vs → Reps G H α (ws.set i w) (vs.set i v)
  | _, _, _, .nil => .nil
  | _, _, 0, .cons _ r => .cons h r
  | _, _, i + 1, .cons q r => .cons q (Reps.set h i r)
theorem Reps.append {G : Gx} {H : Hp} {α : List Addr} : ∀ {ws us : List W} {vs xs : List V}, Reps G H α ws vs → Reps G H α us xs → Reps G H α (ws ++ us) (vs ++ xs)
  | _, _, _, _, .nil, s => s
  | _, _, _, _, .cons h r, s => .cons h (Reps.append r s)
theorem Reps.take {G : Gx} {H : Hp} {α : List Addr} : ∀ {ws : List W} {vs : List V} (n : Nat), Reps G H α ws vs → Reps G H α (ws.take n) (vs.take n)
  | _, _, 0, _ => .nil
  | _, _, _ + 1, .nil => .nil
  | _, _, n + 1, .cons h r => .cons h (Reps.take n r)
theorem Reps.drop {G : Gx} {H : Hp} {α : List Addr} : ∀ {ws : List W} {vs : List V} (n : Nat), Reps G H α ws vs → Reps G H α (ws.drop n) (vs.drop n)
  | _, _, 0, r => r
  | _, _, _ + 1, .nil => .nil
  | _, _, n + 1, .cons _ r => Reps.drop n r
theorem Reps.eraseIdx {G : Gx} {H : Hp} {α : List Addr} : ∀ {ws : List W} {vs : List V} (n : Nat), Reps G H α ws vs → Reps G H α (ws.eraseIdx n) (vs.eraseIdx n)
  | _, _, _, .nil => .nil
  | _, _, 0, .cons _ r => r
  | _, _, n + 1, .cons h r => .cons h (Reps.eraseIdx n r)
theorem Reps.dropLast {G : Gx} {H : Hp} {α : List Addr} {ws : List W} {vs : List V} (h : Reps G H α ws vs) : Reps G H α ws.dropLast vs.dropLast := by
  rw [List.dropLast_eq_take, List.dropLast_eq_take, h.length]; exact h.take _
theorem Reps.mem {G : Gx} {H : Hp} {α : List Addr} : ∀ {ws : List W} {vs : List V}, Reps G H α ws vs → ∀ v ∈ vs, ∃ w ∈ ws, Rep G H α w v
  | _, _, .nil, v, h => nomatch h
  | _, _, .cons h r, v, m => by
    rcases List.mem_cons.mp m with rfl | m
    · exact ⟨_, List.mem_cons_self, h⟩
    · obtain ⟨w, a, b⟩ := Reps.mem r v m
      exact ⟨w, List.mem_cons_of_mem _ a, b⟩

/-- what the store's object stands for -/
def ObR [Tabl] (G : Gx) (H : Hp) (α : List Addr) (a : Addr) : Ob → Prop
  | .lst ws => ∃ vs, H a = some (.lst vs) ∧ Reps G H α ws vs
  | .ins c fs => ∃ (dx : Addr) (gs : List (Str × V)), H a = some (.ins (Tabl.C c) dx gs) ∧ gs.map (fun p => p.1) = fs.map (fun p => p.1) ∧ Reps G H α (fs.map fun p => p.2) (gs.map fun p => p.2)
variable [Tabl]
theorem tabs_at {T : List (Addr × Str)} {H : Hp} {a : Addr} {o u : HO} (t : LamX.Tabs T H) (h : H a = some u) (n1 : ∀ ps, u ≠ .tbl ps) (n2 : ∀ c q, u ≠ LamX.CodeO c q) : LamX.Tabs T (upd H a o) := fun p hp => by
  obtain ⟨ps, h1, h2, h3⟩ := t p hp
  have ne : ∀ (b : Addr) (v : HO), H b = some v → u ≠ v → upd H a o b = some v := fun b v e n => by
    rw [upd_ne fun z => n (Option.some.inj (h.symm.trans (by rw [← z]; exact e)))]
    exact e
  refine ⟨ps, ne _ _ h1 (n1 _), h2, fun pos cv hc => ?_⟩
  obtain ⟨d, q1, q2⟩ := h3 pos cv hc
  exact ⟨d, q1, ne _ _ q2 (n2 _ _)⟩
theorem tabs_ins {T : List (Addr × Str)} {H : Hp} {a C dx : Addr} {fs : List (Str × V)} {o : HO} (t : LamX.Tabs T H) (h : H a = some (.ins C dx fs)) : LamX.Tabs T (upd H a o) := tabs_at t h (fun _ z => nomatch z) fun c q z => by
  unfold LamX.CodeO at z
  cases z
/-- a list's object is written: no table -/
theorem tabs_upd {T : List (Addr × Str)} {H : Hp} {a : Addr} {o : HO} {xs : List V} (t : LamX.Tabs T H) (h : H a = some (.lst xs)) : LamX.Tabs T (upd H a o) := fun p hp => by
  obtain ⟨ps, h1, h2, h3⟩ := t p hp
  have ne : ∀ (b : Addr) (u : HO), H b = some u → (∀ ys, u ≠ .lst ys) → upd H a o b = some u := fun b u e n => by
    rw [upd_ne fun z => n xs (Option.some.inj (e.symm.trans (by rw [z]; exact h)))]
    exact e
  refine ⟨ps, ne _ _ h1 (fun _ z => nomatch z), h2, fun pos cv hc => ?_⟩
  obtain ⟨d, q1, q2⟩ := h3 pos cv hc
  refine ⟨d, q1, ne _ _ q2 fun ys z => ?_⟩
  unfold LamX.CodeO at z
  cases z
theorem tabs_new {T : List (Addr × Str)} {H : Hp} {a : Addr} {o : HO} (t : LamX.Tabs T H) (h : H a = none) : LamX.Tabs T (upd H a o) := t.ext fun b u e => by rw [upd_ne (ne_of_none e h)]; exact e
structure StR (G : Gx) (h : Hs) (α : List Addr) (H : Hp) : Prop where
  len : α.length = h.length
  nd : α.Nodup
  hid : ∀ a, G.φ a → H a ≠ none
  tab : LamX.Tabs Tabl.T H
  sep : ∀ a ∈ α, ¬ G.φ a
  at_ : ∀ (n : Nat) (ob : Ob), h[n]? = some ob → ∃ a, α[n]? = some a ∧ ObR G H α a ob
theorem ObR.mono {G : Gx} {H H' : Hp} {α α' : List Addr} {a : Addr} {ob : Ob} (x : ObR G H α a ob) (e : Ext H α H' α') (ha : H' a = H a) : ObR G H' α' a ob := by
  cases ob with
  | lst ws =>
    obtain ⟨vs, h, r⟩ := x
    exact ⟨vs, ha.trans h, r.mono e⟩
  | ins c fs =>
    obtain ⟨dx, gs, h, k, r⟩ := x
    exact ⟨dx, gs, ha.trans h, k, r.mono e⟩
theorem ObR.some {G : Gx} {H : Hp} {α : List Addr} {a : Addr} {ob : Ob} (x : ObR G H α a ob) : H a ≠ none := by
  cases ob with
  | lst ws =>
    obtain ⟨vs, h, r⟩ := x
    rw [h]; simp
  | ins c fs =>
    obtain ⟨dx, gs, h, _, _⟩ := x
    rw [h]; simp
/-- no table, no code -/
theorem ObR.tabs {G : Gx} {H : Hp} {α : List Addr} {a : Addr} {ob : Ob} {T : List (Addr × Str)} {o : HO} (x : ObR G H α a ob) (t : LamX.Tabs T H) : LamX.Tabs T (upd H a o) := by
  cases ob with
  | lst ws =>
    obtain ⟨vs, h, r⟩ := x
    exact tabs_upd t h
  | ins c fs =>
    obtain ⟨dx, gs, h, _, _⟩ := x
    exact tabs_ins t h
def EnvR (G : Gx) (ρ : Env) (α : List Addr) (σ : L2.St) (H : Hp) : Prop :=
  ρ.length = σ.length ∧ ∀ (i : Nat) (w : W), ρ[i]? = some (some w) → ∃ v, σ[i]? = some (some v) ∧ Rep G H α w v
theorem EnvR.mono {G : Gx} {ρ : Env} {α α' : List Addr} {σ : L2.St} {H H' : Hp} (x : EnvR G ρ α σ H) (e : Ext H α H' α') : EnvR G ρ α' σ H' :=
  ⟨x.1, fun i w h => let ⟨v, a, b⟩ := x.2 i w h; ⟨v, a, b.mono e⟩⟩
theorem EnvR.set {G : Gx} {ρ : Env} {α : List Addr} {σ : L2.St} {H : Hp} {w : W} {v : V} (x : EnvR G ρ α σ H) (i : Nat) (r : Rep G H α w v) : EnvR G (ρ.set i (some w)) α (σ.set i (some v)) H := by
  refine ⟨by simpa using x.1, fun j u h => ?_⟩
  by_cases e : i = j
  · subst e
    by_cases hl : i < ρ.length
    · rw [List.getElem?_set_self hl] at h
      cases h
      exact ⟨v, by rw [List.getElem?_set_self (by rw [← x.1]; exact hl)], r⟩
    · rw [List.getElem?_eq_none (by simpa using hl)] at h; cases h
  · rw [List.getElem?_set_ne e] at h
    obtain ⟨y, a, b⟩ := x.2 j u h
    exact ⟨y, by rw [List.getElem?_set_ne e]; exact a, b⟩
theorem EnvR.kill1 {G : Gx} {ρ : Env} {α : List Addr} {σ : L2.St} {H : Hp} (x : EnvR G ρ α σ H) (i : Nat) : EnvR G (ρ.set i none) α σ H := by
  refine ⟨by simpa using x.1, fun j u h => ?_⟩
  by_cases e : i = j
  · subst e
    by_cases hl : i < ρ.length
    · rw [List.getElem?_set_self hl] at h; cases h
    · rw [List.getElem?_eq_none (by simpa using hl)] at h; cases h
  · rw [List.getElem?_set_ne e] at h
    exact x.2 j u h
theorem EnvR.kill {G : Gx} {ρ : Env} {α : List Addr} {σ : L2.St} {H : Hp} (x : EnvR G ρ α σ H) : ∀ is : List Nat, EnvR G (RL.kill ρ is) α σ H
  | [] => x
  | i :: is => (EnvR.kill x is).kill1 i
theorem EnvR.wipe {G : Gx} {ρ : Env} {α : List Addr} {σ : L2.St} {H : Hp} (x : EnvR G ρ α σ H) : ∀ is : List Nat, EnvR G (RL.kill ρ is) α (L2.wipe σ is) H
  | [] => x
  | i :: is => by
    have y := EnvR.wipe x is
    refine ⟨by show ((RL.kill ρ is).set i none).length = ((L2.wipe σ is).set i none).length; simpa using y.1, fun j u h => ?_⟩
    have h' : ((RL.kill ρ is).set i none)[j]? = some (some u) := h
    show ∃ v, ((L2.wipe σ is).set i none)[j]? = some (some v) ∧ _
    by_cases e : i = j
    · subst e
      by_cases hl : i < (RL.kill ρ is).length
      · rw [List.getElem?_set_self hl] at h'; cases h'
      · rw [List.getElem?_eq_none (by simpa using hl)] at h'; cases h'
    · rw [List.getElem?_set_ne e] at h'
      rw [List.getElem?_set_ne e]
      exact y.2 j u h'
/-! ### the store's rules -/
section
variable {G : Gx} {h : Hs} {α α' : List Addr} {H H' : Hp}
theorem StR.fresh (s : StR G h α H) {p : Addr} (hp : H p = none) : p ∉ α := fun m => by
  obtain ⟨n, hn, e⟩ := List.mem_iff_getElem.mp m
  have hn' : n < h.length := by rw [← s.len]; exact hn
  obtain ⟨a, q, x⟩ := s.at_ n h[n] (List.getElem?_eq_getElem hn')
  rw [List.getElem?_eq_getElem hn] at q
  have := Option.some.inj q
  rw [e] at this
  subst this
  exact x.some hp
theorem StR.fz (s : StR G h α H) {p : Addr} (hp : H p = none) : G.fz α p := ⟨fun m => s.hid p m hp, s.fresh hp⟩
theorem StR.new (s : StR G h α H) {p : Addr} {o : HO} (hp : H p = none) : StR G h α (upd H p o) := by
  refine ⟨s.len, s.nd, fun a m z => s.hid a m ((Ext.new (o := o) hp (α := α)).dom a z), tabs_new s.tab hp, s.sep, fun n ob q => ?_⟩
  obtain ⟨a, e, x⟩ := s.at_ n ob q
  refine ⟨a, e, x.mono (Ext.new hp) ?_⟩
  rw [upd_ne]; intro z; subst z; exact x.some hp
theorem StR.pushO (s : StR G h α H) {p : Addr} {nb : Ob} {o : HO} (hp : H p = none) (r : ObR G (upd H p o) (α ++ [p]) p nb) : StR G (h ++ [nb]) (α ++ [p]) (upd H p o) := by
  have np := s.fresh hp
  have e : Ext H α (upd H p o) (α ++ [p]) := Ext.push hp
  refine ⟨by simp [s.len], List.nodup_append.mpr ⟨s.nd, by simp, fun a ha b hb => by rw [List.mem_singleton.mp hb]; exact fun z => np (z ▸ ha)⟩, fun a m z => s.hid a m (e.dom a z), tabs_new s.tab hp, fun a m => ?_, fun n ob q => ?_⟩
  · rcases List.mem_append.mp m with m | m
    · exact s.sep a m
    · rw [List.mem_singleton.mp m]; exact fun z => s.hid p z hp
  by_cases hn : n < h.length
  · rw [List.getElem?_append_left hn] at q
    obtain ⟨a, ea, x⟩ := s.at_ n ob q
    refine ⟨a, by rw [List.getElem?_append_left (by rw [s.len]; exact hn)]; exact ea, x.mono e ?_⟩
    rw [upd_ne]; intro z; subst z; exact x.some hp
  · have hn2 : n = h.length := by
      have := (List.getElem?_eq_some_iff.mp q).1
      simp at this; omega
    subst hn2
    rw [List.getElem?_append_right (Nat.le_refl _)] at q
    simp at q
    subst q
    exact ⟨p, by rw [List.getElem?_append_right (by rw [s.len]; exact Nat.le_refl _)]; simp [s.len], r⟩
theorem StR.push (s : StR G h α H) {p : Addr} {ws : List W} {vs : List V} (hp : H p = none) (r : Reps G H α ws vs) : StR G (h ++ [.lst ws]) (α ++ [p]) (upd H p (.lst vs)) :=
  s.pushO hp ⟨vs, upd_same, r.mono (Ext.push hp)⟩
theorem StR.setO (s : StR G h α H) {n : Nat} {a : Addr} {nb : Ob} {o : HO} (ha : α[n]? = some a) (r : ObR G (upd H a o) α a nb) : StR G (h.set n nb) α (upd H a o) := by
  have ma : a ∈ α := List.mem_of_getElem? ha
  have hn' : n < h.length := by rw [← s.len]; exact (List.getElem?_eq_some_iff.mp ha).1
  obtain ⟨b, e1, x⟩ := s.at_ n h[n] (List.getElem?_eq_getElem hn')
  rw [ha] at e1
  cases e1
  have e : Ext H α (upd H a o) α := Ext.set ma x.some
  refine ⟨by simpa using s.len, s.nd, fun a m z => s.hid a m (e.dom a z), x.tabs s.tab, s.sep, fun m ob q => ?_⟩
  by_cases hm : n = m
  · subst hm
    rw [List.getElem?_set_self hn'] at q
    cases q
    exact ⟨a, ha, r⟩
  · rw [List.getElem?_set_ne hm] at q
    obtain ⟨b, eb, x⟩ := s.at_ m ob q
    refine ⟨b, eb, x.mono e ?_⟩
    rw [upd_ne]; intro z; subst z
    exact hm ((List.getElem?_inj (List.getElem?_eq_some_iff.mp ha).1 s.nd).mp (ha.trans eb.symm))
theorem StR.set (s : StR G h α H) {n : Nat} {a : Addr} {ws : List W} {vs : List V} (ha : α[n]? = some a) (hn : H a ≠ none) (r : Reps G H α ws vs) : StR G (h.set n (.lst ws)) α (upd H a (.lst vs)) :=
  s.setO ha ⟨vs, upd_same, r.mono (Ext.set (List.mem_of_getElem? ha) hn)⟩
theorem StR.list (s : StR G h α H) {n : Nat} {ws : List W} (q : listAt h n = some ws) : ∃ a vs, α[n]? = some a ∧ H a = some (.lst vs) ∧ Reps G H α ws vs := by
  unfold listAt at q
  cases e : h[n]? with
  | none => rw [e] at q; cases q
  | some ob =>
    rw [e] at q
    cases ob with
    | ins c fs => cases q
    | lst ws' =>
      cases q
      obtain ⟨a, ea, vs, h1, h2⟩ := s.at_ n _ e
      exact ⟨a, vs, ea, h1, h2⟩
theorem StR.ins (s : StR G h α H) {n : Nat} {c : Str} {fs : List (Str × W)} (q : insAt h (.loc n) = some (c, fs)) : ∃ a dx gs, α[n]? = some a ∧ H a = some (.ins (Tabl.C c) dx gs) ∧ gs.map (fun p => p.1) = fs.map (fun p => p.1) ∧ Reps G H α (fs.map fun p => p.2) (gs.map fun p => p.2) := by
  have q : (match h[n]? with | some (.ins c fs) => some (c, fs) | _ => none) = some (c, fs) := q
  cases e : h[n]? with
  | none => rw [e] at q; cases q
  | some ob =>
    rw [e] at q
    cases ob with
    | lst ws => cases q
    | ins c' fs' =>
      cases q
      obtain ⟨a, ea, dx, gs, h1, h2, h3⟩ := s.at_ n _ e
      exact ⟨a, dx, gs, ea, h1, h2, h3⟩
end
mutual
theorem Rep.low {G : Gx} {H : Hp} {α β : List Addr} : ∀ {w : W} {v : V}, Rep G H (α ++ β) w v → W.lowr α.length w = true → Rep G H α w v
  | _, _, .non, _ => .non
  | _, _, .bl b, _ => .bl b
  | _, _, .int i, _ => .int i
  | _, _, .str x, _ => .str x
  | _, _, .rs w, _ => .rs w
  | _, _, .tup h d n r, q => .tup h d ⟨n.1, fun m => n.2 (List.mem_append_left _ m)⟩ (Reps.low r (by simpa [W.lowr] using q))
  | _, _, .lst h n r, q => .lst h ⟨n.1, fun m => n.2 (List.mem_append_left _ m)⟩ (Reps.low r (by simpa [W.lowr] using q))
  | _, _, .pr _ _ _, q => absurd q (by simp [W.lowr])
  | _, _, .fr h n r, q => .fr h ⟨n.1, fun m => n.2 (List.mem_append_left _ m)⟩ (Reps.low r (by simpa [W.lowr] using q))
  | _, _, .loc (n := n) h, q => .loc (by
      have l : n < α.length := by simpa [W.lowr] using q
      rw [List.getElem?_append_left l] at h; exact h)
  | _, _, .emp h n, _ => .emp h ⟨n.1, fun m => n.2 (List.mem_append_left _ m)⟩
  | _, _, .dk h n r, q => .dk h ⟨n.1, fun m => n.2 (List.mem_append_left _ m)⟩ (Rep.low r (by simpa [W.lowr] using q))
theorem Reps.low {G : Gx} {H : Hp} {α β : List Addr} : ∀ {ws : List W} {vs : List V}, Reps G H (α ++ β) ws vs → W.lowrs α.length ws = true → Reps G H α ws vs
  | _, _, .nil, _ => .nil
  | _, _, .cons h r, q => by
    have q' := Bool.and_eq_true_iff.mp (show (W.lowr α.length _ && W.lowrs α.length _) = true from q)
    exact .cons (Rep.low h q'.1) (Reps.low r q'.2)
end
/-- the store hidden, for a call that names none of it -/
def Gx.hide (G : Gx) (α : List Addr) : Gx := ⟨fun a => G.φ a ∨ a ∈ α⟩
mutual
theorem Rep.hide {G : Gx} {H : Hp} {α : List Addr} : ∀ {w : W} {v : V}, Rep G H α w v → W.lowr 0 w = true → Rep (G.hide α) H [] w v
  | _, _, .non, _ => .non
  | _, _, .bl b, _ => .bl b
  | _, _, .int i, _ => .int i
  | _, _, .str x, _ => .str x
  | _, _, .rs w, _ => .rs w
  | _, _, .tup h d n r, q => .tup h d ⟨fun z => z.elim n.1 n.2, by simp⟩ (Reps.hide r (by simpa [W.lowr] using q))
  | _, _, .lst h n r, q => .lst h ⟨fun z => z.elim n.1 n.2, by simp⟩ (Reps.hide r (by simpa [W.lowr] using q))
  | _, _, .pr _ _ _, q => absurd q (by simp [W.lowr])
  | _, _, .fr h n r, q => .fr h ⟨fun z => z.elim n.1 n.2, by simp⟩ (Reps.hide r (by simpa [W.lowr] using q))
  | _, _, .loc h, q => by simp [W.lowr] at q
  | _, _, .emp h n, _ => .emp h ⟨fun z => z.elim n.1 n.2, by simp⟩
  | _, _, .dk h n r, q => .dk h ⟨fun z => z.elim n.1 n.2, by simp⟩ (Rep.hide r (by simpa [W.lowr] using q))
theorem Reps.hide {G : Gx} {H : Hp} {α : List Addr} : ∀ {ws : List W} {vs : List V}, Reps G H α ws vs → W.lowrs 0 ws = true → Reps (G.hide α) H [] ws vs
  | _, _, .nil, _ => .nil
  | _, _, .cons h r, q => by
    have q' := Bool.and_eq_true_iff.mp (show (W.lowr 0 _ && W.lowrs 0 _) = true from q)
    exact .cons (Rep.hide h q'.1) (Reps.hide r q'.2)
end
mutual
theorem Rep.unhide {G : Gx} {H : Hp} {α β : List Addr} : ∀ {w : W} {v : V}, Rep (G.hide α) H β w v → W.lowr 0 w = true → Rep G H α w v
  | _, _, .non, _ => .non
  | _, _, .bl b, _ => .bl b
  | _, _, .int i, _ => .int i
  | _, _, .str x, _ => .str x
  | _, _, .rs w, _ => .rs w
  | _, _, .tup h d n r, q => .tup h d ⟨fun z => n.1 (.inl z), fun z => n.1 (.inr z)⟩ (Reps.unhide r (by simpa [W.lowr] using q))
  | _, _, .lst h n r, q => .lst h ⟨fun z => n.1 (.inl z), fun z => n.1 (.inr z)⟩ (Reps.unhide r (by simpa [W.lowr] using q))
  | _, _, .pr _ _ _, q => absurd q (by simp [W.lowr])
  | _, _, .fr h n r, q => .fr h ⟨fun z => n.1 (.inl z), fun z => n.1 (.inr z)⟩ (Reps.unhide r (by simpa [W.lowr] using q))
  | _, _, .loc h, q => by simp [W.lowr] at q
  | _, _, .emp h n, _ => .emp h ⟨fun z => n.1 (.inl z), fun z => n.1 (.inr z)⟩
  | _, _, .dk h n r, q => .dk h ⟨fun z => n.1 (.inl z), fun z => n.1 (.inr z)⟩ (Rep.unhide r (by simpa [W.lowr] using q))
theorem Reps.unhide {G : Gx} {H : Hp} {α β : List Addr} : ∀ {ws : List W} {vs : List V}, Reps (G.hide α) H β ws vs → W.lowrs 0 ws = true → Reps G H α ws vs
  | _, _, .nil, _ => .nil
  | _, _, .cons h r, q => by
    have q' := Bool.and_eq_true_iff.mp (show (W.lowr 0 _ && W.lowrs 0 _) = true from q)
    exact .cons (Rep.unhide h q'.1) (Reps.unhide r q'.2)
end
section
variable {G : Gx} {h h' : Hs} {α α' : List Addr} {H H' : Hp}
theorem StR.hide (s : StR G h α H) : StR (G.hide α) [] [] H := by
  refine ⟨rfl, List.nodup_nil, fun a m => ?_, s.tab, fun _ h => (nomatch h), fun n ob q => by simp at q⟩
  · rcases m with m | m
    · exact s.hid a m
    · obtain ⟨n, hn, e⟩ := List.mem_iff_getElem.mp m
      obtain ⟨b, q, x⟩ := s.at_ n (h[n]'(by rw [← s.len]; exact hn)) (List.getElem?_eq_getElem _)
      rw [List.getElem?_eq_getElem hn, e] at q
      cases q
      exact x.some
/-- behind a call that was shown none of the store -/
theorem Ext.unhide {β : List Addr} (e : Ext H [] H' β) : Ext H α H' α := ⟨⟨[], by simp, fun _ h => nomatch h⟩, fun a o q _ t => e.keep a o q (by simp) t, e.dom⟩
theorem StR.unhide {β : List Addr} (s : StR G h α H) (e : Ext H [] H' β) (t : LamX.Tabs Tabl.T H') : StR G h α H' := by
  refine ⟨s.len, s.nd, fun a m z => s.hid a m (e.dom a z), t, s.sep, fun n ob q => ?_⟩
  obtain ⟨a, ea, x⟩ := s.at_ n ob q
  refine ⟨a, ea, x.mono (Ext.unhide e) ?_⟩
  cases ob with
  | lst ws =>
    obtain ⟨vs, z, _⟩ := x
    rw [z]; exact e.keep a _ z (by simp) fun _ z => nomatch z
  | ins c fs =>
    obtain ⟨dx, gs, z, _⟩ := x
    rw [z]; exact e.keep a _ z (by simp) fun _ z => nomatch z
theorem Ob.low {β : List Addr} {a : Addr} {ob : Ob} (x : ObR G H (α ++ β) a ob) (q : Ob.lowr α.length ob = true) : ObR G H α a ob := by
  cases ob with
  | lst ws =>
    obtain ⟨vs, z, r⟩ := x
    exact ⟨vs, z, Reps.low r q⟩
  | ins c fs =>
    obtain ⟨dx, gs, z, k, r⟩ := x
    exact ⟨dx, gs, z, k, Reps.low r q⟩
/-- behind a call whose new objects nobody names -/
theorem StR.cut {β : List Addr} (s0 : StR G h α H) (s : StR G h' (α ++ β) H') (e : Ext H α H' (α ++ β)) (q : (h'.take h.length).all (Ob.lowr h.length) = true) (l : h.length ≤ h'.length) : StR G (h'.take h.length) α H' := by
  refine ⟨by rw [List.length_take, s0.len]; omega, s0.nd, s.hid, s.tab, s0.sep, fun n ob z => ?_⟩
  have hn : n < h.length := by
    have := (List.getElem?_eq_some_iff.mp z).1
    rw [List.length_take] at this; omega
  have z' : h'[n]? = some ob := by rw [List.getElem?_take_of_lt hn] at z; exact z
  obtain ⟨a, ea, x⟩ := s.at_ n ob z'
  rw [List.getElem?_append_left (by rw [s0.len]; exact hn)] at ea
  refine ⟨a, ea, Ob.low x ?_⟩
  rw [s0.len]
  exact List.all_eq_true.mp q ob (List.mem_of_getElem? z)
theorem Ext.cut {β : List Addr} (s0 : StR G h α H) (e : Ext H α H' (α ++ β)) : Ext H α H' α := ⟨⟨[], by simp, fun _ h => nomatch h⟩, e.keep, e.dom⟩
end
/-- more is hidden, but nothing that stood -/
def Gx.le (G G' : Gx) (H : Hp) : Prop := ∀ a, G'.φ a → G.φ a ∨ H a = none
theorem Gx.le_refl (G : Gx) (H : Hp) : G.le G H := fun _ h => .inl h
mutual
theorem Rep.inG {G G' : Gx} {H : Hp} {α : List Addr} (g : G.le G' H) : ∀ {w : W} {v : V}, Rep G H α w v → Rep G' H α w v
  | _, _, .non => .non
  | _, _, .bl b => .bl b
  | _, _, .int i => .int i
  | _, _, .str x => .str x
  | _, _, .rs w => .rs w
  | _, _, .tup h d n r => .tup h d ⟨fun z => (g _ z).elim n.1 (fun z => by rw [h] at z; cases z), n.2⟩ (Reps.inG g r)
  | _, _, .lst h n r => .lst h ⟨fun z => (g _ z).elim n.1 (fun z => by rw [h] at z; cases z), n.2⟩ (Reps.inG g r)
  | _, _, .pr h n r => .pr h ⟨fun z => (g _ z).elim n.1 (fun z => by rw [h] at z; cases z), n.2⟩ (Reps.inG g r)
  | _, _, .fr h n r => .fr h ⟨fun z => (g _ z).elim n.1 (fun z => by rw [h] at z; cases z), n.2⟩ (Reps.inG g r)
  | _, _, .loc h => .loc h
  | _, _, .emp h n => .emp h ⟨fun z => (g _ z).elim n.1 (fun z => by rw [h] at z; cases z), n.2⟩
  | _, _, .dk h n r => .dk h ⟨fun z => (g _ z).elim n.1 (fun z => by rw [h] at z; cases z), n.2⟩ (Rep.inG g r)
theorem Reps.inG {G G' : Gx} {H : Hp} {α : List Addr} (g : G.le G' H) : ∀ {ws : List W} {vs : List V}, Reps G H α ws vs → Reps G' H α ws vs
  | _, _, .nil => .nil
  | _, _, .cons h r => .cons (Rep.inG g h) (Reps.inG g r)
end
/-- a list of our own beside -/
def Gx.plus (G : Gx) (D : Addr) : Gx := ⟨fun a => G.φ a ∨ a = D⟩
theorem Gx.le_plus (G : Gx) {D : Addr} {H : Hp} (h : H D = none) : G.le (G.plus D) H := fun a q => q.imp id fun e => by rw [e]; exact h
mutual
theorem Rep.minus {G : Gx} {H : Hp} {α : List Addr} {D : Addr} : ∀ {w : W} {v : V}, Rep (G.plus D) H α w v → Rep G H α w v
  | _, _, .non => .non
  | _, _, .bl b => .bl b
  | _, _, .int i => .int i
  | _, _, .str x => .str x
  | _, _, .rs w => .rs w
  | _, _, .tup h d n r => .tup h d ⟨fun z => n.1 (.inl z), n.2⟩ (Reps.minus r)
  | _, _, .lst h n r => .lst h ⟨fun z => n.1 (.inl z), n.2⟩ (Reps.minus r)
  | _, _, .pr h n r => .pr h ⟨fun z => n.1 (.inl z), n.2⟩ (Reps.minus r)
  | _, _, .fr h n r => .fr h ⟨fun z => n.1 (.inl z), n.2⟩ (Reps.minus r)
  | _, _, .loc h => .loc h
  | _, _, .emp h n => .emp h ⟨fun z => n.1 (.inl z), n.2⟩
  | _, _, .dk h n r => .dk h ⟨fun z => n.1 (.inl z), n.2⟩ (Rep.minus r)
theorem Reps.minus {G : Gx} {H : Hp} {α : List Addr} {D : Addr} : ∀ {ws : List W} {vs : List V}, Reps (G.plus D) H α ws vs → Reps G H α ws vs
  | _, _, .nil => .nil
  | _, _, .cons h r => .cons (Rep.minus h) (Reps.minus r)
end
mutual
theorem Rep.updD {G : Gx} {H : Hp} {α : List Addr} {D : Addr} {o : HO} (hD : G.φ D) : ∀ {w : W} {v : V}, Rep G H α w v → Rep G (upd H D o) α w v
  | _, _, .non => .non
  | _, _, .bl b => .bl b
  | _, _, .int i => .int i
  | _, _, .str x => .str x
  | _, _, .rs w => .rs w
  | _, _, .tup h d n r => .tup (by rw [upd_ne fun e => n.1 (by rw [e]; exact hD)]; exact h) d n (Reps.updD hD r)
  | _, _, .lst h n r => .lst (by rw [upd_ne fun e => n.1 (by rw [e]; exact hD)]; exact h) n (Reps.updD hD r)
  | _, _, .pr h n r => .pr (by rw [upd_ne fun e => n.1 (by rw [e]; exact hD)]; exact h) n (Reps.updD hD r)
  | _, _, .fr h n r => .fr (by rw [upd_ne fun e => n.1 (by rw [e]; exact hD)]; exact h) n (Reps.updD hD r)
  | _, _, .loc h => .loc h
  | _, _, .emp h n => .emp (by rw [upd_ne fun e => n.1 (by rw [e]; exact hD)]; exact h) n
  | _, _, .dk h n r => .dk (by rw [upd_ne fun e => n.1 (by rw [e]; exact hD)]; exact h) n (Rep.updD hD r)
theorem Reps.updD {G : Gx} {H : Hp} {α : List Addr} {D : Addr} {o : HO} (hD : G.φ D) : ∀ {ws : List W} {vs : List V}, Reps G H α ws vs → Reps G (upd H D o) α ws vs
  | _, _, .nil => .nil
  | _, _, .cons h r => .cons (Rep.updD hD h) (Reps.updD hD r)
end
section
variable {G G' : Gx} {h : Hs} {α : List Addr} {H : Hp} {D : Addr} {o : HO} {ρ : Env} {σ : L2.St}
theorem StR.updD {xs : List V} (s : StR G h α H) (hD : G.φ D) (hl : H D = some (.lst xs)) : StR G h α (upd H D o) := by
  refine ⟨s.len, s.nd, fun a m z => ?_, tabs_upd s.tab hl, s.sep, fun n ob q => ?_⟩
  · by_cases e : a = D
    · subst e; rw [upd_same] at z; cases z
    · rw [upd_ne e] at z; exact s.hid a m z
  · obtain ⟨a, ea, x⟩ := s.at_ n ob q
    refine ⟨a, ea, ?_⟩
    have ne : a ≠ D := fun e => s.sep a (List.mem_of_getElem? ea) (by rw [e]; exact hD)
    cases ob with
    | lst ws =>
      obtain ⟨vs, z, r⟩ := x
      exact ⟨vs, by rw [upd_ne ne]; exact z, r.updD hD⟩
    | ins c fs =>
      obtain ⟨dx, gs, z, k, r⟩ := x
      exact ⟨dx, gs, by rw [upd_ne ne]; exact z, k, r.updD hD⟩
theorem EnvR.updD (s : EnvR G ρ α σ H) (hD : G.φ D) : EnvR G ρ α σ (upd H D o) := ⟨s.1, fun i w q => let ⟨v, a, b⟩ := s.2 i w q; ⟨v, a, b.updD hD⟩⟩
theorem EnvR.inG (g : G.le G' H) (s : EnvR G ρ α σ H) : EnvR G' ρ α σ H := ⟨s.1, fun i w q => let ⟨v, a, b⟩ := s.2 i w q; ⟨v, a, b.inG g⟩⟩
/-- the store beside a new list of our own -/
theorem StR.plus (s : StR G h α H) (hn : H D = none) : StR (G.plus D) h α (upd H D o) := by
  have nD := s.fresh hn
  refine ⟨s.len, s.nd, fun a m z => ?_, tabs_new s.tab hn, fun a m z => z.elim (s.sep a m) (fun e => nD (by rw [← e]; exact m)), fun n ob q => ?_⟩
  · by_cases e : a = D
    · subst e; rw [upd_same] at z; cases z
    · rw [upd_ne e] at z; exact s.hid a (m.resolve_right e) z
  · obtain ⟨a, ea, x⟩ := s.at_ n ob q
    refine ⟨a, ea, ?_⟩
    have ne : a ≠ D := fun e => nD (by rw [← e]; exact List.mem_of_getElem? ea)
    cases ob with
    | lst ws =>
      obtain ⟨vs, z, r⟩ := x
      exact ⟨vs, by rw [upd_ne ne]; exact z, (r.inG (G.le_plus hn)).updD (Or.inr rfl : G.φ D ∨ D = D)⟩
    | ins c fs =>
      obtain ⟨dx, gs, z, k, r⟩ := x
      exact ⟨dx, gs, by rw [upd_ne ne]; exact z, k, (r.inG (G.le_plus hn)).updD (Or.inr rfl : G.φ D ∨ D = D)⟩
theorem StR.minus (s : StR (G.plus D) h α H) : StR G h α H := by
  refine ⟨s.len, s.nd, fun a m => s.hid a (.inl m), s.tab, fun a m z => s.sep a m (.inl z), fun n ob q => ?_⟩
  obtain ⟨a, ea, x⟩ := s.at_ n ob q
  refine ⟨a, ea, ?_⟩
  cases ob with
  | lst ws =>
    obtain ⟨vs, z, r⟩ := x
    exact ⟨vs, z, r.minus⟩
  | ins c fs =>
    obtain ⟨dx, gs, z, k, r⟩ := x
    exact ⟨dx, gs, z, k, r.minus⟩
end
end RL

/-! Tuples that are laid, each with the form of its own object: no attribute of its own stands before its methods. -/
namespace RL
open PySem.Spec PySem PyProof.Rows L2
/-- a tuple whose object has no dict -/
def KT (H : Hp) (a : Addr) (vs : List V) : Prop := ∃ o : Obj, o.dict = none ∧ H a = some (.frz o (.tup vs))
theorem Rep.ktup {G : Gx} {H : Hp} {α : List Addr} {a : Addr} {vs : List V} {ws : List RL.W} (t : KT H a vs) (n : G.fz α a) (r : Reps G H α ws vs) : Rep G H α (.tup ws) (.ref a) := let ⟨_, d, h⟩ := t; .tup h d n r
theorem KT.rd {H : Hp} {a : Addr} {vs : List V} (t : KT H a vs) : Rd H a (.tup vs) := let ⟨o, _, h⟩ := t; .inr ⟨o, h⟩
theorem KT.sq {K : PySem.W.Frag} {H : Hp} {a : Addr} {vs : List V} (t : KT H a vs) : SqT K H a vs := .inl t.rd
/-- what holds of a new tuple's heap, whatever its object -/
def Lays (H : Hp) (xs : List V) (Q : VK) : Prop := ∀ (b : Addr) (o : Obj), o.dict = none → H b = none → Q (.ref b) (upd H b (.frz o (.tup xs)))
section
variable {X : Cx} {pins : List (Addr × Obj)} {σ : L2.St} {H : Hp} {s : Shared} {xs : List V} {its : List Value} {Q : VK}
/-- pushed at the heap's end -/
theorem lay_end (I : Inv X pins σ H s) (r : Vals xs its) (hz : xs.length ≤ sizeLine) (n : Nat) (q : Lays H xs Q) : EP X pins σ Q (.ref s.heap.objs.size) { s with heap := s.heap.push { cls := .type "tuple", data := .seq its.toArray n } } := by
  have at_ : (s.heap.push { cls := .type "tuple", data := .seq its.toArray n }).get? s.heap.objs.size = some { cls := .type "tuple", data := .seq its.toArray n } := Heap.get?_push_size _ rfl
  have new : Inv X pins σ (upd H s.heap.objs.size (.frz { cls := .type "tuple", data := .seq its.toArray n } (.tup xs))) { s with heap := s.heap.push { cls := .type "tuple", data := .seq its.toArray n } } :=
    I.laid (t' := s.toks) (fun _ _ e => Heap.get?_push_of_some _ e) (Nat.le_refl _) ⟨at_, hz, its, r, ⟨_, at_, rfl, n, rfl⟩⟩
  exact ⟨.ref s.heap.objs.size, _, new, rfl, q _ _ rfl (I.hok.fresh (Nat.le_refl _))⟩
end
/-- a written tuple -/
def tTupK (t : TA) : TE := fun σ H Q => t σ H fun xs H1 => xs.length ≤ sizeLine ∧ Lays H1 xs Q
section
variable {X : Cx} {e : Expr} {es : List Expr} {t : TA} {pos p : Pos} {k : Nat}
theorem pe_tupK (h : PA X es t) : PE X (.Tuple es k pos) (tTupK t) := by
  constructor
  intro pins s σ H Q I hq
  refine wpAny_Tuple_spliced (thn (h.run pos pins s σ H _ I hq) ?_)
  intro us s1 z
  obtain ⟨xs, H1, I1, r, hz, q⟩ := z
  refine ⟨?_, lay_end I1 r hz _ q⟩
  rw [← r.length]
  exact hz
/-- tuple(..) of a list, of a tuple (the same) -/
theorem call_tupleK : CallR X (.type "tuple") (fun xs H Q => ∃ p ys, xs = [.ref p] ∧ ((SqL X.K H p ys ∧ Lays H ys Q) ∨ (SqT X.K H p ys ∧ Q (.ref p) H))) := by
  (intro pins s σ H xs us Q I r h)
  obtain ⟨a, ys, rfl, hs | hs⟩ := h
  · obtain ⟨u, rfl, ru⟩ := vals1 r
    cases ru
    obtain ⟨hq, q⟩ := hs
    obtain ⟨its, rv, pl, hz⟩ := (I.list hq)
    have line : its.toArray.size ≤ sizeLine := by
      rw [List.size_toArray, ← rv.length]
      exact hz
    refine call_tuple_list pl.isList (fun g kp => ?_) line
    exact lay_end (s := { s with heap := g }) (I.kept (t' := s.toks) kp) rv hz _ q
  · exact call_tuple_of pins s σ H _ us Q I r ⟨a, ys, rfl, .inr hs⟩
/-- tuple(range(..)) -/
def tTupRgK (te : L2.St → Hp → (Int → Int → Hp → Prop) → Prop) : TE := fun σ H Q => te σ H fun a b H1 => RgOk a b ∧ Lays H1 (rgV a b) Q
theorem pe_tupRgK {te : L2.St → Hp → (Int → Int → Hp → Prop) → Prop} (hc : X.calm = true) (hg : Gl X "tuple") (hm : X.mg "tuple" = none) (he : PRg X e te) (na : starEach [e] X.env = (false, eval e X.env) :: starEach [] X.env := by rfl) : PE X (.Call (.Name "tuple" p) [e] [] pos) (tTupRgK te) := by
  constructor
  intro pins s σ H Q I h
  refine Call_ (ld_blt I hg hm boot_tuple (PyProof.Rows.callWith_type1 (args_cons (thn (he pins s σ H _ I h) ?_) na) na))
  intro x s1 z
  obtain ⟨r, a, b, t, u, v, H1, ex, hr, I1, ok, q⟩ := z
  subst ex
  refine args_nil ?_
  obtain ⟨b1, b2, b3, b4, b5⟩ := (ok)
  have line : (rgV a b).length ≤ sizeLine := by
    rw [rgV_length, sizeLine_eq]
    omega
  refine call_tuple_range (n := (b - a).toNat) (I1.ok.hd hc) hr (small_one b1 b2 b3 b4) (rangeSize_nat a b) b5 ?_
  intro g tk acc hk hi
  have w := lay_end (s := { s1 with heap := g, toks := tk }) (I1.kept hk) (vals_rg hi) line 0 q
  rw [Array.toArray_toList] at w
  exact w
/-- a part of a tuple -/
def rSlK (K : PySem.W.Frag) : V → Option Int → Option Int → Hp → VK → Prop := fun x lo hi H Q => ∃ a xs, x = .ref a ∧ SqT K H a xs ∧
  (HT.sIx xs.length 0 lo = 0 ∧ HT.sIx xs.length xs.length hi = xs.length → Q (.ref a) H) ∧ (¬ (HT.sIx xs.length 0 lo = 0 ∧ HT.sIx xs.length xs.length hi = xs.length) → Lays H (cutV xs lo hi) Q)
theorem sl_tupK : SlR X (rSlK X.K) := by
  (intro pins s σ H x v vl vu lo hi sl Q I rx hs pl pu h)
  obtain ⟨a, xs, rfl, hx, q1, q2⟩ := (h)
  by_cases whole : HT.sIx xs.length 0 lo = 0 ∧ HT.sIx xs.length xs.length hi = xs.length
  · exact sl_tupA pins s σ H _ v vl vu lo hi sl Q I rx hs pl pu ⟨a, xs, rfl, hx, q1, fun n => absurd whole n⟩
  cases rx
  obtain ⟨its, rv, ht, hz⟩ := I.tuple hx
  have len : its.toArray.size = xs.length := by rw [List.size_toArray, rv.length]
  refine ⟨"tuple", _, PyProof.Rows.slot_tuple_getitem.lookup, ht.typeIs, HT.getItem_tuple_cut ht hs pl pu (by rw [len]; exact whole) ?_ (by rw [len]; exact hz)⟩
  rw [len]
  have part := (rv.drop (HT.sIx xs.length 0 lo)).take (HT.sIx xs.length xs.length hi - HT.sIx xs.length 0 lo)
  exact lay_end I part (Nat.le_trans (cutV_length xs lo hi) hz) _ (q2 whole)
/-- one tuple behind another -/
def rCatK (K : PySem.W.Frag) : R2 := fun x y H Q => ∃ a b xs ys, x = .ref a ∧ y = .ref b ∧ SqT K H a xs ∧ SqT K H b ys ∧ xs.length + ys.length ≤ sizeLine ∧
  (xs = [] → Q (.ref b) H) ∧ (xs ≠ [] → ys = [] → Q (.ref a) H) ∧ (xs ≠ [] → ys ≠ [] → Lays H (xs ++ ys) Q)
theorem op_catK : OpR X (binaryOp .Add) (rCatK X.K) := by
  (intro pins s σ H x y v u Q I rx ry h)
  obtain ⟨a, b, xs, ys, rfl, rfl, ha, hb, hz, q0, q1, q2⟩ := (h)
  by_cases n1 : xs = []
  · exact op_catA pins s σ H _ _ v u Q I rx ry ⟨a, b, xs, ys, rfl, rfl, ha, hb, hz, q0, q1, fun z => absurd n1 z⟩
  by_cases n2 : ys = []
  · exact op_catA pins s σ H _ _ v u Q I rx ry ⟨a, b, xs, ys, rfl, rfl, ha, hb, hz, q0, q1, fun _ z => absurd n2 z⟩
  cases rx
  cases ry
  obtain ⟨us, r1, t1, _⟩ := I.tuple ha
  obtain ⟨ws, r2, t2, _⟩ := I.tuple hb
  have line : us.length + ws.length ≤ sizeLine := by
    rw [← r1.length, ← r2.length]
    exact hz
  refine HT.cat_tup t1 t2 (fun z => n1 (r1.nil_iff.mp z)) (fun z => absurd (r2.nil_iff.mp z) n2) (fun _ => ?_) line
  exact lay_end I (r1.append r2) (by rw [List.length_append]; exact hz) _ (q2 n1 n2)
end
end RL

/-! Readings by the small evaluator. -/
namespace RL
open PySem.Spec PySem PyProof.Rows L2
variable [Tabl]
theorem PE.weak {X : Cx} {e : Expr} {t t' : TE} (p : PE X e t) (h : ∀ σ H Q, t' σ H Q → t σ H Q) : PE X e t' :=
  ⟨fun pins s σ H Q I q => thn (p.run pins s σ H _ I (h σ H Q q)) fun u s' z => z⟩
theorem PT.weak {X : Cx} {e : Expr} {t t' : TT} (p : PT X e t) (h : ∀ σ H Q, t' σ H Q → t σ H Q) : PT X e t' :=
  ⟨fun pins s σ H Q I q => thn (p.run pins s σ H _ I (h σ H Q q)) fun u s' z => z⟩
theorem PA.weak {X : Cx} {e : List Expr} {t t' : TA} (p : PA X e t) (h : ∀ σ H Q, t' σ H Q → t σ H Q) : PA X e t' :=
  ⟨fun pos pins s σ H Q I q => thn (p.run pos pins s σ H _ I (h σ H Q q)) fun u s' z => z⟩
/-- the exceptions' classes as values -/
abbrev Cv := Str → Value
/-- what is asked of an outcome -/
def Post {β γ : Type} (G : Gx) (cv : Cv) (W : WX) (σ : L2.St) (rel : List Addr → Hp → β → γ → Prop) (r : R β) (α : List Addr) (H : Hp) (Q : γ → Hp → Prop) : Prop :=
  match r with
  | .ok b h' => ∀ α' H' c, Ext H α H' α' → StR G h' α' H' → rel α' H' b c → Q c H'
  | .ex e h' => ∀ α' H', Ext H α H' α' → StR G h' α' H' → W (cv e) none σ H'
  | .bad => False
section
variable {β β' γ γ' : Type} {G : Gx} {cv : Cv} {W : WX} {σ : L2.St} {rel : List Addr → Hp → β → γ → Prop} {rel' : List Addr → Hp → β' → γ' → Prop} {r : R β} {α α1 : List Addr} {H H1 : Hp} {Q : γ → Hp → Prop} {Q' : γ' → Hp → Prop}
theorem Post.base (e : Ext H α H1 α1) (p : Post G cv W σ rel r α H Q) : Post G cv W σ rel r α1 H1 Q := by
  cases r with
  | ok b h => exact fun α' H' c e' => p α' H' c (e.trans e')
  | ex c h => exact fun α' H' e' => p α' H' (e.trans e')
  | bad => exact p
theorem Post.bind {f : β → Hs → R β'} (p : Post G cv W σ rel' (r.bind f) α H Q')
    (step : ∀ b h' α' H' c, Ext H α H' α' → StR G h' α' H' → rel α' H' b c → Post G cv W σ rel' (f b h') α' H' Q' → Q c H') : Post G cv W σ rel r α H Q := by
  cases r with
  | ok b h => exact fun α' H' c e s q => step b h α' H' c e s q (Post.base e p)
  | ex c h => exact fun α' H' e s => p α' H' e s
  | bad => exact p
theorem Post.ok {b : β} {h : Hs} {c : γ} (p : Post G cv W σ rel (.ok b h) α H Q) (s : StR G h α H) (q : rel α H b c) : Q c H := p α H c (Ext.refl _ _) s q
theorem Post.ok' {b : β} {h : Hs} {c : γ} (p : Post G cv W σ rel (.ok b h) α H Q) (e : Ext H α H1 α1) (s : StR G h α1 H1) (q : rel α1 H1 b c) : Q c H1 := p α1 H1 c e s q
end
abbrev relW (G : Gx) : List Addr → Hp → RL.W → V → Prop := fun α H w v => Rep G H α w v
abbrev relWs (G : Gx) : List Addr → Hp → List RL.W → List V → Prop := fun α H ws vs => Reps G H α ws vs
abbrev relE {β : Type} : List Addr → Hp → β → β → Prop := fun _ _ b c => b = c
/-- an expression's reading by an outcome -/
def tR (cv : Cv) (W : WX) (f : Env → Hs → R RL.W) : TE := fun σ H Q => ∃ G ρ h α, EnvR G ρ α σ H ∧ StR G h α H ∧ Post G cv W σ (relW G) (f ρ h) α H Q
def tRT (cv : Cv) (W : WX) (f : Env → Hs → R Bool) : TT := fun σ H Q => ∃ G ρ h α, EnvR G ρ α σ H ∧ StR G h α H ∧ Post G cv W σ relE (f ρ h) α H Q
def tRA (cv : Cv) (W : WX) (f : Env → Hs → R (List RL.W)) : TA := fun σ H Q => ∃ G ρ h α, EnvR G ρ α σ H ∧ StR G h α H ∧ Post G cv W σ (relWs G) (f ρ h) α H Q
/-- a test by a value -/
abbrev asT (f : Env → Hs → R RL.W) : Env → Hs → R Bool := fun ρ h => (f ρ h).bind fun x h => R.of (asBl x) h
theorem asBl_some {x : RL.W} {b : Bool} (h : asBl x = some b) : x = .bl b := by
  cases x <;> simp [asBl] at h
  rw [h]
theorem asInt_some {x : RL.W} {b : Int} (h : asInt x = some b) : x = .int b := by
  cases x <;> simp [asInt] at h
  rw [h]
theorem Rep.of_bl {G : Gx} {H : Hp} {α : List Addr} {b : Bool} {v : V} (r : Rep G H α (.bl b) v) : v = .bl b := by cases r; rfl
theorem Rep.of_int {G : Gx} {H : Hp} {α : List Addr} {b : Int} {v : V} (r : Rep G H α (.int b) v) : v = .int b := by cases r; rfl
theorem Rep.of_str {G : Gx} {H : Hp} {α : List Addr} {b : Str} {v : V} (r : Rep G H α (.str b) v) : v = .str b := by cases r; rfl
theorem Rep.of_non {G : Gx} {H : Hp} {α : List Addr} {v : V} (r : Rep G H α .non v) : v = .non := by cases r; rfl

/-! ### expressions, one by one -/
section
variable {X : Cx} {G : Gx} {cv : Cv} {W : WX} {cf : CF}
theorem sd_v {i : Nat} {x : Str} {pos : Pos} (hN : X.N[i]? = some x) (hv : Vis X.env.scope x) (hd : (x == ("__debug__" : Str)) = false) (hcd : (x == ("__classdict__" : Str)) = false) :
    PE X (.Name x pos) (tR cv W (evE cf (.v i))) := by
  refine PE.weak (pe_var (i := i) hN hv hd hcd) fun σ H Q ⟨G, ρ, h, α, er, sr, p⟩ => ?_
  simp only [evE] at p
  split at p
  · rename_i w e
    obtain ⟨v, e1, r⟩ := er.2 i w e
    exact ⟨v, e1, p.ok sr r⟩
  · exact p.elim
theorem sd_c {w : RL.W} {c : Const} {j : Nat} {pos : Pos} (hc : (match c, w with | .none, .non => True | .bool a, .bl b => a = b | .int a, .int b => a = b | .str a, .str b => a = b | _, _ => False)) :
    PE X (.Constant c j pos) (tR cv W (evE cf (.c w))) := by
  cases c <;> cases w <;> try exact hc.elim
  · exact PE.weak pe_non fun σ H Q ⟨G, ρ, h, α, er, sr, p⟩ => p.ok sr .non
  · subst hc; exact PE.weak pe_bl fun σ H Q ⟨G, ρ, h, α, er, sr, p⟩ => p.ok sr (.bl _)
  · subst hc; exact PE.weak pe_int fun σ H Q ⟨G, ρ, h, α, er, sr, p⟩ => p.ok sr (.int _)
  · subst hc; exact PE.weak pe_str fun σ H Q ⟨G, ρ, h, α, er, sr, p⟩ => p.ok sr (.str _)
theorem sd_g {x : Str} {w : RL.W} {v : V} {u : Value} {pos : Pos} (hg : Gl X x) (hm : X.mg x = some u) (r : RelV v u) (hw : ∀ G H α, Rep G H α w v) (hd : (x == ("__debug__" : Str)) = false) :
    PE X (.Name x pos) (tR cv W (evE cf (.g x w))) :=
  PE.weak (pe_glob hg hm r hd) fun σ H Q ⟨G, ρ, h, α, er, sr, p⟩ => p.ok sr (hw G H α)
/-- a two-place operation's reading by the evaluator -/
def rOp (f : RL.W → RL.W → Hs → Option RL.W) : R2 := fun x y H Q => ∃ G w u h α z, Rep G H α w x ∧ Rep G H α u y ∧ StR G h α H ∧ f w u h = some z ∧
  ∀ v H', Ext H α H' α → StR G h α H' → Rep G H' α z v → Q v H'
theorem sd_bin {a b : Expr} {ia ib : E} {op : Operator} {iop : Bop} {pos : Pos} (ho : OpR X (binaryOp op) (rOp (bop iop))) (ha : PE X a (tR cv W (evE cf ia))) (hb : PE X b (tR cv W (evE cf ib))) :
    PE X (.BinOp a op b pos) (tR cv W (evE cf (.bin iop ia ib))) := by
  refine PE.weak (pe_op ho ha hb) fun σ H Q ⟨G, ρ, h, α, er, sr, p⟩ => ?_
  simp only [evE] at p
  refine ⟨G, ρ, h, α, er, sr, p.bind fun x h1 α1 H1 c e1 s1 r1 p1 => ?_⟩
  refine ⟨G, ρ, h1, α1, er.mono e1, s1, p1.bind fun y h2 α2 H2 d e2 s2 r2 p2 => ?_⟩
  cases q : bop iop x y h2 with
  | none => rw [q] at p2; exact p2.elim
  | some z =>
    rw [q] at p2
    exact ⟨G, x, y, h2, α2, z, r1.mono e2, r2, s2, q, fun v H' e' s' r' => p2.ok' e' s' r'⟩
theorem sd_neg {a : Expr} {ia : E} {pos : Pos} (ha : PE X a (tR cv W (evE cf ia))) : PE X (.UnaryOp .USub a pos) (tR cv W (evE cf (.neg ia))) := by
  refine PE.weak (pe_un un_neg ha) fun σ H Q ⟨G, ρ, h, α, er, sr, p⟩ => ?_
  simp only [evE] at p
  refine ⟨G, ρ, h, α, er, sr, p.bind fun x h1 α1 H1 c e1 s1 r1 p1 => ?_⟩
  cases q : asInt x with
  | none => rw [q] at p1; exact p1.elim
  | some i =>
    rw [q] at p1
    have := asInt_some q; subst this
    exact ⟨i, r1.of_int, p1.ok s1 (.int _)⟩
theorem sd_not {a : Expr} {ia : E} {pos : Pos} (ha : PT X a (tRT cv W (asT (evE cf ia)))) : PT X (.UnaryOp .Not a pos) (tRT cv W (asT (evE cf (.not ia)))) := by
  refine PT.weak (pt_not ha) fun σ H Q ⟨G, ρ, h, α, er, sr, p⟩ => ?_
  simp only [asT, evE] at p
  refine ⟨G, ρ, h, α, er, sr, ?_⟩
  show Post G cv W σ relE ((evE cf ia ρ h).bind fun x h => R.of (asBl x) h) α H _
  cases q : evE cf ia ρ h with
  | bad => rw [q] at p; exact p
  | ex c h' => rw [q] at p; exact p
  | ok x h' =>
    rw [q] at p
    simp only [R.bind] at p ⊢
    cases q2 : asBl x with
    | none => rw [q2] at p; exact p
    | some b =>
      rw [q2] at p
      simp only [Option.map_some, R.of, asBl] at p ⊢
      exact fun α' H' c e s z => by subst z; exact p α' H' _ e s rfl
theorem sd_notv {a : Expr} {ia : E} {pos : Pos} (ha : PE X a (tR cv W (evE cf ia))) : PE X (.UnaryOp .Not a pos) (tR cv W (evE cf (.not ia))) := by
  refine PE.weak (pe_not ha) fun σ H Q ⟨G, ρ, h, α, er, sr, p⟩ => ?_
  simp only [evE] at p
  refine ⟨G, ρ, h, α, er, sr, p.bind fun x h1 α1 H1 c e1 s1 r1 p1 => ?_⟩
  cases q : asBl x with
  | none => rw [q] at p1; exact p1.elim
  | some b =>
    rw [q] at p1
    have := asBl_some q; subst this
    exact ⟨b, r1.of_bl, p1.ok s1 (.bl _)⟩
/-- a value as a test -/
theorem sd_val {e : Expr} {ie : E} (ha : PE X e (tR cv W (evE cf ie))) (he : ∀ whole, isTrue e X.env whole = (do let v ← whole; standAt e.pos; holding [v] (truthy v))) : PT X e (tRT cv W (asT (evE cf ie))) := by
  refine PT.weak (pt_val ha he) fun σ H Q ⟨G, ρ, h, α, er, sr, p⟩ => ?_
  refine ⟨G, ρ, h, α, er, sr, p.bind fun x h1 α1 H1 c e1 s1 r1 p1 => ?_⟩
  cases q : asBl x with
  | none => rw [q] at p1; exact p1.elim
  | some b =>
    rw [q] at p1
    have := asBl_some q; subst this
    exact ⟨b, r1.of_bl, p1.ok s1 rfl⟩
theorem post_bl {β γ : Type} {σ : L2.St} {x : RL.W} {h1 : Hs} {α1 : List Addr} {H1 : Hp} {Q : γ → Hp → Prop} {rel : List Addr → Hp → β → γ → Prop} {f : Bool → Hs → R β} (p1 : Post G cv W σ rel ((R.of (asBl x) h1).bind f) α1 H1 Q) :
    ∃ b, x = .bl b ∧ Post G cv W σ rel (f b h1) α1 H1 Q := by
  cases q : asBl x with
  | none => rw [q] at p1; exact p1.elim
  | some b =>
    rw [q] at p1
    exact ⟨b, asBl_some q, p1⟩
theorem sd_and {a b : Expr} {rest : List Expr} {ia ib : E} {pos : Pos} (ha : PE X a (tR cv W (evE cf ia))) (hb : PE X (.BoolOp .And (b :: rest) pos) (tR cv W (evE cf ib))) :
    PE X (.BoolOp .And (a :: b :: rest) pos) (tR cv W (evE cf (.and ia ib))) := by
  refine PE.weak (pe_and ha hb) fun σ H Q ⟨G, ρ, h, α, er, sr, p⟩ => ?_
  simp only [evE] at p
  refine ⟨G, ρ, h, α, er, sr, p.bind fun x h1 α1 H1 c e1 s1 r1 p1 => ?_⟩
  obtain ⟨k, rfl, p2⟩ := post_bl p1
  refine ⟨k, r1.of_bl, ?_⟩
  cases k with
  | true =>
    rw [if_pos rfl] at p2 ⊢
    exact ⟨G, ρ, h1, α1, er.mono e1, s1, p2⟩
  | false =>
    rw [if_neg Bool.false_ne_true] at p2 ⊢
    exact p2.ok s1 (.bl _)
theorem sd_or {a b : Expr} {rest : List Expr} {ia ib : E} {pos : Pos} (ha : PE X a (tR cv W (evE cf ia))) (hb : PE X (.BoolOp .Or (b :: rest) pos) (tR cv W (evE cf ib))) :
    PE X (.BoolOp .Or (a :: b :: rest) pos) (tR cv W (evE cf (.or ia ib))) := by
  refine PE.weak (pe_or ha hb) fun σ H Q ⟨G, ρ, h, α, er, sr, p⟩ => ?_
  simp only [evE] at p
  refine ⟨G, ρ, h, α, er, sr, p.bind fun x h1 α1 H1 c e1 s1 r1 p1 => ?_⟩
  obtain ⟨k, rfl, p2⟩ := post_bl p1
  refine ⟨k, r1.of_bl, ?_⟩
  cases k with
  | true =>
    rw [if_pos rfl] at p2 ⊢
    exact p2.ok s1 (.bl _)
  | false =>
    rw [if_neg Bool.false_ne_true] at p2 ⊢
    exact ⟨G, ρ, h1, α1, er.mono e1, s1, p2⟩
theorem asT_and {ia ib : E} {ρ : Env} {h : Hs} : asT (evE cf (.and ia ib)) ρ h = (asT (evE cf ia) ρ h).bind fun c h => if c = true then asT (evE cf ib) ρ h else .ok false h := by
  simp only [asT, evE]
  cases evE cf ia ρ h with
  | bad => rfl
  | ex _ _ => rfl
  | ok x h1 =>
    simp only [R.bind]
    cases asBl x with
    | none => rfl
    | some b => cases b <;> rfl
theorem asT_or {ia ib : E} {ρ : Env} {h : Hs} : asT (evE cf (.or ia ib)) ρ h = (asT (evE cf ia) ρ h).bind fun c h => if c = true then .ok true h else asT (evE cf ib) ρ h := by
  simp only [asT, evE]
  cases evE cf ia ρ h with
  | bad => rfl
  | ex _ _ => rfl
  | ok x h1 =>
    simp only [R.bind]
    cases asBl x with
    | none => rfl
    | some b => cases b <;> rfl
theorem sd_andT {a b : Expr} {rest : List Expr} {ia ib : E} {pos : Pos} (ha : PT X a (tRT cv W (asT (evE cf ia)))) (hb : PW X (.BoolOp .And (b :: rest) pos) (tRT cv W (asT (evE cf ib)))) :
    PW X (.BoolOp .And (a :: b :: rest) pos) (tRT cv W (asT (evE cf (.and ia ib)))) := by
  refine ⟨fun whole pins s σ H Q I ⟨G, ρ, h, α, er, sr, p⟩ => (pw_and ha hb).run whole pins s σ H Q I ?_⟩
  rw [asT_and] at p
  refine ⟨G, ρ, h, α, er, sr, p.bind fun x h1 α1 H1 c e1 s1 r1 p1 => ?_⟩
  subst r1
  cases x with
  | true =>
    rw [if_pos rfl] at p1 ⊢
    exact ⟨G, ρ, h1, α1, er.mono e1, s1, p1⟩
  | false =>
    rw [if_neg Bool.false_ne_true] at p1 ⊢
    exact p1.ok s1 rfl
theorem sd_orT {a b : Expr} {rest : List Expr} {ia ib : E} {pos : Pos} (ha : PT X a (tRT cv W (asT (evE cf ia)))) (hb : PW X (.BoolOp .Or (b :: rest) pos) (tRT cv W (asT (evE cf ib)))) :
    PW X (.BoolOp .Or (a :: b :: rest) pos) (tRT cv W (asT (evE cf (.or ia ib)))) := by
  refine ⟨fun whole pins s σ H Q I ⟨G, ρ, h, α, er, sr, p⟩ => (pw_or ha hb).run whole pins s σ H Q I ?_⟩
  rw [asT_or] at p
  refine ⟨G, ρ, h, α, er, sr, p.bind fun x h1 α1 H1 c e1 s1 r1 p1 => ?_⟩
  subst r1
  cases x with
  | true =>
    rw [if_pos rfl] at p1 ⊢
    exact p1.ok s1 rfl
  | false =>
    rw [if_neg Bool.false_ne_true] at p1 ⊢
    exact ⟨G, ρ, h1, α1, er.mono e1, s1, p1⟩
theorem sd_ite {t a b : Expr} {it ia ib : E} {pos : Pos} (ht : PT X t (tRT cv W (asT (evE cf it)))) (ha : PE X a (tR cv W (evE cf ia))) (hb : PE X b (tR cv W (evE cf ib))) :
    PE X (.IfExp t a b pos) (tR cv W (evE cf (.ite it ia ib))) := by
  refine PE.weak (pe_ifExp ht ha hb) fun σ H Q ⟨G, ρ, h, α, er, sr, p⟩ => ?_
  have e : evE cf (.ite it ia ib) ρ h = (asT (evE cf it) ρ h).bind fun c h => if c = true then evE cf ia ρ h else evE cf ib ρ h := by
    simp only [asT, evE]
    cases evE cf it ρ h with
    | bad => rfl
    | ex _ _ => rfl
    | ok x h1 => rfl
  rw [e] at p
  refine ⟨G, ρ, h, α, er, sr, p.bind fun x h1 α1 H1 c e1 s1 r1 p1 => ?_⟩
  subst r1
  cases x with
  | true =>
    rw [if_pos rfl] at p1 ⊢
    exact ⟨G, ρ, h1, α1, er.mono e1, s1, p1⟩
  | false =>
    rw [if_neg Bool.false_ne_true] at p1 ⊢
    exact ⟨G, ρ, h1, α1, er.mono e1, s1, p1⟩
/-! ### lists of expressions, displays -/
theorem sd_nil : PA X [] (tRA cv W (evEs cf .nil)) := PA.weak pa_nil fun σ H Q ⟨G, ρ, h, α, er, sr, p⟩ => p.ok sr .nil
theorem sd_cons {e : Expr} {es : List Expr} {ie : E} {ies : Es} (ha : PE X e (tR cv W (evE cf ie))) (hr : PA X es (tRA cv W (evEs cf ies))) (hs : starEach (e :: es) X.env = (false, eval e X.env) :: starEach es X.env) :
    PA X (e :: es) (tRA cv W (evEs cf (.cons ie ies))) := by
  refine PA.weak (pa_cons ha hr hs) fun σ H Q ⟨G, ρ, h, α, er, sr, p⟩ => ?_
  simp only [evEs] at p
  refine ⟨G, ρ, h, α, er, sr, p.bind fun x h1 α1 H1 c e1 s1 r1 p1 => ?_⟩
  refine ⟨G, ρ, h1, α1, er.mono e1, s1, p1.bind fun y h2 α2 H2 d e2 s2 r2 p2 => ?_⟩
  exact p2.ok s2 (.cons (r1.mono e2) r2)
def Es.len : Es → Nat
  | .nil => 0
  | .cons _ es => es.len + 1
theorem evEs_len : ∀ {es : Es} {ρ : Env} {h h' : Hs} {ws : List RL.W}, evEs cf es ρ h = .ok ws h' → ws.length = es.len := by
  intro es
  induction es using Es.rec (motive_1 := fun _ => True) (motive_2 := fun _ => True) (motive_4 := fun _ => True) (motive_5 := fun _ => True) with
  | nil => intro ρ h h' ws q; simp only [evEs] at q; cases q; rfl
  | cons e es ih1 ih =>
    intro ρ h h' ws q
    simp only [evEs] at q
    cases q1 : evE cf e ρ h with
    | bad => rw [q1] at q; cases q
    | ex _ _ => rw [q1] at q; cases q
    | ok w h1 =>
      rw [q1] at q
      simp only [R.bind] at q
      cases q2 : evEs cf es ρ h1 with
      | bad => rw [q2] at q; cases q
      | ex _ _ => rw [q2] at q; cases q
      | ok ws2 h2 =>
        rw [q2] at q
        cases q
        rw [List.length_cons, ih q2, Es.len]
  | _ => trivial
theorem sd_tup {es : List Expr} {ies : Es} {k : Nat} {pos : Pos} (h : PA X es (tRA cv W (evEs cf ies))) (hl : ies.len ≤ 1000) : PE X (.Tuple es k pos) (tR cv W (evE cf (.tup ies))) := by
  refine PE.weak (pe_tupK h) fun σ H Q ⟨G, ρ, h, α, er, sr, p⟩ => ?_
  simp only [evE] at p
  refine ⟨G, ρ, h, α, er, sr, ?_⟩
  cases q : evEs cf ies ρ h with
  | bad => rw [q] at p; exact p
  | ex _ _ => rw [q] at p; exact p
  | ok ws h1 =>
    rw [q] at p
    refine fun α1 H1 vs e1 s1 r1 => ⟨by rw [← r1.length, evEs_len q]; exact Nat.le_trans hl (by rw [sizeLine_eq]; decide), fun b _ hd hb => ?_⟩
    exact p.ok' (e1.trans (Ext.new hb)) (s1.new hb) (.tup (upd_same) hd (s1.fz hb) (r1.mono (Ext.new hb)))
theorem sd_lst {es : List Expr} {ies : Es} {pos : Pos} (h : PA X es (tRA cv W (evEs cf ies))) (hl : ies.len ≤ 1000) : PE X (.List es pos) (tR cv W (evE cf (.lst ies))) := by
  refine PE.weak (pe_lst h) fun σ H Q ⟨G, ρ, h, α, er, sr, p⟩ => ?_
  simp only [evE] at p
  refine ⟨G, ρ, h, α, er, sr, ?_⟩
  cases q : evEs cf ies ρ h with
  | bad => rw [q] at p; exact p
  | ex _ _ => rw [q] at p; exact p
  | ok ws h1 =>
    rw [q] at p
    refine fun α1 H1 vs e1 s1 r1 => ⟨by rw [← r1.length, evEs_len q]; exact Nat.le_trans hl (by rw [sizeLine_eq]; decide), fun b hb => ?_⟩
    exact p.ok' (e1.trans (Ext.new hb)) (s1.new hb) (.lst (upd_same) (s1.fz hb) (r1.mono (Ext.new hb)))
theorem sd_mls {es : List Expr} {ies : Es} {pos : Pos} (h : PA X es (tRA cv W (evEs cf ies))) (hl : ies.len ≤ 1000) : PE X (.List es pos) (tR cv W (evE cf (.mls ies))) := by
  refine PE.weak (pe_lst h) fun σ H Q ⟨G, ρ, h, α, er, sr, p⟩ => ?_
  simp only [evE] at p
  refine ⟨G, ρ, h, α, er, sr, ?_⟩
  cases q : evEs cf ies ρ h with
  | bad => rw [q] at p; exact p
  | ex _ _ => rw [q] at p; exact p
  | ok ws h1 =>
    rw [q] at p
    refine fun α1 H1 vs e1 s1 r1 => ⟨by rw [← r1.length, evEs_len q]; exact Nat.le_trans hl (by rw [sizeLine_eq]; decide), fun b hb => ?_⟩
    refine p.ok' (e1.trans (Ext.push hb)) (s1.push hb r1) (.loc ?_)
    rw [← s1.len, List.getElem?_append_right (Nat.le_refl _)]; simp
end
end RL

namespace RL
open PySem.Spec PySem PyProof.Rows L2
variable [Tabl]
section
variable {G : Gx} {h : Hs} {α : List Addr} {H : Hp} {ws : List RL.W} {x : V} {w : RL.W}
theorem Rep.of_tup (r : Rep G H α (.tup ws) x) : ∃ a vs, x = .ref a ∧ KT H a vs ∧ G.fz α a ∧ Reps G H α ws vs := by
  cases r with
  | tup h d n r => exact ⟨_, _, rfl, ⟨_, d, h⟩, n, r⟩
theorem Rep.of_lst (r : Rep G H α (.lst ws) x) : ∃ a vs, x = .ref a ∧ H a = some (.lst vs) ∧ G.fz α a ∧ Reps G H α ws vs := by
  cases r with
  | lst h n r => exact ⟨_, _, rfl, h, n, r⟩
theorem Rep.of_loc {n : Nat} (r : Rep G H α (.loc n) x) : ∃ a, x = .ref a ∧ α[n]? = some a := by
  cases r with
  | loc h => exact ⟨_, rfl, h⟩
theorem rep_itemsL (s : StR G h α H) (r : Rep G H α w x) (q : itemsL h w = some ws) : ∃ a vs, x = .ref a ∧ H a = some (.lst vs) ∧ Reps G H α ws vs := by
  cases w with
  | lst us => cases q; obtain ⟨a, vs, e, h1, _, h2⟩ := r.of_lst; exact ⟨a, vs, e, h1, h2⟩
  | loc n =>
    have q' : listAt h n = some ws := q
    obtain ⟨a, e, ea⟩ := r.of_loc
    obtain ⟨b, vs, eb, h1, h2⟩ := s.list q'
    rw [ea] at eb; cases eb
    exact ⟨a, vs, e, h1, h2⟩
  | _ => cases q
/-- the items of a list, frozen or not -/
theorem rep_items (s : StR G h α H) (r : Rep G H α w x) (q : items h w = some ws) : (∃ a vs, x = .ref a ∧ Rd H a (.lst vs) ∧ Reps G H α ws vs ∧ ∀ us, w ≠ .tup us) ∨ (∃ a vs, x = .ref a ∧ Rd H a (.tup vs) ∧ Reps G H α ws vs ∧ w = .tup ws) := by
  cases w with
  | tup us => cases q; obtain ⟨a, vs, e, h1, _, h2⟩ := r.of_tup; exact .inr ⟨a, vs, e, h1.rd, h2, rfl⟩
  | lst us => cases q; obtain ⟨a, vs, e, h1, _, h2⟩ := r.of_lst; exact .inl ⟨a, vs, e, .of h1, h2, fun _ z => nomatch z⟩
  | fr us => cases q; cases r with | fr h1 n h2 => exact .inl ⟨_, _, rfl, .inr ⟨_, h1⟩, h2, fun _ z => nomatch z⟩
  | loc n =>
    have q' : listAt h n = some ws := q
    obtain ⟨a, e, ea⟩ := r.of_loc
    obtain ⟨b, vs, eb, h1, h2⟩ := s.list q'
    rw [ea] at eb; cases eb
    exact .inl ⟨a, vs, e, .of h1, h2, fun _ z => nomatch z⟩
  | _ => cases q
end
mutual
theorem rep_dp {G : Gx} {H : Hp} {α : List Addr} {K : PySem.W.Frag} : ∀ {w : RL.W} {v : V}, Rep G H α w v → W.good w = true → Dp K H v (toD w)
  | _, _, .non, _ => .non
  | _, _, .bl b, _ => .bl b
  | _, _, .int i, _ => .int i
  | _, _, .str x, _ => .str x
  | _, _, .rs w, q => by simp [W.good] at q
  | _, _, .emp _ _, q => by simp [W.good] at q
  | _, _, .dk _ _ _, q => by simp [W.good] at q
  | _, _, .pr _ _ _, q => by simp [W.good] at q
  | _, _, .tup h _ n r, q => .tup (.inl (.inr ⟨_, h⟩)) (rep_dps r (by simpa [W.good] using q))
  | _, _, .lst h n r, q => .lst (SqL.of h) (rep_dps r (by simpa [W.good] using q))
  | _, _, .fr h n r, q => by simp [W.good] at q
  | _, _, .loc h, q => by simp [W.good] at q
theorem rep_dps {G : Gx} {H : Hp} {α : List Addr} {K : PySem.W.Frag} : ∀ {ws : List RL.W} {vs : List V}, Reps G H α ws vs → W.goods ws = true → DpAll K H vs (toDs ws)
  | _, _, .nil, _ => .nil
  | _, _, .cons h r, q => by
    have q' := Bool.and_eq_true_iff.mp (show (W.good _ && W.goods _) = true from by simpa [W.goods] using q)
    exact .cons (rep_dp h q'.1) (rep_dps r q'.2)
end
mutual
theorem data_can : ∀ (w : RL.W), W.good w = true → (toD w).canLay0 = true
  | .non, _ => rfl
  | .bl b, _ => rfl
  | .int i, _ => rfl
  | .str x, q => by simpa [W.good, sOk, toD, PyData.canLay0, PyData.strOk] using q
  | .rs w, q => by simp [W.good] at q
  | .emp, q => by simp [W.good] at q
  | .dk _ _, q => by simp [W.good] at q
  | .tup ws, q => by
    have := datas_can ws (by simpa [W.good] using q)
    simpa [toD, PyData.canLay0] using this
  | .lst ws, q => by
    have := datas_can ws (by simpa [W.good] using q)
    simpa [toD, PyData.canLay0] using this
  | .loc h, q => by simp [W.good] at q
  | .fr h, q => by simp [W.good] at q
theorem datas_can : ∀ (ws : List RL.W), W.goods ws = true → PyData.canLayAll0 (toDs ws) = true
  | [], _ => rfl
  | x :: xs, q => by
    have q' := Bool.and_eq_true_iff.mp (show (W.good x && W.goods xs) = true from by simpa [W.goods] using q)
    simp only [toDs, PyData.canLayAll0, data_can x q'.1, datas_can xs q'.2, Bool.and_self]
end
mutual
theorem data_dp : ∀ (w : RL.W), (toD w).depth = W.dp w
  | .non => rfl
  | .bl b => rfl
  | .int i => rfl
  | .str x => rfl
  | .rs w => rfl
  | .emp => rfl
  | .dk k w => by simp only [toD, PyData.depth, PyData.depthKv, W.dp, data_dp w]; omega
  | .pr _ => rfl
  | .tup ws => by simp only [toD, PyData.depth, W.dp, datas_dp ws]
  | .lst ws => by simp only [toD, PyData.depth, W.dp, datas_dp ws]
  | .loc h => rfl
  | .fr h => rfl
theorem datas_dp : ∀ (ws : List RL.W), PyData.depthAll (toDs ws) = W.dps ws
  | [] => rfl
  | x :: xs => by simp only [toDs, PyData.depthAll, W.dps, data_dp x, datas_dp xs]
end
theorem data_and {d : Nat} {w : RL.W} (h : W.data d w = true) : W.good w = true ∧ W.dp w ≤ d := by
  have := Bool.and_eq_true_iff.mp h
  exact ⟨this.1, of_decide_eq_true this.2⟩
theorem datas_and {d : Nat} {w : List RL.W} (h : W.datas d w = true) : W.goods w = true ∧ W.dps w ≤ d := by
  have := Bool.and_eq_true_iff.mp h
  exact ⟨this.1, of_decide_eq_true this.2⟩
theorem data_shaped {d : Nat} {w : RL.W} (h : W.data d w = true) (hd : d ≤ 64) : SeqAt.shaped (toD w) = true := by
  obtain ⟨h1, h2⟩ := data_and h
  unfold SeqAt.shaped
  rw [data_can w h1, data_dp, decide_eq_true (Nat.le_trans h2 hd)]; rfl
mutual
theorem eqv_data : ∀ (a b : RL.W), W.good a = true → W.good b = true → PyData.eqv (toD a) (toD b) = W.eqv a b
  | .non, b, ha, hb => by cases b <;> first | rfl | exact absurd hb Bool.false_ne_true
  | .bl x, b, ha, hb => by cases b <;> first | rfl | exact absurd hb Bool.false_ne_true | (simp only [toD, PyData.eqv, W.eqv]; cases x <;> rfl)
  | .int x, b, ha, hb => by
    cases b <;> first | rfl | exact absurd hb Bool.false_ne_true | skip
    rename_i c; simp only [toD, PyData.eqv, W.eqv]; cases c <;> rfl
  | .str x, b, ha, hb => by cases b <;> first | rfl | exact absurd hb Bool.false_ne_true
  | .rs x, b, ha, hb => absurd ha (by simp [W.good])
  | .emp, b, ha, hb => absurd ha (by simp [W.good])
  | .dk _ _, b, ha, hb => absurd ha (by simp [W.good])
  | .loc x, b, ha, hb => absurd ha (by simp [W.good])
  | .fr x, b, ha, hb => absurd ha (by simp [W.good])
  | .tup xs, b, ha, hb => by
    cases b <;> first | rfl | exact absurd hb Bool.false_ne_true | skip
    rename_i ys
    simp only [toD, PyData.eqv, W.eqv]
    exact eqv_datas xs ys (by simpa [W.good] using ha) (by simpa [W.good] using hb)
  | .lst xs, b, ha, hb => by
    cases b <;> first | rfl | exact absurd hb Bool.false_ne_true | skip
    rename_i ys
    simp only [toD, PyData.eqv, W.eqv]
    exact eqv_datas xs ys (by simpa [W.good] using ha) (by simpa [W.good] using hb)
theorem eqv_datas : ∀ (xs ys : List RL.W), W.goods xs = true → W.goods ys = true → PyData.eqvAll (toDs xs) (toDs ys) = W.eqvs xs ys
  | [], [], _, _ => rfl
  | [], _ :: _, _, _ => rfl
  | _ :: _, [], _, _ => rfl
  | x :: xs, y :: ys, ha, hb => by
    have a' := Bool.and_eq_true_iff.mp (show (W.good x && W.goods xs) = true from by simpa [W.goods] using ha)
    have b' := Bool.and_eq_true_iff.mp (show (W.good y && W.goods ys) = true from by simpa [W.goods] using hb)
    simp only [toDs, PyData.eqvAll, W.eqvs, eqv_data x y a'.1 b'.1, eqv_datas xs ys a'.2 b'.2]
end
end RL

namespace RL
open PySem.Spec PySem PyProof.Rows L2
/-- once: the same tuple -/
theorem tm_one (l : Addr) (items : Array Value) (n : Nat) (sl : Array (Option Value)) (dd : Option Addr) (u : Tok) :
    Meets (Builtin.«tuple.__mul__» ⟨[.ref l, .int 1 u], []⟩) (fun _ R s => s.heap.get? l = some { cls := .type "tuple", dict := dd, data := .seq items n, slots := sl } ∧ R (.ok (.ret (Value.ref l))) s) :=
  .of_wp fun pr wo ar R s h => by
    obtain ⟨m0, m1, m2, m3, m4⟩ := s
    obtain ⟨at0, fin⟩ := h
    have f1 := AutoSeq1.idx_int
    have n0 : (decide ((1 : Int) < -(2 ^ 63)) || decide ((1 : Int) ≥ 2 ^ 63)) = false := by decide
    have n1 : (items.isEmpty || (1 : Int) == 1) = true := by simp
    wp_walk using wpAny_loadPart' at0
    repeat (first
      | (refine wpAny_ite_false (decide_eq_false (by rw [n0]; exact Bool.false_ne_true)) ?_; wp_walk using wpAny_loadPart' at0)
      | (refine wpAny_ite_true (decide_eq_true (by rw [n1])) ?_; wp_walk using wpAny_loadPart' at0))
    exact ⟨_, rfl, fin⟩
/-- never: no items -/
theorem tm_none (l : Addr) (items : Array Value) (n : Nat) (sl : Array (Option Value)) (dd : Option Addr) (u : Tok) (n1 : items.isEmpty = false) :
    Meets (Builtin.«tuple.__mul__» ⟨[.ref l, .int 0 u], []⟩) (fun _ R s => s.heap.get? l = some { cls := .type "tuple", dict := dd, data := .seq items n, slots := sl } ∧ R (.ok (.ret (Value.ref s.heap.objs.size))) { s with heap := s.heap.push { cls := Value.type "tuple", data := Data.seq #[] }, toks := s.toks }) :=
  .of_wp fun pr wo ar R s h => by
    obtain ⟨m0, m1, m2, m3, m4⟩ := s
    obtain ⟨at0, fin⟩ := h
    have f1 := AutoSeq1.idx_int
    have n0 : (decide ((0 : Int) < -(2 ^ 63)) || decide ((0 : Int) ≥ 2 ^ 63)) = false := by decide
    have n1 : (items.isEmpty || (0 : Int) == 1) = false := by rw [n1]; rfl
    have n2 : (decide ((0 : Int) ≤ 0) || items.isEmpty) = true := by simp
    wp_walk using wpAny_loadPart' at0
    repeat (first
      | (refine wpAny_ite_false (decide_eq_false (by rw [n0]; exact Bool.false_ne_true)) ?_; wp_walk using wpAny_loadPart' at0)
      | (refine wpAny_ite_false (decide_eq_false (by rw [n1]; exact Bool.false_ne_true)) ?_; wp_walk using wpAny_loadPart' at0)
      | (refine wpAny_ite_true (decide_eq_true (by rw [n2])) ?_; wp_walk using wpAny_loadPart' at0))
    exact ⟨_, rfl, fin⟩
/-- a tuple so many times -/
def rTM (K : PySem.W.Frag) : R2 := fun x y H Q => ∃ l k xs, x = .ref l ∧ y = .int k ∧ SqT K H l xs ∧ xs ≠ [] ∧ 0 ≤ k ∧ k ≤ 1000 ∧ xs.length ≤ 1000 ∧ (k = 1 → Q (.ref l) H) ∧ (k ≠ 1 → Lays H (List.replicate k.toNat xs).flatten Q)
section
variable {X : Cx}
theorem op_tm : OpR X (binaryOp .Mult) (rTM X.K) := by
  intro pins s σ H x y v u Q I rx ry z
  obtain ⟨l, k, xs, rfl, rfl, hT, hne, h1, h2, hz, q1, q⟩ := z
  cases rx
  obtain ⟨t, rfl⟩ := ry
  obtain ⟨us, r, ⟨⟨cls, dd, data, sl⟩, ho, hc, n, hd⟩, hs⟩ := I.tuple hT
  simp only at hc hd
  subst hc hd
  have lu : us.length = xs.length := r.length.symm
  have nu : us.toArray.isEmpty = false := by
    cases us with
    | nil => exact absurd (List.eq_nil_of_length_eq_zero (show xs.length = 0 from lu.symm)) hne
    | cons a b => rfl
  have many : (List.replicate k.toNat xs).flatten.length ≤ sizeLine := by
    (have a1 : k.toNat * xs.length ≤ 1000 * 1000 := Nat.mul_le_mul (by omega) hz)
    rw [PyProof.Rows.lm_len_rep_flat, sizeLine_eq]
    omega
  by_cases hk1 : k = 1
  · subst hk1
    have isT : s.TypeIs (.ref l) "tuple" := ⟨_, ho, rfl⟩
    refine wpAny_binaryOp_repeat_ref (T := "tuple") (U := "int") (by decide) isT (fun s' => typeIs_int s' 1 t) noFill_tuple_mul F.fills_int_mul F.slot_int_rmul repeat_tuple F.slot_int_index.lookup
      (call_meets F.slot_int_rmul (typeIs_int s 1 t) F.entry_int_rmul (F.args_int_rmul_2 _ _) (int_rmul_tuple 1 t l us.toArray n dd sl)
        ⟨ho, rfl, ⟨_, ho, rfl⟩, call_meets F.slot_tuple_mul ⟨_, ho, rfl⟩ F.entry_tuple_mul (F.args_tuple_mul_2 _ _) (tm_one l us.toArray n sl dd t) ⟨ho, ?_⟩⟩)
    exact ⟨.ref l, H, I, rfl, q1 rfl⟩
  by_cases hk0 : k = 0
  · subst hk0
    have isT : s.TypeIs (.ref l) "tuple" := ⟨_, ho, rfl⟩
    refine wpAny_binaryOp_repeat_ref (T := "tuple") (U := "int") (by decide) isT (fun s' => typeIs_int s' 0 t) noFill_tuple_mul F.fills_int_mul F.slot_int_rmul repeat_tuple F.slot_int_index.lookup
      (call_meets F.slot_int_rmul (typeIs_int s 0 t) F.entry_int_rmul (F.args_int_rmul_2 _ _) (int_rmul_tuple 0 t l us.toArray n dd sl)
        ⟨ho, rfl, ⟨_, ho, rfl⟩, call_meets F.slot_tuple_mul ⟨_, ho, rfl⟩ F.entry_tuple_mul (F.args_tuple_mul_2 _ _) (tm_none l us.toArray n sl dd t nu) ⟨ho, ?_⟩⟩)
    exact lay_end I (its := []) (xs := (List.replicate (0 : Int).toNat xs).flatten) .nil (Nat.zero_le _) _ (q hk1)
  have su : us.toArray.size = xs.length := by rw [List.size_toArray, lu]
  have most : ((us.toArray.size : Nat) : Int) * k ≤ 1000000 := by
    (have a1 : ((xs.length : Nat) : Int) * k ≤ 1000 * k := Int.mul_le_mul_of_nonneg_right (by omega) (by omega))
    rw [su]
    omega
  have flat : (List.replicate k.toNat us).flatten.length ≤ sizeLine := by
    rw [PyProof.Rows.lm_len_rep_flat] at many ⊢
    rw [lu]
    exact many
  have g0 : (decide (k < -(2 ^ 63)) || decide (k ≥ 2 ^ 63)) = false := by
    rw [Bool.or_eq_false_iff]
    exact ⟨decide_eq_false (by omega), decide_eq_false (by omega)⟩
  have g1 : (us.toArray.isEmpty || k == 1) = false := by
    rw [nu, Bool.false_or]
    exact beq_eq_false_iff_ne.mpr hk1
  have g2 : (decide (k ≤ 0) || us.toArray.isEmpty) = false := by
    rw [nu, Bool.or_false]
    exact (decide_eq_false (by omega))
  have g4 : Builtin.Tuple.tupleTooMany (((us.toArray.size : Nat) : Int) * k) = false := by
    (unfold Builtin.Tuple.tupleTooMany)
    rw [sizeLine_eq, decide_eq_false_iff_not]
    omega
  have mulled := tuple_mulW l us.toArray n dd sl k t g0 g1 g2 (by omega) g4 (by rw [size_rep, List.size_toArray]; exact flat)
  have isT : s.TypeIs (.ref l) "tuple" := ⟨_, ho, rfl⟩
  refine wpAny_binaryOp_repeat_ref (T := "tuple") (U := "int") (by decide) isT (fun s' => typeIs_int s' k t) noFill_tuple_mul F.fills_int_mul F.slot_int_rmul repeat_tuple F.slot_int_index.lookup
    (call_meets F.slot_int_rmul (typeIs_int s k t) F.entry_int_rmul (F.args_int_rmul_2 _ _) (int_rmul_tuple k t l us.toArray n dd sl)
      ⟨ho, rfl, ⟨_, ho, rfl⟩, call_meets F.slot_tuple_mul ⟨_, ho, rfl⟩ F.entry_tuple_mul (F.args_tuple_mul_2 _ _) mulled ⟨ho, ?_⟩⟩)
  rw [size_rep]
  exact lay_end I (r.rep k.toNat) many _ (q hk1)
end
end RL

namespace RL
open PySem.Spec PySem PyProof.Rows L2
variable [Tabl]
theorem lim_size {n : Nat} (h : n ≤ lim) : n ≤ sizeLine := Nat.le_trans h (by rw [sizeLine_eq]; decide)
theorem lim_lt {n : Nat} (h : n < lim) : n < sizeLine := Nat.lt_of_lt_of_le h (by rw [sizeLine_eq]; decide)
section
variable {X : Cx} {G : Gx}
theorem OpR.weak {f : Value → Value → Sem Value} {r r' : R2} (p : OpR X f r) (h : ∀ x y H Q, r' x y H Q → r x y H Q) : OpR X f r' := fun pins s σ H x y v u Q I rx ry q => p pins s σ H x y v u Q I rx ry (h _ _ _ _ q)
theorem small_mul0 {a b : Int} (h : (small a || small b) = true) : CMul a b := by
  have e : two64 = 2 ^ 64 := by decide
  obtain h | h := Bool.or_eq_true_iff.mp h
  · have := Bool.and_eq_true_iff.mp h
    rw [e] at this
    exact .inl ⟨of_decide_eq_true this.1, of_decide_eq_true this.2⟩
  · have := Bool.and_eq_true_iff.mp h
    rw [e] at this
    exact .inr ⟨of_decide_eq_true this.1, of_decide_eq_true this.2⟩
theorem small_mul {a b : Int} (h : (small a || small b || (wlog a && wlog b)) = true) : IntMulOk a b := by
  obtain h | h := Bool.or_eq_true_iff.mp h
  · exact (small_mul0 h).ok
  · obtain ⟨h1, h2⟩ := Bool.and_eq_true_iff.mp h
    have h1 := of_decide_eq_true h1
    have h2 := of_decide_eq_true h2
    exact CMulW.ok (show _ < 1000000 by omega)
theorem op_mulAny : OpR X (binaryOp .Mult) (rI IntMulOk fun i j => .int (i * j)) := opI fun _ _ _ _ _ _ _ hc q => mul_int q hc
/-- what a division of big numbers asks of the program and of the heap at the law's call -/
structure Sees (P : Program) (base : Heap) : Prop where
  seer : base.NoSeer
  lim : base.NoLimit
  tree : P.given.tree = none
/-- big numbers may be divided here -/
def PylAt (P : Program) (w : World) (base : Heap) (A : Around) : Prop := ∀ s : Shared, (∀ b o, base.get? b = some o → s.heap.get? b = some o) → PySem.PylongRoom (model P w) A s
theorem pyl_at {P : Program} {w : World} {base : Heap} {A : Around} {env : PySem.Env} {l : List PySem.Env} (sr : Sees P base) (hd : A.depth + Builtin.pylongFrames < recursionLimit) (hf : A.frames = some (env :: l)) (hg : env.scope.isGenerator = false) (hc : env.scope.isCoroutine = false)
    (hb : env.builtins = builtinsNs) (hm : env.globals = mainGlobals) : PylAt P w base A := fun s kp => PySem.PylongRoom.of (sr.lim.keeps kp) hd (PySem.SeerAt.of (sr.seer.keeps kp) sr.tree hf hg hc hb hm)
theorem op_fdivAny (pr : PylAt X.prog X.w X.base X.A) : OpR X (binaryOp .FloorDiv) (rI (fun _ j => 0 < j ∧ wide j = true) fun i j => .int (i / j)) := by
  (intro pins s σ H x y v u Q I rx ry h)
  obtain ⟨i, j, rfl, rfl, hc, q⟩ := (h)
  obtain ⟨t, rfl⟩ := rx
  obtain ⟨t', rfl⟩ := ry
  have h1 := (hc.1 : (0 : Int) < j)
  exact floordiv_int (by omega) (by rw [Int.fdiv_eq_ediv_of_nonneg i (by omega)]; exact ⟨.int (i / j), H, I.tok _, ⟨_, rfl⟩, q⟩) (.inr (pr s I.bk))
theorem so_sub : OpR X (binaryOp .Sub) (rOp (bop .sub)) := OpR.weak op_sub fun x y H Q ⟨G, w, u, h, α, z, r1, r2, sr, e, q⟩ => by
  cases w <;> cases u <;> simp only [bop] at e <;> cases e
  exact ⟨_, _, r1.of_int, r2.of_int, q _ _ (Ext.refl _ _) sr (.int _)⟩
theorem so_mod : OpR X (binaryOp .Mod) (rOp (bop .mod)) := OpR.weak op_mod fun x y H Q ⟨G, w, u, h, α, z, r1, r2, sr, e, q⟩ => by
  cases w <;> cases u <;> simp only [bop] at e <;> try cases e
  split at e <;> cases e
  rename_i hc
  exact ⟨_, _, r1.of_int, r2.of_int, hc, q _ _ (Ext.refl _ _) sr (.int _)⟩
theorem so_fdiv (pr : PylAt X.prog X.w X.base X.A) : OpR X (binaryOp .FloorDiv) (rOp (bop .fdiv)) := OpR.weak (op_fdivAny pr) fun x y H Q ⟨G, w, u, h, α, z, r1, r2, sr, e, q⟩ => by
  cases w <;> cases u <;> simp only [bop] at e <;> try cases e
  split at e <;> cases e
  rename_i hc
  exact ⟨_, _, r1.of_int, r2.of_int, hc, q _ _ (Ext.refl _ _) sr (.int _)⟩
theorem small_lt {a : Int} (h : small a = true) : -(2 ^ 64) < a ∧ a < 2 ^ 64 := by
  have e : two64 = 2 ^ 64 := by decide
  have := Bool.and_eq_true_iff.mp h
  rw [e] at this
  exact ⟨of_decide_eq_true this.1, of_decide_eq_true this.2⟩
theorem so_pow : OpR X (binaryOp .Pow) (rOp (bop .pow)) := OpR.weak op_pow fun x y H Q ⟨G, w, u, h, α, z, r1, r2, sr, e, q⟩ => by
  cases w <;> cases u <;> simp only [bop] at e <;> try cases e
  split at e <;> cases e
  rename_i hc
  have := small_lt hc.2.2
  exact ⟨_, _, r1.of_int, r2.of_int, ⟨hc.1, by have := hc.2.1; omega, by omega⟩, q _ _ (Ext.refl _ _) sr (.int _)⟩
theorem inRng_lt {a : Int} (h : inRng a = true) : -(2 ^ 62) ≤ a ∧ a < 2 ^ 62 := by
  have e : two62 = 2 ^ 62 := by decide
  have := Bool.and_eq_true_iff.mp h
  rw [e] at this
  exact ⟨of_decide_eq_true this.1, of_decide_eq_true this.2⟩
theorem Reps.rep {H : Hp} {α : List Addr} {ws : List RL.W} {vs : List V} (h : Reps G H α ws vs) : ∀ n : Nat, Reps G H α (rept n ws) (List.replicate n vs).flatten
  | 0 => .nil
  | n + 1 => by rw [rept, List.replicate_succ, List.flatten_cons]; exact h.append (Reps.rep h n)
theorem so_mul : OpR X (binaryOp .Mult) (rOp (bop .mul)) := by
  intro pins s σ H x y v u Q I rx ry ⟨G, w, w', h, α, z, r1, r2, sr, e, q⟩
  cases w <;> cases w' <;> simp only [bop] at e <;> try cases e
  · split at e <;> cases e
    rename_i hc
    exact op_mulAny pins s σ H x y v u Q I rx ry ⟨_, _, r1.of_int, r2.of_int, small_mul hc, q _ _ (Ext.refl _ _) sr (.int _)⟩
  · split at e <;> cases e
    rename_i ws k hc
    obtain ⟨a, vs, rfl, hr, hf, hv⟩ := r1.of_tup
    have := r2.of_int; subst this
    refine (op_tm (X := X)) pins s σ H _ _ v u Q I rx ry ⟨a, k, vs, rfl, rfl, hr.sq, fun z => ?_, hc.2.2.1, hc.2.2.2, by rw [← hv.length]; exact hc.2.1, fun z => ?_, fun _ p _ hd hp => ?_⟩
    · subst z; cases hv; exact absurd hc.1 (Nat.lt_irrefl 0)
    · subst z
      have e1 : rept (1 : Int).toNat ws = ws := by show ws ++ [] = ws; rw [List.append_nil]
      rw [e1] at q
      exact q _ _ (Ext.refl _ _) sr (.ktup hr hf hv)
    · exact q _ _ (Ext.new hp) (sr.new hp) (.tup upd_same hd (sr.fz hp) ((hv.mono (Ext.new hp)).rep _))
  · split at e <;> cases e
    rename_i ws k hc
    obtain ⟨a, vs, rfl, hr, hf, hv⟩ := r1.of_lst
    have := r2.of_int; subst this
    have hk := inRng_lt hc.2
    refine op_rep pins s σ H _ _ v u Q I rx ry ⟨a, k, vs, rfl, rfl, hr, by omega, by omega, by rw [← hv.length]; exact lim_size hc.1, fun p hp => ?_⟩
    exact q _ _ (Ext.new hp) (sr.new hp) (.lst upd_same (sr.fz hp) ((hv.mono (Ext.new hp)).rep _))
theorem so_add : OpR X (binaryOp .Add) (rOp (bop .add)) := by
  intro pins s σ H x y v u Q I rx ry ⟨G, w, w', h, α, z, r1, r2, sr, e, q⟩
  have lists : ∀ a b, itemsL h w = some a → itemsL h w' = some b → a.length + b.length ≤ lim → z = .lst (a ++ b) → wpAny (model X.prog X.w) X.A (binaryOp .Add v u) (EP X pins σ Q) X.xe s := by
    intro a b ha hb hl hz
    obtain ⟨p1, vs, rfl, h1, q1⟩ := rep_itemsL sr r1 ha
    obtain ⟨p2, vs2, rfl, h2, q2⟩ := rep_itemsL sr r2 hb
    subst hz
    refine op_cat pins s σ H _ _ v u Q I rx ry ⟨p1, p2, vs, vs2, rfl, rfl, h1, h2, by rw [← q1.length, ← q2.length]; exact lim_size hl, fun p hp => ?_⟩
    exact q _ _ (Ext.new hp) (sr.new hp) (.lst upd_same (sr.fz hp) ((q1.append q2).mono (Ext.new hp)))
  have lst2 : ((itemsL h w).bind fun a => (itemsL h w').bind fun b => if a.length + b.length ≤ lim then some (.lst (a ++ b)) else none) = some z → wpAny (model X.prog X.w) X.A (binaryOp .Add v u) (EP X pins σ Q) X.xe s := by
    intro e
    cases ha : itemsL h w with
    | none => rw [ha] at e; cases e
    | some a =>
      cases hb : itemsL h w' with
      | none => rw [ha, hb] at e; cases e
      | some b =>
        rw [ha, hb] at e
        simp only [Option.bind_some] at e
        split at e <;> cases e
        exact lists a b ha hb ‹_› rfl
  cases w <;> cases w' <;> simp only [bop, cat] at e <;> first
    | exact lst2 e
    | cases e
    | skip
  · have e1 := r1.of_bl
    have e2 := r2.of_int
    subst e1 e2
    cases rx
    obtain ⟨t, eu⟩ := ry
    rw [eu]
    have k : ∀ (a : Bool) (b : Int), (if a = true then (1 : Int) else 0) + b = RL.b2i a + b := fun a b => by cases a <;> rfl
    refine PySem.IntBool.add_bool_int ?_
    rw [k]
    exact ⟨.int _, H, I.tok _, ⟨_, rfl⟩, q _ _ (Ext.refl _ _) sr (.int _)⟩
  · exact op_add pins s σ H x y v u Q I rx ry ⟨_, _, r1.of_int, r2.of_int, q _ _ (Ext.refl _ _) sr (.int _)⟩
  · split at e <;> cases e
    rename_i hc
    exact op_add_str pins s σ H x y v u Q I rx ry ⟨_, _, r1.of_str, r2.of_str, lim_size hc, q _ _ (Ext.refl _ _) sr (.str _)⟩
  · split at e <;> cases e
    rename_i ws ws' hc
    obtain ⟨p1, vs, rfl, h1, f1, q1⟩ := r1.of_tup
    obtain ⟨p2, vs2, rfl, h2, f2, q2⟩ := r2.of_tup
    refine op_catK pins s σ H _ _ v u Q I rx ry ⟨p1, p2, vs, vs2, rfl, rfl, h1.sq, h2.sq, by rw [← q1.length, ← q2.length]; exact lim_size hc, fun z => ?_, fun _ z => ?_, fun _ _ p _ hd hp => ?_⟩
    · subst z; cases q1
      exact q _ _ (Ext.refl _ _) sr (.ktup h2 f2 q2)
    · subst z; cases q2
      exact q _ _ (Ext.refl _ _) sr (by rw [List.append_nil]; exact .ktup h1 f1 q1)
    · exact q _ _ (Ext.new hp) (sr.new hp) (.tup upd_same hd (sr.fz hp) ((q1.append q2).mono (Ext.new hp)))
end
end RL

namespace RL
open PySem.Spec PySem PyProof.Rows L2
variable [Tabl]
mutual
theorem same_eq : ∀ (a b : RL.W), W.same a b = true → a = b
  | .non, b, h => by cases b <;> first | rfl | exact absurd h Bool.false_ne_true
  | .bl x, b, h => by cases b <;> first | exact absurd h Bool.false_ne_true | (simp only [W.same, beq_iff_eq] at h; rw [h])
  | .int x, b, h => by cases b <;> first | exact absurd h Bool.false_ne_true | (simp only [W.same, beq_iff_eq] at h; rw [h])
  | .str x, b, h => by cases b <;> first | exact absurd h Bool.false_ne_true | (simp only [W.same, beq_iff_eq] at h; rw [h])
  | .emp, b, h => by cases b <;> first | exact absurd h Bool.false_ne_true | rfl
  | .dk k x, b, h => by
    cases b <;> first | exact absurd h Bool.false_ne_true | skip
    have h := Bool.and_eq_true_iff.mp h
    rw [eq_of_beq h.1, same_eq x _ h.2]
  | .rs x, b, h => by cases b <;> first | exact absurd h Bool.false_ne_true | (simp only [W.same] at h; rw [same_eq x _ h])
  | .tup x, b, h => by cases b <;> first | exact absurd h Bool.false_ne_true | (simp only [W.same] at h; rw [sames_eq x _ h])
  | .lst x, b, h => by cases b <;> first | exact absurd h Bool.false_ne_true | (simp only [W.same] at h; rw [sames_eq x _ h])
  | .fr x, b, h => by cases b <;> exact absurd h Bool.false_ne_true
  | .loc x, b, h => by cases b <;> first | exact absurd h Bool.false_ne_true | (simp only [W.same, beq_iff_eq] at h; rw [h])
theorem sames_eq : ∀ (a b : List RL.W), W.sames a b = true → a = b
  | [], [], _ => rfl
  | [], _ :: _, h => absurd h Bool.false_ne_true
  | _ :: _, [], h => absurd h Bool.false_ne_true
  | x :: xs, y :: ys, h => by
    have h' := Bool.and_eq_true_iff.mp (show (W.same x y && W.sames xs ys) = true from by simpa [W.sames] using h)
    rw [same_eq x y h'.1, sames_eq xs ys h'.2]
end
theorem lexI_eq : ∀ a b : List Int, lexI a b = HT.lexLt a b
  | [], [] => rfl
  | [], _ :: _ => rfl
  | _ :: _, [] => rfl
  | x :: xs, y :: ys => by rw [lexI, HT.lexLt_cons, lexI_eq xs ys]
section
variable {X : Cx} {G : Gx}
theorem deref_dp {K : PySem.W.Frag} {H : Hp} {α : List Addr} {h : Hs} {w : RL.W} {x : V} (s : StR G h α H) (r : Rep G H α w x) (g : W.good (deref h w) = true) : Dp K H x (toD (deref h w)) := by
  cases w with
  | loc n =>
    unfold deref at g ⊢
    cases q : listAt h n with
    | none => simp only [q] at g; exact absurd g Bool.false_ne_true
    | some ws =>
      simp only [q] at g ⊢
      obtain ⟨a, rfl, ea⟩ := r.of_loc
      obtain ⟨b, vs, eb, h1, h2⟩ := s.list q
      rw [ea] at eb; cases eb
      exact .lst (SqL.of h1) (rep_dps h2 (by simpa [W.good] using g))
  | _ => exact rep_dp r g
theorem full_dp {K : PySem.W.Frag} {H : Hp} {α : List Addr} {h : Hs} (s : StR G h α H) : ∀ (k : Nat) {w : RL.W} {x : V}, Rep G H α w x → W.good (full k h w) = true → Dp K H x (toD (full k h w))
  | 0, w, x, r, g => rep_dp r g
  | k + 1, w, x, r, g => by
    have all : ∀ {ws : List RL.W} {vs : List V}, Reps G H α ws vs → W.goods (ws.map (full k h)) = true → DpAll K H vs (toDs (ws.map (full k h))) := by
      intro ws
      induction ws with
      | nil =>
        intro vs rs _
        cases rs
        exact .nil
      | cons w ws ih =>
        intro vs rs q
        have q' := Bool.and_eq_true_iff.mp (show (W.good _ && W.goods _) = true from by simpa [W.goods] using q)
        cases rs with
        | cons r1 r2 => exact .cons (full_dp s k r1 q'.1) (ih r2 q'.2)
    cases w with
    | loc n =>
      unfold full at g ⊢
      cases q : listAt h n with
      | none => simp only [q] at g; exact absurd g Bool.false_ne_true
      | some ws =>
        simp only [q] at g ⊢
        obtain ⟨a, rfl, ea⟩ := r.of_loc
        obtain ⟨b, vs, eb, h1, h2⟩ := s.list q
        rw [ea] at eb; cases eb
        exact .lst (SqL.of h1) (all h2 (by simpa [W.good] using g))
    | lst ws =>
      cases r with
      | lst h1 _ h2 => exact .lst (SqL.of h1) (all h2 (by simpa [W.good, full] using g))
    | _ => exact rep_dp r g
theorem eqW_some {h : Hs} {w u : RL.W} {b : Bool} (e : eqW h w u = some b) : ∃ c d : RL.W, W.data dep c = true ∧ W.data dep d = true ∧ b = W.eqv c d ∧
    (∀ {K : PySem.W.Frag} {H : Hp} {α : List Addr} {x : V}, StR G h α H → Rep G H α w x → Dp K H x (toD c)) ∧ ∀ {K : PySem.W.Frag} {H : Hp} {α : List Addr} {x : V}, StR G h α H → Rep G H α u x → Dp K H x (toD d) := by
  unfold eqW at e
  split at e
  · cases e
    rename_i hc
    have := Bool.and_eq_true_iff.mp hc
    exact ⟨_, _, this.1, this.2, rfl, fun s r => deref_dp s r (Bool.and_eq_true_iff.mp this.1).1, fun s r => deref_dp s r (Bool.and_eq_true_iff.mp this.2).1⟩
  · split at e <;> cases e
    rename_i hc
    have := Bool.and_eq_true_iff.mp hc
    exact ⟨_, _, this.1, this.2, rfl, fun s r => full_dp s 2 r (Bool.and_eq_true_iff.mp this.1).1, fun s r => full_dp s 2 r (Bool.and_eq_true_iff.mp this.2).1⟩
theorem so_eq (hu : X.A.units + 64 < cLine) : OpR X (compareOp .Eq) (rOp (cop .eq)) := by
  intro pins s σ H x y v u Q I rx ry ⟨G, w, w', h, α, z, r1, r2, sr, e, q⟩
  have main : (eqW h w w').map RL.W.bl = some z → wpAny (model X.prog X.w) X.A (compareOp .Eq v u) (EP X pins σ Q) X.xe s := by
    intro e
    cases hb : eqW h w w' with
    | none => rw [hb] at e; cases e
    | some b =>
      rw [hb] at e
      cases e
      obtain ⟨c, d, d1, d2, rfl, g1, g2⟩ := eqW_some (G := G) hb
      refine op_eqD hu pins s σ H x y v u Q I rx ry ⟨_, _, g1 sr r1, g2 sr r2, data_shaped d1 (by decide), data_shaped d2 (by decide), ?_⟩
      rw [eqv_data _ _ (data_and d1).1 (data_and d2).1]
      exact q _ _ (Ext.refl _ _) sr (.bl _)
  cases w <;> try exact main e
  cases w' <;> try exact main e
  simp only [cop] at e
  split at e <;> cases e
  rename_i a b hs
  have := same_eq _ _ hs; subst this
  cases r1; cases r2
  exact op_eq pins s σ H _ _ v u Q I rx ry ⟨rfl, by rw [decide_eq_true rfl]; exact q _ _ (Ext.refl _ _) sr (.bl _)⟩
theorem so_ne (hu : X.A.units + 64 < cLine) : OpR X (compareOp .NotEq) (rOp (cop .ne)) := by
  intro pins s σ H x y v u Q I rx ry ⟨G, w, w', h, α, z, r1, r2, sr, e, q⟩
  have main : ((eqW h w w').map fun b => RL.W.bl (!b)) = some z → wpAny (model X.prog X.w) X.A (compareOp .NotEq v u) (EP X pins σ Q) X.xe s := by
    intro e
    cases hb : eqW h w w' with
    | none => rw [hb] at e; cases e
    | some b =>
      rw [hb] at e
      cases e
      obtain ⟨c, d, d1, d2, rfl, g1, g2⟩ := eqW_some (G := G) hb
      refine op_neD hu pins s σ H x y v u Q I rx ry ⟨_, _, g1 sr r1, g2 sr r2, data_shaped d1 (by decide), data_shaped d2 (by decide), ?_⟩
      rw [eqv_data _ _ (data_and d1).1 (data_and d2).1]
      exact q _ _ (Ext.refl _ _) sr (.bl _)
  cases w <;> try exact main e
  cases w' <;> try exact main e
  · rename_i x0 y0
    cases x0 <;> try exact main e
    rename_i b0
    have e : some (RL.W.bl (!(truthS b0 == y0))) = some z := e
    cases e
    cases r1; cases r2
    refine op_ne pins s σ H _ _ v u Q I rx ry ⟨rfl, ?_⟩
    have e2 : decide (V.str (txt (.bl b0)) = V.str y0) = (truthS b0 == y0) := by
      have e3 : txt (.bl b0) = truthS b0 := by cases b0 <;> rfl
      rw [e3]
      by_cases c : truthS b0 = y0
      · rw [c, decide_eq_true rfl, beq_iff_eq.mpr rfl]
      · rw [decide_eq_false (fun z => c (V.str.inj z)), beq_eq_false_iff_ne.mpr c]
    rw [e2]
    exact q _ _ (Ext.refl _ _) sr (.bl _)
  simp only [cop] at e
  split at e <;> cases e
  rename_i a b hs
  have := same_eq _ _ hs; subst this
  cases r1; cases r2
  exact op_ne pins s σ H _ _ v u Q I rx ry ⟨rfl, by rw [decide_eq_true rfl]; exact q _ _ (Ext.refl _ _) sr (.bl _)⟩
/-- the text that a text is -/
def tx : RL.W → Str
  | .str x => x
  | w => match w with
    | .rs u => txt u
    | _ => Str.empty
theorem joinL_mem {s : List Nat} {c : Nat} : ∀ {ls : List (List Nat)}, c ∈ TL.joinL s ls → c ∈ s ∨ ∃ l ∈ ls, c ∈ l
  | [], h => nomatch h
  | [p], h => .inr ⟨p, List.mem_cons_self, h⟩
  | p :: q :: r, h => by
    have h : c ∈ p ++ (s ++ TL.joinL s (q :: r)) := h
    simp only [List.mem_append] at h
    rcases h with here | here | behind
    · exact .inr ⟨p, List.mem_cons_self, here⟩
    · exact .inl here
    · rcases joinL_mem (ls := q :: r) behind with z | ⟨l, hl, z⟩
      · exact .inl z
      · exact .inr ⟨l, List.mem_cons_of_mem _ hl, z⟩
mutual
theorem pl_low : ∀ (w : RL.W), RL.W.pl w = true → ∀ c ∈ (txt w).cps.toList, c < 1114112
  | .int i, _, c, hc => by
    by_cases z : c < 1114112
    · exact z
    · exact absurd hc (shown_int_free' (k := c) ⟨by omega, by omega⟩ i)
  | .tup ws, h, c, hc => by
    have h : RL.W.pls ws = true := h
    have hc : c ∈ (tupleText (PyData.shownAll (toDs ws))).cps.toList := hc
    unfold tupleText at hc
    rw [cps_toList_append, cps_toList_append] at hc
    simp only [List.mem_append] at hc
    rcases hc with (hc | hc) | hc
    · have : ∀ d ∈ (("(" : String) : Str).cps.toList, d < 1114112 := by decide +kernel
      exact this c hc
    · have e := TL.tl_join (", " : String) (PyData.shownAll (toDs ws))
      have hc : c ∈ TL.joinL (TL.tl (", " : String)) ((PyData.shownAll (toDs ws)).map TL.tl) := by rw [← e]; exact hc
      rcases joinL_mem hc with z | ⟨l, hl, z⟩
      · have : ∀ d ∈ TL.tl (", " : String), d < 1114112 := by decide +kernel
        exact this c z
      · obtain ⟨x, hx, rfl⟩ := List.mem_map.mp hl
        exact pls_low ws h x hx c z
    · have a1 : ∀ d ∈ ((",)" : String) : Str).cps.toList, d < 1114112 := by decide +kernel
      have a2 : ∀ d ∈ ((")" : String) : Str).cps.toList, d < 1114112 := by decide +kernel
      split at hc
      · exact a1 c hc
      · exact a2 c hc
  | .non, h, _, _ => absurd h Bool.false_ne_true
  | .bl _, h, _, _ => absurd h Bool.false_ne_true
  | .str _, h, _, _ => absurd h Bool.false_ne_true
  | .rs _, h, _, _ => absurd h Bool.false_ne_true
  | .lst _, h, _, _ => absurd h Bool.false_ne_true
  | .fr _, h, _, _ => absurd h Bool.false_ne_true
  | .loc _, h, _, _ => absurd h Bool.false_ne_true
  | .emp, h, _, _ => absurd h Bool.false_ne_true
  | .dk _ _, h, _, _ => absurd h Bool.false_ne_true
theorem pls_low : ∀ (ws : List RL.W), RL.W.pls ws = true → ∀ x ∈ PyData.shownAll (toDs ws), ∀ c ∈ TL.tl x, c < 1114112
  | [], _, x, hx, _, _ => nomatch hx
  | w :: ws, h, x, hx, c, hc => by
    have h := Bool.and_eq_true_iff.mp (show (RL.W.pl w && RL.W.pls ws) = true from h)
    have hx : x ∈ (toD w).shown :: PyData.shownAll (toDs ws) := by simpa only [toDs, PyData.shownAll] using hx
    obtain e | hx := List.mem_cons.mp hx
    · subst e
      exact pl_low w h.1 c hc
    · exact pls_low ws h.2 x hx c hc
end
theorem tx_good {w : RL.W} (h : txB w = true) : sOk (tx w) = true := by
  cases w <;> first | exact absurd h Bool.false_ne_true | skip
  · exact h
  · rename_i u
    have z := pl_low u h
    show (txt u).cps.all (· < 0x110000) = true
    rw [← Array.all_toList, (List.all_eq_true)]
    exact fun c hc => decide_eq_true (z c hc)
theorem tx_rep {G : Gx} {H : Hp} {α : List Addr} {w : RL.W} {v : V} (h : txB w = true) (r : Rep G H α w v) : Rep G H α (.str (tx w)) v := by
  cases r <;> first | exact absurd h Bool.false_ne_true | exact .str _
theorem txs_rep {G : Gx} {H : Hp} {α : List Addr} : ∀ {ws : List RL.W} {vs : List V}, ws.all txB = true → Reps G H α ws vs → Reps G H α (ws.map fun w => .str (tx w)) vs
  | _, _, _, .nil => .nil
  | _, _, q, .cons h r => by
    rw [List.all_cons] at q
    obtain ⟨q1, q2⟩ := (Bool.and_eq_true_iff.mp q)
    exact .cons (tx_rep q1 h) (txs_rep q2 r)
theorem txs_good : ∀ {ws : List RL.W}, ws.all txB = true → RL.W.goods (ws.map fun w => .str (tx w)) = true ∧ RL.W.eqvs (ws.map fun w => .str (tx w)) (ws.map fun w => .str (tx w)) = true ∧ RL.W.dps (ws.map fun w => .str (tx w)) ≤ 0
  | [], _ => ⟨rfl, rfl, Nat.le_refl _⟩
  | w :: ws, q => by
    rw [List.all_cons] at q
    obtain ⟨q1, q2⟩ := (Bool.and_eq_true_iff.mp q)
    obtain ⟨a, b, c⟩ := txs_good q2
    refine ⟨?_, ?_, ?_⟩
    · show (sOk (tx w) && RL.W.goods _) = true
      rw [tx_good q1, a]; rfl
    · show ((tx w == tx w) && RL.W.eqvs _ _) = true
      rw [b, beq_self_eq_true]; rfl
    · show max 0 (RL.W.dps _) ≤ 0
      omega
theorem so_net (hu : X.A.units + 64 < cLine) : OpR X (compareOp .NotEq) (rOp (cop .net)) := by
  intro pins s σ H x y v u Q I rx ry ⟨G, w, w', h, α, z, r1, r2, sr, e, q⟩
  match w, w', e with
  | .lst xs, .lst ys, e =>
    have e : (if (xs.all txB && RL.W.sames xs ys) = true then some (RL.W.bl false) else none) = some z := e
    by_cases hc : (xs.all txB && RL.W.sames xs ys) = true
    rotate_left
    · rw [if_neg hc] at e; cases e
    rw [if_pos hc] at e
    cases e
    obtain ⟨c1, c2⟩ := Bool.and_eq_true_iff.mp hc
    have := sames_eq xs ys c2
    subst this
    have mk : ∀ {x : V}, Rep G H α (.lst xs) x → Rep G H α (.lst (xs.map fun w => .str (tx w))) x := fun r => by
      cases r with
      | lst h1 h2 h3 => exact .lst h1 h2 (txs_rep c1 h3)
    obtain ⟨g1, g2, g3⟩ := txs_good c1
    refine so_ne hu pins s σ H x y v u Q I rx ry ⟨G, _, _, h, α, .bl false, mk r1, mk r2, sr, ?_, q⟩
    have d : RL.W.data dep (.lst (xs.map fun w => .str (tx w))) = true := by
      unfold RL.W.data
      rw [show RL.W.good (.lst (xs.map fun w => .str (tx w))) = true from g1, decide_eq_true (by show RL.W.dps _ + 1 ≤ 60; omega)]; rfl
    show (if (RL.W.data dep (.lst (xs.map fun w => .str (tx w))) && RL.W.data dep (.lst (xs.map fun w => .str (tx w)))) = true then some (RL.W.eqv (.lst (xs.map fun w => .str (tx w))) (.lst (xs.map fun w => .str (tx w)))) else _).map (fun b => RL.W.bl (!b)) = _
    rw [d]
    show (some (RL.W.eqvs _ _)).map (fun b => RL.W.bl (!b)) = _
    rw [g2]; rfl
theorem asInts_some : ∀ {ws : List RL.W} {ns : List Int}, asInts ws = some ns → ws = ns.map RL.W.int
  | [], ns, e => by cases e; rfl
  | x :: r, ns, e => by
    simp only [asInts] at e
    cases hx : asInt x with
    | none => rw [hx] at e; cases e
    | some i =>
      cases hr : asInts r with
      | none => rw [hx, hr] at e; cases e
      | some m =>
        rw [hx, hr] at e
        cases e
        rw [asInt_some hx, asInts_some hr]; rfl
theorem Reps.asInts {H : Hp} {α : List Addr} : ∀ {ns : List Int} {vs : List V}, Reps G H α (ns.map RL.W.int) vs → vs = ns.map V.int
  | [], _, h => by cases h; rfl
  | n :: ns, _, h => by
    cases h with
    | cons a b => rw [a.of_int, Reps.asInts b]; rfl
theorem so_lt (hu : X.A.units < cLine) : OpR X (compareOp .Lt) (rOp (cop .lt)) := by
  intro pins s σ H x y v u Q I rx ry ⟨G, w, w', h, α, z, r1, r2, sr, e, q⟩
  cases w <;> cases w' <;> simp only [cop] at e <;> try cases e
  · exact op_lt pins s σ H x y v u Q I rx ry ⟨_, _, r1.of_int, r2.of_int, q _ _ (Ext.refl _ _) sr (.bl _)⟩
  · rename_i ws ws'
    cases h1 : asInts ws with
    | none => rw [h1] at e; cases e
    | some ns =>
      cases h2 : asInts ws' with
      | none => rw [h1, h2] at e; cases e
      | some ms =>
        rw [h1, h2] at e
        cases e
        rw [asInts_some h1] at r1
        rw [asInts_some h2] at r2
        obtain ⟨p1, vs, rfl, t1, f1, q1⟩ := r1.of_tup
        obtain ⟨p2, vs2, rfl, t2, f2, q2⟩ := r2.of_tup
        rw [q1.asInts] at t1
        rw [q2.asInts] at t2
        refine op_ltT hu pins s σ H _ _ v u Q I rx ry ⟨p1, p2, ns, ms, rfl, rfl, t1.sq, t2.sq, ?_⟩
        rw [← lexI_eq]
        exact q _ _ (Ext.refl _ _) sr (.bl _)
theorem so_le : OpR X (compareOp .LtE) (rOp (cop .le)) := OpR.weak op_le fun x y H Q ⟨G, w, u, h, α, z, r1, r2, sr, e, q⟩ => by
  cases w <;> cases u <;> simp only [cop] at e <;> cases e
  exact ⟨_, _, r1.of_int, r2.of_int, q _ _ (Ext.refl _ _) sr (.bl _)⟩
theorem so_gt : OpR X (compareOp .Gt) (rOp (cop .gt)) := OpR.weak op_gt fun x y H Q ⟨G, w, u, h, α, z, r1, r2, sr, e, q⟩ => by
  cases w <;> cases u <;> simp only [cop] at e <;> cases e
  exact ⟨_, _, r1.of_int, r2.of_int, q _ _ (Ext.refl _ _) sr (.bl _)⟩
theorem so_ge : OpR X (compareOp .GtE) (rOp (cop .ge)) := OpR.weak op_ge fun x y H Q ⟨G, w, u, h, α, z, r1, r2, sr, e, q⟩ => by
  cases w <;> cases u <;> simp only [cop] at e <;> cases e
  exact ⟨_, _, r1.of_int, r2.of_int, q _ _ (Ext.refl _ _) sr (.bl _)⟩
theorem isNon_v {H : Hp} {α : List Addr} {w : RL.W} {x : V} (r : Rep G H α w x) : isNon w = decide (x = .non) := by
  cases r <;> simp [isNon]
theorem so_is : OpR X (compareOp .Is) (rOp (cop .is)) := OpR.weak (OpR.or op_isN op_isBl) fun x y H Q ⟨G, w, u, h, α, z, r1, r2, sr, e, q⟩ => by
  cases u <;> simp only [cop] at e <;> try cases e
  · exact .inl ⟨r2.of_non, by rw [← isNon_v r1]; exact q _ _ (Ext.refl _ _) sr (.bl _)⟩
  · cases w <;> simp only [asBl, Option.map_some, Option.map_none] at e <;> cases e
    exact .inr ⟨_, _, r1.of_bl, r2.of_bl, q _ _ (Ext.refl _ _) sr (.bl _)⟩
theorem so_isnot : OpR X (compareOp .IsNot) (rOp (cop .isnot)) := OpR.weak (OpR.or op_notN op_notBl) fun x y H Q ⟨G, w, u, h, α, z, r1, r2, sr, e, q⟩ => by
  cases u <;> simp only [cop] at e <;> try cases e
  · exact .inl ⟨r2.of_non, by rw [← isNon_v r1]; exact q _ _ (Ext.refl _ _) sr (.bl _)⟩
  · cases w <;> simp only [asBl, Option.map_some, Option.map_none] at e <;> cases e
    exact .inr ⟨_, _, r1.of_bl, r2.of_bl, q _ _ (Ext.refl _ _) sr (.bl _)⟩
/-! ### in -/
theorem any_eqv : ∀ (ys : List RL.W) (x : RL.W), W.good x = true → W.goods ys = true → ((toDs ys).any fun d => PyData.eqv d (toD x)) = isIn x ys
  | [], _, _, _ => rfl
  | y :: ys, x, hx, hy => by
    have h' := Bool.and_eq_true_iff.mp (show (W.good y && W.goods ys) = true from by simpa [W.goods] using hy)
    rw [toDs, List.any_cons, isIn, any_eqv ys x hx h'.2, eqv_data y x h'.1 hx]
theorem so_in (hu : X.A.units + 65 < cLine) : OpR X (compareOp .In) (rOp (cop .isin)) := by
  intro pins s σ H x y v u Q I rx ry ⟨G, w, w', h, α, z, r1, r2, sr, e, q⟩
  simp only [cop] at e
  split at e
  · rename_i ys hy
    split at e <;> cases e
    rename_i hc
    have hc := Bool.and_eq_true_iff.mp hc
    obtain ⟨g1, b1⟩ := data_and hc.1
    obtain ⟨g2, b2⟩ := datas_and hc.2
    obtain ⟨as, rd⟩ := Dp.reads I (toD w) x v (rep_dp (K := X.K) r1 g1) rx
    have room : X.A.units + 1 + min (PyData.depthAll (toDs ys)) (toD w).depth < cLine := by
      rw [data_dp]
      have : min (PyData.depthAll (toDs ys)) (W.dp w) ≤ 60 := Nat.le_trans (Nat.min_le_right _ _) b1
      omega
    have fin : EP X pins σ Q (.bool ((toDs ys).any fun d => PyData.eqv d (toD w))) s := by
      rw [any_eqv ys w g1 g2]
      exact ⟨.bl _, H, I, rfl, q _ _ (Ext.refl _ _) sr (.bl _)⟩
    rcases rep_items sr r2 hy with ⟨a, vs, rfl, h1, q1, _⟩ | ⟨a, vs, rfl, h1, q1, _⟩
    · obtain ⟨bs, rc⟩ := Dp.reads I (.list (toDs ys)) _ u (.lst (.inl h1) (rep_dps (K := X.K) q1 g2)) ry
      exact SeqAt.in_list_reads rc rd (datas_can ys g2) (data_can w g1) room fin
    · obtain ⟨bs, rc⟩ := Dp.reads I (.tuple (toDs ys)) _ u (.tup (.inl h1) (rep_dps (K := X.K) q1 g2)) ry
      exact SeqAt.in_tuple_reads rc rd (datas_can ys g2) (data_can w g1) room fin
  · obtain ⟨c, b, rfl, rfl, rfl⟩ := signIn_some e
    cases r1; cases r2
    exact op_in_sign pins s σ H _ _ v u Q I rx ry ⟨c, b, rfl, rfl, q _ _ (Ext.refl _ _) sr (.bl _)⟩
theorem so_notin (hu : X.A.units + 65 < cLine) : OpR X (compareOp .NotIn) (rOp (cop .notin)) := by
  intro pins s σ H x y v u Q I rx ry ⟨G, w, w', h, α, z, r1, r2, sr, e, q⟩
  simp only [cop] at e
  split at e
  · rename_i ys hy
    split at e <;> cases e
    rename_i hc
    have hc := Bool.and_eq_true_iff.mp hc
    obtain ⟨g1, b1⟩ := data_and hc.1
    obtain ⟨g2, b2⟩ := datas_and hc.2
    obtain ⟨as, rd⟩ := Dp.reads I (toD w) x v (rep_dp (K := X.K) r1 g1) rx
    have room : X.A.units + 1 + min (PyData.depthAll (toDs ys)) (toD w).depth < cLine := by
      rw [data_dp]
      have : min (PyData.depthAll (toDs ys)) (W.dp w) ≤ 60 := Nat.le_trans (Nat.min_le_right _ _) b1
      omega
    have fin : EP X pins σ Q (.bool (!(toDs ys).any fun d => PyData.eqv d (toD w))) s := by
      rw [any_eqv ys w g1 g2]
      exact ⟨.bl _, H, I, rfl, q _ _ (Ext.refl _ _) sr (.bl _)⟩
    rcases rep_items sr r2 hy with ⟨a, vs, rfl, h1, q1, _⟩ | ⟨a, vs, rfl, h1, q1, _⟩
    · obtain ⟨bs, rc⟩ := Dp.reads I (.list (toDs ys)) _ u (.lst (.inl h1) (rep_dps (K := X.K) q1 g2)) ry
      exact SeqAt.notIn_list_reads rc rd (datas_can ys g2) (data_can w g1) room fin
    · obtain ⟨bs, rc⟩ := Dp.reads I (.tuple (toDs ys)) _ u (.tup (.inl h1) (rep_dps (K := X.K) q1 g2)) ry
      exact SeqAt.notIn_tuple_reads rc rd (datas_can ys g2) (data_can w g1) room fin
  · obtain ⟨b, hb, e⟩ := Option.map_eq_some_iff.mp e
    obtain ⟨y, hy, hb⟩ := Option.bind_eq_some_iff.mp hb
    obtain ⟨c, d, rfl, rfl, rfl⟩ := signIn_some hy
    cases hb
    cases e
    cases r1; cases r2
    exact op_notIn_sign pins s σ H _ _ v u Q I rx ry ⟨c, d, rfl, rfl, q _ _ (Ext.refl _ _) sr (.bl _)⟩
end
end RL

namespace RL
open PySem.Spec PySem PyProof.Rows L2
variable [Tabl]
def okCop : Cop → CmpOp → Bool
  | .eq, .Eq => true
  | .ne, .NotEq => true
  | .lt, .Lt => true
  | .le, .LtE => true
  | .gt, .Gt => true
  | .ge, .GtE => true
  | .isin, .In => true
  | .notin, .NotIn => true
  | .is, .Is => true
  | .isnot, .IsNot => true
  | .net, .NotEq => true
  | _, _ => false
def okBop : Bop → Operator → Bool
  | .add, .Add => true
  | .sub, .Sub => true
  | .mul, .Mult => true
  | .fdiv, .FloorDiv => true
  | .mod, .Mod => true
  | .pow, .Pow => true
  | _, _ => false
section
variable {X : Cx} {G : Gx} {cv : Cv} {W : WX} {cf : CF}
theorem so_bop (pr : PylAt X.prog X.w X.base X.A) {i : Bop} {o : Operator} (h : okBop i o = true) : OpR X (binaryOp o) (rOp (bop i)) := by
  cases i <;> cases o <;> first | exact absurd h Bool.false_ne_true | exact so_add | exact so_sub | exact so_mul | exact so_fdiv pr | exact so_mod | exact so_pow
theorem so_cop {k : Nat} (hr : Room k X.A) {i : Cop} {o : CmpOp} (h : okCop i o = true) : OpR X (compareOp o) (rOp (cop i)) := by
  have u0 := hr.un
  have u1 : X.A.units + 64 < cLine := by omega
  have u2 : X.A.units + 65 < cLine := by omega
  have u3 : X.A.units < cLine := by omega
  cases i <;> cases o <;> first | exact absurd h Bool.false_ne_true | exact so_eq u1 | exact so_ne u1 | exact so_lt u3 | exact so_le | exact so_gt | exact so_ge | exact so_in u2 | exact so_notin u2 | exact so_is | exact so_isnot | exact so_net u1
/-- the rest of a chain, as a value and as a test -/
structure SC (X : Cx) (cv : Cv) (W : WX) (cf : CF) (ops : List CmpOp) (es : List Expr) (cs : Cs) : Prop where
  val : ∀ (pos : Pos) (pins : List (Addr × Obj)) (s : Shared) (σ : L2.St) (H : Hp) (Q : VK) (a : Value) (x : V), Inv X pins σ H s → RelV x a →
    (∃ G ρ h α w, EnvR G ρ α σ H ∧ StR G h α H ∧ Rep G H α w x ∧ Post G cv W σ (relW G) (evCs cf cs w ρ h) α H Q) →
    wpAny (model X.prog X.w) X.A (compareChain pos a ops (evalEach es X.env)) (EP X pins σ Q) X.xe s
  tst : ∀ (pos : Pos) (pins : List (Addr × Obj)) (s : Shared) (σ : L2.St) (H : Hp) (Q : Bool → Hp → Prop) (a : Value) (x : V), Inv X pins σ H s → RelV x a →
    (∃ G ρ h α w, EnvR G ρ α σ H ∧ StR G h α H ∧ Rep G H α w x ∧ Post G cv W σ relE ((evCs cf cs w ρ h).bind fun x h => R.of (asBl x) h) α H Q) →
    wpAny (model X.prog X.w) X.A (testChain pos a ops (evalEach es X.env)) (TP X pins σ Q) X.xe s
/-- an operation's outcome -/
theorem rOp_some {β : Type} {γ : Type} {rel : List Addr → Hp → β → γ → Prop} {f : RL.W → RL.W → Hs → Option RL.W} {w u : RL.W} {h : Hs} {α : List Addr} {H : Hp} {σ : L2.St} {Qz : γ → Hp → Prop} {g : RL.W → Hs → R β}
    (p : Post G cv W σ rel ((R.of (f w u h) h).bind g) α H Qz) : ∃ z, f w u h = some z ∧ Post G cv W σ rel (g z h) α H Qz := by
  cases q : f w u h with
  | none => rw [q] at p; exact p.elim
  | some z => rw [q] at p; exact ⟨z, rfl, p⟩
theorem sc_one {op : CmpOp} {e : Expr} {iop : Cop} {ie : E} (ho : OpR X (compareOp op) (rOp (cop iop))) (he : PE X e (tR cv W (evE cf ie))) : SC X cv W cf [op] [e] (.one iop ie) := by
  constructor
  · intro pos pins s σ H Q a x I rx ⟨G, ρ, h, α, w, er, sr, r, p⟩
    simp only [evCs] at p
    refine chain_last (thn (he.run pins s σ H (fun y H1 => rOp (cop iop) x y H1 Q) I ⟨G, ρ, h, α, er, sr, p.bind fun u h1 α1 H1 y e1 s1 r1 p1 => ?_⟩) fun b s1 ⟨y, H1, I1, ry, q⟩ => ho pins s1 σ H1 x y a b Q I1 rx ry q)
    have p1' : Post G cv W σ (relW G) ((R.of (cop iop w u h1) h1).bind fun z h => .ok z h) α1 H1 Q := by
      cases q : cop iop w u h1 with
      | none => rw [q] at p1; exact p1.elim
      | some z => rw [q] at p1; exact p1
    obtain ⟨z, ez, p2⟩ := rOp_some p1'
    exact ⟨G, w, u, h1, α1, z, r.mono e1, r1, s1, ez, fun v H' e' s' r' => p2.ok' e' s' r'⟩
  · intro pos pins s σ H Q a x I rx ⟨G, ρ, h, α, w, er, sr, r, p⟩
    simp only [evCs] at p
    refine test_last (thn (he.run pins s σ H (fun y H1 => rOp (cop iop) x y H1 fun z H2 => ∃ k, z = .bl k ∧ Q k H2) I ⟨G, ρ, h, α, er, sr, ?_⟩) fun b s1 ⟨y, H1, I1, ry, q⟩ =>
      thn (ho pins s1 σ H1 x y a b _ I1 rx ry q) fun c s2 ⟨z, H2, I2, rz, k, ez, q2⟩ => ?_)
    · cases qe : evE cf ie ρ h with
      | bad => rw [qe] at p; exact p
      | ex _ _ => rw [qe] at p; exact p
      | ok u h1 =>
        rw [qe] at p
        refine fun α1 H1 y e1 s1 r1 => ?_
        have p1 : Post G cv W σ relE ((R.of (cop iop w u h1) h1).bind fun x h => R.of (asBl x) h) α1 H1 Q := Post.base e1 p
        obtain ⟨z, ez, p2⟩ := rOp_some p1
        refine ⟨G, w, u, h1, α1, z, r.mono e1, r1, s1, ez, fun v H' e' s' r' => ?_⟩
        cases qb : asBl z with
        | none => rw [qb] at p2; exact p2.elim
        | some k =>
          rw [qb] at p2
          have := asBl_some qb; subst this
          exact ⟨k, r'.of_bl, p2.ok' e' s' rfl⟩
    · subst ez
      cases rz
      exact wpAny_truthy_bool ⟨H2, I2, q2⟩
theorem sc_cons {op : CmpOp} {e e' : Expr} {op' : CmpOp} {ops : List CmpOp} {es : List Expr} {iop : Cop} {ie : E} {cs : Cs} (ho : OpR X (compareOp op) (rOp (cop iop))) (he : PE X e (tR cv W (evE cf ie)))
    (hc : SC X cv W cf (op' :: ops) (e' :: es) cs) : SC X cv W cf (op :: op' :: ops) (e :: e' :: es) (.cons iop ie cs) := by
  constructor
  · intro pos pins s σ H Q a x I rx ⟨G, ρ, h, α, w, er, sr, r, p⟩
    simp only [evCs] at p
    refine chain_link (thn (he.run pins s σ H (fun y H1 => rOp (cop iop) x y H1 fun z H2 => ∃ k, z = .bl k ∧ if k = true then (∃ G ρ h α w, EnvR G ρ α σ H2 ∧ StR G h α H2 ∧ Rep G H2 α w y ∧ Post G cv W σ (relW G) (evCs cf cs w ρ h) α H2 Q) else Q (.bl false) H2) I
      ⟨G, ρ, h, α, er, sr, p.bind fun u h1 α1 H1 y e1 s1 r1 p1 => ?_⟩) fun b s1 ⟨y, H1, I1, ry, q⟩ => thn (ho pins s1 σ H1 x y a b _ I1 rx ry q) fun c s2 ⟨z, H2, I2, rz, k, ez, q2⟩ => ?_)
    · obtain ⟨z, ez, p2⟩ := rOp_some p1
      obtain ⟨k, rfl, p3⟩ := post_bl p2
      refine ⟨G, w, u, h1, α1, _, r.mono e1, r1, s1, ez, fun v H' e' s' r' => ⟨k, r'.of_bl, ?_⟩⟩
      cases k with
      | true =>
        rw [if_pos rfl] at p3 ⊢
        exact ⟨G, ρ, h1, α1, u, (er.mono e1).mono e', s', r1.mono e', Post.base e' p3⟩
      | false =>
        rw [if_neg Bool.false_ne_true] at p3 ⊢
        exact p3.ok' e' s' (.bl _)
    · subst ez
      cases rz
      refine wpAny_truthy_bool ?_
      cases k with
      | true =>
        rw [if_pos rfl] at q2
        exact ite_tt (hc.val pos pins s2 σ H2 Q b y I2 ry q2)
      | false =>
        rw [if_neg Bool.false_ne_true] at q2
        exact ite_ff ⟨.bl false, H2, I2, rfl, q2⟩
  · intro pos pins s σ H Q a x I rx ⟨G, ρ, h, α, w, er, sr, r, p⟩
    simp only [evCs] at p
    refine test_link (thn (he.run pins s σ H (fun y H1 => rOp (cop iop) x y H1 fun z H2 => ∃ k, z = .bl k ∧ if k = true then (∃ G ρ h α w, EnvR G ρ α σ H2 ∧ StR G h α H2 ∧ Rep G H2 α w y ∧ Post G cv W σ relE ((evCs cf cs w ρ h).bind fun x h => R.of (asBl x) h) α H2 Q) else Q false H2) I
      ⟨G, ρ, h, α, er, sr, ?_⟩) fun b s1 ⟨y, H1, I1, ry, q⟩ => thn (ho pins s1 σ H1 x y a b _ I1 rx ry q) fun c s2 ⟨z, H2, I2, rz, k, ez, q2⟩ => ?_)
    · cases qe : evE cf ie ρ h with
      | bad => rw [qe] at p; exact p
      | ex _ _ => rw [qe] at p; exact p
      | ok u h1 =>
        rw [qe] at p
        refine fun α1 H1 y e1 s1 r1 => ?_
        simp only [R.bind] at p
        cases qz : cop iop w u h1 with
        | none => rw [qz] at p; exact p.elim
        | some z =>
          rw [qz] at p
          simp only [R.of] at p
          cases qb : asBl z with
          | none => rw [qb] at p; exact p.elim
          | some k =>
            rw [qb] at p
            have := asBl_some qb; subst this
            refine ⟨G, w, u, h1, α1, _, r.mono e1, r1, s1, qz, fun v H' e' s' r' => ⟨k, r'.of_bl, ?_⟩⟩
            cases k with
            | true =>
              rw [if_pos rfl]
              exact ⟨G, ρ, h1, α1, u, (er.mono e1).mono e', s', r1.mono e', Post.base (e1.trans e') p⟩
            | false =>
              rw [if_neg (fun z => nomatch z)]
              exact Post.ok' (rel := relE) p (e1.trans e') s' rfl
    · subst ez
      cases rz
      refine wpAny_truthy_bool ?_
      cases k with
      | true =>
        rw [if_pos rfl] at q2
        exact ite_tt (hc.tst pos pins s2 σ H2 Q b y I2 ry q2)
      | false =>
        rw [if_neg Bool.false_ne_true] at q2
        exact ite_ff ⟨H2, I2, q2⟩
theorem sd_cmp {l : Expr} {ops : List CmpOp} {es : List Expr} {il : E} {cs : Cs} {pos : Pos} (hl : PE X l (tR cv W (evE cf il))) (hc : SC X cv W cf ops es cs) (hm : lastMarks ops es = false) :
    PE X (.Compare l ops es pos) (tR cv W (evE cf (.cmp il cs))) := by
  refine ⟨fun pins s σ H Q I ⟨G, ρ, h, α, er, sr, p⟩ => ?_⟩
  simp only [evE] at p
  show wpAny _ _ (do compareChain pos (← eval l X.env) ops (markedEach ops es (evalEach es X.env))) _ _ s
  simp only [markedEach_of_false _ _ _ hm]
  refine wpAny_bind (thn (hl.run pins s σ H (fun x H1 => ∃ G ρ h α w, EnvR G ρ α σ H1 ∧ StR G h α H1 ∧ Rep G H1 α w x ∧ Post G cv W σ (relW G) (evCs cf cs w ρ h) α H1 Q) I ⟨G, ρ, h, α, er, sr, p.bind fun w h1 α1 H1 x e1 s1 r1 p1 => ?_⟩) fun a s1 ⟨x, H1, I1, rx, q⟩ => hc.val pos pins s1 σ H1 Q a x I1 rx q)
  exact ⟨G, ρ, h1, α1, w, er.mono e1, s1, r1, p1⟩
theorem sd_cmpT {l : Expr} {ops : List CmpOp} {es : List Expr} {il : E} {cs : Cs} {pos : Pos} (hl : PE X l (tR cv W (evE cf il))) (hc : SC X cv W cf ops es cs) (hm : lastMarks ops es = false) :
    PT X (.Compare l ops es pos) (tRT cv W (asT (evE cf (.cmp il cs)))) := by
  refine ⟨fun pins s σ H Q I ⟨G, ρ, h, α, er, sr, p⟩ => ?_⟩
  simp only [asT, evE] at p
  show wpAny _ _ (do testChain pos (← eval l X.env) ops (markedEach ops es (evalEach es X.env))) _ _ s
  simp only [markedEach_of_false _ _ _ hm]
  refine wpAny_bind (thn (hl.run pins s σ H (fun x H1 => ∃ G ρ h α w, EnvR G ρ α σ H1 ∧ StR G h α H1 ∧ Rep G H1 α w x ∧ Post G cv W σ relE ((evCs cf cs w ρ h).bind fun x h => R.of (asBl x) h) α H1 Q) I ⟨G, ρ, h, α, er, sr, ?_⟩) fun a s1 ⟨x, H1, I1, rx, q⟩ => hc.tst pos pins s1 σ H1 Q a x I1 rx q)
  cases qe : evE cf il ρ h with
  | bad => rw [qe] at p; exact p
  | ex _ _ => rw [qe] at p; exact p
  | ok w h1 =>
    rw [qe] at p
    exact fun α1 H1 x e1 s1 r1 => ⟨G, ρ, h1, α1, w, er.mono e1, s1, r1, Post.base e1 p⟩
end
end RL

namespace RL
open PySem.Spec PySem PyProof.Rows L2
variable [Tabl]
section
variable {X : Cx} {G : Gx} {cv : Cv} {W : WX} {cf : CF}
theorem ixN_eq (n : Nat) (i : Int) : RL.ixN n i = L2.ixN n i := by
  unfold RL.ixN L2.ixN
  by_cases h : 0 ≤ i
  · simp only [h, if_true]
  · by_cases g : -(n : Int) ≤ i
    · have g' : 0 ≤ i + n := by omega
      simp only [h, g, g', if_true, if_false]
    · have g' : ¬ 0 ≤ i + n := by omega
      simp only [h, g, g', if_false]
theorem sIx_eq (n d : Nat) (o : Option Int) : RL.sIx n d o = HT.sIx n d o := by
  cases o with
  | none => rfl
  | some v => unfold RL.sIx HT.sIx; simp only [Int.add_comm]
theorem sd_idx {a b : Expr} {ia ib : E} {pos : Pos} (ha : PE X a (tR cv W (evE cf ia))) (hb : PE X b (tR cv W (evE cf ib))) (hs : PlainIx b) : PE X (.Subscript a b pos) (tR cv W (evE cf (.idx ia ib))) := by
  refine PE.weak (pe_ix ix_seq ha hb hs) fun σ H Q ⟨G, ρ, h, α, er, sr, p⟩ => ?_
  simp only [evE] at p
  refine ⟨G, ρ, h, α, er, sr, p.bind fun x h1 α1 H1 c e1 s1 r1 p1 => ?_⟩
  refine ⟨G, ρ, h1, α1, er.mono e1, s1, p1.bind fun y h2 α2 H2 d e2 s2 r2 p2 => ?_⟩
  cases q1 : asInt y with
  | none => rw [q1] at p2; exact p2.elim
  | some i =>
    cases q2 : items h2 x with
    | none => rw [q1, q2] at p2; exact p2.elim
    | some xs =>
      cases q3 : RL.ixN xs.length i with
      | none => rw [q1, q2] at p2; simp only [Option.bind_some, q3] at p2; exact p2.elim
      | some j =>
        cases q4 : xs[j]? with
        | none => rw [q1, q2] at p2; simp only [Option.bind_some, q3, q4] at p2; exact p2.elim
        | some z =>
          rw [q1, q2] at p2
          simp only [Option.bind_some, q3, q4] at p2
          have := asInt_some q1; subst this
          have ei := r2.of_int
          rcases rep_items s2 (r1.mono e2) q2 with ⟨a, vs, ec, h1, rs, _⟩ | ⟨a, vs, ec, h1, rs, _⟩
          · obtain ⟨v, g1, g2⟩ := rs.get q4
            exact .inl ⟨a, vs, i, v, ec, ei, .inl h1, by unfold atI; rw [← ixN_eq, ← rs.length, q3]; exact g1, p2.ok s2 g2⟩
          · obtain ⟨v, g1, g2⟩ := rs.get q4
            exact .inr (.inl ⟨a, vs, i, v, ec, ei, .inl h1, by unfold atI; rw [← ixN_eq, ← rs.length, q3]; exact g1, p2.ok s2 g2⟩)
/-- a slice's bound -/
theorem sd_noPart : PO X none (fun σ H Q => ∃ G ρ h α, EnvR G ρ α σ H ∧ StR G h α H ∧ Post G cv W σ relE (evOe cf .none ρ h) α H Q) :=
  ⟨fun pins s σ H Q I ⟨G, ρ, h, α, er, sr, p⟩ => po_none.run pins s σ H Q I (Post.ok (rel := relE) p sr rfl)⟩
theorem sd_part {e : Expr} {ie : E} (he : PE X e (tR cv W (evE cf ie))) : PO X (some e) (fun σ H Q => ∃ G ρ h α, EnvR G ρ α σ H ∧ StR G h α H ∧ Post G cv W σ relE (evOe cf (.some ie) ρ h) α H Q) := by
  refine ⟨fun pins s σ H Q I ⟨G, ρ, h, α, er, sr, p⟩ => (po_some he).run pins s σ H Q I ⟨G, ρ, h, α, er, sr, ?_⟩⟩
  simp only [evOe] at p
  refine p.bind fun x h1 α1 H1 c e1 s1 r1 p1 => ?_
  cases q : asInt x with
  | none => rw [q] at p1; exact p1.elim
  | some i =>
    rw [q] at p1
    have := asInt_some q; subst this
    exact ⟨i, r1.of_int, Post.ok (rel := relE) p1 s1 rfl⟩
theorem cut_eq {α : List Addr} {H : Hp} {ws : List RL.W} {vs : List V} (r : Reps G H α ws vs) (l u : Option Int) : Reps G H α (cut ws l u) (cutV vs l u) := by
  unfold cut cutV
  rw [sIx_eq, sIx_eq, r.length]
  exact (r.drop _).take _
theorem cut_whole {ws : List RL.W} {l u : Option Int} (h : HT.sIx ws.length 0 l = 0 ∧ HT.sIx ws.length ws.length u = ws.length) : cut ws l u = ws := by
  unfold cut
  rw [sIx_eq, sIx_eq, h.1, h.2, List.drop_zero, Nat.sub_zero, List.take_length]
theorem sd_sl {a : Expr} {lo hi : Option Expr} {ia : E} {il iu : Oe} {pos p2 : Pos} (ha : PE X a (tR cv W (evE cf ia)))
    (hl : PO X lo (fun σ H Q => ∃ G ρ h α, EnvR G ρ α σ H ∧ StR G h α H ∧ Post G cv W σ relE (evOe cf il ρ h) α H Q)) (hu : PO X hi (fun σ H Q => ∃ G ρ h α, EnvR G ρ α σ H ∧ StR G h α H ∧ Post G cv W σ relE (evOe cf iu ρ h) α H Q)) :
    PE X (.Subscript a (.Slice lo hi none p2) pos) (tR cv W (evE cf (.sl ia il iu))) := by
  refine PE.weak (pe_slice (SlR.or sl_tupK sl_list) ha hl hu) fun σ H Q ⟨G, ρ, h, α, er, sr, p⟩ => ?_
  simp only [evE] at p
  refine ⟨G, ρ, h, α, er, sr, p.bind fun x h1 α1 H1 c e1 s1 r1 p1 => ?_⟩
  refine ⟨G, ρ, h1, α1, er.mono e1, s1, p1.bind fun l h2 α2 H2 d e2 s2 r2 p2 => ?_⟩
  subst r2
  refine ⟨G, ρ, h2, α2, (er.mono e1).mono e2, s2, p2.bind fun u h3 α3 H3 d e3 s3 r3 p3 => ?_⟩
  subst r3
  have r1' := (r1.mono e2).mono e3
  have lists : ∀ (xs : List RL.W) (a : Addr) (vs : List V), c = .ref a → Rd H3 a (.lst vs) → Reps G H3 α3 xs vs → slc h3 x l u = some (.lst (cut xs l u)) → rSlK X.K c l u H3 Q ∨ rSlL X.K c l u H3 Q := fun xs a vs ec hr rs eq => by
    rw [eq] at p3
    exact Or.inr ⟨a, vs, ec, .inl hr, fun p hp => p3.ok' (Ext.new hp) (s3.new hp) (.lst upd_same (s3.fz hp) ((cut_eq rs l u).mono (Ext.new hp)))⟩
  cases q : items h3 x with
  | none => cases x <;> simp only [slc, q] at p3 <;> first | exact p3.elim | (simp [items] at q)
  | some xs =>
    rcases rep_items s3 r1' q with ⟨a, vs, ec, hr, rs, nt⟩ | ⟨a, vs, ec, hr, rs, et⟩
    · refine lists xs a vs ec hr rs ?_
      cases x <;> first | exact absurd rfl (nt _) | (simp only [slc, q]; rfl)
    · subst et
      obtain ⟨a', vs', ec', hr', hf, rs'⟩ := r1'.of_tup
      simp only [slc, R.of] at p3
      refine .inl ⟨a', vs', ec', hr'.sq, fun hw => ?_, fun hw b _ hd hb => ?_⟩
      · rw [← rs'.length] at hw
        rw [cut_whole hw] at p3
        rw [ec'] at r1'
        exact p3.ok s3 r1'
      · exact p3.ok' (Ext.new hb) (s3.new hb) (.tup upd_same hd (s3.fz hb) ((cut_eq rs' l u).mono (Ext.new hb)))
/-! ### built-ins -/
def rCl (f : List RL.W → Hs → Option RL.W) : List V → Hp → VK → Prop := fun xs H Q => ∃ G ws h α z, Reps G H α ws xs ∧ StR G h α H ∧ f ws h = some z ∧
  ∀ v H', Ext H α H' α → StR G h α H' → Rep G H' α z v → Q v H'
theorem CallR.weak {f : Value} {r r' : List V → Hp → VK → Prop} (p : CallR X f r) (h : ∀ xs H Q, r' xs H Q → r xs H Q) : CallR X f r' := fun pins s σ H xs us Q I rx q => p pins s σ H xs us Q I rx (h _ _ _ q)
theorem cl_args {b : Bi} {ies : Es} {σ : L2.St} {H : Hp} {Q : VK} : tR cv W (evE cf (.blt b ies)) σ H Q → tRA cv W (evEs cf ies) σ H fun vs H1 => rCl (blt b) vs H1 Q := fun ⟨G, ρ, h, α, er, sr, p⟩ => by
  simp only [evE] at p
  refine ⟨G, ρ, h, α, er, sr, p.bind fun ws h1 α1 H1 c e1 s1 r1 p1 => ?_⟩
  cases q : blt b ws h1 with
  | none => rw [q] at p1; exact p1.elim
  | some z =>
    rw [q] at p1
    exact ⟨G, ws, h1, α1, z, r1, s1, q, fun v H' e' s' r' => p1.ok' e' s' r'⟩
theorem sd_blt {x : Str} {id : String} {b : Bi} {e : Expr} {es : List Expr} {ies : Es} {p pos : Pos} (hc : CallR X (.builtin id) (rCl (blt b))) (hg : Gl X x) (hm : X.mg x = none) (hv : bootBuiltins x = some (.builtin id))
    (ha : PA X (e :: es) (tRA cv W (evEs cf ies))) (hn : x ≠ "__name__") (hd : (x == ("__debug__" : Str)) = false) (he : starEach (e :: es) X.env = (false, eval e X.env) :: starEach es X.env) (hpl : (backTo pos (starEach es X.env)).any (·.1) = false) :
    PE X (.Call (.Name x p) (e :: es) [] pos) (tR cv W (evE cf (.blt b ies))) :=
  PE.weak (pe_callB hc hg hm hv ha hn hd he hpl) fun σ H Q q => cl_args q
theorem sd_blty {x : Str} {T : String} {b : Bi} {e : Expr} {es : List Expr} {ies : Es} {p pos : Pos} (hc : CallR X (.type T) (rCl (blt b))) (hg : Gl X x) (hm : X.mg x = none) (hv : bootBuiltins x = some (.type T))
    (ha : PA X (e :: es) (tRA cv W (evEs cf ies))) (hn : x ≠ "__name__") (hd : (x == ("__debug__" : Str)) = false) (he : starEach (e :: es) X.env = (false, eval e X.env) :: starEach es X.env) (hpl : (backTo pos (starEach es X.env)).any (·.1) = false) :
    PE X (.Call (.Name x p) (e :: es) [] pos) (tR cv W (evE cf (.blt b ies))) :=
  PE.weak (pe_callTy hc hg hm hv ha hn hd he hpl) fun σ H Q q => cl_args q
theorem Reps.one {α : List Addr} {H : Hp} {w : RL.W} {xs : List V} (r : Reps G H α [w] xs) : ∃ v, xs = [v] ∧ Rep G H α w v := by
  cases r with
  | cons a b => cases b; exact ⟨_, rfl, a⟩
theorem Reps.two {α : List Addr} {H : Hp} {w u : RL.W} {xs : List V} (r : Reps G H α [w, u] xs) : ∃ v y, xs = [v, y] ∧ Rep G H α w v ∧ Rep G H α u y := by
  cases r with
  | cons a b =>
    cases b with
    | cons c d => cases d; exact ⟨_, _, rfl, a, c⟩
theorem cl_len : CallR X (.builtin "len") (rCl (blt .len)) := CallR.weak call_len fun xs H Q ⟨G, ws, h, α, z, r, sr, e, q⟩ => by
  unfold blt at e
  split at e <;> try (simp at e; done)
  all_goals first | contradiction | skip
  rename_i x _
  obtain ⟨v, rfl, rv⟩ := r.one
  cases q1 : items h x with
  | none => rw [q1] at e; cases e
  | some ys =>
    rw [q1] at e; cases e
    have fin := q _ _ (Ext.refl _ _) sr (.int _)
    rcases rep_items sr rv q1 with ⟨a, vs, rfl, hr, rs, _⟩ | ⟨a, vs, rfl, hr, rs, _⟩
    · exact ⟨_, vs.length, rfl, .inl ⟨vs, .inl hr, rfl⟩, by rw [← rs.length]; exact fin⟩
    · exact ⟨_, vs.length, rfl, .inr ⟨vs, .inl hr, rfl⟩, by rw [← rs.length]; exact fin⟩
end
end RL

namespace RL
open PySem.Spec PySem PyProof.Rows L2
variable [Tabl]
theorem bl_sum {ws : List W} {h : Hs} {z : W} (e : blt .sum ws h = some z) : ∃ x ys n, ws = [x] ∧ itemsT h x = some ys ∧ sumI ys = some n ∧ z = .int n := by
  match ws, e with
  | [], e => cases e
  | [x], e =>
    simp only [blt] at e
    cases q : itemsT h x with
    | none => exact nomatch (q ▸ e)
    | some ys =>
      rw [q] at e
      simp only [Option.bind_some] at e
      cases q2 : sumI ys with
      | none => rw [q2] at e; cases e
      | some n => rw [q2] at e; cases e; exact ⟨x, ys, n, rfl, q, q2, rfl⟩
  | _ :: _ :: _, e => cases e
theorem sumI_some : ∀ {ys : List W} {n : Int}, sumI ys = some n → ∃ ns : List Int, ys = ns.map W.int ∧ n = ns.sum
  | [], n, e => by cases e; exact ⟨[], rfl, rfl⟩
  | x :: r, n, e => by
    simp only [sumI] at e
    cases hx : asInt x with
    | none => rw [hx] at e; cases e
    | some i =>
      cases hr : sumI r with
      | none => rw [hx, hr] at e; cases e
      | some m =>
        rw [hx, hr] at e
        cases e
        obtain ⟨ns, rfl, rfl⟩ := sumI_some hr
        exact ⟨i :: ns, by rw [asInt_some hx]; rfl, by rw [List.sum_cons]⟩
theorem allB_some : ∀ {ys : List W} {n : Bool}, allB ys = some n → ∃ ns : List Bool, ys = ns.map W.bl ∧ n = ns.all id
  | [], n, e => by cases e; exact ⟨[], rfl, rfl⟩
  | x :: r, n, e => by
    simp only [allB] at e
    cases hx : asBl x with
    | none => rw [hx] at e; cases e
    | some i =>
      cases hr : allB r with
      | none => rw [hx, hr] at e; cases e
      | some m =>
        rw [hx, hr] at e
        cases e
        obtain ⟨ns, rfl, rfl⟩ := allB_some hr
        exact ⟨i :: ns, by rw [asBl_some hx]; rfl, by rw [List.all_cons]; rfl⟩
theorem anyB_some : ∀ {ys : List W} {n : Bool}, anyB ys = some n → ∃ ns : List Bool, ys = ns.map W.bl ∧ n = ns.any id
  | [], n, e => by cases e; exact ⟨[], rfl, rfl⟩
  | x :: r, n, e => by
    simp only [anyB] at e
    cases hx : asBl x with
    | none => rw [hx] at e; cases e
    | some i =>
      cases hr : anyB r with
      | none => rw [hx, hr] at e; cases e
      | some m =>
        rw [hx, hr] at e
        cases e
        obtain ⟨ns, rfl, rfl⟩ := anyB_some hr
        exact ⟨i :: ns, by rw [asBl_some hx]; rfl, by rw [List.any_cons]; rfl⟩
theorem bl_all {ws : List W} {h : Hs} {z : W} (e : blt .all ws h = some z) : ∃ x ys n, ws = [x] ∧ itemsL h x = some ys ∧ allB ys = some n ∧ z = .bl n := by
  match ws, e with
  | [], e => cases e
  | [x], e =>
    simp only [blt] at e
    cases q : itemsL h x with
    | none => exact nomatch (q ▸ e)
    | some ys =>
      rw [q] at e
      simp only [Option.bind_some] at e
      cases q2 : allB ys with
      | none => rw [q2] at e; cases e
      | some n => rw [q2] at e; cases e; exact ⟨x, ys, n, rfl, q, q2, rfl⟩
  | _ :: _ :: _, e => cases e
theorem bl_any {ws : List W} {h : Hs} {z : W} (e : blt .any ws h = some z) : ∃ x ys n, ws = [x] ∧ itemsL h x = some ys ∧ anyB ys = some n ∧ z = .bl n := by
  match ws, e with
  | [], e => cases e
  | [x], e =>
    simp only [blt] at e
    cases q : itemsL h x with
    | none => exact nomatch (q ▸ e)
    | some ys =>
      rw [q] at e
      simp only [Option.bind_some] at e
      cases q2 : anyB ys with
      | none => rw [q2] at e; cases e
      | some n => rw [q2] at e; cases e; exact ⟨x, ys, n, rfl, q, q2, rfl⟩
  | _ :: _ :: _, e => cases e
theorem bl_tuple {ws : List W} {h : Hs} {z : W} (e : blt .tuple ws h = some z) : ∃ x ys, ws = [x] ∧ items h x = some ys ∧ z = .tup ys := by
  match ws, e with
  | [], e => cases e
  | [x], e =>
    simp only [blt] at e
    cases q : items h x with
    | none => exact nomatch (q ▸ e)
    | some ys => rw [q] at e; cases e; exact ⟨x, ys, rfl, q, rfl⟩
  | _ :: _ :: _, e => cases e
theorem bl_list {ws : List W} {h : Hs} {z : W} (e : blt .list ws h = some z) : ∃ x ys, ws = [x] ∧ items h x = some ys ∧ z = .lst ys := by
  match ws, e with
  | [], e => cases e
  | [x], e =>
    simp only [blt] at e
    cases q : items h x with
    | none => exact nomatch (q ▸ e)
    | some ys => rw [q] at e; cases e; exact ⟨x, ys, rfl, q, rfl⟩
  | _ :: _ :: _, e => cases e
theorem map_bls {G : Gx} {H : Hp} {α : List Addr} : ∀ {ns : List Bool} {vs : List V}, Reps G H α (ns.map W.bl) vs → vs = ns.map V.bl
  | [], _, h => by cases h; rfl
  | n :: ns, _, h => by
    cases h with
    | cons a b => rw [a.of_bl, map_bls b]; rfl
section
variable {X : Cx} {G : Gx} {cv : Cv} {W : WX} {cf : CF}
/-- the sum of a tuple of whole numbers -/
theorem sum_tup {prog : Program} {w : World} {A : Around} {E : Value → Shared → Prop} {s : Shared} {l : Addr} {its : List Value} {ns : List Int} {Q : Value → Shared → Prop} (hh : A.handled = none) (hl : s.heap.IsTuple l its.toArray) (hi : IntsAre its ns)
    (fin : ∀ h1 k1 t1, (∀ b o, s.heap.get? b = some o → h1.get? b = some o) → Q (.int ns.sum t1) { s with heap := h1, toks := k1 }) : wpAny (model prog w) A (call (.builtin "sum") [.ref l]) Q E s := by
  obtain ⟨ys, ey⟩ := hi.allInts.items
  have en : numsOf (intItems ys).toList = ns := ey ▸ hi.numsOf
  rw [nums_intItems] at en
  rw [ey] at hl
  refine call_sum_walkAnyS (PySem.W.iter_tupleW (A := A.in1) hh hl fun s₂ e2 W st hfp hw hk => ?_)
  refine ⟨_, _, _, _, _, _, _, numAt ys, rfl, W, st, hfp, (fun _ _ => intItems_at), fun s' t' m => ?_⟩
  obtain ⟨h', tk, rfl, hk'⟩ := PySem.W.moved_old e2 rfl m
  have := fin h' tk t' hk'
  rw [show (intItems ys).size = ys.size from by simp [intItems], preSum_eq, List.take_of_length_le (by simp), en]
  exact this
/-- a built-in over a list of ints (a tuple's items too) -/
theorem cl_sum (hc : X.calm = true) : CallR X (.builtin "sum") (rCl (blt .sum)) := by
  intro pins s σ H xs us Q I rx ⟨G, ws, h, α, z, r, sr, e, q⟩
  obtain ⟨x, ys, n, rfl, q1, q2, rfl⟩ := bl_sum e
  obtain ⟨v, rfl, rv⟩ := r.one
  obtain ⟨ns, rfl, rfl⟩ := sumI_some q2
  have d : x = .tup (ns.map RL.W.int) ∨ itemsL h x = some (ns.map RL.W.int) := by
    cases x <;> first | (cases q1; exact .inl rfl) | exact .inr q1 | cases q1
  obtain rfl | q1 := d
  · cases rv with
    | tup hr _ hf rs =>
      have := rs.asInts; subst this
      obtain ⟨its, rv, pl, _⟩ := I.tuple (.inl (.inr ⟨_, hr⟩))
      rw [Vals.ref1 rx]
      exact sum_tup (I.ok.hd hc) (show s.heap.IsTuple _ its.toArray from pl) rv.ints fun h' tk t' hk => ⟨.int _, H, I.kept hk, ⟨_, rfl⟩, q _ _ (Ext.refl _ _) sr (.int _)⟩
  · obtain ⟨a, vs, rfl, hr, rs⟩ := rep_itemsL sr rv q1
    exact cr_sum hc pins s σ H _ us Q I rx ⟨a, ns, rfl, by rw [← rs.asInts]; exact SqL.of hr, q _ _ (Ext.refl _ _) sr (.int _)⟩
theorem cl_all (hc : X.calm = true) : CallR X (.builtin "all") (rCl (blt .all)) := CallR.weak (cr_all hc) fun xs H Q ⟨G, ws, h, α, z, r, sr, e, q⟩ => by
  obtain ⟨x, ys, n, rfl, q1, q2, rfl⟩ := bl_all e
  obtain ⟨v, rfl, rv⟩ := r.one
  obtain ⟨ns, rfl, rfl⟩ := allB_some q2
  have fin := q _ _ (Ext.refl _ _) sr (.bl _)
  obtain ⟨a, vs, rfl, hr, rs⟩ := rep_itemsL sr rv q1
  exact ⟨a, ns, rfl, by rw [← map_bls rs]; exact SqL.of hr, fin⟩
theorem cl_any (hc : X.calm = true) : CallR X (.builtin "any") (rCl (blt .any)) := CallR.weak (cr_any hc) fun xs H Q ⟨G, ws, h, α, z, r, sr, e, q⟩ => by
  obtain ⟨x, ys, n, rfl, q1, q2, rfl⟩ := bl_any e
  obtain ⟨v, rfl, rv⟩ := r.one
  obtain ⟨ns, rfl, rfl⟩ := anyB_some q2
  have fin := q _ _ (Ext.refl _ _) sr (.bl _)
  obtain ⟨a, vs, rfl, hr, rs⟩ := rep_itemsL sr rv q1
  exact ⟨a, ns, rfl, by rw [← map_bls rs]; exact SqL.of hr, fin⟩
theorem cl_tuple : CallR X (.type "tuple") (rCl (blt .tuple)) := CallR.weak call_tupleK fun xs H Q ⟨G, ws, h, α, z, r, sr, e, q⟩ => by
  obtain ⟨x, ys, rfl, q1, rfl⟩ := bl_tuple e
  obtain ⟨v, rfl, rv⟩ := r.one
  rcases rep_items sr rv q1 with ⟨a, vs, rfl, hr, rs, _⟩ | ⟨a, vs, rfl, hr, rs, et⟩
  · exact ⟨a, vs, rfl, .inl ⟨.inl hr, fun l _ hd hl => q _ _ (Ext.new hl) (sr.new hl) (.tup upd_same hd (sr.fz hl) (rs.mono (Ext.new hl)))⟩⟩
  · subst et
    exact ⟨a, vs, rfl, .inr ⟨.inl hr, q _ _ (Ext.refl _ _) sr rv⟩⟩
theorem cl_list : CallR X (.type "list") (rCl (blt .list)) := CallR.weak call_list_of fun xs H Q ⟨G, ws, h, α, z, r, sr, e, q⟩ => by
  obtain ⟨x, ys, rfl, q1, rfl⟩ := bl_list e
  obtain ⟨v, rfl, rv⟩ := r.one
  rcases rep_items sr rv q1 with ⟨a, vs, rfl, hr, rs, _⟩ | ⟨a, vs, rfl, hr, rs, et⟩
  · exact ⟨a, vs, rfl, .inl (.inl hr), fun l hl => q _ _ (Ext.new hl) (sr.new hl) (.lst upd_same (sr.fz hl) (rs.mono (Ext.new hl)))⟩
  · exact ⟨a, vs, rfl, .inr (.inl hr), fun l hl => q _ _ (Ext.new hl) (sr.new hl) (.lst upd_same (sr.fz hl) (rs.mono (Ext.new hl)))⟩
end
end RL

namespace RL
open PySem.Spec PySem PyProof.Rows L2
variable [Tabl]
/-- what is asked of a statement's outcome -/
def PostS (G : Gx) (cv : Cv) (W : WX) (r : RS) (α : List Addr) (H : Hp) (D : Ends) : Prop :=
  match r with
  | .nx ρ h => ∀ α' H' σ', Ext H α H' α' → StR G h α' H' → EnvR G ρ α' σ' H' → D.nx σ' H'
  | .br ρ h => ∀ α' H' σ', Ext H α H' α' → StR G h α' H' → EnvR G ρ α' σ' H' → D.bk σ' H'
  | .ct ρ h => ∀ α' H' σ', Ext H α H' α' → StR G h α' H' → EnvR G ρ α' σ' H' → D.ct σ' H'
  | .rt w h => ∀ α' H' v, Ext H α H' α' → StR G h α' H' → Rep G H' α' w v → D.rt v H'
  | .ex c ρ h => ∀ α' H' σ', Ext H α H' α' → StR G h α' H' → EnvR G ρ α' σ' H' → W (cv c) none σ' H'
  | .bad => False
def tS (cv : Cv) (W : WX) (f : Env → Hs → RS) : TS := fun D σ H => ∃ G ρ h α, EnvR G ρ α σ H ∧ StR G h α H ∧ PostS G cv W (f ρ h) α H D
theorem PS.weak {X : Cx} {e : Stmt} {t t' : TS} (p : PS X e t) (h : ∀ D σ H, t' D σ H → t D σ H) : PS X e t' := ⟨fun pins s σ H D I q => p.run pins s σ H D I (h D σ H q)⟩
theorem PSs.weak {X : Cx} {e : List Stmt} {t t' : TS} (p : PSs X e t) (h : ∀ D σ H, t' D σ H → t D σ H) : PSs X e t' := ⟨fun pins s σ H D I q => p.run pins s σ H D I (h D σ H q)⟩
section
variable {G : Gx} {cv : Cv} {W : WX} {r : RS} {α α1 : List Addr} {H H1 : Hp} {D : Ends}
theorem PostS.base (e : Ext H α H1 α1) (p : PostS G cv W r α H D) : PostS G cv W r α1 H1 D := by
  cases r with
  | nx ρ h => exact fun α' H' σ' e' => p α' H' σ' (e.trans e')
  | br ρ h => exact fun α' H' σ' e' => p α' H' σ' (e.trans e')
  | ct ρ h => exact fun α' H' σ' e' => p α' H' σ' (e.trans e')
  | rt w h => exact fun α' H' v e' => p α' H' v (e.trans e')
  | ex c ρ h => exact fun α' H' σ' e' => p α' H' σ' (e.trans e')
  | bad => exact p
theorem PostS.ofE {β γ : Type} {σ : L2.St} {ρ : Env} {rel : List Addr → Hp → β → γ → Prop} {x : R β} {f : β → Hs → RS} {Q : γ → Hp → Prop} (er : EnvR G ρ α σ H) (p : PostS G cv W (x.bindS ρ f) α H D)
    (step : ∀ b h' α' H' c, Ext H α H' α' → StR G h' α' H' → EnvR G ρ α' σ H' → rel α' H' b c → PostS G cv W (f b h') α' H' D → Q c H') : Post G cv W σ rel x α H Q := by
  cases x with
  | ok b h => exact fun α' H' c e s q => step b h α' H' c e s (er.mono e) q (PostS.base e p)
  | ex c h => exact fun α' H' e s => p α' H' σ e s (er.mono e)
  | bad => exact p
theorem PostS.seq {f : Env → Hs → RS} (p : PostS G cv W (r.bind f) α H D) : PostS G cv W r α H { D with nx := fun σ H => ∃ G ρ h α, EnvR G ρ α σ H ∧ StR G h α H ∧ PostS G cv W (f ρ h) α H D } := by
  cases r with
  | nx ρ h => exact fun α' H' σ' e s q => ⟨G, ρ, h, α', q, s, PostS.base e p⟩
  | br ρ h => exact p
  | ct ρ h => exact p
  | rt w h => exact p
  | ex c ρ h => exact p
  | bad => exact p
end
section
variable {X : Cx} {G : Gx} {cv : Cv} {W : WX} {cf : CF}
theorem ss_nil : PSs X [] (tS cv W (evSs cf .nil)) := PSs.weak pss_nil fun D σ H ⟨G, ρ, h, α, er, sr, p⟩ => p α H σ (Ext.refl _ _) sr er
theorem ss_cons {st : Stmt} {rest : List Stmt} {is : S} {iss : Ss} (h1 : PS X st (tS cv W (evS cf is))) (h2 : PSs X rest (tS cv W (evSs cf iss))) : PSs X (st :: rest) (tS cv W (evSs cf (.cons is iss))) := by
  refine PSs.weak (pss_cons h1 h2) fun D σ H ⟨G, ρ, h, α, er, sr, p⟩ => ?_
  simp only [evSs] at p
  exact ⟨G, ρ, h, α, er, sr, p.seq⟩
theorem ss_kill {sts : List Stmt} {iss : Ss} {is : List Nat} (h : PSs X sts (tS cv W (evSs cf iss))) : PSs X sts (tS cv W (evSs cf (.kill is iss))) := by
  refine PSs.weak h fun D σ H ⟨G, ρ, h, α, er, sr, p⟩ => ?_
  simp only [evSs] at p
  exact ⟨G, _, h, α, er.kill is, sr, p⟩
theorem st_set {i : Nat} {x : Str} {e : Expr} {ie : E} {pos pos' : Pos} (hN : X.N.Nodup) (hi : X.N[i]? = some x) (hx : Loc X.env.scope x) (he : PE X e (tR cv W (evE cf ie))) (hs : swapsWith e (some (.Name x pos')) pos.line X.env = pure false)
    (hf : X.fn x = true ∨ X.env.scope.names.lookup x = some .local) : PS X (.Assign [.Name x pos'] e pos) (tS cv W (evS cf (.set i ie))) := by
  refine PS.weak (ps_set (i := i) hN hi hx he hs hf) fun D σ H ⟨G, ρ, h, α, er, sr, p⟩ => ?_
  simp only [evS] at p
  exact ⟨G, ρ, h, α, er, sr, PostS.ofE er p fun w h' α' H' v e' s' er' r' p' => p' α' H' _ (Ext.refl _ _) s' (er'.set i r')⟩
theorem st_exp {e : Expr} {ie : E} {pos : Pos} (he : PE X e (tR cv W (evE cf ie))) (hs : swapsWith e none pos.line X.env = pure false) : PS X (.Expr e pos) (tS cv W (evS cf (.exp ie))) := by
  refine PS.weak (ps_expr he hs) fun D σ H ⟨G, ρ, h, α, er, sr, p⟩ => ?_
  simp only [evS] at p
  exact ⟨G, ρ, h, α, er, sr, PostS.ofE er p fun w h' α' H' v e' s' er' r' p' => p' α' H' _ (Ext.refl _ _) s' er'⟩
theorem st_ret {e : Expr} {ie : E} {pos : Pos} (he : PE X e (tR cv W (evE cf ie))) : PS X (.Return (some e) pos) (tS cv W (evS cf (.ret ie))) := by
  refine PS.weak (ps_ret he) fun D σ H ⟨G, ρ, h, α, er, sr, p⟩ => ?_
  simp only [evS] at p
  exact ⟨G, ρ, h, α, er, sr, PostS.ofE er p fun w h' α' H' v e' s' er' r' p' => p' α' H' _ (Ext.refl _ _) s' r'⟩
theorem st_pass {pos : Pos} : PS X (.Pass pos) (tS cv W (evS cf .pass)) := PS.weak ps_pass fun D σ H ⟨G, ρ, h, α, er, sr, p⟩ => p α H σ (Ext.refl _ _) sr er
theorem st_brk {pos : Pos} : PS X (.Break pos) (tS cv W (evS cf .brk)) := PS.weak ps_break fun D σ H ⟨G, ρ, h, α, er, sr, p⟩ => p α H σ (Ext.refl _ _) sr er
theorem st_cont {pos : Pos} : PS X (.Continue pos) (tS cv W (evS cf .cont)) := PS.weak ps_continue fun D σ H ⟨G, ρ, h, α, er, sr, p⟩ => p α H σ (Ext.refl _ _) sr er
theorem st_ite {c : Expr} {a b : List Stmt} {ic : E} {ia ib : Ss} {pos : Pos} (hc : PT X c (tRT cv W (asT (evE cf ic)))) (ha : PSs X a (tS cv W (evSs cf ia))) (hb : PSs X b (tS cv W (evSs cf ib))) :
    PS X (.If c a b pos) (tS cv W (evS cf (.ite ic ia ib))) := by
  refine PS.weak (ps_if hc ha hb) fun D σ H ⟨G, ρ, h, α, er, sr, p⟩ => ?_
  have e : evS cf (.ite ic ia ib) ρ h = (asT (evE cf ic) ρ h).bindS ρ fun c h => if c = true then evSs cf ia ρ h else evSs cf ib ρ h := by
    simp only [asT, evS]
    cases evE cf ic ρ h with
    | bad => rfl
    | ex _ _ => rfl
    | ok x h1 => rfl
  rw [e] at p
  refine ⟨G, ρ, h, α, er, sr, PostS.ofE er p fun w h' α' H' v e' s' er' r' p' => ?_⟩
  have r'' : w = v := r'
  subst r''
  cases w with
  | true =>
    rw [if_pos rfl] at p' ⊢
    exact ⟨G, ρ, h', α', er', s', p'⟩
  | false =>
    rw [if_neg Bool.false_ne_true] at p' ⊢
    exact ⟨G, ρ, h', α', er', s', p'⟩
end
end RL

namespace RL
open PySem.Spec PySem PyProof.Rows L2
variable [Tabl]
theorem wipe_set {σ : L2.St} {i : Nat} {v : Option V} : ∀ {vs : List Nat}, i ∈ vs → L2.wipe (σ.set i v) vs = L2.wipe σ vs
  | [], h => nomatch h
  | j :: vs, h => by
    unfold L2.wipe
    by_cases hm : i ∈ vs
    · rw [wipe_set hm]
    · have e : i = j := by
        obtain e | e := List.mem_cons.mp h
        · exact e
        · exact absurd e hm
      subst e
      have c : ∀ (ws : List Nat), i ∉ ws → L2.wipe (σ.set i v) ws = (L2.wipe σ ws).set i v := by
        intro ws
        induction ws with
        | nil => intro _; rfl
        | cons k ws ih =>
          intro hn
          unfold L2.wipe
          rw [ih fun z => hn (List.mem_cons_of_mem _ z), List.set_comm _ _ (fun e => hn (by rw [e]; exact List.mem_cons_self))]
      rw [c vs hm, List.set_set]
/-- a target's reading -/
def tG (is : List Nat) : TG := fun v σ H Q => ∃ G w ρ h α ρ', Rep G H α w v ∧ EnvR G ρ α σ H ∧ StR G h α H ∧ bindT is w ρ = some ρ' ∧
  ∀ σ', EnvR G ρ' α σ' H → (∀ vs : List Nat, (∀ i ∈ is, i ∈ vs) → L2.wipe σ' vs = L2.wipe σ vs) → Q σ' H
def tGs (is : List Nat) : TGs := fun xs σ H Q => ∃ G ws ρ h α ρ', Reps G H α ws xs ∧ EnvR G ρ α σ H ∧ StR G h α H ∧ setsE is ws ρ = some ρ' ∧
  ∀ σ', EnvR G ρ' α σ' H → (∀ vs : List Nat, (∀ i ∈ is, i ∈ vs) → L2.wipe σ' vs = L2.wipe σ vs) → Q σ' H
theorem PG.weak {X : Cx} {e : Expr} {t t' : TG} (p : PG X e t) (h : ∀ v σ H Q, t' v σ H Q → t v σ H Q) : PG X e t' := ⟨fun pins s σ H v u Q I r q => p.run pins s σ H v u Q I r (h _ _ _ _ q)⟩
theorem PGs.weak {X : Cx} {e : List Expr} {t t' : TGs} (p : PGs X e t) (h : ∀ v σ H Q, t' v σ H Q → t v σ H Q) : PGs X e t' := ⟨fun pins s σ H v u Q I r q => p.run pins s σ H v u Q I r (h _ _ _ _ q)⟩
section
variable {X : Cx} {G : Gx} {cv : Cv} {W : WX} {cf : CF}
theorem gd_name {i : Nat} {x : Str} {pos : Pos} (hN : X.N.Nodup) (hi : X.N[i]? = some x) (hx : Loc X.env.scope x) (hf : X.fn x = true ∨ X.env.scope.names.lookup x = some .local) : PG X (.Name x pos) (tG [i]) :=
  PG.weak (pg_name (i := i) hN hi hx hf) fun v σ H Q ⟨G, w, ρ, h, α, ρ', r, er, sr, e, q⟩ => by
    cases e
    exact q _ (er.set i r) fun vs hv => wipe_set (hv i (by simp))
theorem gd_nil : PGs X [] (tGs []) := PGs.weak pgs_nil fun xs σ H Q ⟨G, ws, ρ, h, α, ρ', r, er, sr, e, q⟩ => by
  cases ws with
  | nil => cases r; cases e; exact ⟨rfl, q _ er fun _ _ => rfl⟩
  | cons _ _ => cases e
theorem gd_cons {i : Nat} {is : List Nat} {x : Str} {es : List Expr} {pos : Pos} (hN : X.N.Nodup) (hi : X.N[i]? = some x) (hx : Loc X.env.scope x) (hf : X.fn x = true ∨ X.env.scope.names.lookup x = some .local) (hr : PGs X es (tGs is)) :
    PGs X (.Name x pos :: es) (tGs (i :: is)) := by
  refine PGs.weak (pgs_cons (pg_name (i := i) (pos := pos) hN hi hx hf) hr (by rfl)) fun xs σ H Q ⟨G, ws, ρ, h, α, ρ', r, er, sr, e, q⟩ => ?_
  cases ws with
  | nil => cases e
  | cons w ws =>
    cases r with
    | cons r1 r2 =>
      refine ⟨_, _, rfl, G, ws, ρ.set i (some w), h, α, ρ', r2, er.set i r1, sr, e, fun σ' er' hw => q σ' er' fun vs hv => ?_⟩
      rw [hw vs fun j hj => hv j (List.mem_cons_of_mem _ hj), wipe_set (hv i List.mem_cons_self)]
theorem setsE_len : ∀ {is : List Nat} {ws : List RL.W} {ρ ρ' : Env}, setsE is ws ρ = some ρ' → ws.length = is.length
  | [], [], _, _, _ => rfl
  | [], _ :: _, _, _, e => by cases e
  | _ :: _, [], _, _, e => by cases e
  | _ :: is, _ :: ws, _, _, e => by rw [List.length_cons, List.length_cons, setsE_len (is := is) (ws := ws) e]
theorem gd_tup {es : List Expr} {k : Nat} {is : List Nat} {pos : Pos} (hc : X.calm = true) (h : PGs X es (tGs is)) (hl : 2 ≤ is.length) (hn : (assignEach es X.env).length = is.length) (hst : (assignEach es X.env).findIdx? (·.1) = none) : PG X (.Tuple es k pos) (tG is) := by
  have hp : PG X (.Tuple es k pos) (gTup X.K is.length (tGs is)) := by
    have := pg_tup (k := k) (pos := pos) (n := is.length) hc h hn hst
    exact this
  refine PG.weak hp fun v σ H Q ⟨G, w, ρ, h, α, ρ', r, er, sr, e, q⟩ => ?_
  have e2 : ∃ ws, (w = .tup ws ∨ w = .pr ws) ∧ setsE is ws ρ = some ρ' := by
    match is, hl, e with
    | [], hl, _ => simp at hl
    | [_], hl, _ => simp at hl
    | i :: j :: r, _, e =>
      unfold bindT at e
      cases w <;> first | (cases e; done) | exact ⟨_, .inl rfl, e⟩ | exact ⟨_, .inr rfl, e⟩
  obtain ⟨ws, ew, e2⟩ := e2
  obtain ⟨a, vs, rfl, hr, rs⟩ : ∃ a vs, v = .ref a ∧ SqT X.K H a vs ∧ Reps G H α ws vs := by
    obtain rfl | rfl := ew
    · obtain ⟨a, vs, rfl, hr, _, rs⟩ := r.of_tup
      exact ⟨a, vs, rfl, hr.sq, rs⟩
    · cases r with
      | pr hr _ rs => exact ⟨_, _, rfl, SqT.of hr, rs⟩
  exact ⟨a, vs, rfl, hr, by rw [← rs.length, setsE_len e2], G, ws, ρ, h, α, ρ', rs, er, sr, e2, q⟩
/-! ### what a walk gives -/
/-- the item at a turn -/
def nextV (v : Iv) (h : Hs) (i : Nat) : Option (Option RL.W) := match v with
  | .ws ws => some ws[i]?
  | .loc n => (listAt h n).map fun ws => ws[i]?
/-- lists and tuples are no longer than the line -/
def HSz (H : Hp) : Prop := ∀ a xs, (H a = some (.lst xs) ∨ (∃ o, H a = some (.frz o (.tup xs))) ∨ ∃ o, H a = some (.frz o (.lst xs))) → xs.length ≤ sizeLine
theorem hsz_of {X : Cx} {pins : List (Addr × Obj)} {σ : L2.St} {H : Hp} {s : Shared} (I : Inv X pins σ H s) : HSz H := fun a xs h => by
  rcases h with h | ⟨o, h⟩ | ⟨o, h⟩
  · exact (show xs.length ≤ sizeLine ∧ _ from I.hok a _ h).1
  · exact (show _ ∧ xs.length ≤ sizeLine ∧ _ from I.hok a _ h).2.1
  · exact (show _ ∧ xs.length ≤ sizeLine ∧ _ from I.hok a _ h).2.1
structure Wk (G : Gx) (J : L2.It) (v : Iv) (α : List Addr) (H : Hp) : Prop where
  go : ∀ (G' : Gx) (α' : List Addr) (H' : Hp) (h' : Hs) (i : Nat) (w : RL.W), G.le G' H → Ext H α H' α' → StR G' h' α' H' → nextV v h' i = some (some w) →
    J.go i H' ∧ ∀ x H'', J.yld i H' x H'' → Ext H' α' H'' α' ∧ StR G' h' α' H'' ∧ Rep G' H'' α' w x
  stop : ∀ (G' : Gx) (α' : List Addr) (H' : Hp) (h' : Hs) (i : Nat), G.le G' H → Ext H α H' α' → StR G' h' α' H' → nextV v h' i = some none → J.stop i H'
  sz : HSz H → ∀ ws, v = .ws ws → ws.length ≤ sizeLine
def tI (cv : Cv) (W : WX) (f : Env → Hs → R Iv) : TI := fun σ H Rr => ∃ G ρ h α, EnvR G ρ α σ H ∧ StR G h α H ∧ Post G cv W σ (fun α H v J => Wk G J v α H) (f ρ h) α H Rr
theorem PI.weak {tg iter : Expr} {t t' : TI} (p : PI X tg iter t) (h : ∀ σ H Q, t' σ H Q → t σ H Q) : PI X tg iter t' := ⟨fun pins s σ H Q I q => p.run pins s σ H Q I (h σ H Q q)⟩
def iSeq (K : PySem.W.Frag) (tl : TE) : TI := fun σ H R => tl σ H fun x H1 => (∃ a, x = .ref a ∧ (∃ xs, SqL K H1 a xs) ∧ R (Itl K a) H1) ∨ ∃ a, x = .ref a ∧ (∃ xs, SqT K H1 a xs) ∧ R (Itt K a) H1
theorem pi_seq {tg l : Expr} {tl : TE} (hl : PE X l tl) : PI X tg l (iSeq X.K tl) := by
  constructor; intro pins s σ H R I h
  refine thn (hl.run pins s σ H _ I h) ?_
  rintro v s1 ⟨x, H1, I1, r1, q1⟩
  rcases q1 with ⟨a, e, ⟨xs, hq⟩, q⟩ | ⟨a, e, ⟨xs, hq⟩, q⟩
  · subst e
    cases r1
    rcases I1.list hq with ⟨its, rv, p, hz⟩
    apply wpAny_pyIter_list p.isList
    refine ⟨s1.heap.objs.size, [s1.heap.objs.size], _, _, H1, rfl, ?_, turn_list a _, ⟨_, Heap.get?_push_size _ rfl, rfl, rfl⟩, ?_, q⟩
    · exact I1.kept (t' := s1.toks) fun _ _ z => Heap.get?_push_of_some _ z
    intro b hb
    have e := List.mem_singleton.mp hb
    subst e
    have z := Nat.le_refl s1.heap.objs.size; exact I1.fpOk z (I1.hok.fresh z)
  · subst e
    cases r1
    rcases I1.tuple hq with ⟨its, rv, p, hz⟩
    apply wpAny_pyIter_tuple (items := its.toArray) p
    refine ⟨s1.heap.objs.size, [s1.heap.objs.size], _, _, H1, rfl, ?_, turn_tuple a _, ⟨_, Heap.get?_push_size _ rfl, rfl, rfl⟩, ?_, q⟩
    · exact I1.kept (t' := s1.toks) fun _ _ z => Heap.get?_push_of_some _ z
    intro b hb
    have e := List.mem_singleton.mp hb
    subst e
    have z := Nat.le_refl s1.heap.objs.size; exact I1.fpOk z (I1.hok.fresh z)
end
theorem wk_list' {G : Gx} {K : PySem.W.Frag} {a : Addr} {o : HO} {vs : List V} {ws : List RL.W} {α : List Addr} {H : Hp} (h : H a = some o) (ho : o = .lst vs ∨ ∃ ob, o = .frz ob (.lst vs)) (hf : G.fz α a) (r : Reps G H α ws vs) : Wk G (Itl K a) (.ws ws) α H := by
  have rd : ∀ {H' α'}, Ext H α H' α' → SqL K H' a vs := fun e => by
    have := e.keep a o h hf.2 (by rcases ho with rfl | ⟨ob, rfl⟩ <;> exact fun _ z => nomatch z)
    rcases ho with rfl | ⟨ob, rfl⟩
    · exact .inl (.inl this)
    · exact .inl (.inr ⟨ob, this⟩)
  refine ⟨fun G' α' H' h' i w g e s q => ?_, fun G' α' H' h' i g e s q => ?_, ?_⟩
  · have q' : ws[i]? = some w := Option.some.inj q
    obtain ⟨v, hv, rv⟩ := r.get q'
    refine ⟨⟨vs, v, rd e, hv⟩, fun x H'' hy => ?_⟩
    obtain ⟨rfl, hy⟩ := hy
    have := hy vs (rd e)
    rw [hv] at this; cases this
    exact ⟨Ext.refl _ _, s, (rv.inG g).mono e⟩
  · have q' : ws[i]? = none := Option.some.inj q
    exact ⟨vs, rd e, by rw [← r.length]; exact List.getElem?_eq_none_iff.mp q'⟩
  · intro z us e
    cases e
    rw [r.length]
    rcases ho with rfl | ⟨ob, rfl⟩
    · exact z a vs (.inl h)
    · exact z a vs (.inr (.inr ⟨_, h⟩))
theorem wk_tup {G : Gx} {K : PySem.W.Frag} {a : Addr} {vs : List V} {ws : List RL.W} {α : List Addr} {H : Hp} (t : KT H a vs) (hf : G.fz α a) (r : Reps G H α ws vs) : Wk G (Itt K a) (.ws ws) α H := by
  obtain ⟨o, _, h⟩ := t
  have rd : ∀ {H' α'}, Ext H α H' α' → SqT K H' a vs := fun e => .inl (.inr ⟨o, e.keep a _ h hf.2 fun _ z => nomatch z⟩)
  refine ⟨fun G' α' H' h' i w g e s q => ?_, fun G' α' H' h' i g e s q => ?_, ?_⟩
  · have q' : ws[i]? = some w := Option.some.inj q
    obtain ⟨v, hv, rv⟩ := r.get q'
    refine ⟨⟨vs, v, rd e, hv⟩, fun x H'' hy => ?_⟩
    obtain ⟨rfl, hy⟩ := hy
    have := hy vs (rd e)
    rw [hv] at this; cases this
    exact ⟨Ext.refl _ _, s, (rv.inG g).mono e⟩
  · have q' : ws[i]? = none := Option.some.inj q
    exact ⟨vs, rd e, by rw [← r.length]; exact List.getElem?_eq_none_iff.mp q'⟩
  · intro z us e
    cases e
    rw [r.length]
    exact z a vs (.inr (.inl ⟨o, h⟩))
theorem wk_loc {G : Gx} {K : PySem.W.Frag} {a : Addr} {n : Nat} {α : List Addr} {H : Hp} (ha : α[n]? = some a) : Wk G (Itl K a) (.loc n) α H := by
  refine ⟨fun G' α' H' h' i w g e s q => ?_, fun G' α' H' h' i g e s q => ?_, ?_⟩
  · simp only [nextV] at q
    cases ql : listAt h' n with
    | none => rw [ql] at q; cases q
    | some ws =>
      rw [ql] at q
      have q' : ws[i]? = some w := Option.some.inj q
      obtain ⟨b, vs, eb, h1, h2⟩ := s.list ql
      rw [e.get ha] at eb; cases eb
      obtain ⟨v, hv, rv⟩ := h2.get q'
      refine ⟨⟨vs, v, .inl (.inl h1), hv⟩, fun x H'' hy => ?_⟩
      obtain ⟨rfl, hy⟩ := hy
      have := hy vs (.inl (.inl h1))
      rw [hv] at this; cases this
      exact ⟨Ext.refl _ _, s, rv⟩
  · simp only [nextV] at q
    cases ql : listAt h' n with
    | none => rw [ql] at q; cases q
    | some ws =>
      rw [ql] at q
      have q' : ws[i]? = none := Option.some.inj q
      obtain ⟨b, vs, eb, h1, h2⟩ := s.list ql
      rw [e.get ha] at eb; cases eb
      exact ⟨vs, .inl (.inl h1), by rw [← h2.length]; exact List.getElem?_eq_none_iff.mp q'⟩
  · intro z us e
    cases e
theorem rngL_len : ∀ (n : Nat) (lo : Int), (rngL lo n).length = n
  | 0, _ => rfl
  | n + 1, lo => by rw [rngL, List.length_cons, rngL_len n]
theorem rngL_get : ∀ (n : Nat) (lo : Int) (i : Nat), (rngL lo n)[i]? = if i < n then some (.int (lo + i)) else none
  | 0, _, i => by simp [rngL]
  | n + 1, lo, 0 => by simp [rngL]
  | n + 1, lo, i + 1 => by
    rw [rngL, List.getElem?_cons_succ, rngL_get n (lo + 1) i]
    by_cases h : i < n
    · simp only [if_pos h]; rw [if_pos (by omega)]
      congr 2; push_cast; omega
    · simp only [if_neg h]; rw [if_neg (by omega)]
theorem wk_rng {G : Gx} {lo : Int} {n : Nat} {α : List Addr} {H : Hp} (hn : n ≤ lim) : Wk G (Itr lo n) (.ws (rngL lo n)) α H := by
  refine ⟨fun G' α' H' h' i w g e s q => ?_, fun G' α' H' h' i g e s q => ?_, ?_⟩
  · have q' : (rngL lo n)[i]? = some w := Option.some.inj q
    rw [rngL_get] at q'
    split at q' <;> cases q'
    rename_i hi
    exact ⟨hi, fun x H'' hy => by obtain ⟨rfl, rfl⟩ := hy; exact ⟨Ext.refl _ _, s, .int _⟩⟩
  · have q' : (rngL lo n)[i]? = none := Option.some.inj q
    rw [rngL_get] at q'
    split at q' <;> first | cases q' | skip
    rename_i hi
    exact Nat.not_lt.mp hi
  · intro z us e
    cases e
    rw [rngL_len]
    exact lim_size hn
section
variable {X : Cx} {G : Gx} {cv : Cv} {W : WX} {cf : CF}
theorem id_seq {tg e : Expr} {ie : E} (he : PE X e (tR cv W (evE cf ie))) : PI X tg e (tI cv W (evIt cf (.seq ie))) := by
  refine PI.weak (pi_seq he) fun σ H Rr ⟨G, ρ, h, α, er, sr, p⟩ => ?_
  simp only [evIt] at p
  refine ⟨G, ρ, h, α, er, sr, p.bind fun x h1 α1 H1 c e1 s1 r1 p1 => ?_⟩
  cases x <;> simp only [itemsV, R.of] at p1 <;> first | exact p1.elim | skip
  · obtain ⟨a, vs, ec, hr, hf, rs⟩ := r1.of_tup
    exact .inr ⟨a, ec, ⟨vs, hr.sq⟩, p1 _ _ _ (Ext.refl _ _) s1 (wk_tup hr hf rs)⟩
  · obtain ⟨a, vs, ec, hr, hf, rs⟩ := r1.of_lst
    exact .inl ⟨a, ec, ⟨vs, SqL.of hr⟩, p1 _ _ _ (Ext.refl _ _) s1 (wk_list' hr (.inl rfl) hf rs)⟩
  · cases r1 with
    | fr hr hf rs => exact .inl ⟨_, rfl, ⟨_, .inl (.inr ⟨_, hr⟩)⟩, p1 _ _ _ (Ext.refl _ _) s1 (wk_list' hr (.inr ⟨_, rfl⟩) hf rs)⟩
  · rename_i n
    obtain ⟨a, ec, ea⟩ := r1.of_loc
    cases q : listAt h1 n with
    | none => rw [q] at p1; exact p1.elim
    | some ws =>
      rw [q] at p1
      obtain ⟨b, vs, eb, hv, _⟩ := s1.list q
      rw [ea] at eb; cases eb
      exact .inl ⟨a, ec, ⟨vs, SqL.of hv⟩, p1 _ _ _ (Ext.refl _ _) s1 (wk_loc ea)⟩
theorem rngV_some {a b : Int} {ws : List RL.W} (h : rngV a b = some ws) : ws = rngL a (b - a).toNat ∧ (b - a).toNat ≤ lim ∧ (-(2 ^ 62) ≤ a ∧ a < 2 ^ 62) ∧ (-(2 ^ 62) ≤ b ∧ b < 2 ^ 62) := by
  unfold rngV at h
  split at h <;> cases h
  rename_i hc
  exact ⟨rfl, hc.1, inRng_lt hc.2.1, inRng_lt hc.2.2⟩
theorem id_rng {tg a : Expr} {ia : E} {p pos : Pos} (hg : Gl X "range") (hm : X.mg "range" = none) (ha : PE X a (tR cv W (evE cf ia))) (hs : starEach [a] X.env = [(false, eval a X.env)]) :
    PI X tg (.Call (.Name "range" p) [a] [] pos) (tI cv W (evIt cf (.rng ia))) := by
  have pa : PA X [a] (tCons (tR cv W (evE cf ia)) tNil) := pa_cons ha pa_nil (by rw [hs]; rfl)
  refine PI.weak (pi_range1 hg hm pa hs) fun σ H Rr ⟨G, ρ, h, α, er, sr, p⟩ => ?_
  simp only [evIt] at p
  refine ⟨G, ρ, h, α, er, sr, p.bind fun x h1 α1 H1 c e1 s1 r1 p1 => ?_⟩
  cases q1 : asInt x with
  | none => rw [q1] at p1; exact p1.elim
  | some n =>
    cases q2 : rngV 0 n with
    | none => rw [q1] at p1; simp only [Option.bind_some, q2] at p1; exact p1.elim
    | some ws =>
      rw [q1] at p1
      simp only [Option.bind_some, q2] at p1
      obtain ⟨rfl, hl, _, hb⟩ := rngV_some q2
      have := asInt_some q1; subst this
      have ec := r1.of_int
      subst ec
      have e0 : (n - 0).toNat = n.toNat := by rw [Int.sub_zero]
      refine ⟨n, rfl, hb.1, hb.2, p1 _ _ _ (Ext.refl _ _) s1 ?_⟩
      rw [e0] at hl ⊢
      exact wk_rng hl
theorem id_rng2 {tg a b : Expr} {ia ib : E} {p pos : Pos} (hg : Gl X "range") (hm : X.mg "range" = none) (ha : PE X a (tR cv W (evE cf ia))) (hb : PE X b (tR cv W (evE cf ib))) (hs : starEach [a, b] X.env = [(false, eval a X.env), (false, eval b X.env)]) (hs2 : starEach [b] X.env = [(false, eval b X.env)]) :
    PI X tg (.Call (.Name "range" p) [a, b] [] pos) (tI cv W (evIt cf (.rng2 ia ib))) := by
  have pa : PA X [a, b] (tCons (tR cv W (evE cf ia)) (tCons (tR cv W (evE cf ib)) tNil)) := pa_cons ha (pa_cons hb pa_nil (by rw [hs2]; rfl)) (by rw [hs, hs2])
  refine PI.weak (pi_range2 hg hm pa hs hs2) fun σ H Rr ⟨G, ρ, h, α, er, sr, p⟩ => ?_
  simp only [evIt] at p
  refine ⟨G, ρ, h, α, er, sr, p.bind fun x h1 α1 H1 c e1 s1 r1 p1 => ?_⟩
  refine ⟨G, ρ, h1, α1, er.mono e1, s1, p1.bind fun y h2 α2 H2 d e2 s2 r2 p2 => ?_⟩
  cases q1 : asInt x with
  | none => rw [q1] at p2; exact p2.elim
  | some n =>
    cases q3 : asInt y with
    | none => rw [q1, q3] at p2; exact p2.elim
    | some m =>
      cases q2 : rngV n m with
      | none => rw [q1, q3] at p2; simp only [Option.bind_some, q2] at p2; exact p2.elim
      | some ws =>
        rw [q1, q3] at p2
        simp only [Option.bind_some, q2] at p2
        obtain ⟨rfl, hl, ha', hb'⟩ := rngV_some q2
        have := asInt_some q1; subst this
        have := asInt_some q3; subst this
        have ec := (r1.mono e2).of_int
        have ed := r2.of_int
        subst ec ed
        exact ⟨n, m, rfl, ⟨ha'.1, ha'.2, hb'.1, hb'.2⟩, p2 _ _ _ (Ext.refl _ _) s2 (wk_rng hl)⟩
theorem enumL_get : ∀ (ws : List RL.W) (k : Int) (i : Nat), (enumL k ws)[i]? = (ws[i]?).map fun w => .pr [.int (k + i), w]
  | [], _, _ => by simp [enumL]
  | w :: ws, k, 0 => by simp [enumL]
  | w :: ws, k, i + 1 => by
    rw [enumL, List.getElem?_cons_succ, List.getElem?_cons_succ, enumL_get ws (k + 1) i]
    congr 1; funext u; congr 3; push_cast; omega
theorem enumL_len : ∀ (ws : List RL.W) (k : Int), (enumL k ws).length = ws.length
  | [], _ => rfl
  | w :: ws, k => by rw [enumL, List.length_cons, List.length_cons, enumL_len ws]
theorem wk_enum {K : PySem.W.Frag} {a : Addr} {vs : List V} {ws : List RL.W} {α : List Addr} {H : Hp} (h : H a = some (.lst vs)) (hf : G.fz α a) (r : Reps G H α ws vs) : Wk G (Ite K a) (.ws (enumL 0 ws)) α H := by
  have rd : ∀ {H' α'}, Ext H α H' α' → SqL K H' a vs := fun e => .inl (.inl (e.keep a _ h hf.2 fun _ z => nomatch z))
  refine ⟨fun G' α' H' h' i w g e s q => ?_, fun G' α' H' h' i g e s q => ?_, ?_⟩
  · have q' : (enumL 0 ws)[i]? = some w := Option.some.inj q
    rw [enumL_get] at q'
    cases qw : ws[i]? with
    | none => rw [qw] at q'; cases q'
    | some u =>
      rw [qw] at q'
      cases q'
      obtain ⟨v, hv, rv⟩ := r.get qw
      refine ⟨⟨vs, v, rd e, hv⟩, fun x H'' hy => ?_⟩
      obtain ⟨T, y, rfl, hT, rfl, hy⟩ := hy
      have := hy vs (rd e)
      rw [hv] at this; cases this
      have e0 : (0 : Int) + (i : Int) = ((i : Nat) : Int) := by omega
      exact ⟨Ext.new hT, s.new hT, .pr upd_same (s.fz hT) (.cons (by rw [e0]; exact .int _) (.cons (((rv.inG g).mono e).mono (Ext.new hT)) .nil))⟩
  · have q' : (enumL 0 ws)[i]? = none := Option.some.inj q
    rw [enumL_get, Option.map_eq_none_iff] at q'
    exact ⟨vs, rd e, by rw [← r.length]; exact List.getElem?_eq_none_iff.mp q'⟩
  · intro z us e
    cases e
    rw [enumL_len, r.length]
    exact z a vs (.inl h)
theorem zipL_get : ∀ (ws us : List RL.W) (i : Nat), (zipL ws us)[i]? = (ws[i]?).bind fun w => (us[i]?).map fun u => .pr [w, u]
  | [], us, i => by simp [zipL]
  | w :: ws, [], i => by simp [zipL]
  | w :: ws, u :: us, 0 => by simp [zipL]
  | w :: ws, u :: us, i + 1 => by simp only [zipL, List.getElem?_cons_succ, zipL_get ws us i]
end
end RL

namespace RL
open PySem.Spec PySem PyProof.Rows L2
variable [Tabl]
section
variable {X : Cx} {G : Gx} {cv : Cv} {W : WX} {cf : CF}
/-- a turn's outcome, by the ends of a loop's body -/
theorem PostS.turn {r : RS} {f : Env → Hs → RS} {α : List Addr} {H : Hp} {D : Ends} (p : PostS G cv W (r.turn f) α H D) :
    PostS G cv W r α H { D with nx := fun σ H' => ∃ ρ h α', Ext H α H' α' ∧ EnvR G ρ α' σ H' ∧ StR G h α' H' ∧ PostS G cv W (f ρ h) α' H' D,
                                ct := fun σ H' => ∃ ρ h α', Ext H α H' α' ∧ EnvR G ρ α' σ H' ∧ StR G h α' H' ∧ PostS G cv W (f ρ h) α' H' D, bk := D.nx } := by
  cases r with
  | nx ρ h => exact fun α' H' σ' e s q => ⟨ρ, h, α', e, q, s, PostS.base e p⟩
  | br ρ h => exact fun α' H' σ' e s q => p α' H' σ' e s q
  | ct ρ h => exact fun α' H' σ' e s q => ⟨ρ, h, α', e, q, s, PostS.base e p⟩
  | rt w h => exact p
  | ex c ρ h => exact p
  | bad => exact p
theorem st_for {iter tg : Expr} {body : List Stmt} {tgs : List Nat} {iit : It} {ib : Ss} {pos : Pos} (hp : PassesOwn (model X.prog X.w) X.A X.env X.xe) (hc : X.calm = true)
    (hi : PI X tg iter (tI cv W (evIt cf iit))) (hg : PG X tg (tG tgs)) (hb : PSs X body (tS cv W (evSs cf ib))) (hs : ∀ x, foldedSetIterable iter X.env x = pure x) :
    PS X (.For tg iter body [] pos) (tS cv W (evS cf (.forr tgs iit ib))) := by
  refine PS.weak (ps_for hp hc hi hg hb hs) fun D σ H ⟨G, ρ, h, α, er, sr, p⟩ => ?_
  simp only [evS] at p
  refine ⟨G, ρ, h, α, er, sr, PostS.ofE er p fun v h1 α1 H1 J e1 s1 er1 wk p1 => ?_⟩
  obtain ⟨f, hf⟩ : ∃ f : RL.W → Env → Hs → RS, f = bodyF (fun ρ h => evSs cf ib ρ h) tgs := ⟨_, rfl⟩
  rw [← hf] at p1
  -- one turn, from what follows it
  have turn : ∀ (i : Nat) (x : RL.W) (k : Env → Hs → RS) (N : L2.St → Hp → Prop) (ρ : Env) (h : Hs) (α : List Addr) (σ : L2.St) (H H' : Hp) (y : V), Ext H1 α1 H α → EnvR G ρ α σ H → StR G h α H →
      PostS G cv W ((f x ρ h).turn k) α H D → (∀ σ' H' ρ h α', Ext H1 α1 H' α' → EnvR G ρ α' σ' H' → StR G h α' H' → PostS G cv W (k ρ h) α' H' D → N σ' H') →
      Ext H α H' α → StR G h α H' → Rep G H' α x y →
      tG tgs y σ H' (fun σ2 H2 => tS cv W (evSs cf ib) { D with nx := N, ct := N, bk := D.nx } σ2 H2) := by
    intro i x k N ρ h α σ H H' y e er sr p hN e' s' r
    have p' := (PostS.base e' p).turn
    rw [hf] at p'
    unfold bodyF at p'
    cases hb : bindT tgs x ρ with
    | none => simp only [hb] at p'; exact p'.elim
    | some ρ' =>
      simp only [hb] at p'
      refine ⟨G, x, ρ, h, α, ρ', r, er.mono e', s', hb, fun σ' er' _ => ⟨G, ρ', h, α, er', s', ?_⟩⟩
      revert p'
      cases evSs cf ib ρ' h with
      | nx ρ2 h2 => exact fun p' α2 H2 σ2 e2 s2 q2 => (fun ⟨ρ3, h3, α3, e3, er3, s3, p3⟩ => hN σ2 H2 ρ3 h3 α3 ((e.trans e').trans e3) er3 s3 p3) (p' α2 H2 σ2 e2 s2 q2)
      | ct ρ2 h2 => exact fun p' α2 H2 σ2 e2 s2 q2 => (fun ⟨ρ3, h3, α3, e3, er3, s3, p3⟩ => hN σ2 H2 ρ3 h3 α3 ((e.trans e').trans e3) er3 s3 p3) (p' α2 H2 σ2 e2 s2 q2)
      | br ρ2 h2 => exact id
      | rt w h2 => exact id
      | ex c ρ2 h2 => exact id
      | bad => exact id
  cases v with
  | ws ws =>
    refine ⟨fun i m σ H => i + m = ws.length ∧ ∃ ρ h α, Ext H1 α1 H α ∧ EnvR G ρ α σ H ∧ StR G h α H ∧ PostS G cv W (forL f (ws.drop i) ρ h) α H D, ⟨ws.length, by omega, ρ, h1, α1, Ext.refl _ _, er1, s1, p1⟩, ?_⟩
    rintro i m σ H ⟨hm, ρ, h, α, e, er, sr, p⟩
    by_cases hl : i < ws.length
    · have hx : ws[i]? = some ws[i] := List.getElem?_eq_getElem hl
      obtain ⟨g1, g2⟩ := wk.go G α H h i ws[i] (G.le_refl _) e sr (by simp only [nextV, hx])
      refine .inr ⟨g1, fun σ H => i + 1 + (m - 1) = ws.length ∧ ∃ ρ h α, Ext H1 α1 H α ∧ EnvR G ρ α σ H ∧ StR G h α H ∧ PostS G cv W (forL f (ws.drop (i + 1)) ρ h) α H D, fun σ' H' q => ⟨m - 1, by omega, q⟩, fun y H' hy => ?_⟩
      obtain ⟨e', s', r⟩ := g2 y H' hy
      rw [List.drop_eq_getElem_cons hl] at p
      simp only [forL] at p
      exact turn i ws[i] _ _ ρ h α σ H H' y e er sr p (fun σ2 H2 ρ2 h2 α2 e2 er2 s2 p2 => ⟨by omega, ρ2, h2, α2, e2, er2, s2, p2⟩) e' s' r
    · have hi2 : i = ws.length := by omega
      subst hi2
      refine .inl ⟨wk.stop G α H h _ (G.le_refl _) e sr (by simp [nextV]), ?_⟩
      rw [List.drop_length] at p
      exact p α H σ (Ext.refl _ _) sr er
  | loc n =>
    refine ⟨fun i m σ H => ∃ ρ h α, Ext H1 α1 H α ∧ EnvR G ρ α σ H ∧ StR G h α H ∧ PostS G cv W (forN f n m i ρ h) α H D, ⟨_, ρ, h1, α1, Ext.refl _ _, er1, s1, p1⟩, ?_⟩
    rintro i m σ H ⟨ρ, h, α, e, er, sr, p⟩
    cases m with
    | zero =>
      simp only [forN] at p
      cases ql : listAt h n with
      | none => simp only [ql] at p; exact p.elim
      | some ws =>
        simp only [ql] at p
        split at p
        · rename_i hl
          exact .inl ⟨wk.stop G α H h i (G.le_refl _) e sr (by simp only [nextV, ql, Option.map_some]; rw [List.getElem?_eq_none hl]), p α H σ (Ext.refl _ _) sr er⟩
        · exact p.elim
    | succ m =>
      simp only [forN] at p
      cases ql : listAt h n with
      | none => simp only [ql] at p; exact p.elim
      | some ws =>
        simp only [ql] at p
        cases qx : ws[i]? with
        | none =>
          simp only [qx] at p
          exact .inl ⟨wk.stop G α H h i (G.le_refl _) e sr (by simp only [nextV, ql, Option.map_some, qx]), p α H σ (Ext.refl _ _) sr er⟩
        | some x =>
          simp only [qx] at p
          obtain ⟨g1, g2⟩ := wk.go G α H h i x (G.le_refl _) e sr (by simp only [nextV, ql, Option.map_some, qx])
          refine .inr ⟨g1, fun σ H => ∃ ρ h α, Ext H1 α1 H α ∧ EnvR G ρ α σ H ∧ StR G h α H ∧ PostS G cv W (forN f n m (i + 1) ρ h) α H D, fun σ' H' q => ⟨m, Nat.lt_succ_self _, q⟩, fun y H' hy => ?_⟩
          obtain ⟨e', s', r⟩ := g2 y H' hy
          exact turn i x _ _ ρ h α σ H H' y e er sr p (fun σ2 H2 ρ2 h2 α2 e2 er2 s2 p2 => ⟨ρ2, h2, α2, e2, er2, s2, p2⟩) e' s' r
theorem st_while {c : Expr} {body : List Stmt} {n : Nat} {ic : E} {ib : Ss} {pos : Pos} (hp : PassesOwn (model X.prog X.w) X.A X.env X.xe) (hc : PT X c (tRT cv W (asT (evE cf ic)))) (hb : PSs X body (tS cv W (evSs cf ib))) :
    PS X (.While c body [] pos) (tS cv W (evS cf (.whil n ic ib))) := by
  refine PS.weak (ps_while hp hc hb) fun D σ H ⟨G, ρ, h, α, er, sr, p⟩ => ?_
  simp only [evS] at p
  refine ⟨fun m σ H => ∃ G ρ h α, EnvR G ρ α σ H ∧ StR G h α H ∧ PostS G cv W (whileF (asT (evE cf ic)) (fun ρ h => evSs cf ib ρ h) m ρ h) α H D, ⟨n, G, ρ, h, α, er, sr, p⟩, ?_⟩
  rintro m σ H ⟨G, ρ, h, α, er, sr, p⟩
  cases m with
  | zero => exact p.elim
  | succ m =>
    simp only [whileF] at p
    refine ⟨G, ρ, h, α, er, sr, PostS.ofE er p fun b h1 α1 H1 b' e1 s1 er1 rb p1 => ?_⟩
    have rb' : b = b' := rb
    subst rb'
    cases b with
    | false =>
      rw [if_neg (fun z => nomatch z)]
      rw [if_neg Bool.false_ne_true] at p1
      exact p1 _ _ _ (Ext.refl _ _) s1 er1
    | true =>
      rw [if_pos rfl]
      rw [if_pos rfl] at p1
      refine ⟨fun σ H => ∃ G ρ h α, EnvR G ρ α σ H ∧ StR G h α H ∧ PostS G cv W (whileF (asT (evE cf ic)) (fun ρ h => evSs cf ib ρ h) m ρ h) α H D, fun σ' H' q => ⟨m, Nat.lt_succ_self _, q⟩, G, ρ, h1, α1, er1, s1, ?_⟩
      have p2 := p1.turn
      revert p2
      cases evSs cf ib ρ h1 with
      | nx ρ2 h2 => exact fun p2 α2 H2 σ2 e2 s2 q2 => (fun ⟨ρ3, h3, α3, e3, er3, s3, p3⟩ => ⟨G, ρ3, h3, α3, er3, s3, p3⟩) (p2 α2 H2 σ2 e2 s2 q2)
      | ct ρ2 h2 => exact fun p2 α2 H2 σ2 e2 s2 q2 => (fun ⟨ρ3, h3, α3, e3, er3, s3, p3⟩ => ⟨G, ρ3, h3, α3, er3, s3, p3⟩) (p2 α2 H2 σ2 e2 s2 q2)
      | br ρ2 h2 => exact id
      | rt w h2 => exact id
      | ex c ρ2 h2 => exact id
      | bad => exact id
end
end RL

/-! enumerate of a tuple; enumerate and zip as the evaluator has them. -/
namespace RL
open PySem.Spec PySem PyProof.Rows L2
variable [Tabl]
open AutoSeq1 (wpAny_loadPart')
theorem draws_tuple {P : Program} {w : World} {A : Around} (hh : A.handled = none) {it l : Addr} (ne : l ≠ it) (vs : Array Value) :
    Draws P w A it [it, l] vs.size (fun i v => vs[i]? = some v)
      (fun i h => h.IsTupleIter it l i ∧ h.IsTuple l vs) := by
  refine ⟨fun i h st => ?_, fun i h h' st k => ?_, fun i s Q E hi st q => ?_, fun s Q E st q => ?_⟩
  · obtain ⟨⟨o, ho, _⟩, _⟩ := st
    exact ⟨o, ho⟩
  · obtain ⟨a, b⟩ := st
    exact ⟨a.at fun o e => k it (by simp) o e, b.at fun o e => k l (by simp) o e⟩
  · have hx : vs[i]? = some vs[i] := by simp [hi]
    exact RZ.nextOf_tuple_item st.1 st.2 hx fun h' a b => q _ h' s.toks hx ⟨a, st.2.extBut b.extBut ne⟩ b
  · exact RZ.nextOf_tuple_end hh st.1 st.2 (by simp) q
theorem enum_newT (l : Addr) (vs : Array Value) :
    Meets (Builtin.«enumerate.__new__» ⟨[.type "enumerate", .ref l], []⟩) (fun _ R s => s.heap.IsTuple l vs ∧
      R (.ok (.ret (.ref (s.heap.push { cls := .type "tuple_iterator", data := .fields #[.ref l, .int 0 0] }).objs.size)))
        { s with heap := (s.heap.push { cls := .type "tuple_iterator", data := .fields #[.ref l, .int 0 0] }).push { cls := .type "enumerate", data := .fields #[.none, .bool false, .ref s.heap.objs.size, rawInt 0, .none, .none] } }) :=
  .of_wp fun _ _ _ _ s h => by
    rcases s with ⟨hp, g, d, tk, os⟩
    obtain ⟨ht, h⟩ := h
    have hsub := sub_enumerate
    have hT : Heap.IsTuple (Shared.heap ⟨hp, g, d, tk, os⟩) l vs := ht
    obtain ⟨o, ho, _⟩ := id ht
    wp_walk using wpAny_loadPart' ho
    refine wpAny_stack_any fun _ => ?_; apply wpAny_pure
    split
    · rename_i c _ _ _ _ _
      cases c == Value.type "enumerate" <;>
        (wp_walk using wpAny_loadPart' ho, wpAny_pyIter_tuple hT; exact ⟨_, rfl, h⟩)
    · wp_walk using wpAny_loadPart' ho, wpAny_pyIter_tuple hT
      exact ⟨_, rfl, h⟩
abbrev enO (i : Addr) : Obj := { cls := .type "enumerate", data := .fields #[.none, .bool false, .ref i, rawInt 0, .none, .none] }
theorem call_enumT {P : Program} {w : World} {A : Around} {E : Value → Shared → Prop} {s : Shared} {l : Addr} {vs : Array Value} {Q : Value → Shared → Prop}
    (hT : s.heap.IsTuple l vs)
    (h : ∀ g, IsEnum g (s.heap.objs.size + 1) s.heap.objs.size 0 .none → g.IsTupleIter s.heap.objs.size l 0 →
      (∀ b o, s.heap.get? b = some o → g.get? b = some o) → Q (.ref (s.heap.objs.size + 1)) { s with heap := g }) :
    wpAny (model P w) A (call (.type "enumerate") [.ref l]) Q E s := by
  refine callType_new F.called_enumerate (by decide) (F.typeCall_enumerate_1 _) (F.newCall_enumerate_1 _)
    (fun obj => F.args_object_init_2 obj _) F.entry_enumerate_new (enum_newT l vs) ⟨hT, ?_⟩
  have sz : (s.heap.push { cls := .type "tuple_iterator", data := .fields #[.ref l, .int 0 0] }).objs.size = s.heap.objs.size + 1 := Heap.size_push ..
  show _ ∧ _
  rw [sz]
  have top := Heap.get?_push_size (s.heap.push { cls := .type "tuple_iterator", data := .fields #[.ref l, .int 0 0] })
    (o := enO s.heap.objs.size) rfl
  rw [sz] at top
  refine ⟨⟨_, top, rfl⟩, h _ top ⟨_, Heap.get?_push_of_some _ (Heap.get?_push_size _ rfl), rfl, rfl⟩ fun b o x => ?_⟩
  exact Heap.get?_push_of_some _ (Heap.get?_push_of_some _ x)
/-- the tuple at a, each item in a new pair -/
def IteT (K : PySem.W.Frag) (a : Addr) : L2.It where
  go i H := ∃ (xs : List V) (x : V), SqT K H a xs ∧ xs[i]? = some x
  yld i H v H' := ∃ T x, v = .ref T ∧ H T = none ∧ H' = upd H T (.tup [.int (i : Nat), x]) ∧ ∀ xs, SqT K H a xs → xs[i]? = some x
  stop i H := ∃ xs : List V, SqT K H a xs ∧ xs.length ≤ i
theorem turn_enumT {P : Program} {w : World} {K : PySem.W.Frag} {elts : List Expr} {kk : Nat} {tpos : Pos} (a e it : Addr) :
    Turn P w K (.Tuple elts kk tpos) (IteT K a) [e, it] e
      (fun i h => (∃ old, IsEnum h e it ((i : Nat) : Int) old) ∧ h.IsTupleIter it a i ∧ e ≠ it ∧ a ≠ it ∧ a ≠ e) := by
  refine ⟨by simp, fun i h st b hb => ?_, fun i h h' st k => ?_, ?_, ?_, fun A i s Q E st h => ?_⟩
  · obtain ⟨⟨old, he⟩, ⟨o, ho, hc, hd⟩, _⟩ := st
    rcases (show b = e ∨ b = it by simpa using hb) with rfl | rfl
    · exact ⟨_, he, fun v q => nomatch q⟩
    · exact ⟨o, ho, fun v q => by rw [hd] at q; cases q⟩
  · obtain ⟨⟨old, he⟩, hi, hne⟩ := st
    exact ⟨⟨old, k e (by simp) _ he⟩, hi.at fun o q => k it (by simp) o q, hne⟩
  · intro X hP hw hK hc i pins s σ H E I hf st hg
    subst hP hw hK
    obtain ⟨⟨old, he⟩, hit, hne, hai, hae⟩ := st
    obtain ⟨xs, x, hq, hx⟩ := hg
    rcases I.tuple hq with ⟨its, rv, p, hz⟩
    have pT : s.heap.IsTuple a its.toArray := p
    have ⟨u, hu, ru⟩ := rv.get hx
    have hel := Heap.lt_size he
    have hil : it < s.heap.objs.size := Heap.lt_size hit.choose_spec.1
    have hlt : i < its.toArray.size := by
      have := (List.getElem?_eq_some_iff.mp hu).1
      simpa using this
    refine wpAny_pyNext_enum_itemD (draws_tuple (A := X.A.in1) (I.ok.hd hc) hai its.toArray) he ⟨hit, pT⟩ hlt hne (by simp only [List.mem_cons, List.not_mem_nil, or_false, not_or]; exact ⟨hne, Ne.symm hae⟩) ?_
    intro u' h' tk hP ho hit' hT hsz hk
    have eu : u' = u := by
      have z : its.toArray[i]? = some u' := hP
      simp only [List.getElem?_toArray] at z
      rw [hu] at z; exact (Option.some.inj z).symm
    subst eu
    refine ⟨_, rfl, wpAny_letOwnedTupleGo_enum (s := { s with heap := h', toks := tk + 1 }) ho fun h'' he' sb => ?_⟩
    have hT2 : h''.get? s.heap.objs.size = some { cls := .type "tuple", data := .seq #[.int i tk, u'] } := (sb.2 _ (Nat.ne_of_gt hel)).trans hT
    have new := (⟨by show 2 ≤ sizeLine; decide, [.int i tk, u'], .cons ⟨_, rfl⟩ (.cons ru .nil), ⟨_, hT2, rfl, _, rfl⟩⟩ :
      ObjOk X.prog X.w (upd H s.heap.objs.size (.tup [.int (i : Nat), x])) h'' s.heap.objs.size (.tup [.int (i : Nat), x]))
    have I1 : Inv X pins σ (upd H s.heap.objs.size (.tup [.int (i : Nat), x])) { s with heap := h'', toks := tk + 1 } := by
      refine I.turnedNew (ch := [e, it]) (fun b ob hb q => ?_) hf (Nat.le_refl _) new
      have hb' : b ≠ e ∧ b ≠ it := by simpa using hb
      exact (sb.2 b hb'.1).trans (hk b ob hb'.1 hb'.2 q)
    refine ⟨.ref s.heap.objs.size, _, I1, rfl, ⟨_, x, rfl, I.hok.fresh (Nat.le_refl _), rfl, fun ys hy => by rw [I.tuple_inj hy hq]; exact hx⟩, ⟨⟨u', ?_⟩, hit'.1.at fun o q => (sb.2 it (Ne.symm hne)).trans q, hne, hai, hae⟩, fun b hb => ?_⟩
    · rw [show ((i + 1 : Nat) : Int) = (i : Int) + 1 by omega]; exact he'
    · have lt : b < s.heap.objs.size := by
        rcases (show b = e ∨ b = it by simpa using hb) with rfl | rfl
        · exact hel
        · exact hil
      rw [upd_ne fun z => Nat.lt_irrefl _ (z ▸ lt)]
      exact (hf b hb).1
  · intro X hP hw hK hc i pins s σ H E I hf st hg
    subst hP hw hK
    obtain ⟨⟨old, he⟩, hit, hne, hai, hae⟩ := st
    obtain ⟨xs, hq, hx⟩ := hg
    rcases I.tuple hq with ⟨its, rv, p, hz⟩
    have pT : s.heap.IsTuple a its.toArray := p
    have ⟨f0, f1, f2, f3, f4, f5⟩ := hf it (List.mem_cons_of_mem _ List.mem_cons_self)
    have hl := rv.length
    unfold pyNext
    have hT : s.TypeIs (Value.ref e) "enumerate" := ⟨_, he, rfl⟩
    apply wpAny_bind; apply wpAny_attempt
    refine wpAny_callSpecial?_slot (name := Str.ofString "__next__") hT F.slot_enumerate_next ?_
    refine wpAny_call_entry F.slot_enumerate_next hT F.entry_enumerate_next ?_ (F.args_enumerate_next_1 _)
    show wpAny _ _ (Bind.bind (field (.ref e) 2) _) _ _ _
    refine wpAny_bind (wpAny_field he rfl (x := .ref it) rfl (wpAny_bind ?_))
    refine RZ.nextOf_tuple_end (I.ok.hd hc) hit pT (by simp; omega) fun h' x he' hx' => ?_
    obtain ⟨o, ho, hcl⟩ := hx'
    refine wpAny_bind (wpAny_isInstance (T := "StopIteration") (b := true) ⟨o, ho, hcl⟩ isSubtype_stop (wpAny_pure ⟨rfl, ?_⟩))
    exact I.turned (t' := s.toks) (fun b o hb q => he' b o hb q) f0 f1 f3 f4 f5
  · obtain ⟨⟨_, he⟩, _⟩ := st
    exact wpAny_pyIter_enum he h
def iEnumA (K : PySem.W.Frag) (te : TE) : TI := fun σ H R => te σ H fun x H1 => ∃ a xs, [x] = [V.ref a] ∧ ((SqL K H1 a xs ∧ R (Ite K a) H1) ∨ (SqT K H1 a xs ∧ R (IteT K a) H1))
theorem pi_enumA {X : Cx} {e : Expr} {te : TE} {x : Str} {p pos tpos : Pos} {elts : List Expr} {kk : Nat} (hx : bootBuiltins x = some (.type "enumerate")) (hg : Gl X x) (hm : X.mg x = none) (hn : x ≠ "__name__") (hd : (x == ("__debug__" : Str)) = false)
    (ha : PE X e te) (hs : starEach [e] X.env = [(false, eval e X.env)]) :
    PI X (.Tuple elts kk tpos) (.Call (.Name x p) [e] [] pos) (iEnumA X.K te) := by
  constructor; intro pins s σ H R I h
  have pa : PA X [e] (tCons te tNil) := pa_cons ha pa_nil (by rw [hs]; rfl)
  refine Call_ (ld_blt I hg hm hx (PyProof.Rows.callWith_type1 (thn (pa.run pos pins s σ H (fun vs H1 => ∃ a xs, vs = [V.ref a] ∧ ((SqL X.K H1 a xs ∧ R (Ite X.K a) H1) ∨ (SqT X.K H1 a xs ∧ R (IteT X.K a) H1))) I h) ?_) hs rfl) hn hd)
  intro us s1 z
  obtain ⟨vs, H1, I1, r1, a, xs, ea, q1⟩ := z
  subst ea
  cases r1 with
  | cons r rr =>
    cases rr
    cases r
    have fresh2 : ∀ b ∈ [s1.heap.objs.size + 1, s1.heap.objs.size], FpOk X pins H1 b := fun b hb => by
      have hle : ¬ b < s1.heap.objs.size := by
        rcases (show b = s1.heap.objs.size + 1 ∨ b = s1.heap.objs.size by simpa using hb) with rfl | rfl <;> omega
      exact I1.fpOk (Nat.le_of_not_lt hle) (I1.hok.fresh (Nat.le_of_not_lt hle))
    rcases q1 with ⟨hq, q⟩ | ⟨hq, q⟩
    · rcases I1.list hq with ⟨its, rv, p', hz⟩
      refine call_enumerate_list p'.isList fun _ he hit _ hk => wpAny_pyIter_enum he ?_
      exact ⟨_, _, _, _, H1, rfl, I1.kept (t' := s1.toks) hk, turn_enum a (s1.heap.objs.size + 1) s1.heap.objs.size, ⟨⟨.none, he⟩, hit, Nat.succ_ne_self _⟩, fresh2, q⟩
    · rcases I1.tuple hq with ⟨its, rv, p', hz⟩
      have pT : s1.heap.IsTuple a its.toArray := p'
      have la : a < s1.heap.objs.size := by obtain ⟨o, ho, _⟩ := id pT; exact Heap.lt_size ho
      refine call_enumT pT fun h' he hit hk => wpAny_pyIter_enum he ?_
      exact ⟨_, _, _, _, H1, rfl, I1.kept (t' := s1.toks) hk, turn_enumT a (s1.heap.objs.size + 1) s1.heap.objs.size, ⟨⟨.none, he⟩, hit, Nat.succ_ne_self _, Nat.ne_of_lt la, Nat.ne_of_lt (Nat.lt_succ_of_lt la)⟩, fresh2, q⟩
theorem wk_enumT {G : Gx} {K : PySem.W.Frag} {a : Addr} {vs : List V} {ws : List RL.W} {α : List Addr} {H : Hp} (t : KT H a vs) (hf : G.fz α a) (r : Reps G H α ws vs) : Wk G (IteT K a) (.ws (enumL 0 ws)) α H := by
  obtain ⟨o, _, h⟩ := t
  have rd : ∀ {H' α'}, Ext H α H' α' → SqT K H' a vs := fun e => .inl (.inr ⟨o, e.keep a _ h hf.2 fun _ z => nomatch z⟩)
  refine ⟨fun G' α' H' h' i w g e s q => ?_, fun G' α' H' h' i g e s q => ?_, ?_⟩
  · have q' : (enumL 0 ws)[i]? = some w := Option.some.inj q
    rw [enumL_get] at q'
    obtain ⟨u, qw, rfl⟩ := Option.map_eq_some_iff.mp q'
    obtain ⟨v, hv, rv⟩ := r.get qw
    refine ⟨⟨vs, v, rd e, hv⟩, fun x H'' hy => ?_⟩
    obtain ⟨T, y, rfl, hT, rfl, hy⟩ := hy
    cases (hy vs (rd e)).symm.trans hv
    rw [Int.zero_add]
    exact ⟨Ext.new hT, s.new hT, .pr upd_same (s.fz hT) (.cons (.int _) (.cons (((rv.inG g).mono e).mono (Ext.new hT)) .nil))⟩
  · have q' : (enumL 0 ws)[i]? = none := Option.some.inj q
    rw [enumL_get, Option.map_eq_none_iff, List.getElem?_eq_none_iff, r.length] at q'
    exact ⟨vs, rd e, q'⟩
  · intro z us e
    cases e
    rw [enumL_len, r.length]
    exact z a vs (.inr (.inl ⟨o, h⟩))
theorem wk_zip {G : Gx} {K : PySem.W.Frag} {a b : Addr} {vs xs : List V} {ws us : List RL.W} {α : List Addr} {H : Hp} (h1 : H a = some (.lst vs)) (f1 : G.fz α a) (r1 : Reps G H α ws vs) (h2 : H b = some (.lst xs)) (f2 : G.fz α b) (r2 : Reps G H α us xs) :
    Wk G (Itz K a b) (.ws (zipL ws us)) α H := by
  have rd1 : ∀ {H' α'}, Ext H α H' α' → SqL K H' a vs := fun e => .inl (.inl (e.keep a _ h1 f1.2 fun _ z => nomatch z))
  have rd2 : ∀ {H' α'}, Ext H α H' α' → SqL K H' b xs := fun e => .inl (.inl (e.keep b _ h2 f2.2 fun _ z => nomatch z))
  refine ⟨fun G' α' H' h' i w g e s q => ?_, fun G' α' H' h' i g e s q => ?_, ?_⟩
  · have q' : (zipL ws us)[i]? = some w := Option.some.inj q
    rw [zipL_get] at q'
    obtain ⟨x, qx, q'⟩ := Option.bind_eq_some_iff.mp q'
    obtain ⟨y, qy, rfl⟩ := Option.map_eq_some_iff.mp q'
    obtain ⟨v, hv, rv⟩ := r1.get qx
    obtain ⟨u, hu, ru⟩ := r2.get qy
    refine ⟨⟨vs, xs, v, u, rd1 e, rd2 e, hv, hu⟩, fun x H'' hy => ?_⟩
    obtain ⟨T, y1, y2, rfl, hT, rfl, k1, k2⟩ := hy
    cases (k1 vs (rd1 e)).symm.trans hv
    cases (k2 xs (rd2 e)).symm.trans hu
    exact ⟨Ext.new hT, s.new hT, .pr upd_same (s.fz hT) (.cons (((rv.inG g).mono e).mono (Ext.new hT)) (.cons (((ru.inG g).mono e).mono (Ext.new hT)) .nil))⟩
  · have q' : (zipL ws us)[i]? = none := Option.some.inj q
    rw [zipL_get] at q'
    refine ⟨vs, xs, rd1 e, rd2 e, ?_⟩
    cases qx : ws[i]? with
    | none => rw [List.getElem?_eq_none_iff, r1.length] at qx; exact .inl qx
    | some x =>
      rw [qx, Option.bind_some, Option.map_eq_none_iff, List.getElem?_eq_none_iff, r2.length] at q'
      exact .inr q'
  · intro z zs e
    cases e
    have l : ∀ (ws us : List RL.W), (zipL ws us).length ≤ ws.length := by
      intro ws
      induction ws with
      | nil => intro us; cases us <;> simp [zipL]
      | cons x ws ih => intro us; cases us with
        | nil => simp [zipL]
        | cons y us => simp only [zipL, List.length_cons]; have := ih us; omega
    have := l ws us
    have := z a vs (.inl h1)
    rw [← r1.length] at this
    omega
theorem wk_zipT {G : Gx} {K : PySem.W.Frag} {a b : Addr} {vs xs : List V} {ws us : List RL.W} {α : List Addr} {H : Hp} (t1 : KT H a vs) (f1 : G.fz α a) (r1 : Reps G H α ws vs) (t2 : KT H b xs) (f2 : G.fz α b) (r2 : Reps G H α us xs) :
    Wk G (RZ.ItzT K a b) (.ws (zipL ws us)) α H := by
  obtain ⟨o1, _, h1⟩ := t1
  obtain ⟨o2, _, h2⟩ := t2
  have rd1 : ∀ {H' α'}, Ext H α H' α' → SqT K H' a vs := fun e => .inl (.inr ⟨o1, e.keep a _ h1 f1.2 fun _ z => nomatch z⟩)
  have rd2 : ∀ {H' α'}, Ext H α H' α' → SqT K H' b xs := fun e => .inl (.inr ⟨o2, e.keep b _ h2 f2.2 fun _ z => nomatch z⟩)
  refine ⟨fun G' α' H' h' i w g e s q => ?_, fun G' α' H' h' i g e s q => ?_, ?_⟩
  · have q' : (zipL ws us)[i]? = some w := Option.some.inj q
    rw [zipL_get] at q'
    obtain ⟨x, qx, q'⟩ := Option.bind_eq_some_iff.mp q'
    obtain ⟨y, qy, rfl⟩ := Option.map_eq_some_iff.mp q'
    obtain ⟨v, hv, rv⟩ := r1.get qx
    obtain ⟨u, hu, ru⟩ := r2.get qy
    refine ⟨⟨vs, xs, v, u, rd1 e, rd2 e, hv, hu⟩, fun x H'' hy => ?_⟩
    obtain ⟨T, y1, y2, rfl, hT, rfl, k1, k2⟩ := hy
    cases (k1 vs (rd1 e)).symm.trans hv
    cases (k2 xs (rd2 e)).symm.trans hu
    exact ⟨Ext.new hT, s.new hT, .pr upd_same (s.fz hT) (.cons (((rv.inG g).mono e).mono (Ext.new hT)) (.cons (((ru.inG g).mono e).mono (Ext.new hT)) .nil))⟩
  · have q' : (zipL ws us)[i]? = none := Option.some.inj q
    rw [zipL_get] at q'
    refine ⟨vs, xs, rd1 e, rd2 e, ?_⟩
    cases qx : ws[i]? with
    | none => rw [List.getElem?_eq_none_iff, r1.length] at qx; exact .inl qx
    | some x =>
      rw [qx, Option.bind_some, Option.map_eq_none_iff, List.getElem?_eq_none_iff, r2.length] at q'
      exact .inr q'
  · intro z zs e
    cases e
    have l : ∀ (ws us : List RL.W), (zipL ws us).length ≤ ws.length := by
      intro ws
      induction ws with
      | nil => intro us; cases us <;> simp [zipL]
      | cons x ws ih => intro us; cases us with
        | nil => simp [zipL]
        | cons y us => simp only [zipL, List.length_cons]; have := ih us; omega
    have := l ws us
    have := z a vs (.inr (.inl ⟨o1, h1⟩))
    rw [← r1.length] at this
    omega
section
variable {X : Cx} {G : Gx} {cv : Cv} {W : WX} {cf : CF}
theorem id_enum {e : Expr} {ie : E} {x : Str} {p pos tpos : Pos} {elts : List Expr} {kk : Nat} (hx : bootBuiltins x = some (.type "enumerate")) (hg : Gl X x) (hm : X.mg x = none) (hn : x ≠ "__name__") (hd : (x == ("__debug__" : Str)) = false)
    (he : PE X e (tR cv W (evE cf ie))) (hs : starEach [e] X.env = [(false, eval e X.env)]) : PI X (.Tuple elts kk tpos) (.Call (.Name x p) [e] [] pos) (tI cv W (evIt cf (.enum ie))) := by
  refine PI.weak (pi_enumA hx hg hm hn hd he hs) fun σ H Rr ⟨G, ρ, h, α, er, sr, p⟩ => ?_
  simp only [evIt] at p
  refine ⟨G, ρ, h, α, er, sr, p.bind fun x h1 α1 H1 c e1 s1 r1 p1 => ?_⟩
  cases x <;> simp only [items0, Option.map_none, Option.map_some, R.of] at p1 <;> first | exact p1.elim | skip
  · obtain ⟨a, vs, ec, hr, hf, rs⟩ := r1.of_tup
    subst ec
    exact ⟨a, vs, rfl, .inr ⟨hr.sq, p1 _ _ _ (Ext.refl _ _) s1 (wk_enumT hr hf rs)⟩⟩
  · obtain ⟨a, vs, ec, hr, hf, rs⟩ := r1.of_lst
    subst ec
    exact ⟨a, vs, rfl, .inl ⟨SqL.of hr, p1 _ _ _ (Ext.refl _ _) s1 (wk_enum hr hf rs)⟩⟩
theorem id_zip {e e2 : Expr} {ie ie2 : E} {p pos tpos : Pos} {elts : List Expr} {kk : Nat} (hg : Gl X "zip") (hm : X.mg "zip" = none)
    (he : PE X e (tR cv W (evE cf ie))) (he2 : PE X e2 (tR cv W (evE cf ie2))) (hs : starEach [e, e2] X.env = (false, eval e X.env) :: starEach [e2] X.env) (hs2 : starEach [e2] X.env = [(false, eval e2 X.env)]) :
    PI X (.Tuple elts kk tpos) (.Call (.Name "zip" p) [e, e2] [] pos) (tI cv W (evIt cf (.zip ie ie2))) := by
  have pa : PA X [e, e2] (tCons (tR cv W (evE cf ie)) (tCons (tR cv W (evE cf ie2)) tNil)) := pa_cons he (pa_cons he2 pa_nil (by rw [hs2]; rfl)) hs
  refine PI.weak (RZ.pi_zipA hg hm pa hs (by rw [hs2]; rfl)) fun σ H Rr ⟨G, ρ, h, α, er, sr, p⟩ => ?_
  simp only [evIt] at p
  refine ⟨G, ρ, h, α, er, sr, p.bind fun x h1 α1 H1 c e1 s1 r1 p1 => ?_⟩
  refine ⟨G, ρ, h1, α1, er.mono e1, s1, p1.bind fun y h2 α2 H2 d e2 s2 r2 p2 => ?_⟩
  have r1 := r1.mono e2
  cases x <;> cases y <;> simp only [zipV, R.of] at p2 <;> first | exact p2.elim | skip
  · obtain ⟨a, vs, ec, hr, hf, rs⟩ := r1.of_tup
    obtain ⟨b, xs, ed, hr2, hf2, rs2⟩ := r2.of_tup
    subst ec ed
    exact ⟨a, b, vs, xs, rfl, .inr ⟨hr.sq, hr2.sq, p2 _ _ _ (Ext.refl _ _) s2 (wk_zipT hr hf rs hr2 hf2 rs2)⟩⟩
  · obtain ⟨a, vs, ec, hr, hf, rs⟩ := r1.of_lst
    obtain ⟨b, xs, ed, hr2, hf2, rs2⟩ := r2.of_lst
    subst ec ed
    exact ⟨a, b, vs, xs, rfl, .inl ⟨SqL.of hr, SqL.of hr2, p2 _ _ _ (Ext.refl _ _) s2 (wk_zip hr hf rs hr2 hf2 rs2)⟩⟩
end
end RL

namespace RL
open PySem.Spec PySem PyProof.Rows L2
variable [Tabl]
abbrev Wno : WX := fun _ _ _ _ => False
section
variable {X : Cx} {cv : Cv} {W : WX} {cf : CF}
theorem PI.weakI {tg iter : Expr} {t : TI} (p : PI X tg iter t) : PI X tg iter (fun σ H R => t σ H fun J H' => HSz H' → R J H') :=
  ⟨fun pins s σ H R I q => thn (p.run pins s σ H _ I q) fun u s1 h => thn h fun v s2 ⟨it, fp, tn, J, H', e, I', T, t0, fo, r⟩ => ⟨it, fp, tn, J, H', e, I', T, t0, fo, r (hsz_of I')⟩⟩
theorem td_none : PTs X [] (tRT cv W (evT cf .none)) :=
  ⟨fun pins s σ H Q I ⟨G, ρ, h, α, er, sr, p⟩ => pts_nil.run pins s σ H Q I (Post.ok (rel := relE) p sr rfl)⟩
theorem td_some {c : Expr} {ic : E} (h : PT X c (tRT cv W (asT (evE cf ic)))) : PTs X [c] (tRT cv W (evT cf (.some ic))) :=
  ⟨fun pins s σ H Q I ⟨G, ρ, h', α, er, sr, p⟩ => (pts_one h).run pins s σ H Q I ⟨G, ρ, h', α, er, sr, by simpa only [evT] using p⟩⟩
mutual
theorem Rep.own {H : Hp} {α : List Addr} {D : Addr} : ∀ {w : RL.W} {v : V}, Rep (G.plus D) H α w v → Rep G H (α ++ [D]) w v
  | _, _, .non => .non
  | _, _, .bl b => .bl b
  | _, _, .int i => .int i
  | _, _, .str x => .str x
  | _, _, .rs w => .rs w
  | _, _, .emp h n => .emp h ⟨fun z => n.1 (.inl z), fun m => (List.mem_append.mp m).elim n.2 fun m => n.1 (.inr (List.mem_singleton.mp m))⟩
  | _, _, .dk h n r => .dk h ⟨fun z => n.1 (.inl z), fun m => (List.mem_append.mp m).elim n.2 fun m => n.1 (.inr (List.mem_singleton.mp m))⟩ (Rep.own r)
  | _, _, .tup h d n r => .tup h d ⟨fun z => n.1 (.inl z), by simp only [List.mem_append, List.mem_singleton, not_or]; exact ⟨n.2, fun z => n.1 (.inr z)⟩⟩ (Reps.own r)
  | _, _, .lst h n r => .lst h ⟨fun z => n.1 (.inl z), by simp only [List.mem_append, List.mem_singleton, not_or]; exact ⟨n.2, fun z => n.1 (.inr z)⟩⟩ (Reps.own r)
  | _, _, .pr h n r => .pr h ⟨fun z => n.1 (.inl z), by simp only [List.mem_append, List.mem_singleton, not_or]; exact ⟨n.2, fun z => n.1 (.inr z)⟩⟩ (Reps.own r)
  | _, _, .fr h n r => .fr h ⟨fun z => n.1 (.inl z), by simp only [List.mem_append, List.mem_singleton, not_or]; exact ⟨n.2, fun z => n.1 (.inr z)⟩⟩ (Reps.own r)
  | _, _, .loc h => .loc (by rw [List.getElem?_append_left (List.getElem?_eq_some_iff.mp h).1]; exact h)
theorem Reps.own {H : Hp} {α : List Addr} {D : Addr} : ∀ {ws : List RL.W} {vs : List V}, Reps (G.plus D) H α ws vs → Reps G H (α ++ [D]) ws vs
  | _, _, .nil => .nil
  | _, _, .cons h r => .cons (Rep.own h) (Reps.own r)
end
theorem StR.own {h : Hs} {α : List Addr} {H : Hp} {D : Addr} {ws : List RL.W} {vs : List V} (s : StR (G.plus D) h α H) (hD : ¬ G.φ D) (hd : H D = some (.lst vs)) (r : Reps (G.plus D) H α ws vs) : StR G (h ++ [.lst ws]) (α ++ [D]) H := by
  have nD : D ∉ α := fun m => s.sep D m (.inr rfl)
  refine ⟨by simp [s.len], List.nodup_append.mpr ⟨s.nd, by simp, fun a ha b hb => by rw [List.mem_singleton.mp hb]; exact fun z => nD (z ▸ ha)⟩, fun a m => s.hid a (.inl m), s.tab, fun a m => ?_, fun n ob q => ?_⟩
  · rcases List.mem_append.mp m with m | m
    · exact fun z => s.sep a m (.inl z)
    · rw [List.mem_singleton.mp m]; exact hD
  by_cases hn : n < h.length
  · rw [List.getElem?_append_left hn] at q
    obtain ⟨a, ea, x⟩ := s.at_ n ob q
    refine ⟨a, by rw [List.getElem?_append_left (by rw [s.len]; exact hn)]; exact ea, ?_⟩
    cases ob with
    | lst us =>
      obtain ⟨vs', z, r'⟩ := x
      exact ⟨vs', z, r'.own⟩
    | ins c fs =>
      obtain ⟨dx, gs, z, k, r'⟩ := x
      exact ⟨dx, gs, z, k, r'.own⟩
  · have hn2 : n = h.length := by
      have := (List.getElem?_eq_some_iff.mp q).1
      simp at this; omega
    subst hn2
    rw [List.getElem?_append_right (Nat.le_refl _)] at q
    simp at q
    subst q
    exact ⟨D, by rw [List.getElem?_append_right (by rw [s.len]; exact Nat.le_refl _)]; simp [s.len], vs, hd, r.own⟩
/-- a comprehension's list, to stay or to be changed -/
def finC (mt : Bool) (ws : List RL.W) (h : Hs) : R RL.W := match mt with
  | true => .ok (.loc h.length) (h ++ [.lst ws])
  | false => .ok (.lst ws) h
/-- what a comprehension has done at a turn -/
def CompI (G : Gx) (cv : Cv) (W : WX) (D : Addr) (mt : Bool) (ρ : Env) (σ : L2.St) (α1 : List Addr) (H1 : Hp) (Q : VK) (rest : Hs → R (List RL.W)) (i : Nat) (H : Hp) : Prop :=
  ∃ h α acc rs, Ext H1 α1 H α ∧ StR (G.plus D) h α H ∧ H D = some (.lst acc) ∧ Reps (G.plus D) H α rs acc ∧ rs.length ≤ i ∧ EnvR (G.plus D) ρ α σ H ∧
    Post G cv W σ (relW G) ((rest h).bind fun r h => finC mt (rs ++ r) h) α1 H1 Q
theorem comp_end {G : Gx} {D : Addr} {mt : Bool} {σ : L2.St} {α1 α : List Addr} {H1 H : Hp} {h : Hs} {rs : List RL.W} {acc : List V} {Q : VK} {r0 : R (List RL.W)} (hr : r0 = .ok [] h ∨ r0 = .bad) (hD : H1 D = none)
    (e : Ext H1 α1 H α) (s : StR (G.plus D) h α H) (hd : H D = some (.lst acc)) (r : Reps (G.plus D) H α rs acc) (p : Post G cv W σ (relW G) (r0.bind fun r h => finC mt (rs ++ r) h) α1 H1 Q) (s1 : ∀ a, G.φ a → H1 a ≠ none) : Q (.ref D) H := by
  have nG : ¬ G.φ D := fun z => s1 D z hD
  have nD : D ∉ α := fun m => s.sep D m (.inr rfl)
  rcases hr with q | q
  · rw [q] at p
    cases mt with
    | false =>
      simp only [R.bind, List.append_nil, finC] at p
      exact p α H _ e s.minus (.lst hd ⟨nG, nD⟩ r.minus)
    | true =>
      simp only [R.bind, List.append_nil, finC] at p
      refine p (α ++ [D]) H _ ?_ (s.own nG hd r) (.loc ?_)
      · obtain ⟨β, rfl, hb⟩ := e.pre
        exact ⟨⟨β ++ [D], by simp, fun b hm => by
          obtain hm | hm := List.mem_append.mp hm
          · exact hb b hm
          · rw [List.mem_singleton.mp hm]; exact hD⟩, e.keep, e.dom⟩
      · rw [← s.len, List.getElem?_append_right (Nat.le_refl _)]; simp
  · rw [q] at p; exact p.elim
theorem set_get_none {σ : L2.St} {i : Nat} {v : V} (h : ∀ x, σ[i]? ≠ some (some x)) : σ.set i none = σ := by
  apply List.ext_getElem?
  intro j
  rw [List.getElem?_set]
  split
  · rename_i e
    subst e
    split
    · rename_i hl
      cases q : σ[i]? with
      | none => rw [List.getElem?_eq_none_iff] at q; omega
      | some o => cases o with
        | none => rfl
        | some x => exact absurd q (h x)
    · rename_i hl
      rw [List.getElem?_eq_none (Nat.not_lt.mp hl)]
  · rfl
theorem wipe_nest : ∀ (us vs : List Nat) (σ : L2.St), (∀ i ∈ us, i ∈ vs) → L2.wipe (L2.wipe σ vs) us = L2.wipe σ vs
  | [], _, _, _ => rfl
  | u :: us, vs, σ, h => by
    rw [L2.wipe, wipe_nest us vs σ fun i m => h i (List.mem_cons_of_mem _ m)]
    exact set_get_none (v := .int 0) fun x e => (wipe_some e).2 (h u List.mem_cons_self)
theorem wipe_wipe (tgs : List Nat) (σ : L2.St) : L2.wipe (L2.wipe σ tgs) tgs = L2.wipe σ tgs := wipe_nest tgs tgs σ fun _ h => h
/-- one turn -/
theorem comp_turn {G : Gx} {D : Addr} {mt : Bool} {ρ : Env} {σ : L2.St} {α1 : List Addr} {H1 : Hp} {Q : VK} {tgs : List Nat} {it : Oe} {iel : E} {x : RL.W} {rest : Hs → R (List RL.W)} {i : Nat} {H H' : Hp} {y : V} {h : Hs} {α : List Addr} {acc : List V} {rs : List RL.W} {Nx : Hp → Prop}
    (hD : H1 D = none) (hi : i < sizeLine) (e : Ext H1 α1 H α) (s : StR (G.plus D) h α H) (hd : H D = some (.lst acc)) (r : Reps (G.plus D) H α rs acc) (hl : rs.length ≤ i) (er : EnvR (G.plus D) ρ α σ H)
    (p : Post G cv W σ (relW G) (((turnF (fun ρ h => evT cf it ρ h) (fun ρ h => evE cf iel ρ h) tgs ρ x h).bind fun o h => (rest h).bind fun r h => match o with | some w => .ok (w :: r) h | none => .ok r h).bind fun r h => finC mt (rs ++ r) h) α1 H1 Q)
    (e' : Ext H α H' α) (s' : StR (G.plus D) h α H') (ry : Rep (G.plus D) H' α x y)
    (hN : ∀ H'', CompI G cv W D mt ρ σ α1 H1 Q rest (i + 1) H'' → Nx H'') :
    tG tgs y (L2.wipe σ tgs) H' fun σ2 H2 => L2.wipe σ2 tgs = L2.wipe σ tgs ∧ tRT cv Wno (evT cf it) σ2 H2 fun b H3 =>
      if b = true then tR cv Wno (evE cf iel) σ2 H3 fun y H4 => ∃ acc, H4 D = some (.lst acc) ∧ acc.length < sizeLine ∧ Nx (upd H4 D (.lst (acc ++ [y]))) else Nx H3 := by
  have nD : D ∉ α := fun m => s.sep D m (.inr rfl)
  unfold turnF at p
  cases hb : bindT tgs x (RL.kill ρ tgs) with
  | none => simp only [hb] at p; exact p.elim
  | some ρ' =>
    simp only [hb] at p
    refine ⟨G.plus D, x, RL.kill ρ tgs, h, α, ρ', ry, (er.mono e').wipe tgs, s', hb, fun σ' er' hw => ⟨?_, G.plus D, ρ', h, α, er', s', ?_⟩⟩
    · rw [hw tgs fun _ z => z]
      clear p hb er' hw
      exact wipe_wipe tgs σ
    · cases qt : evT cf it ρ' h with
      | ex c h2 => simp only [qt] at p; exact p.elim
      | bad => simp only [qt] at p; exact p.elim
      | ok b h2 =>
        simp only [qt, R.bind] at p
        intro α3 H3 b' e3 s3 rb
        have rb' : b = b' := rb
        subst rb'
        have hd3 : H3 D = some (.lst acc) := e3.keep D _ (e'.keep D _ hd nD fun _ z => nomatch z) nD fun _ z => nomatch z
        have r3 := (r.mono e').mono e3
        have er3 := (er.mono e').mono e3
        have ee3 := (e.trans e').trans e3
        cases b with
        | false =>
          rw [if_neg (fun z => nomatch z)]
          rw [if_neg Bool.false_ne_true] at p
          refine hN _ ⟨h2, α3, acc, rs, ee3, s3, hd3, r3, by omega, er3, ?_⟩
          revert p
          simp only [R.noEx]
          cases rest h2 <;> exact id
        | true =>
          rw [if_pos rfl]
          rw [if_pos rfl] at p
          refine ⟨G.plus D, ρ', h2, α3, er'.mono e3, s3, ?_⟩
          cases qe : evE cf iel ρ' h2 with
          | ex c h4 => simp only [qe] at p; exact p.elim
          | bad => simp only [qe] at p; exact p.elim
          | ok w h4 =>
            simp only [qe, R.bind] at p
            intro α4 H4 y4 e4 s4 r4
            have nD3 : D ∉ α3 := fun m => s3.sep D m (.inr rfl)
            have hd4 : H4 D = some (.lst acc) := e4.keep D _ hd3 nD3 fun _ z => nomatch z
            have hφ : (G.plus D).φ D := .inr rfl
            refine ⟨acc, hd4, by rw [← r.length]; omega, hN _ ⟨h4, α4, acc ++ [y4], rs ++ [w], ?_, s4.updD hφ hd4, upd_same, ((r3.mono e4).append (.cons r4 .nil)).updD hφ, by simp; omega, (er3.mono e4).updD hφ, ?_⟩⟩
            · have ee4 := ee3.trans e4
              exact ⟨ee4.pre, fun a o q n t => by rw [upd_ne (ne_of_none q hD)]; exact ee4.keep a o q n t, fun a q => by
                by_cases z : a = D
                · rw [z]; exact hD
                · rw [upd_ne z] at q; exact ee4.dom a q⟩
            · revert p
              simp only [R.noEx]
              cases rest h4 with
              | ok rr h5 => simp only [List.append_assoc, List.singleton_append]; exact id
              | ex _ _ => exact id
              | bad => exact id
abbrev tLcE (cv : Cv) (W : WX) (cf : CF) (tgs : List Nat) (iit : It) (it : Oe) (iel : E) : TE := tLc (fun σ H R => tI cv W (evIt cf iit) σ H fun J H' => HSz H' → R J H') (tG tgs) (tRT cv Wno (evT cf it)) (tR cv Wno (evE cf iel)) tgs
def evC (cf : CF) (mt : Bool) (tgs : List Nat) (iit : It) (it : Oe) (iel : E) : Env → Hs → R RL.W := fun ρ h =>
  (evIt cf iit ρ h).bind fun v h => (compV (turnF (fun ρ h => evT cf it ρ h) (fun ρ h => evE cf iel ρ h) tgs ρ) v h).bind fun ws h => finC mt ws h
theorem evC_comp {cf : CF} {tgs : List Nat} {iit : It} {it : Oe} {iel : E} : evE cf (.comp tgs iit it iel) = evC cf false tgs iit it iel := by
  funext ρ h
  simp only [evE]
  rfl
theorem evC_mut {cf : CF} {tgs : List Nat} {iit : It} {it : Oe} {iel : E} : evE cf (.mut (.comp tgs iit it iel)) = evC cf true tgs iit it iel := by
  funext ρ h
  simp only [evE, evC]
  cases evIt cf iit ρ h with
  | ok v h =>
    simp only [R.bind]
    cases compV (turnF (fun ρ h => evT cf it ρ h) (fun ρ h => evE cf iel ρ h) tgs ρ) v h <;> rfl
  | ex c h => rfl
  | bad => rfl
/-- the walk of a comprehension, from the evaluator's word -/
theorem comp_all {cf : CF} {mt : Bool} {tgs : List Nat} {iit : It} {it : Oe} {iel : E} {σ : L2.St} {H : Hp} {Q : VK} (q : tR cv W (evC cf mt tgs iit it iel) σ H Q) : tLcE cv W cf tgs iit it iel σ H Q := by
  obtain ⟨G, ρ, h, α, er, sr, p⟩ := q
  unfold evC at p
  refine ⟨G, ρ, h, α, er, sr, p.bind fun v h1 α1 H1 J e1 s1 wk p1 => ?_⟩
  intro hz D hD
  have er1 := er.mono e1
  have ePl : EnvR (G.plus D) ρ α1 σ (upd H1 D (.lst [])) := (er1.inG (G.le_plus hD)).updD (.inr rfl)
  have s0 : ∀ a, G.φ a → H1 a ≠ none := fun a m e => s1.hid a m e
  cases v with
  | ws ws =>
    have hw := wk.sz hz ws rfl
    refine ⟨fun i m H => i + m = ws.length ∧ CompI G cv W D mt ρ σ α1 H1 Q (fun h => compL (turnF (fun ρ h => evT cf it ρ h) (fun ρ h => evE cf iel ρ h) tgs ρ) (ws.drop i) h) i H, ⟨ws.length, by omega, h1, α1, [], [], Ext.new hD, s1.plus hD, upd_same, .nil, Nat.le_refl _, ePl, ?_⟩, ?_⟩
    · exact p1
    · rintro i m H ⟨hm, hI⟩
      by_cases hl : i < ws.length
      · have hx : ws[i]? = some ws[i] := List.getElem?_eq_getElem hl
        obtain ⟨h, α, acc, rs, e, s, hd, r, hle, er, p⟩ := hI
        obtain ⟨g1, g2⟩ := wk.go (G.plus D) α H h i ws[i] (G.le_plus hD) e s (by simp only [nextV, hx])
        refine .inr ⟨g1, fun H => CompI G cv W D mt ρ σ α1 H1 Q (fun h => compL (turnF (fun ρ h => evT cf it ρ h) (fun ρ h => evE cf iel ρ h) tgs ρ) (ws.drop (i + 1)) h) (i + 1) H, fun H' q => ⟨m - 1, by omega, by omega, q⟩, fun y H' hy => ?_⟩
        obtain ⟨e', s', ry⟩ := g2 y H' hy
        rw [List.drop_eq_getElem_cons hl] at p
        simp only [compL] at p
        exact comp_turn hD (Nat.lt_of_lt_of_le hl hw) e s hd r hle er p e' s' ry fun _ q => q
      · have hi2 : i = ws.length := by omega
        subst hi2
        obtain ⟨h, α, acc, rs, e, s, hd, r, hle, er, p⟩ := hI
        refine .inl ⟨wk.stop (G.plus D) α H h _ (G.le_plus hD) e s (by simp [nextV]), comp_end (.inl ?_) hD e s hd r p s0⟩
        rw [List.drop_length]; rfl
  | loc n =>
    cases ql : listAt h1 n with
    | none => simp only [compV, ql, compN] at p1; exact p1.elim
    | some us =>
      obtain ⟨a, vs, ea, ha, rv⟩ := s1.list ql
      have hw : us.length ≤ sizeLine := by rw [rv.length]; exact hz a vs (.inl ha)
      refine ⟨fun i m H => i + m = us.length ∧ CompI G cv W D mt ρ σ α1 H1 Q (fun h => compN (turnF (fun ρ h => evT cf it ρ h) (fun ρ h => evE cf iel ρ h) tgs ρ) n m i h) i H, ⟨us.length, by omega, h1, α1, [], [], Ext.new hD, s1.plus hD, upd_same, .nil, Nat.le_refl _, ePl, ?_⟩, ?_⟩
      · simp only [compV, ql] at p1
        exact p1
      · rintro i m H ⟨hm, hI⟩
        obtain ⟨h, α, acc, rs, e, s, hd, r, hle, er, p⟩ := hI
        cases m with
        | zero =>
          simp only [compN] at p
          cases ql : listAt h n with
          | none => simp only [ql] at p; exact p.elim
          | some ws =>
            simp only [ql] at p
            split at p
            · rename_i hl
              exact .inl ⟨wk.stop (G.plus D) α H h i (G.le_plus hD) e s (by simp only [nextV, ql, Option.map_some]; rw [List.getElem?_eq_none hl]), comp_end (.inl rfl) hD e s hd r p s0⟩
            · exact p.elim
        | succ m =>
          simp only [compN] at p
          cases ql : listAt h n with
          | none => simp only [ql] at p; exact p.elim
          | some ws =>
            simp only [ql] at p
            cases qx : ws[i]? with
            | none =>
              simp only [qx] at p
              exact .inl ⟨wk.stop (G.plus D) α H h i (G.le_plus hD) e s (by simp only [nextV, ql, Option.map_some, qx]), comp_end (.inl rfl) hD e s hd r p s0⟩
            | some x =>
              simp only [qx] at p
              obtain ⟨g1, g2⟩ := wk.go (G.plus D) α H h i x (G.le_plus hD) e s (by simp only [nextV, ql, Option.map_some, qx])
              refine .inr ⟨g1, fun H => CompI G cv W D mt ρ σ α1 H1 Q (fun h => compN (turnF (fun ρ h => evT cf it ρ h) (fun ρ h => evE cf iel ρ h) tgs ρ) n m (i + 1) h) (i + 1) H, fun H' q => ⟨m, Nat.lt_succ_self _, by omega, q⟩, fun y H' hy => ?_⟩
              obtain ⟨e', s', ry⟩ := g2 y H' hy
              exact comp_turn hD (by omega) e s hd r hle er p e' s' ry fun _ q => q
theorem sd_comp {mt : Bool} {elt tg iter : Expr} {ifs : List Expr} {scope : Scope} {own : List (Str × Nat)} {tgs : List Nat} {iit : It} {it : Oe} {iel : E} {pos : Pos} (hc : X.calm = true) (hN : X.N.Nodup) (hi : PI X tg iter (tI cv W (evIt cf iit)))
    (ok : BlkOk X.N X.env.scope scope own) (htg : own.map (·.2) = tgs)
    (hg : ∀ (s : Shared) (H : Hp) (C : Addr) (cl : List (Str × Addr)) (fp : List Addr), PG (X.blk s H scope (compEnvC scope cl C X.env) fp) tg (tG tgs))
    (ht : ∀ (s : Shared) (H : Hp) (C : Addr) (cl : List (Str × Addr)) (fp : List Addr), PTs (X.blk s H scope (compEnvC scope cl C X.env) fp) ifs (tRT cv Wno (evT cf it)))
    (he : ∀ (s : Shared) (H : Hp) (C : Addr) (cl : List (Str × Addr)) (fp : List Addr), PE (X.blk s H scope (compEnvC scope cl C X.env) fp) elt (tR cv Wno (evE cf iel))) (hs : ∀ x, foldedSetIterable iter X.env x = pure x) :
    PE X (.ListComp elt [⟨tg, iter, ifs, 0⟩] scope pos) (tR cv W (evC cf mt tgs iit it iel)) := by
  subst htg
  exact PE.weak (pe_lc hc hN (PI.weakI hi) ok hg ht he hs) fun σ H Q q => comp_all q
/-- name = [..] -/
theorem st_setC {mt : Bool} {i : Nat} {y : Str} {py : Pos} {elt tg iter : Expr} {ifs : List Expr} {scope : Scope} {own : List (Str × Nat)} {tgs : List Nat} {iit : It} {it : Oe} {iel ie : E} {pos spos : Pos} (hm : evE cf ie = evC cf mt tgs iit it iel) (hc : X.calm = true) (hN : X.N.Nodup) (hy : X.N[i]? = some y) (hyl : X.env.scope.names.lookup y = some .local)
    (hsw : swapsWith (.ListComp elt [⟨tg, iter, ifs, 0⟩] scope pos) (some (.Name y py)) spos.line X.env = pure true) (hi : PI X tg iter (tI cv W (evIt cf iit)))
    (ok : BlkOk X.N X.env.scope scope own) (htg : own.map (·.2) = tgs)
    (hg : ∀ (s : Shared) (H : Hp) (C : Addr) (cl : List (Str × Addr)) (fp : List Addr), PG (X.blk s H scope (compEnvC scope cl C X.env) fp) tg (tG tgs))
    (ht : ∀ (s : Shared) (H : Hp) (C : Addr) (cl : List (Str × Addr)) (fp : List Addr), PTs (X.blk s H scope (compEnvC scope cl C X.env) fp) ifs (tRT cv Wno (evT cf it)))
    (he : ∀ (s : Shared) (H : Hp) (C : Addr) (cl : List (Str × Addr)) (fp : List Addr), PE (X.blk s H scope (compEnvC scope cl C X.env) fp) elt (tR cv Wno (evE cf iel))) (hs : ∀ x, foldedSetIterable iter X.env x = pure x) :
    PS X (.Assign [.Name y py] (.ListComp elt [⟨tg, iter, ifs, 0⟩] scope pos) spos) (tS cv W (evS cf (.set i ie))) := by
  subst htg
  refine PS.weak (ps_setLc hc hN hy hyl hsw (PI.weakI hi) ok hg ht he hs) fun D σ H ⟨G, ρ, h, α, er, sr, p⟩ => ?_
  simp only [evS] at p
  rw [hm] at p
  refine comp_all (mt := mt) ⟨G, ρ, h, α, er, sr, PostS.ofE er p fun w h1 α1 H1 v e1 s1 er1 r1 p1 => ?_⟩
  exact p1 _ _ _ (Ext.refl _ _) s1 (er1.set i r1)
end
end RL

namespace RL
open PySem.Spec PySem PyProof.Rows L2
variable [Tabl]
/-- a def's promise: what the evaluator says of its call -/
def spF (cv : Cv) (r : List RL.W → Hs → R RL.W) : Sp := fun vs H Q E => ∃ G ws h α, Reps G H α ws vs ∧ StR G h α H ∧ Post G cv (fun c d _ H => E c d H) [] (relW G) (r ws h) α H Q
theorem derefN_some {k n : Nat} {h : Hs} {ws : List RL.W} (hk : k ≤ n) (q : listAt h n = some ws) : derefN k h (.loc n) = .lst ws := by
  show (if k ≤ n then _ else _) = _
  rw [if_pos hk, q]
theorem derefN_none {k n : Nat} {h : Hs} (hk : k ≤ n) (q : listAt h n = none) : derefN k h (.loc n) = .loc n := by
  show (if k ≤ n then _ else _) = _
  rw [if_pos hk, q]
theorem derefN_low {k n : Nat} {h : Hs} (hk : ¬ k ≤ n) : derefN k h (.loc n) = .loc n := by
  show (if k ≤ n then _ else _) = _
  rw [if_neg hk]
section
variable {X : Cx} {G : Gx} {cv : Cv} {W : WX} {cf : CF}
theorem call_pure {σ : L2.St} {f : Nat} {ws : List RL.W} {vs : List V} {h : Hs} {α : List Addr} {H : Hp} {Q : VK} (r : Reps G H α ws vs) (s : StR G h α H) (p : Post G cv W σ (relW G) (callP (cf f ws []) ws h) α H Q) : spF cv (cf f) vs H Q (WE W σ) := by
  unfold callP at p
  by_cases hl : RL.W.lowrs 0 ws = true
  · rw [if_pos hl] at p
    refine ⟨G.hide α, ws, [], [], r.hide hl, s.hide, ?_⟩
    revert p
    cases cf f ws [] with
    | bad => exact id
    | ex c h' => exact fun p β H' e s1 => p α H' (Ext.unhide e) (s.unhide e s1.tab)
    | ok w h' =>
      intro p β H' v e s' rv
      have p' : Post G cv W σ (relW G) (backP (derefN 0 h' w) h) α H Q := p
      unfold backP at p'
      by_cases hw : RL.W.lowr 0 (derefN 0 h' w) = true
      · rw [if_pos hw] at p'
        refine p' α H' v (Ext.unhide e) (s.unhide e s'.tab) ?_
        cases w with
        | loc n =>
          cases ql : listAt h' n with
          | none => rw [derefN_none (Nat.zero_le _) ql] at hw; exact absurd hw (by simp [RL.W.lowr])
          | some us =>
            rw [derefN_some (Nat.zero_le _) ql] at hw ⊢
            obtain ⟨a, vs', ea, ha, rr⟩ := s'.list ql
            obtain ⟨b, rfl, eb⟩ := rv.of_loc
            rw [ea] at eb; cases eb
            have na := s'.sep a (List.mem_of_getElem? ea)
            exact .lst ha ⟨fun z => na (.inl z), fun z => na (.inr z)⟩ (Reps.unhide rr (by simpa [RL.W.lowr] using hw))
        | _ => exact Rep.unhide rv hw
      · rw [if_neg hw] at p'; exact p'.elim
  · rw [if_neg hl] at p; exact p.elim
theorem call_full {σ : L2.St} {f : Nat} {ws : List RL.W} {vs : List V} {h : Hs} {α : List Addr} {H : Hp} {Q : VK} (r : Reps G H α ws vs) (s : StR G h α H) (p : Post G cv W σ (relW G) (cf f ws h) α H Q) : spF cv (cf f) vs H Q (WE W σ) := by
  refine ⟨G, ws, h, α, r, s, ?_⟩
  revert p
  cases cf f ws h <;> exact id
theorem call_cut {σ : L2.St} {f : Nat} {ws : List RL.W} {vs : List V} {h : Hs} {α : List Addr} {H : Hp} {Q : VK} (r : Reps G H α ws vs) (s : StR G h α H) (p : Post G cv W σ (relW G) (callG (cf f ws h) h) α H Q) : spF cv (cf f) vs H Q (WE W σ) := by
  refine ⟨G, ws, h, α, r, s, ?_⟩
  revert p
  cases cf f ws h with
  | bad => exact id
  | ex c h' =>
    intro p α' H' e s'
    unfold callG at p
    by_cases hw : ((h'.take h.length).all (Ob.lowr h.length) && decide (h.length ≤ h'.length)) = true
    · have p' : Post G cv W σ (relW G) (if ((h'.take h.length).all (Ob.lowr h.length) && decide (h.length ≤ h'.length)) = true then R.ex c (h'.take h.length) else R.bad) α H Q := p
      rw [if_pos hw] at p'
      obtain ⟨h1, h2⟩ := Bool.and_eq_true_iff.mp hw
      obtain ⟨β, rfl, _⟩ := e.pre
      exact p' α H' (Ext.cut s e) (StR.cut s s' e h1 (of_decide_eq_true h2))
    · have p' : Post G cv W σ (relW G) (if ((h'.take h.length).all (Ob.lowr h.length) && decide (h.length ≤ h'.length)) = true then R.ex c (h'.take h.length) else R.bad) α H Q := p
      rw [if_neg hw] at p'; exact p'.elim
  | ok w h' =>
    intro p α' H' v e s' rv
    have p' : Post G cv W σ (relW G) (backG (derefN h.length h' w) h h') α H Q := p
    unfold backG at p'
    by_cases hw : (RL.W.lowr h.length (derefN h.length h' w) && (h'.take h.length).all (Ob.lowr h.length) && decide (h.length ≤ h'.length)) = true
    · rw [if_pos hw] at p'
      obtain ⟨h12, h3⟩ := Bool.and_eq_true_iff.mp hw
      obtain ⟨h1, h2⟩ := Bool.and_eq_true_iff.mp h12
      obtain ⟨β, rfl, hβ⟩ := e.pre
      refine p' α H' v (Ext.cut s e) (StR.cut s s' e h2 (of_decide_eq_true h3)) ?_
      have low : ∀ {u : RL.W} {v : V}, Rep G H' (α ++ β) u v → RL.W.lowr h.length u = true → Rep G H' α u v := fun r k => Rep.low r (by rw [← s.len] at k; exact k)
      cases w with
      | loc n =>
        by_cases hn : h.length ≤ n
        · cases ql : listAt h' n with
          | none => rw [derefN_none hn ql] at h1; exact absurd h1 (by simp [RL.W.lowr]; omega)
          | some us =>
            rw [derefN_some hn ql] at h1 ⊢
            obtain ⟨a, vs', ea, ha, rr⟩ := s'.list ql
            obtain ⟨b, rfl, eb⟩ := rv.of_loc
            rw [ea] at eb; cases eb
            rw [List.getElem?_append_right (by rw [s.len]; exact hn)] at ea
            have ma := List.mem_of_getElem? ea
            refine .lst ha ⟨fun z => s.hid a z (hβ a ma), fun z => s.fresh (hβ a ma) z⟩ (Reps.low rr ?_)
            rw [s.len]; simpa [RL.W.lowr] using h1
        · rw [derefN_low hn] at h1 ⊢
          exact low rv h1
      | _ => exact low rv h1
    · rw [if_neg hw] at p'; exact p'.elim
section
variable {x : Str} {f : Nat} {k : Nat} {es : List Expr} {ies : Es} {p pos : Pos}
end
end
end RL

/-! Promises of defs where no repr is under way (the layer's own FnOk tells nothing of that). -/
namespace RL
open PySem.Spec PySem PyProof.Rows L2
variable [Tabl]
/-- the way to a def is free: room, and no repr under way -/
structure Free (k : Nat) (A : Around) : Prop where
  room4 : Room (4 * k + 34) A
  bare : A.guards = some []
/-- .. and a little more -/
structure Free1 (k : Nat) (A : Around) : Prop where
  fr : Free k A
  rm : Room (4 * k + 34 + 1) A
  fra : ∃ l, A.frames = some l
theorem Free.room {k : Nat} {A : Around} (f : Free k A) : Room k A := f.room4.mono (by omega)
/-- what is known of a def's code object -/
structure Cod (K : PySem.W.Frag) (f : Addr) (fd : FuncData) (cdv : Value) (qual : Str) : Prop where
  at_ : ∃ oc od osl, K.lookup f = some ⟨oc, od, .func fd, osl⟩
  code : fd.code = cdv
  ok : PySem.W.codeIn K cdv qual = true
structure FnG (P : Program) (w : World) (K : PySem.W.Frag) (mg : Str → Option Value) (base : Heap) (k : Nat)
    (f : Addr) (fd : FuncData) (ps : List Str) (sp : Sp) : Prop where
  len : ∀ xs H Q E, sp xs H Q E → xs.length = ps.length
  run : ∀ (A : Around) (outer : List PySem.Env) (s : Shared) (H : Hp) (args : Args) (us : List Value) (vs : List V) (Q : VK) (E : XK),
    Free k A → Env0 P w K mg base A outer s H → BindsTo s fd args (ps.zip us) →
    Vals vs us → sp vs H Q E →
    codeAny (model P w) A (.call (.ref f) args)
      (CR (L2.CX P w) outer P w H s Q E) s
theorem Free.mono {j k : Nat} {A : Around} (r : Free k A) (h : j ≤ k) : Free j A := ⟨r.room4.mono (by omega), r.bare⟩
section
variable {P : Program} {w : World} {K : PySem.W.Frag} {mg : Str → Option Value} {base : Heap} {k : Nat} {f : Addr}
variable {x qual : Str} {st : Stmt} {fd : FuncData} {N ps : List Str} {sp : Sp}
/-- a def keeps its promise -/
theorem fn_g (see : Sees P base) (F : FunD K x qual (defArgs st) (defBody st) (defScope st) [] [] f fd) (S : FnScope N ps (defScope st))
    (len : ∀ xs H Q E, sp xs H Q E → xs.length = ps.length)
    (body : ∀ (cdv : Value) (A : Around) (outer : List PySem.Env) (s : Shared) (H : Hp) (vs : List V) (Q : VK) (E : XK),
      Cod K f fd cdv qual → Free k (A.deeper (envOfC qual (defScope st) s.heap.objs.size f cdv)) → Room (4 * k + 34 + 3) (A.deeper (envOfC qual (defScope st) s.heap.objs.size f cdv)) → PylAt P w base (A.deeper (envOfC qual (defScope st) s.heap.objs.size f cdv)) → sp vs H Q E →
      ∃ t, PSs (cxOf (L2.CX P w) P w K mg base N qual (defScope st) f cdv A outer s H E) (defBody st) t ∧
        t { nx := fun _ H' => Q .non H', rt := Q } (start N vs) H) :
    FnG P w K mg base (k + 1) f fd ps sp := by
  rcases F.ex with ⟨oc, od, dV, kV, doc, pm, an, cdv, ct, osl, rfl, lk, hcd, _⟩
  refine ⟨len, fun A outer s H args us vs Q E fr e0 hb r hsp => ?_⟩
  have KX := e0.mod.kin.keeps fun b o e => (e0.bs b o e).1
  have nl : s.heap.NoLimit := e0.mod.nolimit.keeps fun b o e => (e0.bs b o e).1
  have kinds : ∀ y ∈ ps.zip us,
      (defScope st).names.lookup y.1 = some .local ∨ ((defScope st).names.lookup y.1 = some .cell ∧
        ((cellsFrom (s.heap.objs.size + 1) (defScope st).names []).lookup y.1).isSome = true) := by
    intro y hy
    cases S.par y.1 (List.of_mem_zip hy).1 with
    | inl q => exact .inl q
    | inr q => exact .inr ⟨q, PySem.W.cellsFrom_some _ _ _ (.inl q)⟩
  refine codeAny_call_function fr.room.depth (KX _ _ lk) rfl S.co S.gen rfl
    (PySem.W.codeRec_of KX hcd) (hb _ _ _ _ ?_)
  refine wpAny_newFunctionEnv_cells S.kind kinds fun env he s1 x => ?_
  subst he
  refine ⟨nl.keeps x.toInCall.keep, codeAny_func ?_⟩
  have rm' : Room (4 * k + 34 + 3) (A.deeper (envOfC qual (defScope st) s.heap.objs.size f cdv)) := (fr.room4.mono (by omega) : Room (4 * k + 34 + 3 + 1) A).deeper _
  have fr' : Free k (A.deeper (envOfC qual (defScope st) s.heap.objs.size f cdv)) := ⟨rm'.mono (by omega), fr.bare⟩
  have py : PylAt P w base (A.deeper (envOfC qual (defScope st) s.heap.objs.size f cdv)) :=
    pyl_at (env := envOfC qual (defScope st) s.heap.objs.size f cdv) (l := outer) see (by have := rm'.dp; show _ + 100 < _; omega) (by show A.frames.map _ = _; rw [e0.frames]; rfl) S.gen S.co rfl rfl
  obtain ⟨t, ht, hq⟩ := body cdv A outer s H vs Q E ⟨⟨_, _, _, lk⟩, rfl, hcd⟩ fr' rm' py hsp
  have I := inv_start (E := E) (CX := L2.CX P w) S fr.room.hd e0 (len _ _ _ _ hsp) r x
  refine wpAny_mono (ht.run [] s1 _ H _ I hq) (fun fl s' hs => ?_) fun e s' hs => hs
  cases fl with
  | brk => exact hs.elim fun _ h => h.elim fun _ h => False.elim h.2
  | cont => exact hs.elim fun _ h => h.elim fun _ h => False.elim h.2
  | ret u =>
    rcases hs with ⟨v, σ', H', J, rv, q⟩
    exact ⟨v, H', J.os, J.bare, J.base, J.hok, rv, q⟩
  | next =>
    obtain ⟨σ', H', J, q⟩ := hs
    exact ⟨V.non, H', J.os, J.bare, J.base, J.hok, rfl, q⟩
end
section
variable {X : Cx} {k : Nat} {f : Addr} {fd : FuncData} {ps : List Str} {sp : Sp} {W : WX} {x : Str} {p pos : Pos}
theorem run_g {pins : List (Addr × Obj)} {σ : L2.St} {H : Hp} {s : Shared} {Q : VK} {us : List Value} {vs : List V}
    (F : FnG X.prog X.w X.K X.mg X.base k f fd ps sp) (fr : Free k X.A) (hb : Binds X.K fd ps []) (tk : Takes X W)
    (I : Inv X pins σ H s) (r : Vals vs us) (h : sp vs H Q (WE W σ)) :
    wpAny (model X.prog X.w) X.A (call (Value.ref f) us) (EP X pins σ Q) X.xe s := by
  have hl : us.length = ps.length := r.length ▸ F.len _ _ _ _ h
  have b : BindsTo s fd ⟨us, []⟩ (ps.zip us) := by simpa only [List.append_nil] using hb s us I.kIn (by simpa only [List.append_nil] using hl)
  refine wpAny_call (codeAny_mono (F.run X.A X.stack s H _ us vs Q _ fr I.env0 b r h) fun res s' hq => ?_)
  match res, hq with
  | .error e, hq => exact passAt tk σ pins H s e s' I hq
  | .ok (.ret u), hq => exact I.after hq
  | .ok .next, hq => exact False.elim hq
  | .ok .brk, hq => exact False.elim hq
  | .ok .cont, hq => exact False.elim hq
/-- a call by a global's name -/
theorem pe_g (F : FnG X.prog X.w X.K X.mg X.base k f fd ps sp) (fr : Free k X.A) (hg : Gl X x) (hm : X.mg x = some (.ref f))
    (hk : PySem.W.keepIn X.K (.ref f) = true) (hb : Binds X.K fd ps []) (tk : Takes X W) {es : List Expr} {t : TA} (ha : PA X es t)
    (h0 : es = [] → ∀ σ H Q, t σ H Q → Q [] H) (hd : (x == ("__debug__" : Str)) = false)
    (he : ∀ e es', es = e :: es' → starEach (e :: es') X.env = (false, eval e X.env) :: starEach es' X.env)
    (hpl : ∀ e es', es = e :: es' → (backTo pos (starEach es' X.env)).any (·.1) = false) :
    PE X (.Call (.Name x p) es [] pos) (tCallS sp (fun σ => WE W σ) t) := by
  refine ⟨fun pins s σ H Q I h => wpAny_Call_Name_kw (ld_glob I hg hm ?_ hd)⟩
  cases es with
  | nil => exact PySem.W.callWith_K0 I.kIn hk (run_g (us := []) F fr hb tk I .nil (h0 rfl σ H _ h))
  | cons e es' =>
    refine PySem.W.callWith_K (h₀ := X.base) I.ok.mod.kin hk (thn (ha.run pos pins s σ H _ I h) ?_) (he e es' rfl) (hpl e es' rfl)
    intro us s1 z
    obtain ⟨vs, H1, I1, r, q⟩ := z
    exact ⟨I1.kIn, run_g F fr hb tk I1 r q⟩
end
end RL

namespace RL
open PySem.Spec PySem PyProof.Rows L2
variable [Tabl]
/-! ### isinstance -/
def tyN : W → String
  | .non => "NoneType"
  | .bl _ => "bool"
  | .int _ => "int"
  | .str _ => "str"
  | .rs _ => "str"
  | .emp => "dict"
  | .dk _ _ => "dict"
  | .tup _ => "tuple"
  | .pr _ => "tuple"
  | .lst _ => "list"
  | .fr _ => "list"
  | .loc _ => "list"
theorem kits : ∀ a ∈ ["NoneType", "bool", "int", "str", "tuple", "list", "dict"], ∀ b ∈ ["bool", "int", "str", "tuple", "list"], kitB a b = some (a == b || (a == "bool" && b == "int")) := by decide +kernel
theorem tyN_mem (w : W) : tyN w ∈ ["NoneType", "bool", "int", "str", "tuple", "list", "dict"] := by cases w <;> simp [tyN]
section
variable {X : Cx} {G : Gx} {cv : Cv} {W : WX} {cf : CF}
theorem tyX_of {h : Hs} {α : List Addr} {H : Hp} {w : RL.W} {x : V} (s : StR G h α H) (r : Rep G H α w x) (ok : aList h w = some ()) : TyX X.K H x (.type (tyN w)) := by
  cases r with
  | non => exact .base .non
  | bl b => exact .base (.bl b)
  | int i => exact .base (.int i)
  | str x => exact .base (.str x)
  | rs w => exact .base (.str _)
  | emp h _ => exact .base (.dK h)
  | dk h _ _ => exact .base (.dK h)
  | tup h _ _ _ => exact .fTuple h
  | pr h _ _ => exact nomatch ok
  | lst h _ _ => exact .base (.lst h)
  | fr h _ _ => exact .base (.frz h)
  | loc ha =>
    rename_i n a
    obtain ⟨ws, q, _⟩ := Option.map_eq_some_iff.mp (show (listAt h n).map (fun _ => ()) = some () from ok)
    obtain ⟨b, vs, eb, z, _⟩ := s.list q
    rw [ha] at eb; cases eb
    exact .base (.lst z)
def isB : Bi → Option String
  | .isint => some "int"
  | .isbool => some "bool"
  | .istup => some "tuple"
  | .isstr => some "str"
  | .islst => some "list"
  | _ => none
theorem isB_mem {b : Bi} {T : String} (h : isB b = some T) : T ∈ ["bool", "int", "str", "tuple", "list"] := by cases b <;> cases h <;> decide
theorem isB_blt {b : Bi} {T : String} (h : isB b = some T) (w : RL.W) (hs : Hs) : blt b [w] hs = (aList hs w).map fun _ => .bl (tyN w == T || (tyN w == "bool" && T == "int")) := by
  cases b <;> cases h <;> cases w <;> rfl
theorem pe_ty {x : Str} {T : String} {pos : Pos} (hg : Gl X x) (hm : X.mg x = none) (hv : bootBuiltins x = some (.type T)) (hn : x ≠ "__name__") (hd : (x == ("__debug__" : Str)) = false) :
    PE X (.Name x pos) (fun σ H Q => Q (.ty T) H) := ⟨fun _ _ _ H _ I h => ld_blt I hg hm hv ⟨.ty T, H, I, rfl, h⟩ hn hd⟩
theorem sd_isi {x y : Str} {T : String} {b : Bi} {e : Expr} {ie : E} {p p2 pos : Pos} (hb : isB b = some T) (hg : Gl X x) (hm : X.mg x = none) (hv : bootBuiltins x = some (.builtin "isinstance"))
    (hg2 : Gl X y) (hm2 : X.mg y = none) (hv2 : bootBuiltins y = some (.type T)) (he : PE X e (tR cv W (evE cf ie))) (hn : x ≠ "__name__") (hd : (x == ("__debug__" : Str)) = false) (hn2 : y ≠ "__name__") (hd2 : (y == ("__debug__" : Str)) = false)
    (hs : starEach [e, .Name y p2] X.env = (false, eval e X.env) :: starEach [.Name y p2] X.env) (hpl : (backTo pos (starEach [.Name y p2] X.env)).any (·.1) = false) :
    PE X (.Call (.Name x p) [e, .Name y p2] [] pos) (tR cv W (evE cf (.blt b (.cons ie .nil)))) := by
  refine PE.weak (pe_callB call_isi hg hm hv (pa_cons he (pa_cons (pe_ty hg2 hm2 hv2 hn2 hd2) pa_nil (by rfl)) hs) hn hd hs hpl) fun σ H Q ⟨G, ρ, h, α, er, sr, p⟩ => ?_
  simp only [evE, evEs] at p
  refine ⟨G, ρ, h, α, er, sr, ?_⟩
  revert p
  cases evE cf ie ρ h with
  | bad => exact id
  | ex c h' => exact id
  | ok w h1 =>
    intro p α1 H1 c e1 s1 r1
    have p1 : Post G cv W σ (relW G) (R.of (blt b [w] h1) h1) α H Q := p
    rw [isB_blt hb] at p1
    cases ok : aList h1 w with
    | none => rw [ok] at p1; exact p1.elim
    | some z =>
    rw [ok] at p1
    exact ⟨c, .ty T, _, .type T, _, rfl, .ty T, tyX_of s1 r1 ok, kit_ty (kits _ (tyN_mem w) _ (isB_mem hb)), (Post.base e1 p1).ok s1 (.bl _)⟩
/-! ### max, min -/
theorem asInts_ints : ∀ {ws : List RL.W} {ns : List Int}, asInts ws = some ns → ws = ns.map RL.W.int
  | [], ns, e => by cases e; rfl
  | x :: r, ns, e => by
    simp only [asInts] at e
    cases hx : asInt x with
    | none => rw [hx] at e; cases e
    | some i =>
      cases hr : asInts r with
      | none => rw [hx, hr] at e; cases e
      | some m =>
        rw [hx, hr] at e
        cases e
        have := asInt_some hx
        subst this
        rw [asInts_ints hr]; rfl
theorem maxI_is : ∀ {ns : List Int} {m : Int}, maxI ns = some m → m ∈ ns ∧ (∀ y ∈ ns, y ≤ m)
  | [], m, e => by cases e
  | [x], m, e => by cases e; simp
  | x :: y :: r, m, e => by
    simp only [maxI] at e
    cases hr : maxI (y :: r) with
    | none => rw [hr] at e; cases e
    | some k =>
      rw [hr] at e
      cases e
      obtain ⟨h1, h2⟩ := maxI_is hr
      dsimp only
      split
      · exact ⟨List.mem_cons_self, fun z hz => by
          obtain rfl | hz := List.mem_cons.mp hz
          · omega
          · have := h2 z hz; omega⟩
      · exact ⟨List.mem_cons_of_mem _ h1, fun z hz => by
          obtain rfl | hz := List.mem_cons.mp hz
          · omega
          · exact h2 z hz⟩
theorem minI_is : ∀ {ns : List Int} {m : Int}, minI ns = some m → m ∈ ns ∧ (∀ y ∈ ns, m ≤ y)
  | [], m, e => by cases e
  | [x], m, e => by cases e; simp
  | x :: y :: r, m, e => by
    simp only [minI] at e
    cases hr : minI (y :: r) with
    | none => rw [hr] at e; cases e
    | some k =>
      rw [hr] at e
      cases e
      obtain ⟨h1, h2⟩ := minI_is hr
      dsimp only
      split
      · exact ⟨List.mem_cons_self, fun z hz => by
          obtain rfl | hz := List.mem_cons.mp hz
          · omega
          · have := h2 z hz; omega⟩
      · exact ⟨List.mem_cons_of_mem _ h1, fun z hz => by
          obtain rfl | hz := List.mem_cons.mp hz
          · omega
          · exact h2 z hz⟩
theorem map_ints' {H : Hp} {α : List Addr} : ∀ {ns : List Int} {vs : List V}, Reps G H α (ns.map RL.W.int) vs → vs = ns.map V.int
  | [], _, h => by cases h; rfl
  | n :: ns, _, h => by
    cases h with
    | cons a b => rw [a.of_int, map_ints' b]; rfl
theorem blt_maxT {ws : List RL.W} {h : Hs} {z : RL.W} (e : blt .max ws h = some z) : (∃ a b, ws = [.int a, .int b] ∧ z = .int (if b > a then b else a)) ∨ ∃ x ys ns m, ws = [x] ∧ itemsT h x = some ys ∧ asInts ys = some ns ∧ maxI ns = some m ∧ z = .int m := by
  match ws, e with
  | [], e => cases e
  | [x], e =>
    have e : (((itemsT h x).bind asInts).bind maxI).map RL.W.int = some z := by cases x <;> exact e
    cases h1 : itemsT h x with
    | none => rw [h1] at e; cases e
    | some ys =>
      cases h2 : asInts ys with
      | none => rw [h1, Option.bind_some, h2] at e; cases e
      | some ns =>
        cases h3 : maxI ns with
        | none => rw [h1, Option.bind_some, h2, Option.bind_some, h3] at e; cases e
        | some m => rw [h1, Option.bind_some, h2, Option.bind_some, h3] at e; cases e; exact .inr ⟨_, _, _, _, rfl, h1, h2, h3, rfl⟩
  | [x, y], e => cases x <;> cases y <;> first | (cases e; exact .inl ⟨_, _, rfl, rfl⟩) | cases e
  | x :: y :: u :: r, e => cases x <;> cases y <;> cases e
theorem blt_minT {ws : List RL.W} {h : Hs} {z : RL.W} (e : blt .min ws h = some z) : (∃ a b, ws = [.int a, .int b] ∧ z = .int (if b < a then b else a)) ∨ ∃ x ys ns m, ws = [x] ∧ itemsT h x = some ys ∧ asInts ys = some ns ∧ minI ns = some m ∧ z = .int m := by
  match ws, e with
  | [], e => cases e
  | [x], e =>
    have e : (((itemsT h x).bind asInts).bind minI).map RL.W.int = some z := by cases x <;> exact e
    cases h1 : itemsT h x with
    | none => rw [h1] at e; cases e
    | some ys =>
      cases h2 : asInts ys with
      | none => rw [h1, Option.bind_some, h2] at e; cases e
      | some ns =>
        cases h3 : minI ns with
        | none => rw [h1, Option.bind_some, h2, Option.bind_some, h3] at e; cases e
        | some m => rw [h1, Option.bind_some, h2, Option.bind_some, h3] at e; cases e; exact .inr ⟨_, _, _, _, rfl, h1, h2, h3, rfl⟩
  | [x, y], e => cases x <;> cases y <;> first | (cases e; exact .inl ⟨_, _, rfl, rfl⟩) | cases e
  | x :: y :: u :: r, e => cases x <;> cases y <;> cases e
theorem itemsT_or {h : Hs} {x : RL.W} {ys : List RL.W} (e : itemsT h x = some ys) : x = .tup ys ∨ itemsL h x = some ys := by
  cases x <;> first | (cases e; exact .inl rfl) | exact .inr e | cases e
theorem reads_ints (h : Heap) : ∀ {ns : List Int} {us : List Value}, Vals (ns.map V.int) us → ∃ as, ReadsAll h us (ns.map PyData.int) as
  | [], _, r => by cases r; exact ⟨_, .nil⟩
  | n :: ns, _, r => by
    cases r with
    | cons a b =>
      obtain ⟨t, rfl⟩ := a
      obtain ⟨as, q⟩ := reads_ints h b
      exact ⟨_, .cons (.int n t) q⟩
theorem foldl_min_is : ∀ (ns : List Int) (n : Int), ns.foldl min n ∈ n :: ns ∧ ∀ y ∈ n :: ns, ns.foldl min n ≤ y
  | [], n => by simp
  | k :: ns, n => by
    obtain ⟨h1, h2⟩ := foldl_min_is ns (min n k)
    rw [List.foldl_cons]
    have hm := h2 (min n k) List.mem_cons_self
    refine ⟨?_, fun y hy => ?_⟩
    · obtain e | e := List.mem_cons.mp h1
      · rw [e]
        by_cases c : n ≤ k
        · rw [Int.min_eq_left c]; exact List.mem_cons_self
        · rw [Int.min_eq_right (by omega)]; exact List.mem_cons_of_mem _ List.mem_cons_self
      · exact List.mem_cons_of_mem _ (List.mem_cons_of_mem _ e)
    · obtain e | e := List.mem_cons.mp hy
      · subst e; omega
      · obtain e | e := List.mem_cons.mp e
        · subst e; omega
        · exact h2 y (List.mem_cons_of_mem _ e)
theorem foldl_max_is : ∀ (ns : List Int) (n : Int), ns.foldl max n ∈ n :: ns ∧ ∀ y ∈ n :: ns, y ≤ ns.foldl max n
  | [], n => by simp
  | k :: ns, n => by
    obtain ⟨h1, h2⟩ := foldl_max_is ns (max n k)
    rw [List.foldl_cons]
    have hm := h2 (max n k) List.mem_cons_self
    refine ⟨?_, fun y hy => ?_⟩
    · obtain e | e := List.mem_cons.mp h1
      · rw [e]
        by_cases c : k ≤ n
        · rw [Int.max_eq_left c]; exact List.mem_cons_self
        · rw [Int.max_eq_right (by omega)]; exact List.mem_cons_of_mem _ List.mem_cons_self
      · exact List.mem_cons_of_mem _ (List.mem_cons_of_mem _ e)
    · obtain e | e := List.mem_cons.mp hy
      · subst e; omega
      · obtain e | e := List.mem_cons.mp e
        · subst e; omega
        · exact h2 y (List.mem_cons_of_mem _ e)
theorem alike_ints (ns : List Int) : PySem.W.AlikeAll (ns.map PyData.int) := by
  refine ⟨fun x hx y hy => ?_, fun x hx => ?_⟩
  · obtain ⟨a, _, rfl⟩ := List.mem_map.mp hx
    rcases List.mem_map.mp hy with ⟨b, _, rfl⟩
    rfl
  · obtain ⟨a, _, rfl⟩ := List.mem_map.mp hx
    exact fun z => nomatch z
theorem depth_ints : ∀ ns : List Int, PyData.depthAll (ns.map PyData.int) = 0
  | [] => rfl
  | n :: ns => by
    have := depth_ints ns
    simp only [List.map_cons, PyData.depthAll, PyData.depth, this]; rfl
theorem tup_val {H : Hp} {α : List Addr} {ns : List Int} {v : V} (r : Rep G H α (.tup (ns.map RL.W.int)) v) : ∃ a, v = .ref a ∧ KT H a ((ns.map V.int)) := by
  cases r with
  | tup hr d hf rs => rw [map_ints' rs] at hr; exact ⟨_, rfl, _, d, hr⟩
theorem cl_max {k : Nat} (fr : Free k X.A) (hc : X.calm = true) : CallR X (.builtin "max") (rCl (blt .max)) := by
  intro pins s σ H xs us Q I rx ⟨G, ws, h, α, z, r, sr, e, q⟩
  rcases blt_maxT e with ⟨a, b, rfl, rfl⟩ | ⟨x, ys, ns, m, rfl, h1, h2, h3, rfl⟩
  · obtain ⟨v, y, rfl, r1, r2⟩ := r.two
    have := r1.of_int; have := r2.of_int; subst_vars
    exact call_max2 hc pins s σ H _ us Q I rx ⟨a, b, rfl, q _ _ (Ext.refl _ _) sr (.int _)⟩
  · obtain ⟨v, rfl, r1⟩ := r.one
    have := asInts_ints h2; subst this
    obtain ⟨m1, m2⟩ := maxI_is h3
    obtain rfl | h1 := itemsT_or h1
    · obtain ⟨a, rfl, hr⟩ := tup_val r1
      obtain ⟨its, rv, pl, _⟩ := I.tuple hr.sq
      obtain ⟨u, rfl, ru⟩ := vals1 rx
      cases ru
      cases ns with
      | nil => cases h3
      | cons n ns =>
        obtain ⟨as, ra⟩ := reads_ints s.heap (ns := n :: ns) rv
        have un := fr.room.un
        refine PySem.W.max_tuple_data (I.ok.hd hc) (show s.heap.IsTuple a its.toArray from pl) (x := .int n) (xs := ns.map .int) ra (alike_ints (n :: ns)) ?_ fun i v h' tk bs hi rd hk => ?_
        · have := depth_ints (n :: ns)
          rw [show PyData.int n :: ns.map PyData.int = (n :: ns).map PyData.int from rfl, this]
          omega
        · rw [PySem.W.maxD_ints] at rd
          cases rd
          obtain ⟨k1, k2⟩ := foldl_max_is ns n
          have : ns.foldl max n = m := by have := m2 _ k1; have := k2 m m1; omega
          rw [this]
          exact ⟨.int m, _, I.kept hk, ⟨_, rfl⟩, q _ _ (Ext.refl _ _) sr (.int _)⟩
    obtain ⟨p1, vs, rfl, hr, q1⟩ := rep_itemsL sr r1 h1
    have := map_ints' q1; subst this
    refine cr_max hc pins s σ H _ us Q I rx ⟨p1, ns, rfl, .inl (.inl hr), List.length_pos_of_mem m1, fun m' k1 k2 => ?_⟩
    have : m' = m := by have := m2 m' k1; have := k2 m m1; omega
    subst this
    exact q _ _ (Ext.refl _ _) sr (.int _)
theorem cl_min {k : Nat} (fr : Free k X.A) (hc : X.calm = true) : CallR X (.builtin "min") (rCl (blt .min)) := by
  intro pins s σ H xs us Q I rx ⟨G, ws, h, α, z, r, sr, e, q⟩
  rcases blt_minT e with ⟨a, b, rfl, rfl⟩ | ⟨x, ys, ns, m, rfl, h1, h2, h3, rfl⟩
  · obtain ⟨v, y, rfl, r1, r2⟩ := r.two
    have := r1.of_int; have := r2.of_int; subst_vars
    exact call_min2 hc pins s σ H _ us Q I rx ⟨a, b, rfl, q _ _ (Ext.refl _ _) sr (.int _)⟩
  · obtain ⟨v, rfl, r1⟩ := r.one
    have := asInts_ints h2; subst this
    obtain ⟨m1, m2⟩ := minI_is h3
    obtain rfl | h1 := itemsT_or h1
    · obtain ⟨a, rfl, hr⟩ := tup_val r1
      obtain ⟨its, rv, pl, _⟩ := I.tuple hr.sq
      obtain ⟨u, rfl, ru⟩ := vals1 rx
      cases ru
      cases ns with
      | nil => cases h3
      | cons n ns =>
        obtain ⟨as, ra⟩ := reads_ints s.heap (ns := n :: ns) rv
        have un := fr.room.un
        refine PySem.W.min_tuple_data (I.ok.hd hc) (show s.heap.IsTuple a its.toArray from pl) (x := .int n) (xs := ns.map .int) ra (alike_ints (n :: ns)) ?_ fun i v h' tk bs hi rd hk => ?_
        · have := depth_ints (n :: ns)
          rw [show PyData.int n :: ns.map PyData.int = (n :: ns).map PyData.int from rfl, this]
          omega
        · rw [PySem.W.minD_ints] at rd
          cases rd
          obtain ⟨k1, k2⟩ := foldl_min_is ns n
          have : ns.foldl min n = m := by have := m2 _ k1; have := k2 m m1; omega
          rw [this]
          exact ⟨.int m, _, I.kept hk, ⟨_, rfl⟩, q _ _ (Ext.refl _ _) sr (.int _)⟩
    obtain ⟨p1, vs, rfl, hr, q1⟩ := rep_itemsL sr r1 h1
    have := map_ints' q1; subst this
    refine cr_min hc pins s σ H _ us Q I rx ⟨p1, ns, rfl, .inl (.inl hr), List.length_pos_of_mem m1, fun m' k1 k2 => ?_⟩
    have : m' = m := by have := m2 m' k1; have := k2 m m1; omega
    subst this
    exact q _ _ (Ext.refl _ _) sr (.int _)
/-! ### repr -/
mutual
theorem wt_ge : ∀ (w : RL.W), (toD w).weight ≤ RL.W.wt w
  | .non => Nat.le_refl _
  | .bl b => Nat.le_refl _
  | .int i => by simp only [toD, PyData.weight, RL.W.wt]; split <;> omega
  | .str x => Nat.le_refl _
  | .rs w => Nat.le_refl _
  | .pr _ => Nat.le_refl _
  | .emp => Nat.le_refl _
  | .dk k w => by
    have := wt_ge w
    simp only [toD, PyData.weight, PyData.weightKv, RL.W.wt]; split <;> omega
  | .tup ws => by simp only [toD, PyData.weight, RL.W.wt]; exact wts_ge ws
  | .lst ws => by simp only [toD, PyData.weight, RL.W.wt]; exact wts_ge ws
  | .loc h => Nat.le_refl _
  | .fr h => Nat.le_refl _
theorem wts_ge : ∀ (ws : List RL.W), PyData.weightAll (toDs ws) ≤ RL.W.wts ws
  | [] => Nat.le_refl _
  | x :: xs => by
    have := wt_ge x
    have := wts_ge xs
    simp only [toDs, PyData.weightAll, RL.W.wts]; omega
end
mutual
theorem sm_showable : ∀ (w : RL.W) {b : Nat}, b ≤ 2 ^ 1920 → 0 < b → RL.W.sm b w = true → (toD w).showable = true
  | .non, _, _, _, _ => rfl
  | .bl b, _, _, _, _ => rfl
  | .int i, b, hb, h0, q => by
    have q : i.natAbs < b := of_decide_eq_true q
    simp only [toD, PyData.showable, decide_eq_true_eq]
    by_cases z : i.natAbs = 0
    · rw [z]; decide
    · exact (Nat.log2_lt z).mpr (Nat.lt_of_lt_of_le q hb)
  | .str x, _, _, _, _ => rfl
  | .rs w, _, _, _, _ => rfl
  | .pr _, _, _, _, _ => rfl
  | .emp, _, _, _, _ => rfl
  | .dk k w, _, hb, h0, q => by
    have q' := Bool.and_eq_true_iff.mp (show (decide (k.natAbs < _) && RL.W.sm _ w) = true from q)
    have h1 : (PyData.int k).showable = true := by
      have q1 : k.natAbs < _ := of_decide_eq_true q'.1
      simp only [decide_eq_true_eq, PyData.showable]
      by_cases z : k.natAbs = 0
      · rw [z]; decide
      · exact (Nat.log2_lt z).mpr (Nat.lt_of_lt_of_le q1 hb)
    simp only [toD, PyData.showable, PyData.showableKv, sm_showable w hb h0 q'.2, Bool.and_true]
    simpa only [PyData.showable] using h1
  | .tup ws, _, hb, h0, q => by simp only [toD, PyData.showable]; exact sms_showable ws hb h0 q
  | .lst ws, _, hb, h0, q => by simp only [toD, PyData.showable]; exact sms_showable ws hb h0 q
  | .loc h, _, _, _, _ => rfl
  | .fr h, _, _, _, _ => rfl
theorem sms_showable : ∀ (ws : List RL.W) {b : Nat}, b ≤ 2 ^ 1920 → 0 < b → RL.W.sms b ws = true → PyData.showableAll (toDs ws) = true
  | [], _, _, _, _ => rfl
  | x :: xs, _, hb, h0, q => by
    have q' := Bool.and_eq_true_iff.mp (show (RL.W.sm _ x && RL.W.sms _ xs) = true from q)
    simp only [toDs, PyData.showableAll, sm_showable x hb h0 q'.1, sms_showable xs hb h0 q'.2, Bool.and_self]
end
mutual
theorem sm_short {B b : Nat} (hB : ∀ i : Int, i.natAbs < b → (PyData.shown (.int i)).length ≤ B) : ∀ (w : RL.W), RL.W.sm b w = true → (toD w).intsShort B = true
  | .non, _ => rfl
  | .bl b, _ => rfl
  | .int i, q => by
    simp only [toD, PyData.intsShort, decide_eq_true_eq]
    exact hB i (of_decide_eq_true q)
  | .str x, _ => rfl
  | .rs w, _ => rfl
  | .pr _, _ => rfl
  | .emp, _ => rfl
  | .dk _ _, _ => rfl
  | .tup ws, q => by simp only [toD, PyData.intsShort]; exact sms_short hB ws q
  | .lst ws, q => by simp only [toD, PyData.intsShort]; exact sms_short hB ws q
  | .loc h, _ => rfl
  | .fr h, _ => rfl
theorem sms_short {B b : Nat} (hB : ∀ i : Int, i.natAbs < b → (PyData.shown (.int i)).length ≤ B) : ∀ (ws : List RL.W), RL.W.sms b ws = true → PyData.intsShortAll B (toDs ws) = true
  | [], _ => rfl
  | x :: xs, q => by
    have q' := Bool.and_eq_true_iff.mp (show (RL.W.sm b x && RL.W.sms b xs) = true from q)
    simp only [toDs, PyData.intsShortAll, sm_short hB x q'.1, sms_short hB xs q'.2, Bool.and_self]
end
mutual
theorem flat_leaves {B b : Nat} (hB : ∀ i : Int, i.natAbs < b → (PyData.shown (.int i)).length ≤ B) : ∀ (w : RL.W), RL.W.flat w = true → RL.W.sm b w = true → (toD w).leavesShort B = true
  | .non, _, _ => rfl
  | .bl b, _, _ => rfl
  | .int i, _, q => by
    simp only [toD, PyData.leavesShort, decide_eq_true_eq]
    exact hB i (of_decide_eq_true q)
  | .str x, h, _ => PyData.leavesShort_of_canLay0 B (.str x) (by simpa [W.flat, sOk, PyData.canLay0, PyData.strOk] using h) rfl
  | .rs w, h, _ => absurd h Bool.false_ne_true
  | .emp, _, _ => rfl
  | .dk k w, h, q => by
    have q' := Bool.and_eq_true_iff.mp (show (decide (k.natAbs < b) && RL.W.sm b w) = true from q)
    have h1 : (PyData.int k).leavesShort B = true := by
      simp only [PyData.leavesShort, decide_eq_true_eq]
      exact hB k (of_decide_eq_true q'.1)
    simp only [toD, PyData.leavesShort, PyData.leavesShortKv, flat_leaves hB w h q'.2, Bool.and_true]
    simpa only [PyData.leavesShort] using h1
  | .tup ws, h, q => by simp only [toD, PyData.leavesShort]; exact flats_leaves hB ws h q
  | .lst ws, h, q => absurd h Bool.false_ne_true
  | .loc n, h, _ => absurd h Bool.false_ne_true
  | .fr n, h, _ => absurd h Bool.false_ne_true
theorem flats_leaves {B b : Nat} (hB : ∀ i : Int, i.natAbs < b → (PyData.shown (.int i)).length ≤ B) : ∀ (ws : List RL.W), RL.W.flats ws = true → RL.W.sms b ws = true → PyData.leavesShortAll B (toDs ws) = true
  | [], _, _ => rfl
  | x :: xs, h, q => by
    have h' := Bool.and_eq_true_iff.mp (show (RL.W.flat x && RL.W.flats xs) = true from h)
    have q' := Bool.and_eq_true_iff.mp (show (RL.W.sm b x && RL.W.sms b xs) = true from q)
    simp only [toDs, PyData.leavesShortAll, flat_leaves hB x h'.1 q'.1, flats_leaves hB xs h'.2 q'.2, Bool.and_self]
end
theorem shows_ok {w : RL.W} (h : RL.W.shows w = true) : (toD w).depth ≤ 50 ∧ (toD w).showable = true ∧ (toD w).shown.length ≤ sizeLine := by
  unfold RL.W.shows at h
  obtain ⟨h1, h2⟩ := Bool.and_eq_true_iff.mp h
  obtain ⟨h3, h4⟩ := Bool.and_eq_true_iff.mp h1
  have h4 := of_decide_eq_true h4
  refine ⟨by rw [data_dp]; exact h4, ?_⟩
  have lv : ∀ {B b : Nat}, (∀ i : Int, i.natAbs < b → (PyData.shown (.int i)).length ≤ B) → RL.W.sm b w = true → (toD w).leavesShort B = true := fun {B b} hB h5 => by
    rcases Bool.or_eq_true_iff.mp h3 with h3 | h3
    · exact PyData.leavesShort_of_canLay0 B _ (data_can w h3) (sm_short hB w h5)
    · exact flat_leaves hB w h3 h5
  have sl : sizeLine = 16777216 := sizeLine_eq
  have big : twelve ≤ 2 ^ 1920 := by decide +kernel
  rcases Bool.or_eq_true_iff.mp h2 with h2 | h2
  · obtain ⟨h5, h6⟩ := Bool.and_eq_true_iff.mp h2
    have h6 := of_decide_eq_true h6
    refine ⟨sm_showable w big (by decide) h5, ?_⟩
    have l := PyData.shown_le 13 (by decide) _ (lv (b := twelve) (fun i hi => PyData.shown_int_le hi) h5)
    have := wt_ge w
    omega
  · obtain ⟨h5, h6⟩ := Bool.and_eq_true_iff.mp h2
    have h6 := of_decide_eq_true h6
    refine ⟨sm_showable w (Nat.le_refl _) (Nat.two_pow_pos _) h5, ?_⟩
    have l := PyData.shown_le 1921 (by decide) _ (lv (b := 2 ^ lg) (fun i hi => ?_) h5)
    · have := wt_ge w
      omega
    · simp only [PyData.shown]
      refine int_text_len_1921 ?_
      by_cases z : i.natAbs = 0
      · rw [z]; decide
      · exact (Nat.log2_lt z).mpr hi
theorem bl_repr {ws : List RL.W} {h : Hs} {z : RL.W} (e : blt .repr ws h = some z) : ∃ x, ws = [x] ∧ ((x = .emp ∧ z = .rs .emp) ∨ (RL.W.shows (deref h x) = true ∧ z = .rs (deref h x))) := by
  match ws, e with
  | [], e => cases e
  | [x], e =>
    refine ⟨x, rfl, ?_⟩
    by_cases hx : x = .emp
    · subst hx
      cases e
      exact .inl ⟨rfl, rfl⟩
    · have e : (if RL.W.shows (deref h x) then some (RL.W.rs (deref h x)) else none) = some z := by cases x <;> first | exact e | exact absurd rfl hx
      split at e <;> cases e
      exact .inr ⟨by assumption, rfl⟩
  | x :: y :: r, e => cases x <;> cases e
theorem emp_reads {pins : List (Addr × Obj)} {σ : L2.St} {H : Hp} {s : Shared} {a : Addr} (I : L2.Inv X pins σ H s) (h : H a = some (.dK [])) : Reads s.heap (.ref a) (.dict []) [a] ∧ a ≠ sysModules := by
  obtain ⟨_, ns, vs, kv, o, es, ep, g1, g2, g3, _, g5, _⟩ := I.hok a _ h
  have : vs = [] := by cases kv; rfl
  subst this
  have he : es.toList = [] := by
    cases q : es.toList with
    | nil => rfl
    | cons y r => rw [q] at g5; cases g5
  refine ⟨Reads.dict (as := []) (bs := []) g1 g2.1 g3 (by rw [he]; exact .nil) (by rw [he]; exact .nil), fun z => ?_⟩
  rw [z] at ns
  exact absurd ns (by decide)
mutual
theorem flat_reads {pins : List (Addr × Obj)} {σ : L2.St} {G : Gx} {H : Hp} {s : Shared} {α : List Addr} (I : L2.Inv X pins σ H s) : ∀ {w : RL.W} {v : V} {u : Value}, Rep G H α w v → RL.W.flat w = true → RelV v u → ∃ as, Reads s.heap u (toD w) as ∧ sysModules ∉ as
  | _, _, _, .non, _, r => by cases r; exact ⟨_, .none, List.not_mem_nil⟩
  | _, _, _, .bl b, _, r => by cases r; exact ⟨_, .bool b, List.not_mem_nil⟩
  | _, _, _, .int i, _, r => by obtain ⟨t, rfl⟩ := r; exact ⟨_, .int i t, List.not_mem_nil⟩
  | _, _, _, .str x, _, r => by obtain ⟨t, rfl⟩ := r; exact ⟨_, .str x t, List.not_mem_nil⟩
  | _, _, _, .rs w, q, _ => absurd q Bool.false_ne_true
  | _, _, _, .emp ha _, _, r => by
    cases r
    obtain ⟨rd, ns⟩ := emp_reads I ha
    exact ⟨_, rd, fun m => ns (List.mem_singleton.mp m).symm⟩
  | _, _, _, .dk (k := k) (v := v) (w := w) (a := a) ha _ rw, q, r => by
    cases r
    obtain ⟨_, ns, vs, kv, o, es, ep, g1, g2, g3, g4, g5, _⟩ := I.hok _ _ ha
    cases kv with
    | @cons p y ps ys h t =>
      cases t
      obtain ⟨h1, h2⟩ := h
      obtain ⟨bs, rd, nb⟩ := flat_reads I rw q h2
      obtain ⟨ka, va⟩ := y
      simp only at h1 h2 rd g5
      subst h1
      generalize hel : es.toList = el at g5
      cases g5 with
      | @cons en _ el' _ k1 k2 k3 =>
        cases k3
        obtain ⟨t, et⟩ : ∃ t, en.key = .int k t := by
          have k1 : keyIs (.inl k) en.key = true := k1
          rcases keyIs_shape k1 with ⟨i, t, e1, e2⟩ | ⟨x, t, e1, e2⟩
          · first
              | (cases e1; exact ⟨t, e2⟩)
              | (cases e2; exact ⟨t, e1⟩)
          · first
              | cases e1
              | cases e2
        refine ⟨_, Reads.dict (as := []) (bs := bs ++ []) g1 g2.1 g3 ?_ ?_, ?_⟩
        · rw [hel]
          show ReadsAll s.heap [en.key] [PyData.int k] []
          rw [et]
          exact .cons (.int k t) .nil
        · rw [hel]
          show ReadsAll s.heap [en.val] [toD _] (bs ++ [])
          rw [k2]
          exact .cons rd .nil
        · intro m
          rcases List.mem_cons.mp m with m | m
          · rw [← m] at ns
            exact absurd ns (by decide)
          · rw [List.append_nil] at m
            exact nb m
  | _, _, _, .pr _ _ _, q, _ => absurd q Bool.false_ne_true
  | _, _, _, .tup hr _ _ rs, q, r => by
    cases r
    obtain ⟨its, rv, ⟨o, ho, hc, n, hd⟩, _⟩ := I.tuple (.inl (.inr ⟨_, hr⟩))
    obtain ⟨as, rd, ns⟩ := flats_reads I rs q rv
    exact ⟨_, .tuple ho hc hd rd, ns⟩
  | _, _, _, .lst _ _ _, q, _ => absurd q Bool.false_ne_true
  | _, _, _, .fr _ _ _, q, _ => absurd q Bool.false_ne_true
  | _, _, _, .loc _, q, _ => absurd q Bool.false_ne_true
theorem flats_reads {pins : List (Addr × Obj)} {σ : L2.St} {G : Gx} {H : Hp} {s : Shared} {α : List Addr} (I : L2.Inv X pins σ H s) : ∀ {ws : List RL.W} {vs : List V} {us : List Value}, Reps G H α ws vs → RL.W.flats ws = true → Vals vs us → ∃ as, ReadsAll s.heap us (toDs ws) as ∧ sysModules ∉ as
  | _, _, _, .nil, _, r => by cases r; exact ⟨_, .nil, List.not_mem_nil⟩
  | _, _, _, .cons h hs, q, r => by
    obtain ⟨q1, q2⟩ := Bool.and_eq_true_iff.mp (show (RL.W.flat _ && RL.W.flats _) = true from q)
    cases r with
    | cons r1 r2 =>
      obtain ⟨as, rd, ns⟩ := flat_reads I h q1 r1
      obtain ⟨bs, rd2, ns2⟩ := flats_reads I hs q2 r2
      exact ⟨_, .cons rd rd2, fun m => (List.mem_append.mp m).elim ns ns2⟩
end
theorem shows_reads {pins : List (Addr × Obj)} {σ : L2.St} {G : Gx} {H : Hp} {s : Shared} {h : Hs} {α : List Addr} {x : RL.W} {v : V} {u : Value} (I : L2.Inv X pins σ H s) (sr : StR G h α H) (r1 : Rep G H α x v) (r2 : RelV v u) (hs : RL.W.shows (deref h x) = true) :
    ∃ as, Reads s.heap u (toD (deref h x)) as ∧ ((toD (deref h x)).hasDict = true → sysModules ∉ as) := by
  obtain ⟨h1, _⟩ := Bool.and_eq_true_iff.mp hs
  obtain ⟨h3, _⟩ := Bool.and_eq_true_iff.mp h1
  rcases Bool.or_eq_true_iff.mp h3 with h3 | h3
  · obtain ⟨as, rd⟩ := Dp.reads I _ _ _ (deref_dp sr r1 h3) r2
    exact ⟨as, rd, PyData.noDict_hsm (PyData.hasDict_of_canLay _ (data_can _ h3))⟩
  · have e : deref h x = x := by
      cases x with
      | loc n =>
        have h3 : RL.W.flat (match listAt h n with | some ws => .lst ws | none => .loc n) = true := h3
        cases q : listAt h n with
        | none => rw [q] at h3; exact absurd h3 Bool.false_ne_true
        | some ws => rw [q] at h3; exact absurd h3 Bool.false_ne_true
      | _ => rfl
    rw [e] at h3 ⊢
    obtain ⟨as, rd, ns⟩ := flat_reads I r1 h3 r2
    exact ⟨as, rd, fun _ => ns⟩
theorem cl_repr {k : Nat} (fr : Free k X.A) : CallR X (.builtin "repr") (rCl (blt .repr)) := by
  intro pins s σ H xs us Q I rx ⟨G, ws, h, α, z, r, sr, e, q⟩
  obtain ⟨x, rfl, hs⟩ := bl_repr e
  obtain ⟨v, rfl, r1⟩ := r.one
  obtain ⟨u, rfl, r2⟩ := vals1 rx
  rcases hs with ⟨rfl, rfl⟩ | ⟨hs, rfl⟩
  · cases r1 with
    | emp ha _ =>
      cases r2
      obtain ⟨rd, ns⟩ := emp_reads I ha
      refine repr_of_reads' (h₀ := s.heap) rd (by rfl) (fun _ m => ns (List.mem_singleton.mp m).symm) fr.bare ?_ (fun _ _ e => e) (fun h' t tk hk => ⟨.str (txt .emp), H, I.kept hk, ⟨t, rfl⟩, q _ _ (Ext.refl _ _) sr (.rs _)⟩) ?_
      · have un := fr.room.un
        show X.A.units + ((PyData.dict []).depth + 1) < cLine
        have : (PyData.dict []).depth = 1 := by rfl
        omega
      · exact Nat.le_trans (show (PyData.dict []).shown.length ≤ 100 by decide +kernel) (by rw [sizeLine_eq]; decide)
  obtain ⟨c2, c3, c4⟩ := shows_ok hs
  obtain ⟨as, rd, nsm⟩ := shows_reads I sr r1 r2 hs
  have done : ∀ (h' : Heap) (t : Tok) (tk : Nat), (∀ b o, s.heap.get? b = some o → h'.get? b = some o) → EP X pins σ Q (.str (toD (deref h x)).shown t) { s with heap := h', toks := tk } :=
    fun h' t tk hk => ⟨.str (txt (deref h x)), H, I.kept hk, ⟨t, rfl⟩, q _ _ (Ext.refl _ _) sr (.rs _)⟩
  generalize hd : toD (deref h x) = d at rd nsm c2 c3 c4 done
  have un := fr.room.un
  have ref : ∀ a, u = .ref a → wpAny (model X.prog X.w) X.A (call (.builtin "repr") [u]) (EP X pins σ Q) X.xe s := by
    intro a ea
    subst ea
    refine repr_of_reads' (h₀ := s.heap) rd c3 nsm fr.bare ?_ (fun _ _ e => e) (fun h' t tk hk => done h' t tk hk) c4
    omega
  cases rd with
  | none => exact PySem.P.repr_of_none (by simpa only [PyData.shown] using done s.heap s.toks _ fun _ _ e => e)
  | bool b => exact PySem.P.repr_of_bool (by simpa only [PyData.shown] using done s.heap s.toks _ fun _ _ e => e)
  | int i t => exact PySem.P.repr_of_int (by simpa [PyData.showable] using c3) (by simpa only [PyData.shown] using done s.heap s.toks _ fun _ _ e => e)
  | str y t => exact PySem.P.repr_of_str (by simpa only [PyData.shown] using done s.heap s.toks _ fun _ _ e => e) (by simpa only [PyData.shown] using c4)
  | list _ _ _ _ => exact ref _ rfl
  | tuple _ _ _ _ => exact ref _ rfl
  | dict _ _ _ _ _ => exact ref _ rfl
end
end RL

/-! sorted(x), x a list or a tuple of whole numbers or of tuples (of tuples ..) of these. -/
namespace RL
open PySem.Spec PySem PyProof.Rows L2
variable [Tabl]
open PySem.W (dataLt dataLe dataLe_eq alike alikeAll keyToksAll AllAlike Sortable EachIs TotalLe sameRank)
theorem isK_good : ∀ (d : Nat) (w : RL.W), isK d w = true → W.good w = true ∧ W.dp w ≤ d
  | 0, w, h => by cases w <;> first | exact absurd h Bool.false_ne_true | exact ⟨rfl, Nat.le_refl _⟩
  | d + 1, w, h => by
    cases w <;> first | exact absurd h Bool.false_ne_true | skip
    rename_i ws
    have h : ws.all (isK d) = true := h
    have : ∀ ws : List RL.W, ws.all (isK d) = true → W.goods ws = true ∧ W.dps ws ≤ d := by
      intro ws
      induction ws with
      | nil => exact fun _ => ⟨rfl, Nat.zero_le _⟩
      | cons x xs ih =>
        intro h
        obtain ⟨h1, h2⟩ := Bool.and_eq_true_iff.mp (show (isK d x && xs.all (isK d)) = true from h)
        obtain ⟨a, b⟩ := isK_good d x h1
        obtain ⟨a', b'⟩ := ih h2
        exact ⟨by simp only [W.goods, a, a', Bool.and_self], by simp only [W.dps]; omega⟩
    have t := this ws h
    exact ⟨by simp only [W.good]; exact t.1, by simp only [W.dp]; omega⟩
theorem rowLt_nil (b : PyData) (ys : List PyData) : PyProof.Rows.lexLt itemOrd (keyToksAll []) (keyToksAll (b :: ys)) = true := by
  rw [PySem.W.toks_all_cons]
  simp only [keyToksAll]
  rw [PyProof.Rows.lex_diff (O := itemOrd) (by simp)]
  simp [itemLt]
theorem rowLt_nil' (a : PyData) (xs : List PyData) : PyProof.Rows.lexLt itemOrd (keyToksAll (a :: xs)) (keyToksAll []) = false := by
  rw [PySem.W.toks_all_cons]
  simp only [keyToksAll]
  rw [PyProof.Rows.lex_diff (O := itemOrd) (by simp)]
  simp [itemLt]
theorem alike_k : ∀ (d : Nat) (a b : RL.W), isK d a = true → isK d b = true → alike (toD a) (toD b) = true
  | 0, a, b, ha, hb => by
    cases a <;> first | exact absurd ha Bool.false_ne_true | skip
    cases b <;> first | exact absurd hb Bool.false_ne_true | rfl
  | d + 1, a, b, ha, hb => by
    cases a <;> first | exact absurd ha Bool.false_ne_true | skip
    cases b <;> first | exact absurd hb Bool.false_ne_true | skip
    rename_i xs ys
    have : ∀ xs ys : List RL.W, xs.all (isK d) = true → ys.all (isK d) = true → alikeAll (toDs xs) (toDs ys) = true := by
      intro xs
      induction xs with
      | nil => intro ys _ _; cases ys <;> simp [toDs, alikeAll]
      | cons x xs ih =>
        intro ys h1 h2
        cases ys with
        | nil => simp [toDs, alikeAll]
        | cons y ys =>
          obtain ⟨a1, a2⟩ := Bool.and_eq_true_iff.mp (show (isK d x && xs.all (isK d)) = true from h1)
          obtain ⟨b1, b2⟩ := Bool.and_eq_true_iff.mp (show (isK d y && ys.all (isK d)) = true from h2)
          simp only [toDs, alikeAll, alike_k d x y a1 b1, ih ys a2 b2, Bool.and_self]
    show alikeAll (toDs xs) (toDs ys) = true
    exact this xs ys ha hb
theorem lt_data : ∀ (d : Nat) (a b : RL.W), isK d a = true → isK d b = true → W.lt a b = some (dataLt (toD a) (toD b))
  | 0, a, b, ha, hb => by
    cases a <;> first | exact absurd ha Bool.false_ne_true | skip
    cases b <;> first | exact absurd hb Bool.false_ne_true | skip
    simp only [W.lt, toD, PySem.W.dataLt_int]
  | d + 1, a, b, ha, hb => by
    cases a <;> first | exact absurd ha Bool.false_ne_true | skip
    cases b <;> first | exact absurd hb Bool.false_ne_true | skip
    rename_i xs ys
    have : ∀ xs ys : List RL.W, xs.all (isK d) = true → ys.all (isK d) = true → W.lts xs ys = some (PyProof.Rows.lexLt itemOrd (keyToksAll (toDs xs)) (keyToksAll (toDs ys))) := by
      intro xs
      induction xs with
      | nil =>
        intro ys _ _
        cases ys with
        | nil => simp only [W.lts, toDs, PyProof.Rows.lex_irrefl]
        | cons y ys => simp only [W.lts, toDs, rowLt_nil]
      | cons x xs ih =>
        intro ys h1 h2
        cases ys with
        | nil => simp only [W.lts, toDs, rowLt_nil']
        | cons y ys =>
          obtain ⟨a1, a2⟩ := Bool.and_eq_true_iff.mp (show (isK d x && xs.all (isK d)) = true from h1)
          obtain ⟨b1, b2⟩ := Bool.and_eq_true_iff.mp (show (isK d y && ys.all (isK d)) = true from h2)
          simp only [W.lts, toDs]
          rw [PySem.W.dataLt_cons (alike_k d x y a1 b1), eqv_data x y (isK_good d x a1).1 (isK_good d y b1).1, ih ys a2 b2, lt_data d x y a1 b1]
          split <;> rfl
    simp only [W.lt, toD, PySem.W.dataLt_tuple]
    exact this xs ys ha hb
theorem sortable_k {ws : List RL.W} (h : sortable ws = true) : ∃ d, d ≤ 3 ∧ ws.all (isK d) = true ∧ (d = 0 ∨ ws.all nonE = true) := by
  unfold sortable at h
  obtain h | h := Bool.or_eq_true_iff.mp h
  · exact ⟨0, by omega, h, .inl rfl⟩
  · obtain ⟨h0, h⟩ := Bool.and_eq_true_iff.mp h
    obtain h | h := Bool.or_eq_true_iff.mp h
    · rcases Bool.or_eq_true_iff.mp h with h | h
      · exact ⟨1, by omega, h, .inr h0⟩
      · exact ⟨2, by omega, h, .inr h0⟩
    · exact ⟨3, by omega, h, .inr h0⟩
theorem sort_is {d : Nat} : ∀ {ws : List RL.W}, ws.all (isK d) = true → srt ws = some (ws.mergeSort (dataLe false toD)) := by
  have tot : TotalLe (dataLe false toD) := PySem.W.sortLe_total _ false _
  have le_eq : ∀ a b : RL.W, dataLe false toD a b = !dataLt (toD b) (toD a) := fun a b => by rw [dataLe_eq]; rfl
  have ins : ∀ (x : RL.W) (ws : List RL.W), isK d x = true → ws.all (isK d) = true → ws.Pairwise (fun a b => dataLe false toD a b = true) →
      ∃ zs, insrt x ws = some zs ∧ zs.Pairwise (fun a b => dataLe false toD a b = true) ∧ (∀ c, zs.filter (sameRank (dataLe false toD) c) = (x :: ws).filter (sameRank (dataLe false toD) c)) ∧ (∀ z ∈ zs, z = x ∨ z ∈ ws) ∧ zs.all (isK d) = true := by
    intro x ws hx
    induction ws with
    | nil => exact fun _ _ => ⟨[x], rfl, List.pairwise_singleton _ _, fun _ => rfl, fun z hz => .inl (List.mem_singleton.mp hz), by simp [hx]⟩
    | cons y ys ih =>
      intro h p
      obtain ⟨h1, h2⟩ := Bool.and_eq_true_iff.mp (show (isK d y && ys.all (isK d)) = true from h)
      obtain ⟨p1, p2⟩ := List.pairwise_cons.mp p
      have e := lt_data d y x h1 hx
      cases q : PySem.W.dataLt (toD y) (toD x) with
      | false =>
        rw [q] at e
        have xy : dataLe false toD x y = true := by rw [le_eq, q]; rfl
        refine ⟨x :: y :: ys, by simp only [insrt, e], List.pairwise_cons.mpr ⟨fun z hz => ?_, p⟩, fun _ => rfl, fun z hz => List.mem_cons.mp hz, by simp only [List.all_cons, hx, h1, h2, Bool.and_self]⟩
        obtain rfl | hz := List.mem_cons.mp hz
        · exact xy
        · exact tot.trans _ _ _ xy (p1 z hz)
      | true =>
        rw [q] at e
        obtain ⟨zs, e2, g1, g2, g3, g4⟩ := ih h2 p2
        have nxy : dataLe false toD x y = false := by rw [le_eq, q]; rfl
        have yx : dataLe false toD y x = true := by
          rcases tot.total y x with z | z
          · exact z
          · rw [nxy] at z; cases z
        refine ⟨y :: zs, by simp only [insrt, e, e2, Option.map_some], List.pairwise_cons.mpr ⟨fun z hz => ?_, g1⟩, fun c => ?_, fun z hz => ?_, by simp only [List.all_cons, h1, g4, Bool.and_self]⟩
        · rcases g3 z hz with rfl | hz
          · exact yx
          · exact p1 z hz
        · rw [List.filter_cons, g2 c, List.filter_cons, List.filter_cons, List.filter_cons]
          cases cy : sameRank (dataLe false toD) c y with
          | false => simp
          | true =>
            cases cx : sameRank (dataLe false toD) c x with
            | false => simp
            | true =>
              exfalso
              unfold sameRank at cx cy
              obtain ⟨a1, a2⟩ := Bool.and_eq_true_iff.mp cx
              obtain ⟨b1, b2⟩ := Bool.and_eq_true_iff.mp cy
              have := tot.trans _ _ _ a2 b1
              rw [nxy] at this; cases this
        · rcases List.mem_cons.mp hz with rfl | hz
          · exact .inr List.mem_cons_self
          · rcases g3 z hz with rfl | hz
            · exact .inl rfl
            · exact .inr (List.mem_cons_of_mem _ hz)
  have all : ∀ ws : List RL.W, ws.all (isK d) = true → ∃ zs, srt ws = some zs ∧ zs.Pairwise (fun a b => dataLe false toD a b = true) ∧ (∀ c, zs.filter (sameRank (dataLe false toD) c) = ws.filter (sameRank (dataLe false toD) c)) ∧ zs.all (isK d) = true := by
    intro ws
    induction ws with
    | nil => exact fun _ => ⟨[], rfl, List.Pairwise.nil, fun _ => rfl, rfl⟩
    | cons x xs ih =>
      intro h
      obtain ⟨h1, h2⟩ := Bool.and_eq_true_iff.mp (show (isK d x && xs.all (isK d)) = true from h)
      obtain ⟨zs, e, p, f, g⟩ := ih h2
      obtain ⟨us, e2, p2, f2, _, g2⟩ := ins x zs h1 g p
      refine ⟨us, by simp only [srt, e, Option.bind_some, e2], p2, fun c => ?_, g2⟩
      rw [f2 c, List.filter_cons, List.filter_cons, f c]
  intro ws h
  obtain ⟨zs, e, p, f, _⟩ := all ws h
  rw [e, PySem.W.sort_unique tot p f]
end RL
namespace RL
open PySem.W PySem.Calls PySem PyProof.Rows
variable [Tabl]
section
variable {prog : Program} {w : World} {A : Around} {s : Shared} {E : Value → Shared → Prop}
/-- a new list of these, at the heap's end -/
abbrev hpC (h : Heap) (vs : List Value) : Heap := (h.push (seqObj "list" #[] 0)).update h.objs.size (Obj.mapSeq (· ++ vs.toArray))
/-- the items of a tuple are gathered -/
theorem gather_tup {t : Addr} {vs : List Value} {Q : List Value → Shared → Prop} (ht : IsTup s.heap t vs.toArray) (hz : vs.length ≤ sizeLine)
    (q : Q vs { s with heap := (s.heap.push (seqObj "list" #[] 0)).update s.heap.objs.size (Obj.mapSeq (· ++ vs.toArray)) }) : wpAny (model prog w) A (collect (.ref t)) Q E s := by
  rcases ht with ⟨o, ho, hc, n, hd⟩
  unfold collect
  apply wpAny_bind; refine wpAny_runValue (codeAny_builtin entry_proto_collect' ?_)
  show wpAny _ _ (do again (.builtin "list.__iadd__" ⟨[← newList [], .ref t], []⟩)) _ _ s
  apply wpAny_bind; refine wpAny_newList ?_
  refine wpAny_pure ⟨Code.quiet_builtin _ (by decide +kernel), ?_⟩
  apply codeAny_builtin entry_list_iadd'
  show wpAny _ _ (Builtin.List.listExtendWith (.ref s.heap.objs.size) (.ref t) (.ref s.heap.objs.size)) _ _ { s with heap := s.heap.push (seqObj "list" #[] 0) }
  rw [Builtin.List.listExtendWith]
  have ho2 : (s.heap.push (seqObj "list" #[] 0)).get? t = some o := Heap.get?_push_of_some _ ho
  refine wpAny_bind (wpAny_typeOf (T := "tuple") ⟨o, ho2, hc⟩ ?_)
  rw [if_pos (by rw [show (Value.type "tuple" == Value.type "tuple") = true by rfl, Bool.or_true])]
  refine wpAny_bind (listItems_at ho2 hd ?_)
  apply wpAny_bind; refine listItems_at (xs := #[]) (n := 0) (Heap.get?_push_size _ rfl) rfl ?_
  rw [if_neg (by simp)]
  have hz2 : (#[] ++ vs.toArray).size ≤ sizeLine + 1 := by simp only [Array.size_append, List.size_toArray, List.length_nil]; omega
  refine wpAny_bind (listUpdate_at (xs := #[]) (n := 0) (Heap.get?_push_size _ rfl) rfl ?_ (Nat.zero_le _) hz2)
  refine wpAny_pure ?_
  change wpAny (model prog w) A (do
      let o ← load s.heap.objs.size
      match o.data with
      | .seq xs _ => pure xs.toList
      | _ => unsupported "internal:collect") Q E { s with heap := hpC s.heap vs }
  apply wpAny_bind; refine wpAny_load (get?_update_seq (Heap.get?_push_size _ rfl) _) ?_
  have same : ((#[] : Array Value) ++ vs.toArray).toList = vs := by simp
  change wpAny _ _ (pure ((#[] : Array Value) ++ vs.toArray).toList) Q E _
  rw [same]
  exact wpAny_pure q
/-- sorted(t), t a tuple: sorted(l) of a list l of its items -/
theorem sorted_tup {t : Addr} {vs : List Value} {Q : Value → Shared → Prop} (ht : IsTup s.heap t vs.toArray) (hz : vs.length ≤ sizeLine)
    (body : ∀ E' : Value → Shared → Prop, wpAny (model prog w) A.in1.in1 (Builtin.«list.sort» ⟨[.ref (s.heap.objs.size + 1)], []⟩) (fun f s' => f = .done (.ret .none) ∧ Q (.ref (s.heap.objs.size + 1)) s') E' { s with heap := copyHeap s.heap vs }) :
    wpAny (model prog w) A (call (.builtin "sorted") [.ref t]) Q E s := by
  apply call_function_entry kind_sorted plain_sorted entry_sorted (args_sorted1 _)
  unfold Builtin.«sorted»
  apply wpAny_bind (m := checkCount "sorted" 1 1 _); refine wpAny_pure ?_
  refine wpAny_bind (gather_tup ht hz ?_)
  apply wpAny_bind; refine wpAny_newList ?_ hz
  have e1 : ((s.heap.push (seqObj "list" #[] 0)).update s.heap.objs.size (Obj.mapSeq (· ++ vs.toArray))).objs.size = s.heap.objs.size + 1 := by
    simp only [Heap.size_update, size_push']
  change wpAny _ _ _ _ _ { s with heap := copyHeap s.heap vs }
  rw [e1]
  refine wpAny_bind (wpAny_holding (wpAny_call_entry slot_list_sort ⟨_, copyHeap_at s.heap vs, rfl⟩ entry_list_sort ?body (args_list_sort _)))
  case body =>
    show wpAny (model prog w) A.in1.in1 (Builtin.«list.sort» ⟨[.ref (s.heap.objs.size + 1)], []⟩) _ _ _
    refine wpAny_mono (body _) ?_ fun _ _ e => e
    intro f s' hf
    obtain ⟨rfl, hq⟩ := hf
    refine ⟨_, rfl, ?_⟩; exact wpAny_pure ⟨_, rfl, hq⟩
/-- sorted(x) of alike data, x a list or a tuple -/
theorem sorted_seq {β : Type} {R : Value → β → Prop} {enc : β → PyData} {l : Addr} {vs : List Value} {bs : List β} {Q : Value → Shared → Prop} (hl : s.heap.IsList l vs.toArray ∨ IsTup s.heap l vs.toArray) (e : EachIs R vs bs) (er : EachIs (fun v b => ∃ as, Reads s.heap v (enc b) as) vs bs)
    (hal : AllAlike (bs.map enc)) (hk : Sortable (bs.map enc)) (hL : bs.length ≤ sizeLine) (hu : ∀ b, b ∈ bs → A.units + 2 + (enc b).depth < cLine)
    (h : ∀ out, out.length = bs.length → EachIs R out (bs.mergeSort (dataLe false enc)) → Q (.ref (s.heap.objs.size + 1)) { s with heap := sortedAll s.heap vs (List.toArray out) }) :
    wpAny (model prog w) A (call (Value.builtin "sorted") [Value.ref l]) Q E s := by
  rcases hl with hl | hl
  · exact sorted_data hl e er hal hk hL hu h
  · have e2 : EachIs (fun v b => ∃ as, Reads (sortingHeap (copyHeap s.heap vs) (s.heap.objs.size + 1) vs) v (enc b) as) vs bs := er.mono fun _ _ ⟨as, r⟩ => ⟨as, PyProof.Rows.Reads.keeps (fun _ _ => sorting_copy_old) r⟩
    refine sorted_tup hl (by rw [e.length]; exact hL) fun E' => ?_
    refine list_sort_vals (s := { s with heap := copyHeap s.heap vs }) (copyHeap_at s.heap vs) (SortsAt.data (s := { s with heap := sortingHeap (copyHeap s.heap vs) (s.heap.objs.size + 1) vs }) (each_map (R := fun v d => ∃ as, Reads (sortingHeap (copyHeap s.heap vs) (s.heap.objs.size + 1) vs) v d as) enc e2) hal hk (bound_map hu)) (by rw [e.length]; exact hL) ⟨rfl, ?_⟩
    exact h _ (by rw [sortVals_length false rfl]; exact e.length) (sortVals_data false e e2 hal)
end
end RL
namespace RL
open PySem.Spec PySem PyProof.Rows L2
variable [Tabl]
section
variable {X : Cx} {G : Gx}
theorem bl_sorted {ws : List RL.W} {h : Hs} {z : RL.W} (e : blt .sorted ws h = some z) : ∃ x ys zs, ws = [x] ∧ items h x = some ys ∧ sortable ys = true ∧ srt ys = some zs ∧ z = .lst zs := by
  match ws, e with
  | [], e => cases e
  | [x], e =>
    simp only [blt] at e
    cases q : items h x with
    | none => exact nomatch (q ▸ e)
    | some ys =>
      rw [q] at e
      simp only [Option.bind_some] at e
      cases q3 : sortable ys with
      | false => rw [q3] at e; cases e
      | true =>
        rw [q3] at e
        cases q2 : srt ys with
        | none => rw [q2] at e; cases e
        | some n => rw [q2] at e; cases e; exact ⟨x, ys, n, rfl, q, q3, q2, rfl⟩
  | _ :: _ :: _, e => cases e
theorem each_reps {H : Hp} {α : List Addr} : ∀ {us : List Value} {ws : List RL.W}, PySem.W.EachIs (fun u w => ∃ v, RelV v u ∧ Rep G H α w v) us ws → ∃ vs, Vals vs us ∧ Reps G H α ws vs
  | _, _, .nil => ⟨[], .nil, .nil⟩
  | _, _, .cons ⟨v, r, p⟩ h => by
    obtain ⟨vs, r2, p2⟩ := each_reps h
    exact ⟨v :: vs, .cons r r2, .cons p p2⟩
theorem reps_each {H : Hp} {α : List Addr} : ∀ {ws : List RL.W} {vs : List V} {us : List Value}, Reps G H α ws vs → Vals vs us → PySem.W.EachIs (fun u w => ∃ v, RelV v u ∧ Rep G H α w v) us ws
  | _, _, _, .nil, .nil => .nil
  | _, _, _, .cons p h, .cons r q => .cons ⟨_, r, p⟩ (reps_each h q)
theorem all_mem {d : Nat} {ws : List RL.W} (h : ws.all (isK d) = true) {w : RL.W} (m : w ∈ ws) : isK d w = true := List.all_eq_true.mp h w m
theorem toD_depth (d : Nat) {w : RL.W} (h : isK d w = true) : (toD w).depth ≤ d := by
  have := (isK_good d w h).2
  rw [data_dp]
  exact this
theorem cl_sorted {k : Nat} (fr : Free k X.A) : CallR X (.builtin "sorted") (rCl (blt .sorted)) := by
  intro pins s σ H xs us Q I rx ⟨G, ws, h, α, z, r, sr, e, q⟩
  obtain ⟨x, ys, zs, rfl, q1, q2, q3, rfl⟩ := bl_sorted e
  obtain ⟨d, hd3, hd, hne⟩ := sortable_k q2
  rw [sort_is hd] at q3
  cases q3
  obtain ⟨v, rfl, rv⟩ := r.one
  obtain ⟨u, rfl, r2⟩ := vals1 rx
  have un := fr.room.un
  have main : ∀ (a : Addr) (vs : List V) (its : List Value), v = .ref a → Reps G H α ys vs → Vals vs its → vs.length ≤ sizeLine → (s.heap.IsList a its.toArray ∨ IsTup s.heap a its.toArray) →
      wpAny (model X.prog X.w) X.A (call (.builtin "sorted") [u]) (EP X pins σ Q) X.xe s := by
    intro a vs its ev rs rv2 hz hl
    subst ev
    cases r2
    have ea := reps_each rs rv2
    have er : PySem.W.EachIs (fun u w => ∃ as, Reads s.heap u (toD w) as) its ys := by
      refine (PySem.W.each_mem ea).mono fun u w ⟨⟨v, r, p⟩, m⟩ => ?_
      exact Dp.reads I _ _ _ (rep_dp p (isK_good d w (all_mem hd m)).1) r
    refine sorted_seq hl ea er (fun x hx y hy => ?_) ?_ (by rw [rs.length]; exact hz) (fun b hb => ?_) fun out _ eo => ?_
    · obtain ⟨b, hb, rfl⟩ := List.mem_map.mp hx
      obtain ⟨c, hc, rfl⟩ := List.mem_map.mp hy
      exact alike_k d b c (all_mem hd hb) (all_mem hd hc)
    · rcases hne with rfl | hne
      · refine .inr fun x hx => ?_
        rcases List.mem_map.mp hx with ⟨b, hb, rfl⟩
        have := all_mem hd hb
        cases b <;> first | exact absurd this Bool.false_ne_true | exact ⟨by simp [toD], fun xs => by simp [toD]⟩
      · refine .inl fun x hx => ?_
        rcases List.mem_map.mp hx with ⟨b, hb, rfl⟩
        have := List.all_eq_true.mp hne b hb
        cases b <;> first | exact absurd this Bool.false_ne_true | skip
        rename_i us
        cases us with
        | nil => exact absurd this Bool.false_ne_true
        | cons y us => exact ⟨toD y, toDs us, rfl⟩
    · have := toD_depth d (all_mem hd hb)
      omega
    · obtain ⟨vs', rv', rp⟩ := each_reps eo
      obtain ⟨ep, he⟩ := PyProof.Rows.sortedAll_at s.heap its out.toArray
      have hlen : vs'.length ≤ sizeLine := by
        rw [← rp.length, List.length_mergeSort, rs.length]
        exact hz
      have J : Inv X pins σ (upd H (s.heap.objs.size + 1) (.lst vs')) { s with heap := sortedAll s.heap its out.toArray } :=
        I.laid (t' := s.toks) (fun _ _ => PyProof.Rows.sortedAll_old) (Nat.le_succ _) ⟨hlen, out, ep, rv', he⟩
      have fresh : H (s.heap.objs.size + 1) = none := I.hok.fresh (Nat.le_succ _)
      exact ⟨.ref _, _, J, rfl, q _ _ (Ext.new fresh) (sr.new fresh) (.lst upd_same (sr.fz fresh) (rp.mono (Ext.new fresh)))⟩
  rcases rep_items sr rv q1 with ⟨a, vs, rfl, hr, rs, _⟩ | ⟨a, vs, rfl, hr, rs, _⟩
  · obtain ⟨its, rv2, pl, hz⟩ := I.list (.inl hr)
    exact main a vs its rfl rs rv2 hz (.inl pl.isList)
  · obtain ⟨its, rv2, pl, hz⟩ := I.tuple (.inl hr)
    exact main a vs its rfl rs rv2 hz (.inr pl)
/-! ### min of tuples -/
mutual
theorem toD_inj : ∀ (d : Nat) (a b : RL.W), isK d a = true → isK d b = true → toD a = toD b → a = b
  | 0, a, b, ha, hb, e => by
    cases a <;> first | exact absurd ha Bool.false_ne_true | skip
    cases b <;> first | exact absurd hb Bool.false_ne_true | skip
    injection e with e
    rw [e]
  | d + 1, a, b, ha, hb, e => by
    cases a <;> first | exact absurd ha Bool.false_ne_true | skip
    cases b <;> first | exact absurd hb Bool.false_ne_true | skip
    injection e with e
    rw [toDs_inj d _ _ ha hb e]
theorem toDs_inj : ∀ (d : Nat) (as bs : List RL.W), as.all (isK d) = true → bs.all (isK d) = true → toDs as = toDs bs → as = bs
  | _, [], [], _, _, _ => rfl
  | _, [], _ :: _, _, _, e => nomatch e
  | _, _ :: _, [], _, _, e => nomatch e
  | d, a :: as, b :: bs, ha, hb, e => by
    rw [List.all_cons, Bool.and_eq_true] at ha hb
    injection e with e1 e2
    rw [toD_inj d a b ha.1 hb.1 e1, toDs_inj d as bs ha.2 hb.2 e2]
end
theorem min_is (d : Nat) : ∀ (x : RL.W) (r : List RL.W) (m : RL.W), isK d x = true → r.all (isK d) = true → minW x r = some m → isK d m = true ∧ toD m = PySem.W.minD (toD x) (r.map toD)
  | x, [], m, hx, _, e => by cases e; exact ⟨hx, rfl⟩
  | x, y :: r, m, hx, hr, e => by
    rw [List.all_cons, Bool.and_eq_true] at hr
    have l := lt_data d y x hr.1 hx
    have st : PySem.W.minD (toD x) ((y :: r).map toD) = PySem.W.minD (if PySem.W.dataLt (toD y) (toD x) = true then toD y else toD x) (r.map toD) := rfl
    rw [st]
    simp only [minW, l] at e
    cases q : PySem.W.dataLt (toD y) (toD x) with
    | true =>
      rw [q] at e
      rw [if_pos rfl]
      exact min_is d y r m hr.1 hr.2 e
    | false =>
      have ne := Bool.false_ne_true
      rw [q] at e
      rw [if_neg ne]
      exact min_is d x r m hx hr.2 e
theorem bl_mint {ws : List RL.W} {h : Hs} {z : RL.W} (e : blt .mint ws h = some z) : ∃ x y r, ws = [x] ∧ itemsL h x = some (y :: r) ∧ (y :: r).all (isK 1) = true ∧ minW y r = some z := by
  match ws, e with
  | [x], e =>
    have e : (itemsL h x).bind minT = some z := e
    cases q : itemsL h x with
    | none => simp [q] at e
    | some ys =>
      rw [q] at e
      have e : minT ys = some z := e
      cases ys with
      | nil => cases e
      | cons y r =>
        have e : (if (y :: r).all (isK 1) = true then minW y r else none) = some z := e
        by_cases c : (y :: r).all (isK 1) = true
        · rw [if_pos c] at e
          exact ⟨x, y, r, rfl, q, c, e⟩
        · rw [if_neg c] at e; cases e
theorem reads_all {h : Heap} : ∀ {its : List Value} {ys : List RL.W}, PySem.W.EachIs (fun u w => ∃ as, Reads h u (toD w) as) its ys → ∃ as, ReadsAll h its (ys.map toD) as
  | _, _, .nil => ⟨_, .nil⟩
  | _, _, .cons ⟨as, r⟩ q => let ⟨_, q⟩ := reads_all q; ⟨_, .cons r q⟩
theorem each_get {R : Value → RL.W → Prop} : ∀ {its : List Value} {ys : List RL.W} {i : Nat} {u : Value}, PySem.W.EachIs R its ys → its[i]? = some u → ∃ w, ys[i]? = some w ∧ R u w
  | _, _, _, _, .nil, e => nomatch e
  | _, _, 0, _, .cons r _, e => by cases e; exact ⟨_, rfl, r⟩
  | _, _, i + 1, _, .cons _ q, e => each_get (i := i) q e
theorem cl_mint {k : Nat} (fr : Free k X.A) : CallR X (.builtin "min") (rCl (blt .mint)) := by
  intro pins s σ H xs us Q I rx ⟨G, ws, h, α, z, r, sr, e, q⟩
  obtain ⟨x, y, ys, rfl, q1, q2, q3⟩ := bl_mint e
  obtain ⟨v, rfl, rv⟩ := r.one
  have un := fr.room.un
  obtain ⟨a, vs, rfl, hr, rs⟩ := rep_itemsL sr rv q1
  obtain ⟨u, rfl, ru⟩ := vals1 rx
  cases ru
  obtain ⟨its, rv2, pl, hz⟩ := I.list (.inl (.inl hr))
  have ea := reps_each rs rv2
  have q2' := q2
  rw [List.all_cons, Bool.and_eq_true] at q2'
  obtain ⟨km, em⟩ := min_is 1 y ys z q2'.1 q2'.2 q3
  have er : PySem.W.EachIs (fun u w => ∃ as, Reads s.heap u (toD w) as) its (y :: ys) := by
    refine (PySem.W.each_mem ea).mono fun u w ⟨⟨v, r, p⟩, m⟩ => ?_
    exact Dp.reads I _ _ _ (rep_dp p (isK_good 1 w (all_mem q2 m)).1) r
  obtain ⟨as, ra⟩ := reads_all er
  refine PySem.W.min_list_data fr.room.hd (pl.isList) (x := toD y) (xs := ys.map toD) ra ⟨fun x hx y' hy => ?_, fun x hx => ?_⟩ ?_ fun i v h' tk bs hi rd hk => ?_
  · obtain ⟨b, hb, rfl⟩ := List.mem_map.mp (show x ∈ (y :: ys).map toD from hx)
    obtain ⟨c, hc, rfl⟩ := List.mem_map.mp (show y' ∈ (y :: ys).map toD from hy)
    exact alike_k 1 b c (all_mem q2 hb) (all_mem q2 hc)
  · obtain ⟨b, hb, rfl⟩ := List.mem_map.mp (show x ∈ (y :: ys).map toD from hx)
    have := all_mem q2 hb
    cases b <;> first | exact absurd this Bool.false_ne_true | exact fun z => nomatch z
  · have dall : ∀ l : List RL.W, l.all (isK 1) = true → PyData.depthAll (l.map toD) ≤ 1 := fun l hl => by
      induction l with
      | nil => exact Nat.zero_le _
      | cons b l ih =>
        rw [List.all_cons, Bool.and_eq_true] at hl
        have := toD_depth 1 hl.1
        have := ih hl.2
        show max (toD b).depth (PyData.depthAll (l.map toD)) ≤ 1
        omega
    have := dall (y :: ys) q2
    have e : toD y :: ys.map toD = (y :: ys).map toD := rfl
    rw [e]
    omega
  · have hi : its[i]? = some v := by simpa using hi
    obtain ⟨w, hw, v', r', p'⟩ := each_get ea hi
    obtain ⟨w2, hw2, as', rd'⟩ := each_get er hi
    rw [hw] at hw2
    cases hw2
    have kw : isK 1 w = true := all_mem q2 (List.mem_of_getElem? hw)
    have dd := (Reads.unique (PySem.W.reads_keeps hk rd') _ _ rd).1
    rw [← em] at dd
    have := toD_inj 1 w z kw km dd
    subst this
    exact ⟨v', _, I.kept hk, r', q _ _ (Ext.refl _ _) sr p'⟩
end
end RL

/-! sum(lists, []), sorted(set(t)) -/
namespace RL
open PySem.Calls PySem PyProof.Rows
variable [Tabl]
open Sem (wp)
abbrev lsO (xs : Array Value) (c : Nat) : Obj := { cls := .type "list", dict := none, data := .seq xs c, slots := #[] }
/-- what stands from place i on, k lists of them, in one -/
def catF (xs : Nat → Array Value) : Nat → Nat → Array Value
  | _, 0 => #[]
  | i, k + 1 => xs i ++ catF xs (i + 1) k
section
variable {prog : Program} {A : Around} {w : World}
theorem loop_lists {R : Result → Shared → Prop} {I : Addr} {fp wr : List Addr} {n : Nat} {P : Nat → Value → Prop} {St : Nat → Heap → Prop} (W : Walks prog w A.in1 I fp wr n P St) (xs : Nat → Array Value) (bs : Nat → Addr)
    (hval : ∀ i v, P i v → v = .ref (bs i)) (hbw : ∀ i, i < n → bs i ∉ wr) (hwr : ∀ i h, St i h → ∀ b ∈ wr, b < h.objs.size) (S : Addr) (hSf : S ∉ fp) (hSb : ∀ i, i < n → bs i ≠ S) :
    ∀ (k i : Nat) (s : Shared) (T : Addr) (acc : Array Value) (c cT : Nat), i + k = n → St i s.heap → T ≠ S → T ∉ wr → acc.size + (catF xs i k).size ≤ sizeLine →
    s.heap.get? S = some (lsO #[.ref T] c) → s.heap.get? T = some (lsO acc cT) → (∀ j, i ≤ j → j < n → ∃ m, s.heap.get? (bs j) = some (lsO (xs j) m)) →
    (∀ h' tk T' c', (∀ b o, b ∉ wr → b ≠ S → s.heap.get? b = some o → h'.get? b = some o) → (T' = T ∧ k = 0 ∨ ∃ h1 : Heap, (∀ b o, b ∉ wr → b ≠ S → s.heap.get? b = some o → h1.get? b = some o) ∧ T' = h1.objs.size) →
      h'.get? T' = some (lsO (acc ++ catF xs i k) c') → R (.ok (.ret (.ref T'))) { s with heap := h', toks := tk }) →
    codeAny (model prog w) A (.builtin "sum.loop" ⟨[.ref I, .ref S, rawInt 2, rawInt 0], []⟩) R s := by
  have hSw := fun h : S ∈ wr => hSf (W.sub _ h)
  intro k
  induction k with
  | zero =>
    intro i s T acc c cT hik hst hTS hTw hz hS hT hb hR
    have hin : i = n := by omega
    subst hin
    apply codeAny_builtin F.entry_sum_loop
    simp only [Around.under_plainId F.plain_sum_loop _]
    change wpAny _ A.in1 (seqItems? (.ref S) >>= _) _ _ s
    apply wpAny_bind; refine wpAny_seqItems hS rfl ?_
    change wpAny _ A.in1 (tryCatch (pyNext (.ref I)) _ >>= _) _ _ s
    apply wpAny_bind; refine wpAny_tryCatch (W.done s _ _ hst fun h' tk hk' => ?_)
    refine wpAny_pure (hR h' tk T cT (fun b o hbw _ e => hk' b o hbw e) (.inl ⟨rfl, rfl⟩) ?_)
    rw [show acc ++ catF xs i 0 = acc by simp [catF]]
    exact hk' T _ hTw hT
  | succ k ih =>
    intro i s T acc c cT hik hst hTS hTw hz hS hT hb hR
    have hlt : i < n := by omega
    apply codeAny_builtin F.entry_sum_loop
    simp only [Around.under_plainId F.plain_sum_loop _]
    change wpAny _ A.in1 (seqItems? (.ref S) >>= _) _ _ s
    apply wpAny_bind; refine wpAny_seqItems hS rfl ?_
    change wpAny _ A.in1 (tryCatch (pyNext (.ref I)) _ >>= _) _ _ s
    refine wpAny_bind (wpAny_tryCatch (W.item i s _ _ hlt hst fun v h1 tk hP hst1 hk1 => ?_))
    cases hval i v hP
    obtain ⟨m, hbi⟩ := hb i (Nat.le_refl _) hlt
    have hS1 := hk1 S _ hSw hS
    have hT1 := hk1 T _ hTw hT
    have hb1 := hk1 _ _ (hbw i hlt) hbi
    have hsz : acc.size + (xs i).size ≤ sizeLine := by
      have : (catF xs i (k + 1)).size = (xs i).size + (catF xs (i + 1) k).size := by simp [catF]
      omega
    show wpAny _ A.in1 ((holding [Value.ref (bs i)] (binaryOp .Add (.ref T) (.ref (bs i)))).attempt >>= _) _ _ _
    refine wpAny_bind (wpAny_attempt (wpAny_holding (PySem.P.add_list (n := cT) (n2 := m) hT1 hb1 ?_ hsz)))
    obtain ⟨h2, e2⟩ : ∃ h2, h2 = h1.push { cls := .type "list", data := .seq (acc ++ xs i) } := ⟨_, rfl⟩
    have k2 : ∀ b o, h1.get? b = some o → h2.get? b = some o := fun b o e => by rw [e2]; exact Heap.get?_push_of_some _ e
    have g2 : h2.get? h1.objs.size = some (lsO (acc ++ xs i) 0) := by rw [e2]; exact Heap.get?_push_size _ rfl
    have hS2 := k2 _ _ hS1
    have tS : h1.objs.size ≠ S := fun z => Nat.lt_irrefl _ (by have := Heap.lt_size hS1; rw [← z] at this; exact this)
    show wpAny _ A.in1 (updateSeq S (fun _ => #[.ref h1.objs.size]) >>= _) _ _ { s with heap := h1.push { cls := .type "list", data := .seq (acc ++ xs i) }, toks := tk }
    rw [← e2]
    refine wpAny_bind ?_
    apply wpAny_updateSeq hS2 rfl
    apply wpAny_bind; refine wpAny_letGo ?_
    have hS3 := Heap.get?_update_self (Obj.mapSeq fun _ => #[Value.ref h1.objs.size]) hS2 rfl
    refine wpAny_bind ?_
    apply wpAny_updateSeq hS3 rfl
    obtain ⟨h4, e4⟩ : ∃ h4, h4 = (h2.update S (Obj.mapSeq fun _ => #[Value.ref h1.objs.size])).update S (Obj.mapSeq fun _ => #[Value.ref h1.objs.size]) := ⟨_, rfl⟩
    have k4 : ∀ b o, b ≠ S → h2.get? b = some o → h4.get? b = some o := fun b o hb e => by
      rw [e4]
      have nb := Ne.symm hb
      exact (Heap.get?_update_other _ _ nb).trans ((Heap.get?_update_other _ _ nb).trans e)
    obtain ⟨c4, hS4⟩ : ∃ c4, h4.get? S = some (lsO #[.ref h1.objs.size] c4) := by rw [e4]; exact ⟨_, Heap.get?_update_self _ hS3 rfl⟩
    show wpAny _ A.in1 _ _ _ { s with heap := (h2.update S (Obj.mapSeq fun _ => #[Value.ref h1.objs.size])).update S (Obj.mapSeq fun _ => #[Value.ref h1.objs.size]), toks := tk }
    rw [← e4]
    have k14 : ∀ b o, b ∉ wr → b ≠ S → s.heap.get? b = some o → h4.get? b = some o := fun b o hbw hbS e => k4 b o hbS (k2 b o (hk1 b o hbw e))
    have tw : h1.objs.size ∉ wr := fun z => Nat.lt_irrefl _ (hwr _ _ hst1 _ z)
    refine wpAny_pure ⟨plainId_quiet F.plain_sum_loop _, ih (i + 1) _ h1.objs.size (acc ++ xs i) c4 0 (by omega) (W.frame _ _ _ hst1 fun b hbf o e => k4 b o (fun z => hSf (by rw [← z]; exact hbf)) (k2 b o e)) tS tw ?_ hS4 (k4 _ _ tS g2) (fun j h1j h2j => ?_) fun h' tk' T' c' hk' hT' e' => ?_⟩
    · rw [Array.size_append]
      have : (catF xs i (k + 1)).size = (xs i).size + (catF xs (i + 1) k).size := by simp [catF]
      omega
    · obtain ⟨mj, ej⟩ := hb j (by omega) h2j
      exact ⟨mj, k14 _ _ (hbw j h2j) (hSb j h2j) ej⟩
    · refine hR h' tk' T' c' (fun b o hbw hbS e => hk' b o hbw hbS (k14 b o hbw hbS e)) (.inr ?_) ?_
      · rcases hT' with ⟨z, _⟩ | ⟨h5, z1, z2⟩
        · exact ⟨h1, fun b o hbw _ e => hk1 b o hbw e, z⟩
        · exact ⟨h5, fun b o hbw hbS e => z1 b o hbw hbS (k14 b o hbw hbS e), z2⟩
      · rw [e']
        simp [catF]
/-- sum(l, start), l a list of lists, start a list -/
theorem call_sum_lists {E : Value → Shared → Prop} {s : Shared} {l st : Addr} {its : Array Value} {acc : Array Value} {cT : Nat} {Q : Value → Shared → Prop} (xs : Nat → Array Value) (bs : Nat → Addr) (hh : A.handled = none)
    (hl : s.heap.IsList l its) (hst : s.heap.get? st = some (lsO acc cT)) (hv : ∀ i, i < its.size → its[i]? = some (.ref (bs i))) (hb : ∀ j, j < its.size → ∃ m, s.heap.get? (bs j) = some (lsO (xs j) m)) (hz : acc.size + (catF xs 0 its.size).size ≤ sizeLine)
    (hQ : ∀ h' tk T' c', (∀ b o, s.heap.get? b = some o → h'.get? b = some o) → (T' = st ∧ its.size = 0 ∨ ∃ h1 : Heap, (∀ b o, s.heap.get? b = some o → h1.get? b = some o) ∧ T' = h1.objs.size) →
      h'.get? T' = some (lsO (acc ++ catF xs 0 its.size) c') → Q (.ref T') { s with heap := h', toks := tk }) :
    wpAny (model prog w) A (call (.builtin "sum") [.ref l, .ref st]) Q E s := by
  refine call_function_tree F.kind_sum F.plain_sum F.entry_sum (by unfold argsOk; kernel_rfl) ?_
  unfold Builtin.«sum»
  simp only [List.length_nil, List.length_cons]
  rw [if_neg (by decide)]
  refine wpAny_bind (wpAny_of_eq (show Builtin.Builtins.bindParams "sum" ["start"] 0 ⟨[.ref st], []⟩ = pure [some (.ref st)] from rfl) ?_)
  apply wpAny_bind; refine wpAny_pyIter_list hl ?_
  apply wpAny_bind; refine wpAny_pure ?_
  have ty : ({ s with heap := s.heap.push { cls := .type "list_iterator", data := .fields #[.ref l, .int 0 0] } } : Shared).TypeIs (.ref st) "list" := ⟨_, Heap.get?_push_of_some _ hst, rfl⟩
  simp only [List.forIn_nil, List.forIn_cons]
  refine wpAny_bind (wpAny_bind (wpAny_bind (wpAny_isInstance (T := "list") (b := false) ty (by rw [isSubtype_type]; kernel_rfl) ?_)))
  simp only [if_false, Bool.false_eq_true]
  refine wpAny_pure (wpAny_bind (wpAny_bind (wpAny_isInstance (T := "list") (b := false) ty (by rw [isSubtype_type]; kernel_rfl) ?_)))
  simp only [if_false, Bool.false_eq_true]
  refine wpAny_pure (wpAny_bind (wpAny_bind (wpAny_isInstance (T := "list") (b := false) ty (by rw [isSubtype_type]; kernel_rfl) ?_)))
  simp only [if_false, Bool.false_eq_true]
  apply wpAny_pure; refine wpAny_pure ?_
  apply wpAny_bind; refine wpAny_newObj_type ?_
  obtain ⟨h1, e1⟩ : ∃ h1, h1 = s.heap.push { cls := .type "list_iterator", data := .fields #[.ref l, .int 0 0] } := ⟨_, rfl⟩
  have k1 : ∀ b o, s.heap.get? b = some o → h1.get? b = some o := fun b o e => by rw [e1]; exact Heap.get?_push_of_some _ e
  have hit : h1.IsListIter s.heap.objs.size l 0 := by rw [e1]; exact ⟨_, Heap.get?_push_size _ rfl, rfl, rfl⟩
  obtain ⟨ol, hol, _⟩ := id hl
  have lI : l < s.heap.objs.size := Heap.lt_size hol
  have hll : h1.IsList l its := hl.at fun o e => k1 _ o e
  have W := Walks.list (prog := prog) (w := w) (A := A.in1) hh s.heap.objs.size l (Nat.ne_of_lt lI) its
  have hsz1 : h1.objs.size = s.heap.objs.size + 1 := by rw [e1, size_push']
  dsimp only
  rw [← e1]
  have k2 : ∀ b o, h1.get? b = some o → (h1.push (lsO #[.ref st] 0)).get? b = some o := fun b o e => Heap.get?_push_of_some _ e
  have nb : ∀ b o, s.heap.get? b = some o → b ∉ [s.heap.objs.size] ∧ b ≠ h1.objs.size := fun b o e => by
    have lt := Heap.lt_size e
    constructor <;> intro z
    · rw [List.mem_singleton.mp z] at lt
      exact Nat.lt_irrefl _ lt
    · rw [z, hsz1] at lt
      exact absurd lt (Nat.not_lt.mpr (Nat.le_succ _))
  refine wpAny_pure ⟨plainId_quiet F.plain_sum_loop _, ?_⟩
  refine loop_lists (A := A) (n := its.size) W xs bs (fun i v hi => ?_) (fun i hi => ?_) (fun i h x b hb => ?_) h1.objs.size ?_ (fun i hi => ?_) its.size 0 { s with heap := h1.push (lsO #[.ref st] 0) } st acc 0 cT (by omega) ⟨hit.at fun o e => k2 _ o e, hll.at fun o e => k2 _ o e⟩ (Ne.symm (Ne.symm (nb _ _ hst).2)) (nb _ _ hst).1 hz (Heap.get?_push_size _ rfl) (k2 _ _ (k1 _ _ hst)) (fun j _ hj => ?_) fun h' tk T' c' hk hT he => ?_
  · have lt : i < its.size := by
      rcases Nat.lt_or_ge i its.size with z | z
      · exact z
      · rw [Array.getElem?_eq_none z] at hi; cases hi
    rw [hv i lt] at hi
    exact (Option.some.inj hi).symm
  · obtain ⟨m, e⟩ := hb i hi
    exact (nb _ _ e).1
  · obtain ⟨⟨o, ho, _⟩, _⟩ := x
    rw [List.mem_singleton.mp hb]
    exact Heap.lt_size ho
  · rw [hsz1]
    intro z
    obtain z | z := List.mem_cons.mp z
    · exact absurd z (Nat.ne_of_gt (Nat.lt_succ_self _))
    · rw [← List.mem_singleton.mp z] at lI
      exact absurd lI (Nat.not_lt.mpr (Nat.le_succ _))
  · obtain ⟨m, e⟩ := hb i hi
    exact (nb _ _ e).2
  · obtain ⟨m, e⟩ := hb j hj
    exact ⟨m, k2 _ _ (k1 _ _ e)⟩
  · refine hQ h' tk T' c' (fun b o e => hk b o (nb b o e).1 (nb b o e).2 (k2 _ _ (k1 _ _ e))) ?_ he
    rcases hT with hT | ⟨h5, z1, z2⟩
    · exact .inl hT
    · exact .inr ⟨h5, fun b o e => z1 b o (nb b o e).1 (nb b o e).2 (k2 _ _ (k1 _ _ e)), z2⟩
end
end RL

namespace RL
open PySem.Spec PySem PyProof.Rows L2
variable [Tabl]
section
variable {X : Cx} {G : Gx}
theorem bl_suml {ws : List RL.W} {h : Hs} {z : RL.W} (e : blt .suml ws h = some z) : ∃ x ys zs, ws = [x, .lst []] ∧ itemsL h x = some ys ∧ sumL h ys = some zs ∧ zs.length ≤ lim ∧ z = .lst zs := by
  unfold blt at e
  split at e <;> try (cases e; done)
  all_goals first | contradiction | skip
  rename_i x _
  cases q : itemsL h x with
  | none => exact nomatch (q ▸ e)
  | some ys =>
    rw [q] at e
    simp only [Option.bind_some] at e
    cases q2 : sumL h ys with
    | none => rw [q2] at e; cases e
    | some zs =>
      rw [q2] at e
      dsimp only at e
      split at e <;> cases e
      rename_i hl
      exact ⟨x, ys, zs, rfl, q, q2, hl, rfl⟩
/-- lists within a list: each at its own place -/
theorem sumL_parts {H : Hp} {α : List Addr} {h : Hs} : ∀ {ys zs : List RL.W} {vs : List V}, sumL h ys = some zs → Reps G H α ys vs →
    ∃ (bs : List Addr) (ls : List (List V)), vs = bs.map V.ref ∧ bs.length = ls.length ∧ (∀ (i : Nat) (b : Addr) (l : List V), bs[i]? = some b → ls[i]? = some l → H b = some (.lst l)) ∧ Reps G H α zs ls.flatten
  | [], zs, vs, e, r => by
    cases e
    cases r
    exact ⟨[], [], rfl, rfl, fun i b l h => by simp at h, .nil⟩
  | y :: ys, zs, vs, e, r => by
    cases r with
    | cons ry r =>
      cases y <;> first | cases e | skip
      rename_i ws
      simp only [sumL] at e
      cases q : sumL h ys with
      | none => exact nomatch (q ▸ e)
      | some us =>
        rw [q] at e
        cases e
        obtain ⟨bs, ls, rfl, hl, hat, rp⟩ := sumL_parts q r
        cases ry with
        | @lst a xs _ ha _ rs =>
          refine ⟨a :: bs, xs :: ls, rfl, by simp [hl], fun i b l h1 h2 => ?_, rs.append rp⟩
          cases i with
          | zero => simp at h1 h2; rw [← h1, ← h2]; exact ha
          | succ i => exact hat i b l (by simpa using h1) (by simpa using h2)
theorem catF_list (xs : Nat → Array Value) : ∀ (ls : List (List Value)) (i : Nat), (∀ (j : Nat) (l : List Value), ls[j]? = some l → xs (i + j) = l.toArray) → catF xs i ls.length = ls.flatten.toArray
  | [], i, _ => rfl
  | l :: ls, i, h => by
    rw [List.length_cons, catF, catF_list xs ls (i + 1) fun j l' e => by rw [show i + 1 + j = i + (j + 1) by omega]; exact h (j + 1) l' (by simpa using e), show xs i = l.toArray from h 0 l (by simp)]
    simp
theorem cl_suml (hc : X.calm = true) : CallR X (.builtin "sum") (rCl (blt .suml)) := by
  intro pins s σ H xs us Q I rx ⟨G, ws, h, α, z, r, sr, e, q⟩
  obtain ⟨x, ys, zs, rfl, q1, q2, q3, rfl⟩ := bl_suml e
  obtain ⟨v, v2, rfl, rv, rv2⟩ := r.two
  obtain ⟨a, vs, rfl, hr, rs⟩ := rep_itemsL sr rv q1
  cases rv2 with
  | lst hst hfz rn =>
    rename_i st sv
    cases rn
    cases rx with
    | cons ra rx =>
      cases rx with
      | cons rb rx =>
        cases rx
        cases ra
        cases rb
        obtain ⟨its, rv3, pl, hz⟩ := I.list (.inl (.inl hr))
        obtain ⟨z2, its2, n2, r2, hl2, e2⟩ := I.lstM hst
        have e0 : its2 = [] := List.eq_nil_of_length_eq_zero (by rw [← hl2]; rfl)
        subst e0
        obtain ⟨bs, ls, rfl, hbl, hat, rp⟩ := sumL_parts q2 rs
        have lsV : ∃ vls : List (List Value), vls.length = ls.length ∧ Vals ls.flatten vls.flatten ∧ ∀ (j : Nat) (b : Addr), bs[j]? = some b → ∃ l m, vls[j]? = some l ∧ s.heap.get? b = some (lsO l.toArray m) := by
          clear rp q2 q3 rs hr rv3 pl hz
          induction bs generalizing ls with
          | nil =>
            cases ls with
            | nil => exact ⟨[], rfl, .nil, fun j b h => by simp at h⟩
            | cons => simp at hbl
          | cons b bs ih =>
            cases ls with
            | nil => simp at hbl
            | cons l ls =>
              obtain ⟨vls, g1, g2, g3⟩ := ih ls (by simpa using hbl) fun i b l h1 h2 => hat (i + 1) b l (by simpa using h1) (by simpa using h2)
              obtain ⟨_, it, m, rl, _, eb⟩ := I.lstM (hat 0 b l rfl rfl)
              refine ⟨it :: vls, by simp [g1], by simpa using rl.append g2, fun j b' hj => ?_⟩
              cases j with
              | zero => simp at hj; subst hj; exact ⟨it, m, rfl, eb⟩
              | succ j =>
                obtain ⟨l', m', h1, h2⟩ := g3 j b' (by simpa using hj)
                exact ⟨l', m', by simpa using h1, h2⟩
        obtain ⟨vls, g1, g2, g3⟩ := lsV
        have hlen : its.length = bs.length := by rw [← rv3.length, List.length_map]
        obtain ⟨xf, hxf⟩ : ∃ xf : Nat → Array Value, xf = fun j => (vls.getD j []).toArray := ⟨_, rfl⟩
        have cat : catF xf 0 its.toArray.size = vls.flatten.toArray := by
          rw [List.size_toArray, hlen, hbl, ← g1]
          refine catF_list xf vls 0 fun j l hj => ?_
          rw [hxf]
          simp [List.getD_eq_getElem?_getD, hj]
        have hzl : zs.length ≤ sizeLine := by
          rw [sizeLine_eq]
          unfold lim at q3
          omega
        have hsz : vls.flatten.length = zs.length := by rw [← g2.length, rp.length]
        refine call_sum_lists (its := its.toArray) (acc := #[]) xf (fun j => bs.getD j 0) (I.ok.hd hc) pl.isList e2 (fun i hi => ?_) (fun j hj => ?_) ?_ fun h' tk T' c' hk hT he => ?_
        · rw [List.size_toArray] at hi
          have hb : i < bs.length := by omega
          have e1 : (bs.map V.ref)[i]? = some (V.ref bs[i]) := by simp [hb]
          obtain ⟨u, e3, e4⟩ := rv3.get e1
          cases e4
          simp [List.getD_eq_getElem?_getD, hb]
          exact e3
        · rw [List.size_toArray] at hj
          have hb : j < bs.length := by omega
          obtain ⟨l, m, h1, h2⟩ := g3 j bs[j] (List.getElem?_eq_getElem hb)
          refine ⟨m, ?_⟩
          rw [show bs.getD j 0 = bs[j] by simp [List.getD_eq_getElem?_getD, hb], h2, hxf]
          simp [List.getD_eq_getElem?_getD, h1]
        · rw [cat]
          simp only [List.size_toArray, List.length_nil, List.size_toArray]
          omega
        · rw [cat] at he
          rcases hT with ⟨rfl, h0⟩ | ⟨h5, z1, z2⟩
          · have v0 : vls = [] := List.eq_nil_of_length_eq_zero (by rw [g1, ← hbl, ← hlen]; simpa using h0)
            subst v0
            have l0 : ls = [] := List.eq_nil_of_length_eq_zero (by simpa using g1.symm)
            subst l0
            cases rp
            exact ⟨.ref T', H, I.kept hk, rfl, q _ _ (Ext.refl _ _) sr (.lst hst hfz .nil)⟩
          · have I5 : Inv X pins σ H { s with heap := h5, toks := s.toks } := I.kept z1
            have hH : H T' = none := by rw [z2]; exact I5.hok.fresh (Nat.le_refl _)
            have hn : s.heap.get? T' = none := by
              cases w : s.heap.get? T' with
              | none => rfl
              | some o =>
                have := Heap.lt_size (z1 _ _ w)
                rw [z2] at this
                exact absurd this (Nat.lt_irrefl _)
            have J : Inv X pins σ (upd H T' (.lst ls.flatten)) { s with heap := h', toks := tk } :=
              I.laidN hk hn hH ⟨by rw [← rp.length]; exact hzl, vls.flatten, c', g2, by simpa using he⟩
            exact ⟨.ref T', _, J, rfl, q _ _ (Ext.new hH) (sr.new hH) (.lst upd_same (sr.fz hH) (rp.mono (Ext.new hH)))⟩
end
end RL
namespace RL
open PySem.Spec PySem PyProof.Rows L2
variable [Tabl]
theorem uins_mem (x : Int) : ∀ (l : List Int) (k : Int), k ∈ uins x l ↔ k = x ∨ k ∈ l
  | [], k => by simp [uins]
  | y :: ys, k => by
    unfold uins
    split
    · simp
    split
    · rename_i e
      subst e
      simp
    · simp only [List.mem_cons, uins_mem x ys k]
      constructor
      · rintro (h | h | h) <;> simp [h]
      · rintro (h | h | h) <;> simp [h]
theorem uins_lt (x : Int) : ∀ (l : List Int), l.Pairwise (· < ·) → (uins x l).Pairwise (· < ·)
  | [], _ => List.pairwise_singleton _ _
  | y :: ys, h => by
    have ⟨h1, h2⟩ := List.pairwise_cons.mp h
    unfold uins
    split
    · rename_i lt
      exact List.pairwise_cons.mpr ⟨fun z hz => by
        obtain rfl | hz := List.mem_cons.mp hz
        · exact lt
        · have := h1 z hz
          omega, h⟩
    split
    · exact h
    · exact List.pairwise_cons.mpr ⟨fun z hz => by
        rcases (uins_mem x ys z).mp hz with rfl | hz
        · omega
        · exact h1 z hz, uins_lt x ys h2⟩
theorem usort_mem : ∀ (l : List Int) (k : Int), k ∈ usort l ↔ k ∈ l
  | [], k => by simp [usort]
  | x :: r, k => by rw [usort, uins_mem, usort_mem r k, List.mem_cons]
theorem usort_lt : ∀ (l : List Int), (usort l).Pairwise (· < ·)
  | [] => List.Pairwise.nil
  | x :: r => uins_lt x _ (usort_lt r)
theorem rise_one : ∀ {a b : List Int}, a.Pairwise (· < ·) → b.Pairwise (· < ·) → (∀ k, k ∈ a ↔ k ∈ b) → a = b
  | [], [], _, _, _ => rfl
  | [], y :: b, _, _, h => absurd ((h y).mpr List.mem_cons_self) (by simp)
  | x :: a, [], _, _, h => absurd ((h x).mp List.mem_cons_self) (by simp)
  | x :: a, y :: b, ha, hb, h => by
    obtain ⟨a1, a2⟩ := List.pairwise_cons.mp ha
    obtain ⟨b1, b2⟩ := List.pairwise_cons.mp hb
    have e : x = y := by
      rcases List.mem_cons.mp ((h x).mp List.mem_cons_self) with e | m
      · exact e
      · rcases List.mem_cons.mp ((h y).mpr List.mem_cons_self) with e | m'
        · exact e.symm
        · have := b1 x m
          have := a1 y m'
          omega
    subst e
    rw [rise_one a2 b2 fun k => ?_]
    constructor
    · intro m
      rcases List.mem_cons.mp ((h k).mp (List.mem_cons_of_mem _ m)) with e | m'
      · have := a1 k m
        omega
      · exact m'
    · intro m
      rcases List.mem_cons.mp ((h k).mpr (List.mem_cons_of_mem _ m)) with e | m'
      · have := b1 k m
        omega
      · exact m'
section
variable {X : Cx} {G : Gx} {cv : Cv} {W : WX} {cf : CF}
/-- set(t), t a tuple of whole numbers -/
def rSetI (K : PySem.W.Frag) (w : World) : List V → Hp → VK → Prop := fun xs H Q => ∃ (p : Addr) (ns : List Int), xs = [V.ref p] ∧ SqT K H p (ns.map V.int) ∧ ns.length < 64 ∧
  ∀ (a : Addr) (c : Nat), H a = none → c ≤ ns.length → Q (.ref a) (upd H a (SetO w a (fun j => decide (j ∈ ns)) c))
theorem cr_setI (hc : X.calm = true) : CallR X (.type "set") (rSetI X.K X.w) := by
  intro pins s σ H xs us Q I
  intro r h
  obtain ⟨p, ns, rfl, hp, hl, q⟩ := h
  rcases vals1 r with ⟨u, rfl, rx⟩
  cases rx
  obtain ⟨its, rv, pl, hz⟩ := I.tuple hp
  have hi := rv.ints
  refine call_set_tupI (items := its.toArray) ns (I.ok.hd hc) pl (by simpa using hi) (by unfold scanBound; omega) fun h' tk c R hcl hk => ?_
  exact ⟨.ref _, upd H s.heap.objs.size (SetO X.w s.heap.objs.size (fun j => decide (j ∈ ns)) c), I.laid (t' := tk) hk (Nat.le_refl _) (setO_new R), rfl, q _ c (I.hok.fresh (Nat.le_refl _)) hcl⟩
theorem sd_sset {x y : Str} {e : Expr} {ie : E} {p p2 pos pos2 : Pos} (hc : X.calm = true) (hg : Gl X x) (hm : X.mg x = none) (hv : bootBuiltins x = some (.builtin "sorted"))
    (hg2 : Gl X y) (hm2 : X.mg y = none) (hv2 : bootBuiltins y = some (.type "set")) (he : PE X e (tR cv W (evE cf ie))) (hn : x ≠ "__name__") (hd : (x == ("__debug__" : Str)) = false) (hn2 : y ≠ "__name__") (hd2 : (y == ("__debug__" : Str)) = false)
    (hs : starEach [e] X.env = (false, eval e X.env) :: starEach [] X.env) :
    PE X (.Call (.Name x p) [.Call (.Name y p2) [e] [] pos2] [] pos) (tR cv W (evE cf (.sset ie))) := by
  refine PE.weak (pe_callB (cr_sortedSet hc) hg hm hv (pa_cons (pe_callTy (cr_setI hc) hg2 hm2 hv2 (pa_cons he pa_nil hs) hn2 hd2 hs (by rfl)) pa_nil (by rfl)) hn hd (by rfl) (by rfl)) fun σ H Q ⟨G, ρ, h, α, er, sr, p⟩ => ?_
  simp only [evE] at p
  refine ⟨G, ρ, h, α, er, sr, p.bind fun w h1 α1 H1 c e1 s1 r1 p1 => ?_⟩
  cases q : ssetW w with
  | none => rw [q] at p1; exact p1.elim
  | some z =>
    rw [q] at p1
    cases w with
    | tup ws =>
      simp only [ssetW] at q
      cases q2 : asInts ws with
      | none => rw [q2] at q; cases q
      | some ns =>
        rw [q2] at q
        simp only [Option.bind_some] at q
        split at q <;> cases q
        rename_i hl
        obtain ⟨a, vs, ec, ha, hf, rs⟩ := r1.of_tup
        subst ec
        rw [asInts_ints q2] at rs
        rw [rs.asInts] at ha
        refine show rSetI X.K X.w [V.ref a] H1 (fun x H1 => rSortedSet X.w [x] H1 Q) from ⟨a, ns, rfl, ha.sq, hl, fun b c hb hcl => ⟨b, _, c, rfl, upd_same, by omega, fun ns' d h1 h2 _ hdn => ?_⟩⟩
        have eq : ns' = usort ns := rise_one h1 (usort_lt ns) fun k => by rw [h2 k, usort_mem]; simp
        subst eq
        have e3 : Ext H1 α1 (upd H1 b (SetO X.w b (fun j => decide (j ∈ ns)) c)) α1 := Ext.new hb
        have s3 := s1.new (o := SetO X.w b (fun j => decide (j ∈ ns)) c) hb
        refine p1.ok' (e3.trans (Ext.new hdn)) (s3.new hdn) (.lst upd_same (s3.fz hdn) ?_)
        have : ∀ (H : Hp) (l : List Int), Reps G H α1 (l.map RL.W.int) (l.map V.int) := fun H l => by
          induction l with
          | nil => exact .nil
          | cons x l ih => exact .cons (.int x) ih
        exact this _ _
    | _ => cases q
end
end RL
namespace RL
open PySem.Spec PySem PyProof.Rows L2
variable [Tabl]
section
variable {X : Cx}
theorem cl_int : CallR X (.type "int") (rCl (blt .int)) := by
  intro pins s σ H xs us Q I rx ⟨G, ws, h, α, z, r, sr, e, q⟩
  unfold blt at e
  split at e <;> try (cases e; done)
  all_goals first | contradiction | skip
  · cases e
    obtain ⟨v, rfl, rv⟩ := r.one
    have := rv.of_bl
    subst this
    have k : ∀ b : Bool, Rep G H α (.int (b2i b)) (.int (if b = true then 1 else 0)) := fun b => by cases b <;> exact .int _
    exact call_int1 pins s σ H _ us Q I rx (.inr ⟨_, rfl, q _ _ (Ext.refl _ _) sr (k _)⟩)
  · cases e
    obtain ⟨v, rfl, rv⟩ := r.one
    have := rv.of_int
    subst this
    exact call_int1 pins s σ H _ us Q I rx (.inl ⟨_, rfl, q _ _ (Ext.refl _ _) sr (.int _)⟩)
  · obtain ⟨n, hn, e⟩ := Option.map_eq_some_iff.mp e
    cases e
    obtain ⟨v, rfl, rv⟩ := r.one
    have := rv.of_str
    subst this
    obtain ⟨h1, h2⟩ := digN_is hn
    exact call_int_str pins s σ H _ us Q I rx ⟨_, n, rfl, h1, h2, q _ _ (Ext.refl _ _) sr (.int _)⟩
theorem cl_lent : CallR X (.builtin "len") (rCl (blt .lent)) := CallR.weak call_len_str fun xs H Q ⟨G, ws, h, α, z, r, sr, e, q⟩ => by
  unfold blt at e
  split at e <;> try (cases e; done)
  all_goals first | contradiction | skip
  split at e
  · cases e
    obtain ⟨v, rfl, rv⟩ := r.one
    rw [rv.of_str]
    exact ⟨_, rfl, big_line (by assumption), q _ _ (Ext.refl _ _) sr (.int _)⟩
  · cases e
theorem cl_str : CallR X (.type "str") (rCl (blt .str)) := CallR.weak call_str_int fun xs H Q ⟨G, ws, h, α, z, r, sr, e, q⟩ => by
  unfold blt at e
  split at e <;> try (cases e; done)
  all_goals first | contradiction | skip
  split at e
  · cases e
    obtain ⟨v, rfl, rv⟩ := r.one
    rw [rv.of_int]
    exact ⟨_, rfl, by assumption, by rw [← numS_is]; exact q _ _ (Ext.refl _ _) sr (.str _)⟩
  · cases e
end
end RL

/-! Methods of lists; lists made to be changed. -/
namespace RL
open PySem.Spec PySem PyProof.Rows L2
variable [Tabl]
section
variable {X : Cx} {G : Gx} {cv : Cv} {W : WX} {cf : CF}
/-- an outcome of a method -/
def rMe (m : Mt) : V → List V → Hp → VK → Prop := fun x vs H Q => ∃ G w ws h α z h', Rep G H α w x ∧ Reps G H α ws vs ∧ StR G h α H ∧ meth m w ws h = some (z, h') ∧
  ∀ v H', Ext H α H' α → StR G h' α H' → Rep G H' α z v → Q v H'
theorem me_append : MtR X "list.append" (rMe .append) := by
  intro pins s σ H x vs v us Q I rx rv ⟨G, w, ws, h, α, z, h', r, rs, sr, e, q⟩
  match w, ws, e with
  | .loc n, [u], e =>
    have e : ((listAt h n).bind fun xs => if xs.length < lim then some (RL.W.non, h.set n (.lst (xs ++ [u]))) else none) = some (z, h') := e
    cases ql : listAt h n with
    | none => rw [ql] at e; cases e
    | some xs =>
      rw [ql, Option.bind_some] at e
      by_cases hl : xs.length < lim
      rotate_left
      · rw [if_neg hl] at e; cases e
      rw [if_pos hl] at e
      cases e
      obtain ⟨a, vs0, ea, ha, rr⟩ := sr.list ql
      obtain ⟨b, rfl, eb⟩ := r.of_loc
      rw [ea] at eb; cases eb
      obtain ⟨y, rfl, ry⟩ := rs.one
      have hm := List.mem_of_getElem? ea
      refine mt_append pins s σ H _ _ v us Q I rx rv ⟨a, vs0, y, rfl, rfl, ha, by rw [← rr.length]; exact lim_lt hl, ?_⟩
      exact q _ _ (Ext.set hm (by rw [ha]; simp)) (sr.set ea (by rw [ha]; simp) (rr.append (.cons ry .nil))) .non
  | .non, _, e => cases e
  | .bl _, _, e => cases e
  | .int _, _, e => cases e
  | .str _, _, e => cases e
  | .rs _, _, e => cases e
  | .tup _, _, e => cases e
  | .lst _, _, e => cases e
  | .fr _, _, e => cases e
  | .loc n, [], e => cases e
  | .loc n, _ :: _ :: _, e => cases e
theorem me_extend : MtR X "list.extend" (rMe .extend) := by
  intro pins s σ H x vs v us Q I rx rv ⟨G, w, ws, h, α, z, h', r, rs, sr, e, q⟩
  match w, ws, e with
  | .loc n, [u], e =>
    cases ql : listAt h n with
    | none =>
      have e : ((listAt h n).bind fun xs => match u with
        | .lst ys => if xs.length + ys.length ≤ lim then some (RL.W.non, h.set n (.lst (xs ++ ys))) else none
        | _ => none) = some (z, h') := e
      rw [ql] at e; cases e
    | some xs =>
      have e : ((listAt h n).bind fun xs => match u with
        | .lst ys => if xs.length + ys.length ≤ lim then some (RL.W.non, h.set n (.lst (xs ++ ys))) else none
        | _ => none) = some (z, h') := e
      rw [ql, Option.bind_some] at e
      obtain ⟨ys, rfl⟩ : ∃ ys, u = .lst ys := by
        cases u with
        | lst ys => exact ⟨ys, rfl⟩
        | _ => cases e
      have e : (if xs.length + ys.length ≤ lim then some (RL.W.non, h.set n (.lst (xs ++ ys))) else none) = some (z, h') := e
      by_cases hl : xs.length + ys.length ≤ lim
      rotate_left
      · rw [if_neg hl] at e; cases e
      rw [if_pos hl] at e
      cases e
      obtain ⟨a, vs0, ea, ha, rr⟩ := sr.list ql
      obtain ⟨b, rfl, eb⟩ := r.of_loc
      rw [ea] at eb; cases eb
      obtain ⟨y, rfl, ry⟩ := rs.one
      obtain ⟨c, vs2, rfl, hc, hf, r2⟩ := ry.of_lst
      have hm := List.mem_of_getElem? ea
      refine mt_extend pins s σ H _ _ v us Q I rx rv ⟨a, c, vs0, vs2, rfl, rfl, ha, hc, by rw [← rr.length, ← r2.length]; exact lim_size hl, ?_⟩
      exact q _ _ (Ext.set hm (by rw [ha]; simp)) (sr.set ea (by rw [ha]; simp) (rr.append r2)) .non
  | .non, _, e => cases e
  | .bl _, _, e => cases e
  | .int _, _, e => cases e
  | .str _, _, e => cases e
  | .rs _, _, e => cases e
  | .tup _, _, e => cases e
  | .lst _, _, e => cases e
  | .fr _, _, e => cases e
  | .loc n, [], e => cases e
  | .loc n, _ :: _ :: _, e => cases e
theorem me_pop : MtR X "list.pop" (rMe .pop) := by
  intro pins s σ H x vs v us Q I rx rv ⟨G, w, ws, h, α, z, h', r, rs, sr, e, q⟩
  match w, ws, e with
  | .loc n, [], e =>
    have e : ((listAt h n).bind fun xs => xs[xs.length - 1]?.map fun x => (x, h.set n (.lst xs.dropLast))) = some (z, h') := e
    cases ql : listAt h n with
    | none => rw [ql] at e; cases e
    | some xs =>
      rw [ql, Option.bind_some] at e
      obtain ⟨w1, hw, e⟩ := Option.map_eq_some_iff.mp e
      cases e
      obtain ⟨a, vs0, ea, ha, rr⟩ := sr.list ql
      obtain ⟨b, rfl, eb⟩ := r.of_loc
      rw [ea] at eb; cases eb
      cases rs
      have hm := List.mem_of_getElem? ea
      obtain ⟨y, hy, ry⟩ := rr.get hw
      refine mt_pop pins s σ H _ _ v us Q I rx rv ⟨a, vs0, y, rfl, rfl, ha, by rw [← rr.length]; exact hy, ?_⟩
      have ex : Ext H α (upd H a (.lst vs0.dropLast)) α := Ext.set hm (by rw [ha]; simp)
      exact q _ _ ex (sr.set ea (by rw [ha]; simp) rr.dropLast) (ry.mono ex)
  | .loc n, [.int i], e =>
    have e : ((listAt h n).bind fun xs => if inRng i then ((ixN xs.length i).bind fun k => xs[k]?.map fun x => (x, h.set n (.lst (xs.eraseIdx k)))) else none) = some (z, h') := e
    cases ql : listAt h n with
    | none => rw [ql] at e; cases e
    | some xs =>
      rw [ql, Option.bind_some] at e
      by_cases hi : inRng i = true
      rotate_left
      · rw [if_neg hi] at e; cases e
      rw [if_pos hi] at e
      obtain ⟨k, hk, e⟩ := Option.bind_eq_some_iff.mp e
      obtain ⟨w1, hw, e⟩ := Option.map_eq_some_iff.mp e
      cases e
      obtain ⟨a, vs0, ea, ha, rr⟩ := sr.list ql
      obtain ⟨b, rfl, eb⟩ := r.of_loc
      rw [ea] at eb; cases eb
      obtain ⟨y0, rfl, ry0⟩ := rs.one
      have := ry0.of_int; subst this
      have hm := List.mem_of_getElem? ea
      obtain ⟨y, hy, ry⟩ := rr.get hw
      have hi' := inRng_lt hi
      have six : seqIndex? i vs0.length = some k := by
        rw [← rr.length]
        unfold ixN at hk
        unfold seqIndex?
        split at hk
        · split at hk <;> cases hk
          rename_i h0 h1
          first | (simp [h0, h1]; done) | (simp; omega) | (split <;> simp <;> omega)
        · split at hk <;> cases hk
          rename_i h0 h1
          first | (simp [h0, h1]; done) | (simp; omega) | (split <;> simp <;> omega)
      refine mt_popAt pins s σ H _ _ v us Q I rx rv ⟨a, vs0, i, k, y, rfl, rfl, ha, by omega, by omega, six, hy, ?_⟩
      have ex : Ext H α (upd H a (.lst (vs0.eraseIdx k))) α := Ext.set hm (by rw [ha]; simp)
      exact q _ _ ex (sr.set ea (by rw [ha]; simp) (rr.eraseIdx k)) (ry.mono ex)
  | .non, _, e => cases e
  | .bl _, _, e => cases e
  | .int _, _, e => cases e
  | .str _, _, e => cases e
  | .rs _, _, e => cases e
  | .tup _, _, e => cases e
  | .lst _, _, e => cases e
  | .fr _, _, e => cases e
  | .loc n, [.non], e => cases e
  | .loc n, [.bl _], e => cases e
  | .loc n, [.str _], e => cases e
  | .loc n, [.rs _], e => cases e
  | .loc n, [.tup _], e => cases e
  | .loc n, [.lst _], e => cases e
  | .loc n, [.fr _], e => cases e
  | .loc n, [.loc _], e => cases e
  | .loc n, x :: _ :: _, e => cases x <;> cases e
theorem metAt_ty {h : Hs} {w : RL.W} {α : List Addr} {H : Hp} {x : V} {u : Unit} (s : StR G h α H) (r : Rep G H α w x) (e : metAt h w = some u) : tyV X.K "list" x H := by
  unfold metAt at e
  obtain ⟨ws, q, _⟩ := Option.map_eq_some_iff.mp e
  obtain ⟨a, vs, rfl, hr, _⟩ := rep_itemsL s r q
  exact .inl ⟨rfl, vs, .inl (.inl hr)⟩
def notCall : Expr → Bool
  | .Call _ [] _ _ => false
  | _ => true
theorem att_base {o : Expr} {n : Str} {env : PySem.Env} {m : Sem Value} (h : notCall o = true) : attributeBase o n env m = m := by
  cases o <;> first | rfl | skip
  rename_i f as kw p
  cases as with
  | nil => exact absurd h Bool.false_ne_true
  | cons a as => cases f <;> rfl
theorem sd_meth {m : Mt} {o e : Expr} {io ie : E} {name : Str} {id : String} {apos cpos : Pos} (slot : Slot "list" name id) (hty : typeOf (.builtin id) = pure (.type "method_descriptor")) (hm : MtR X id (rMe m)) (hma : ∀ h x, metAs m h x = metAt h x) (ho : PE X o (tR cv W (evE cf io))) (he : PE X e (tR cv W (evE cf ie)))
    (hb : notCall o = true) (hline : (apos.endLine == cpos.line) = true) (hs : starEach [e] X.env = [(false, eval e X.env)]) :
    PE X (.Call (.Attribute o name apos) [e] [] cpos) (tR cv W (evE cf (.meth m io (.cons ie .nil)))) := by
  have hfew : ((backTo cpos (starEach [e] X.env)).all (fun x => !x.1) && (backToKw cpos (keywordEach [] X.env)).all (fun x => x.1.isSome)
      && decide (([e] : List Expr).length + ([] : List Keyword).length + (if ([] : List Keyword).isEmpty then 0 else 1) < 30)) = true := by rw [hs]; rfl
  refine PE.weak (pe_bm PySem.F.plainAttrs_list slot hty hm ho (pa_cons he pa_nil (by rw [hs]; rfl)) (att_base hb) hfew hline (by rw [hs]; rfl) rfl) fun σ H Q ⟨G, ρ, h, α, er, sr, p⟩ => ?_
  simp only [evE, evEs, hma] at p
  refine ⟨G, ρ, h, α, er, sr, p.bind fun x h1 α1 H1 c e1 s1 r1 p1 => ?_⟩
  cases q : metAt h1 x with
  | none => rw [q] at p1; exact p1.elim
  | some u =>
    rw [q] at p1
    refine ⟨metAt_ty s1 r1 q, G, ρ, h1, α1, er.mono e1, s1, ?_⟩
    have p1 : Post G cv W σ (relW G) (((evE cf ie ρ h1).bind fun w h => R.bind (.ok [] h) fun ws h => R.ok (w :: ws) h).bind fun ws h => R.ofH (meth m x ws h)) α1 H1 Q := p1
    revert p1
    cases evE cf ie ρ h1 with
    | bad => exact fun z => z
    | ex c h' => exact fun z => z
    | ok y h2 =>
      intro p1 α2 H2 d e2 s2 r2
      have p2 : Post G cv W σ (relW G) (R.ofH (meth m x [y] h2)) α1 H1 Q := p1
      cases qm : meth m x [y] h2 with
      | none => rw [qm] at p2; exact p2.elim
      | some zh =>
        obtain ⟨z, h3⟩ := zh
        rw [qm] at p2
        exact ⟨G, x, [y], h2, α2, z, h3, r1.mono e2, .cons r2 .nil, s2, qm, fun v H' e3 s3 r3 => p2 α2 H' v (e2.trans e3) s3 r3⟩
theorem sd_meth0 {m : Mt} {o : Expr} {io : E} {name : Str} {id : String} {apos cpos : Pos} (slot : Slot "list" name id) (hty : typeOf (.builtin id) = pure (.type "method_descriptor")) (hm : MtR X id (rMe m)) (hma : ∀ h x, metAs m h x = metAt h x) (ho : PE X o (tR cv W (evE cf io)))
    (hb : notCall o = true) (hline : (apos.endLine == cpos.line) = true) :
    PE X (.Call (.Attribute o name apos) [] [] cpos) (tR cv W (evE cf (.meth m io .nil))) := by
  refine PE.weak (pe_bm0 PySem.F.plainAttrs_list slot hty hm ho (att_base hb) hline) fun σ H Q ⟨G, ρ, h, α, er, sr, p⟩ => ?_
  simp only [evE, evEs, hma] at p
  refine ⟨G, ρ, h, α, er, sr, p.bind fun x h1 α1 H1 c e1 s1 r1 p1 => ?_⟩
  cases q : metAt h1 x with
  | none => rw [q] at p1; exact p1.elim
  | some u =>
    rw [q] at p1
    refine ⟨metAt_ty s1 r1 q, ?_⟩
    have p2 : Post G cv W σ (relW G) (R.ofH (meth m x [] h1)) α1 H1 Q := p1
    cases qm : meth m x [] h1 with
    | none => rw [qm] at p2; exact p2.elim
    | some zh =>
      obtain ⟨z, h3⟩ := zh
      rw [qm] at p2
      exact ⟨G, x, [], h1, α1, z, h3, r1, .nil, s1, qm, fun v H' e3 s3 r3 => p2 α1 H' v e3 s3 r3⟩
end
end RL

/-! index and count, of lists and of tuples. -/
namespace RL
open PySem.Spec PySem PyProof.Rows L2
variable [Tabl]
theorem index_at (x : RL.W) (gx : W.good x = true) : ∀ (ys : List RL.W) (k i : Int), W.goods ys = true → indexIn x k ys = some i →
    ∃ j : Nat, i = k + j ∧ ∃ z, (toDs ys)[j]? = some z ∧ PyData.eqv z (toD x) = true ∧ ∀ (m : Nat) (u : PyData), m < j → (toDs ys)[m]? = some u → PyData.eqv u (toD x) = false
  | [], k, i, _, e => by cases e
  | y :: ys, k, i, g, e => by
    have g' := Bool.and_eq_true_iff.mp (show (W.good y && W.goods ys) = true from g)
    have q := eqv_data y x g'.1 gx
    have e : (if W.eqv y x = true then some k else indexIn x (k + 1) ys) = some i := e
    by_cases c : W.eqv y x = true
    · rw [if_pos c] at e
      cases e
      exact ⟨0, by simp, toD y, rfl, by rw [q]; exact c, fun m u hm => absurd hm (Nat.not_lt_zero m)⟩
    · rw [if_neg c] at e
      obtain ⟨j, e1, z, h1, h2, h3⟩ := index_at x gx ys (k + 1) i g'.2 e
      refine ⟨j + 1, by rw [e1]; push_cast; omega, z, h1, h2, fun m u hm hu => ?_⟩
      cases m with
      | zero =>
        cases (Option.some.inj hu : toD y = u)
        rw [q]
        exact Bool.eq_false_iff.mpr c
      | succ m => exact h3 m u (Nat.lt_of_succ_lt_succ hm) hu
theorem count_is (x : RL.W) (gx : W.good x = true) : ∀ (ys : List RL.W), W.goods ys = true → (((toDs ys).countP fun y => PyData.eqv y (toD x) : Nat) : Int) = countIn x ys
  | [], _ => rfl
  | y :: ys, g => by
    have g' := Bool.and_eq_true_iff.mp (show (W.good y && W.goods ys) = true from g)
    have ih := count_is x gx ys g'.2
    show (((toD y :: toDs ys).countP fun y => PyData.eqv y (toD x) : Nat) : Int) = b2i (W.eqv y x) + countIn x ys
    rw [List.countP_cons, eqv_data y x g'.1 gx, ← ih]
    cases W.eqv y x
    · simp [b2i]
    · simp [b2i]; omega
section
variable {X : Cx}
theorem index_of {w : RL.W} {ws : List RL.W} {h h' : Hs} {z : RL.W} (e : meth .index w ws h = some (z, h')) : ∃ u ys i, ws = [u] ∧ itemsL h w = some ys ∧ W.good u = true ∧ W.dp u ≤ 60 ∧ W.goods ys = true ∧ indexIn u 0 ys = some i ∧ z = .int i ∧ h' = h := by
  match ws, e with
  | [u], e =>
    have e : ((itemsL h w).bind fun xs => if W.data dep u && W.datas dep xs then (indexIn u 0 xs).map fun i => (RL.W.int i, h) else none) = some (z, h') := e
    obtain ⟨ys, hy, e⟩ := Option.bind_eq_some_iff.mp e
    split at e
    · rename_i hc
      have hc := Bool.and_eq_true_iff.mp hc
      obtain ⟨g1, b1⟩ := data_and hc.1
      obtain ⟨g2, _⟩ := datas_and hc.2
      obtain ⟨i, hi, e⟩ := Option.map_eq_some_iff.mp e
      cases e
      exact ⟨u, ys, i, rfl, hy, g1, b1, g2, hi, rfl, rfl⟩
    · cases e
theorem count_of {w : RL.W} {ws : List RL.W} {h h' : Hs} {z : RL.W} (e : meth .count w ws h = some (z, h')) : ∃ u ys, ws = [u] ∧ itemsL h w = some ys ∧ W.good u = true ∧ W.dp u ≤ 60 ∧ W.goods ys = true ∧ z = .int (countIn u ys) ∧ h' = h := by
  match ws, e with
  | [u], e =>
    have e : ((itemsL h w).bind fun xs => if W.data dep u && W.datas dep xs then some (RL.W.int (countIn u xs), h) else none) = some (z, h') := e
    obtain ⟨ys, hy, e⟩ := Option.bind_eq_some_iff.mp e
    split at e
    · rename_i hc
      have hc := Bool.and_eq_true_iff.mp hc
      obtain ⟨g1, b1⟩ := data_and hc.1
      obtain ⟨g2, _⟩ := datas_and hc.2
      cases e
      exact ⟨u, ys, rfl, hy, g1, b1, g2, rfl, rfl⟩
    · cases e
theorem few_deep (hu : X.A.units + 65 < cLine) {u : RL.W} (ys : List RL.W) (b : W.dp u ≤ 60) : X.A.units + 1 + min (PyData.depthAll (toDs ys)) (toD u).depth < cLine := by
  rw [data_dp]
  have : min (PyData.depthAll (toDs ys)) (W.dp u) ≤ 60 := Nat.le_trans (Nat.min_le_right _ _) b
  omega
theorem me_index (hu : X.A.units + 65 < cLine) : MtR X "list.index" (rMe .index) := by
  intro pins s σ H x xs v us Q I rx rxs ⟨G, w, ws, h, α, z, h', r, rs, sr, e, q⟩
  obtain ⟨u, ys, i, rfl, hy, g1, b1, g2, hi, rfl, rfl⟩ := index_of e
  obtain ⟨a, vs, rfl, h1, q1⟩ := rep_itemsL sr r hy
  cases rx
  obtain ⟨y, rfl, ry⟩ := rs.one
  obtain ⟨uy, rfl, ruy⟩ := rxs.one
  obtain ⟨j, e1, zz, hz, hzj, hno⟩ := index_at u g1 ys 0 i g2 hi
  have e1 : i = (j : Int) := by rw [e1]; simp
  subst e1
  obtain ⟨bs, rd⟩ := Dp.reads I (toD u) y uy (rep_dp (K := X.K) ry g1) ruy
  obtain ⟨its, rv, ⟨⟨cls, dd, data, sls⟩, n, ho, hc, hdn, hdt⟩, hlen⟩ := I.list (.inl (.inl h1))
  simp only at hc hdt
  subst hc hdt
  obtain ⟨as, ra⟩ := Dp.readsAll I (toDs ys) _ its (rep_dps (K := X.K) q1 g2) rv
  have can := datas_can ys g2
  have sz : its.length = (toDs ys).length := SeqAt.ReadsAll.length _ its as ra
  have mp : its.map (SeqAt.readOf s.heap) = toDs ys := SeqAt.readsAll_map _ its as can ra
  have lv := rv.length
  have line := sizeLine_eq
  have jd := (List.getElem?_eq_some_iff.mp hz).1
  have hj : j < its.toArray.size := by simpa using (show j < its.length by omega)
  have read : ∀ (m : Nat) (hm : m < its.toArray.size) (d : PyData), (toDs ys)[m]? = some d → SeqAt.readOf s.heap its.toArray[m] = d := fun m hm d hd => by
    have lt : m < its.length := by simpa using hm
    rw [← mp, List.getElem?_map, List.getElem?_eq_getElem lt] at hd
    simpa using Option.some.inj hd
  have two := PySem.F.args_list_index_2 (.ref a) uy
  refine call_meets PySem.F.slot_list_index ⟨_, ho, rfl⟩ PySem.F.entry_list_index two
    (SeqAt.list_indexAt a its.toArray n dd sls uy (fun v => PyData.eqv (SeqAt.readOf s.heap v) (toD u)) j hj (by omega) ((congrArg (fun d => PyData.eqv d (toD u)) (read j hj zz hz)).trans hzj) fun m hm hmj => ?_)
    ⟨ho, SeqAt.items_eqAt (vs := its.toArray) ra rd can (data_can u g1) (few_deep hu ys b1), .int j, H, I.tok _, ⟨_, rfl⟩, q _ _ (Ext.refl _ _) sr (.int _)⟩
  have hd : (toDs ys)[m]? = some ((toDs ys)[m]'(by omega)) := List.getElem?_eq_getElem _
  exact (congrArg (fun d => PyData.eqv d (toD u)) (read m hm _ hd)).trans (hno m _ hmj hd)
theorem me_count (hu : X.A.units + 65 < cLine) : MtR X "list.count" (rMe .count) := by
  intro pins s σ H x xs v us Q I rx rxs ⟨G, w, ws, h, α, z, h', r, rs, sr, e, q⟩
  obtain ⟨u, ys, rfl, hy, g1, b1, g2, rfl, rfl⟩ := count_of e
  obtain ⟨a, vs, rfl, h1, q1⟩ := rep_itemsL sr r hy
  cases rx
  obtain ⟨y, rfl, ry⟩ := rs.one
  obtain ⟨uy, rfl, ruy⟩ := rxs.one
  obtain ⟨bs, rd⟩ := Dp.reads I (toD u) y uy (rep_dp (K := X.K) ry g1) ruy
  obtain ⟨its, rv, ⟨o, n, ho, hc, hdn, hdt⟩, hlen⟩ := I.list (.inl (.inl h1))
  obtain ⟨as, ra⟩ := Dp.readsAll I (toDs ys) _ its (rep_dps (K := X.K) q1 g2) rv
  refine SeqAt.count_list_data (l := a) (vs := its.toArray) ⟨o, ho, hc, n, hdt⟩ ra rd (PyData.plainAll_of_canLay0 _ (datas_can ys g2)) (PyData.plain_of_canLay0 _ (data_can u g1)) (few_deep hu ys b1) ?_
  rw [count_is u g1 ys g2]
  exact ⟨.int _, H, I.tok _, ⟨_, rfl⟩, q _ _ (Ext.refl _ _) sr (.int _)⟩
/-! ### of tuples -/
theorem tindex_of {w : RL.W} {ws : List RL.W} {h h' : Hs} {z : RL.W} (e : meth .tindex w ws h = some (z, h')) : ∃ u ys i, ws = [u] ∧ w = .tup ys ∧ W.good u = true ∧ W.dp u ≤ 60 ∧ W.goods ys = true ∧ indexIn u 0 ys = some i ∧ z = .int i ∧ h' = h := by
  cases w <;> try (cases e; done)
  rename_i ys
  match ws, e with
  | [u], e =>
    have e : (if W.data dep u && W.datas dep ys then (indexIn u 0 ys).map fun i => (RL.W.int i, h) else none) = some (z, h') := e
    split at e
    · rename_i hc
      have hc := Bool.and_eq_true_iff.mp hc
      obtain ⟨g1, b1⟩ := data_and hc.1
      obtain ⟨g2, _⟩ := datas_and hc.2
      obtain ⟨i, hi, e⟩ := Option.map_eq_some_iff.mp e
      cases e
      exact ⟨u, ys, i, rfl, rfl, g1, b1, g2, hi, rfl, rfl⟩
    · cases e
theorem tcount_of {w : RL.W} {ws : List RL.W} {h h' : Hs} {z : RL.W} (e : meth .tcount w ws h = some (z, h')) : ∃ u ys, ws = [u] ∧ w = .tup ys ∧ W.good u = true ∧ W.dp u ≤ 60 ∧ W.goods ys = true ∧ z = .int (countIn u ys) ∧ h' = h := by
  cases w <;> try (cases e; done)
  rename_i ys
  match ws, e with
  | [u], e =>
    have e : (if W.data dep u && W.datas dep ys then some (RL.W.int (countIn u ys), h) else none) = some (z, h') := e
    split at e
    · rename_i hc
      have hc := Bool.and_eq_true_iff.mp hc
      obtain ⟨g1, b1⟩ := data_and hc.1
      obtain ⟨g2, _⟩ := datas_and hc.2
      cases e
      exact ⟨u, ys, rfl, rfl, g1, b1, g2, rfl, rfl⟩
    · cases e
theorem me_tindex (hu : X.A.units + 65 < cLine) : MtR X "tuple.index" (rMe .tindex) := by
  intro pins s σ H tv args v us Q I rt rargs ⟨G, w, ws, h, α, z, h', r, rs, sr, e, q⟩
  obtain ⟨u, ys, i, rfl, rfl, g1, b1, g2, hi, rfl, rfl⟩ := tindex_of e
  obtain ⟨a, vs, rfl, kt, _, q1⟩ := r.of_tup
  cases rt
  obtain ⟨y, rfl, ry⟩ := rs.one
  obtain ⟨uy, rfl, ruy⟩ := rargs.one
  obtain ⟨j, e1, found, hz, hzj, hno⟩ := index_at u g1 ys 0 i g2 hi
  have e1 : i = (j : Int) := by rw [e1]; simp
  subst e1
  obtain ⟨bs, rd⟩ := Dp.reads I (toD u) y uy (rep_dp (K := X.K) ry g1) ruy
  obtain ⟨its, rv, ⟨⟨cls, dd, data, sls⟩, ho, hc, n, hdt⟩, hlen⟩ := I.tuple (kt.sq (K := X.K))
  simp only at hc hdt
  subst hc hdt
  obtain ⟨as, ra⟩ := Dp.readsAll I (toDs ys) _ its (rep_dps (K := X.K) q1 g2) rv
  have lays := datas_can ys g2
  have same : its.map (SeqAt.readOf s.heap) = toDs ys := SeqAt.readsAll_map _ its as lays ra
  have long : its.length = (toDs ys).length := SeqAt.ReadsAll.length _ its as ra
  have jd := (List.getElem?_eq_some_iff.mp hz).1
  have jn : j < its.toArray.size := by simpa using (show j < its.length by omega)
  have read : ∀ (m : Nat) (hm : m < its.toArray.size) (d : PyData), (toDs ys)[m]? = some d → SeqAt.readOf s.heap its.toArray[m] = d := fun m hm d hd => by
    have lt : m < its.length := by simpa using hm
    rw [← same, List.getElem?_map, List.getElem?_eq_getElem lt] at hd
    simpa using Option.some.inj hd
  refine call_meets PySem.F.slot_tuple_index ⟨_, ho, rfl⟩ PySem.F.entry_tuple_index (PySem.F.args_tuple_index_2 (.ref a) uy)
    (TI.tuple_indexAt a its.toArray n dd sls uy (fun it => PyData.eqv (SeqAt.readOf s.heap it) (toD u)) j jn ((congrArg (fun d => PyData.eqv d (toD u)) (read j jn found hz)).trans hzj) fun m hm before => ?_)
    ⟨ho, SeqAt.items_eqAt (vs := its.toArray) ra rd lays (data_can u g1) (few_deep hu ys b1), .int j, H, I.tok _, ⟨_, rfl⟩, q _ _ (Ext.refl _ _) sr (.int _)⟩
  have there : (toDs ys)[m]? = some ((toDs ys)[m]'(by omega)) := List.getElem?_eq_getElem _
  exact (congrArg (fun d => PyData.eqv d (toD u)) (read m hm _ there)).trans (hno m _ before there)
theorem me_tcount (hu : X.A.units + 65 < cLine) : MtR X "tuple.count" (rMe .tcount) := by
  intro pins s σ H tv args v us Q I rt rargs ⟨G, w, ws, h, α, z, h', r, rs, sr, e, q⟩
  obtain ⟨u, ys, rfl, rfl, g1, b1, g2, rfl, rfl⟩ := tcount_of e
  obtain ⟨a, vs, rfl, kt, _, q1⟩ := r.of_tup
  cases rt
  obtain ⟨y, rfl, ry⟩ := rs.one
  obtain ⟨uy, rfl, ruy⟩ := rargs.one
  obtain ⟨bs, rd⟩ := Dp.reads I (toD u) y uy (rep_dp (K := X.K) ry g1) ruy
  obtain ⟨its, rv, ht, hlen⟩ := I.tuple (kt.sq (K := X.K))
  obtain ⟨as, ra⟩ := Dp.readsAll I (toDs ys) _ its (rep_dps (K := X.K) q1 g2) rv
  refine SeqAt.count_tuple_data (l := a) (vs := its.toArray) ht ra rd (PyData.plainAll_of_canLay0 _ (datas_can ys g2)) (PyData.plain_of_canLay0 _ (data_can u g1)) (few_deep hu ys b1) ?_
  rw [count_is u g1 ys g2]
  exact ⟨.int _, H, I.tok _, ⟨_, rfl⟩, q _ _ (Ext.refl _ _) sr (.int _)⟩
/-- the call of a tuple's method: the object's own form tells that no attribute of its own stands before it -/
def tupM (r : V → List V → Hp → VK → Prop) (to : TE) (t : TA) : TE := fun σ H Q => to σ H fun x H1 => (∃ a vs, x = .ref a ∧ KT H1 a vs) ∧ t σ H1 fun xs H2 => r x xs H2 Q
theorem pe_tupM {r : V → List V → Hp → VK → Prop} {to : TE} {t : TA} {o e : Expr} {name : Str} {id : String} {apos cpos : Pos} (slot : Slot "tuple" name id) (hty : typeOf (.builtin id) = pure (.type "method_descriptor")) (hm : MtR X id r) (ho : PE X o to) (ha : PA X [e] t)
    (hb : notCall o = true) (hline : (apos.endLine == cpos.line) = true) (hs : starEach [e] X.env = [(false, eval e X.env)]) : PE X (.Call (.Attribute o name apos) [e] [] cpos) (tupM r to t) := by
  have few : ((backTo cpos (starEach [e] X.env)).all (fun x => !x.1) && (backToKw cpos (keywordEach [] X.env)).all (fun x => x.1.isSome)
      && decide (([e] : List Expr).length + ([] : List Keyword).length + (if ([] : List Keyword).isEmpty then 0 else 1) < 30)) = true := by rw [hs]; rfl
  constructor
  intro pins s σ H Q I h
  refine wpAny_Call_method_late (att_base hb) few hline rfl (thn (ho.run pins s σ H _ I h) ?_)
  intro v s1 z
  obtain ⟨x, H1, I1, r1, ⟨a, vs, ex, ob, nd, hk⟩, q1⟩ := z
  subst ex
  obtain ⟨at_, _⟩ := I1.hok a _ hk
  obtain ⟨its, rv, ⟨ob', at', hc, _⟩, _⟩ := I1.tuple (.inl (.inr ⟨ob, hk⟩))
  cases r1
  have ty : s1.TypeIs (.ref a) "tuple" := ⟨ob', at', hc⟩
  refine ⟨"tuple", id, PySem.F.plainAttrs_tuple, slot, hty, ty, ?_, ?_⟩
  · intro b eb
    cases eb
    exact ⟨ob, at_, nd⟩
  · have hA := ha.run cpos pins s1 σ H1 _ I1 q1
    rw [hs] at hA ⊢
    refine Calls.callWith_builtin rfl (Calls.evalArgs_plain ?_)
    exact thn hA fun us s2 ⟨vs2, H2, I2, r2, q2⟩ => hm pins s2 σ H2 (.ref a) vs2 (.ref a) us Q I2 rfl r2 q2
theorem sd_tmeth {cv : Cv} {W : WX} {cf : CF} {m : Mt} {o e : Expr} {io ie : E} {name : Str} {id : String} {apos cpos : Pos} (slot : Slot "tuple" name id) (hty : typeOf (.builtin id) = pure (.type "method_descriptor")) (hm : MtR X id (rMe m)) (hma : ∀ h x, metAs m h x = metTp x)
    (ho : PE X o (tR cv W (evE cf io))) (he : PE X e (tR cv W (evE cf ie))) (hb : notCall o = true) (hline : (apos.endLine == cpos.line) = true) (hs : starEach [e] X.env = [(false, eval e X.env)]) :
    PE X (.Call (.Attribute o name apos) [e] [] cpos) (tR cv W (evE cf (.meth m io (.cons ie .nil)))) := by
  refine PE.weak (pe_tupM slot hty hm ho (pa_cons he pa_nil (by rw [hs]; rfl)) hb hline hs) fun σ H Q ⟨G, ρ, h, α, er, sr, p⟩ => ?_
  simp only [evE, evEs, hma] at p
  refine ⟨G, ρ, h, α, er, sr, p.bind fun x h1 α1 H1 c e1 s1 r1 p1 => ?_⟩
  cases x <;> try exact p1.elim
  rename_i ts
  have p1 : Post G cv W σ (relW G) (((evE cf ie ρ h1).bind fun w h => R.bind (.ok [] h) fun us h => R.ok (w :: us) h).bind fun us h => R.ofH (meth m (.tup ts) us h)) α1 H1 Q := p1
  obtain ⟨a, vs, ea, kt, _, _⟩ := r1.of_tup
  refine ⟨⟨a, vs, ea, kt⟩, G, ρ, h1, α1, er.mono e1, s1, ?_⟩
  revert p1
  cases evE cf ie ρ h1 with
  | bad => exact fun z => z
  | ex c h' => exact fun z => z
  | ok y h2 =>
    intro p1 α2 H2 d e2 s2 r2
    have p2 : Post G cv W σ (relW G) (R.ofH (meth m (.tup ts) [y] h2)) α1 H1 Q := p1
    cases qm : meth m (.tup ts) [y] h2 with
    | none => rw [qm] at p2; exact p2.elim
    | some zh =>
      obtain ⟨z, h3⟩ := zh
      rw [qm] at p2
      exact ⟨G, .tup ts, [y], h2, α2, z, h3, r1.mono e2, .cons r2 .nil, s2, qm, fun v H' e3 s3 r3 => p2 α2 H' v (e2.trans e3) s3 r3⟩
end
end RL

/-! Further statements; lists made to be changed. -/
namespace RL
open PySem.Spec PySem PyProof.Rows L2
variable [Tabl]
/-! ### small facts of the text -/
def notStar : Expr → Bool
  | .Starred .. => false
  | _ => true
def notSlice : Expr → Bool
  | .Slice .. => false
  | _ => true
def notComp : Expr → Bool
  | .ListComp .. => false
  | .SetComp .. => false
  | .DictComp .. => false
  | _ => true
def notSet : Expr → Bool
  | .Set .. => false
  | _ => true
def notTup : Expr → Bool
  | .Tuple .. => false
  | _ => true
theorem star_ok {e : Expr} {es : List Expr} {env : PySem.Env} (h : notStar e = true) : starEach (e :: es) env = (false, eval e env) :: starEach es env := by
  cases e <;> first | rfl | exact absurd h Bool.false_ne_true
theorem ix_ok {e : Expr} (h : notSlice e = true) : PlainIx e := by
  intro o i
  cases e <;> first | rfl | exact absurd h Bool.false_ne_true
theorem swap_ok {e : Expr} {t : Option Expr} {l : Nat} {env : PySem.Env} (h : notComp e = true) : swapsWith e t l env = pure false := by
  cases e <;> first | rfl | exact absurd h Bool.false_ne_true
theorem set_ok {e : Expr} {env : PySem.Env} (h : notSet e = true) : ∀ x, foldedSetIterable e env x = pure x := by
  intro x
  cases e <;> first | rfl | exact absurd h Bool.false_ne_true
theorem plain_ok : ∀ {es : List Expr} {env : PySem.Env} {pos : Pos}, es.all notStar = true → (backTo pos (starEach es env)).any (·.1) = false
  | [], _, _, _ => rfl
  | e :: es, env, pos, h => by
    have h' := Bool.and_eq_true_iff.mp (show (notStar e && es.all notStar) = true from h)
    rw [star_ok h'.1]
    exact plain_ok (pos := pos) h'.2
theorem swapped_none {t : Expr} {e : Expr} {env : PySem.Env} (h : notTup e = true) : swappedStores [t] e env = pure none := by
  unfold swappedStores
  cases t <;> cases e <;> first | rfl | exact absurd h Bool.false_ne_true
section
variable {X : Cx} {G : Gx} {cv : Cv} {W : WX} {cf : CF}
theorem st_retN {pos : Pos} : PS X (.Return none pos) (tS cv W (evS cf (.ret (.c .non)))) :=
  PS.weak ps_retN fun D σ H ⟨G, ρ, h, α, er, sr, p⟩ => p α H .non (Ext.refl _ _) sr .non
/-- a, b = e -/
theorem st_sets {es : List Expr} {k : Nat} {is : List Nat} {e : Expr} {ie : E} {tp pos : Pos} (he : PE X e (tR cv W (evE cf ie))) (hg : PG X (.Tuple es k tp) (tG is)) (hc : notComp e = true) (hw : swappedStores [.Tuple es k tp] e X.env = pure none) :
    PS X (.Assign [.Tuple es k tp] e pos) (tS cv W (evS cf (.sets is ie))) := by
  refine PS.weak (ps_asg he hg (by unfold swapsWithSole; exact swap_ok hc) hw (by rfl)) fun D σ H ⟨G, ρ, h, α, er, sr, p⟩ => ?_
  simp only [evS] at p
  refine ⟨G, ρ, h, α, er, sr, PostS.ofE er p fun w h1 α1 H1 v e1 s1 er1 rw1 p1 => ?_⟩
  cases hb : bindT is w ρ with
  | none => simp only [hb] at p1; exact p1.elim
  | some ρ' =>
    simp only [hb] at p1
    exact ⟨G, w, ρ, h1, α1, ρ', rw1, er1, s1, hb, fun σ' er' _ => p1 α1 H1 σ' (Ext.refl _ _) s1 er'⟩
/-- o[i] = e -/
theorem st_sub {o i e : Expr} {io ii ie : E} {tp pos : Pos} (ho : PE X o (tR cv W (evE cf io))) (hi : PE X i (tR cv W (evE cf ii))) (he : PE X e (tR cv W (evE cf ie))) (hc : notComp e = true) (hs : notSlice i = true) :
    PS X (.Assign [.Subscript o i tp] e pos) (tS cv W (evS cf (.sub io ii ie))) := by
  have hg := pg_sub (pos := tp) ho hi (set_list (X := X)) (by
    intro v
    cases i <;> first | rfl | exact absurd hs Bool.false_ne_true)
  refine PS.weak (ps_asg he hg (by unfold swapsWithSole; exact swap_ok hc) (by unfold swappedStores; cases e <;> rfl) (by rfl)) fun D σ H ⟨G, ρ, h, α, er, sr, p⟩ => ?_
  simp only [evS] at p
  refine ⟨G, ρ, h, α, er, sr, PostS.ofE er p fun w h1 α1 H1 v e1 s1 er1 rw1 p1 => ?_⟩
  refine ⟨G, ρ, h1, α1, er1, s1, PostS.ofE er1 p1 fun x h2 α2 H2 vx e2 s2 er2 rx p2 => ?_⟩
  refine ⟨G, ρ, h2, α2, er2, s2, PostS.ofE er2 p2 fun y h3 α3 H3 vy e3 s3 er3 ry p3 => ?_⟩
  cases x <;> cases hy : asInt y <;> simp only [hy] at p3 <;> try exact p3.elim
  rename_i n j
  cases ql : listAt h3 n with
  | none => simp only [ql] at p3; exact p3.elim
  | some xs =>
    simp only [ql] at p3
    cases hk : RL.ixN xs.length j with
    | none => simp only [hk] at p3; exact p3.elim
    | some k =>
      simp only [hk] at p3
      have := asInt_some hy; subst this
      have := ry.of_int; subst this
      obtain ⟨a, vs0, ea, ha, rr⟩ := s3.list ql
      obtain ⟨b, rfl, eb⟩ := (rx.mono e3).of_loc
      rw [ea] at eb; cases eb
      have hm := List.mem_of_getElem? ea
      refine ⟨a, vs0, j, k, rfl, rfl, ha, by rw [← ixN_eq, ← rr.length]; exact hk, ?_⟩
      have rw3 := (rw1.mono e2).mono e3
      have ex : Ext H3 α3 (upd H3 a (.lst (vs0.set k v))) α3 := Ext.set hm (by rw [ha]; simp)
      exact p3 _ _ _ ex (s3.set ea (by rw [ha]; simp) (rr.set rw3 k)) (er3.mono ex)
/-- one place of a list in the store, written anew -/
theorem set_step {h h' : Hs} {α : List Addr} {H : Hp} {x y w : RL.W} {vx vy vw : V} (sr : StR G h α H) (rx : Rep G H α x vx) (ry : Rep G H α y vy) (rw : Rep G H α w vw) (e : setAt h x y w = some h') :
    ∃ p xs k j, vx = .ref p ∧ vy = .int k ∧ H p = some (.lst xs) ∧ L2.ixN xs.length k = some j ∧ Ext H α (upd H p (.lst (xs.set j vw))) α ∧ StR G h' α (upd H p (.lst (xs.set j vw))) := by
  unfold setAt at e
  cases x <;> cases hy : asInt y <;> simp only [hy] at e <;> try cases e
  rename_i n j
  cases ql : listAt h n with
  | none => rw [ql] at e; cases e
  | some xs =>
    rw [ql] at e
    simp only [Option.bind_some] at e
    cases hk : RL.ixN xs.length j with
    | none => rw [hk] at e; cases e
    | some k =>
      rw [hk] at e
      cases e
      have := asInt_some hy; subst this
      have := ry.of_int; subst this
      obtain ⟨a, vs0, ea, ha, rr⟩ := sr.list ql
      obtain ⟨b, rfl, eb⟩ := rx.of_loc
      rw [ea] at eb; cases eb
      have hm := List.mem_of_getElem? ea
      exact ⟨a, vs0, j, k, rfl, rfl, ha, by rw [← ixN_eq, ← rr.length]; exact hk, Ext.set hm (by rw [ha]; simp), sr.set ea (by rw [ha]; simp) (rr.set rw k)⟩
/-- o[i], o2[i2] = a, b -/
theorem st_sub2 {o i o2 i2 e : Expr} {io ii io2 ii2 ie : E} {tp tp2 pt pos : Pos} {kt : Nat} (hcm : X.calm = true) (ho : PE X o (tR cv W (evE cf io))) (hi : PE X i (tR cv W (evE cf ii))) (ho2 : PE X o2 (tR cv W (evE cf io2))) (hi2 : PE X i2 (tR cv W (evE cf ii2))) (he : PE X e (tR cv W (evE cf ie))) (hc : notComp e = true) (hs : notSlice i = true) (hs2 : notSlice i2 = true) :
    PS X (.Assign [.Tuple [.Subscript o i tp, .Subscript o2 i2 tp2] kt pt] e pos) (tS cv W (evS cf (.sub2 io ii io2 ii2 ie))) := by
  have hg := pg_sub (pos := tp) ho hi (set_list (X := X)) (by
    intro v
    cases i <;> first | rfl | exact absurd hs Bool.false_ne_true)
  have hg2 := pg_sub (pos := tp2) ho2 hi2 (set_list (X := X)) (by
    intro v
    cases i2 <;> first | rfl | exact absurd hs2 Bool.false_ne_true)
  have ht := pg_tup (k := kt) (pos := pt) (n := 2) hcm (pgs_cons hg (pgs_cons hg2 pgs_nil (by rfl)) (by rfl)) (by rfl) (by rfl)
  have hw : swappedStores [.Tuple [.Subscript o i tp, .Subscript o2 i2 tp2] kt pt] e X.env = pure none := by
    unfold swappedStores
    cases e <;> first | rfl | skip
    simp only [List.filterMap_cons, List.filterMap_nil, List.length_nil, List.length_cons]
    split
    · rfl
    · split <;> rfl
  refine PS.weak (ps_asg he ht (by unfold swapsWithSole; exact swap_ok hc) hw (by rfl)) fun D σ H ⟨G, ρ, h, α, er, sr, p⟩ => ?_
  simp only [evS] at p
  refine ⟨G, ρ, h, α, er, sr, PostS.ofE er p fun w h1 α1 H1 v e1 s1 er1 rw1 p1 => ?_⟩
  match w, rw1, p1 with
  | .tup [wa, wb], rw1, p1 =>
    obtain ⟨ad, vs, rfl, hr, hf, rs⟩ := rw1.of_tup
    obtain ⟨va, vb, rfl, ra, rb⟩ := rs.two
    have p1 : PostS G cv W ((evE cf io ρ h1).bindS ρ fun x h => (evE cf ii ρ h).bindS ρ fun y h => (R.ofH ((setAt h x y wa).map fun h => (RL.W.non, h))).bindS ρ fun _ h =>
      (evE cf io2 ρ h).bindS ρ fun x h => (evE cf ii2 ρ h).bindS ρ fun y h => (R.ofH ((setAt h x y wb).map fun h => (RL.W.non, h))).bindS ρ fun _ h => .nx ρ h) α1 H1 D := p1
    refine ⟨ad, [va, vb], rfl, hr.sq, rfl, va, [vb], rfl, ?_⟩
    refine ⟨G, ρ, h1, α1, er1, s1, PostS.ofE er1 p1 fun x h2 α2 H2 vx e2 s2 er2 rx p2 => ?_⟩
    refine ⟨G, ρ, h2, α2, er2, s2, PostS.ofE er2 p2 fun y h3 α3 H3 vy e3 s3 er3 ry p3 => ?_⟩
    cases q1 : setAt h3 x y wa with
    | none => rw [q1] at p3; exact p3.elim
    | some h4 =>
      rw [q1] at p3
      obtain ⟨pa, xs, k, j, rfl, rfl, ha, hk, ex, sx⟩ := set_step s3 (rx.mono e3) ry ((ra.mono e2).mono e3) q1
      refine ⟨pa, xs, k, j, rfl, rfl, ha, hk, vb, [], rfl, ?_⟩
      have er4 := er3.mono ex
      have p3 : PostS G cv W ((evE cf io2 ρ h4).bindS ρ fun x h => (evE cf ii2 ρ h).bindS ρ fun y h => (R.ofH ((setAt h x y wb).map fun h => (RL.W.non, h))).bindS ρ fun _ h => .nx ρ h) α3 (upd H3 pa (.lst (xs.set j va))) D := p3.base ex
      have rb3 := ((rb.mono e2).mono e3).mono ex
      refine ⟨G, ρ, h4, α3, er4, sx, PostS.ofE er4 p3 fun x5 h5 α5 H5 vx5 e5 s5 er5 rx5 p5 => ?_⟩
      refine ⟨G, ρ, h5, α5, er5, s5, PostS.ofE er5 p5 fun y6 h6 α6 H6 vy6 e6 s6 er6 ry6 p6 => ?_⟩
      cases q2 : setAt h6 x5 y6 wb with
      | none => rw [q2] at p6; exact p6.elim
      | some h7 =>
        rw [q2] at p6
        obtain ⟨pb, xs2, k2, j2, rfl, rfl, ha2, hk2, ex2, sx2⟩ := set_step s6 (rx5.mono e6) ry6 ((rb3.mono e5).mono e6) q2
        refine ⟨pb, xs2, k2, j2, rfl, rfl, ha2, hk2, rfl, ?_⟩
        exact p6 _ _ _ ex2 sx2 (er6.mono ex2)
/-- x, y = a, b : two plain locals -/
theorem st_par2 {i j : Nat} {x y : Str} {a b : Expr} {ia ib : E} {px py pt pos : Pos} {kt k2 : Nat} {pt2 : Pos} (hc : X.calm = true) (hN : X.N.Nodup) (hi : X.N[i]? = some x) (hj : X.N[j]? = some y) (hij : i ≠ j)
    (hx : X.env.scope.names.lookup x = some .local) (hy : X.env.scope.names.lookup y = some .local) (ha : PA X [a, b] (tRA cv W (evEs cf (.cons ia (.cons ib .nil)))))
    (hw : swappedStores [.Tuple [.Name x px, .Name y py] kt pt] (.Tuple [a, b] k2 pt2) X.env = pure (some [x, y])) :
    PS X (.Assign [.Tuple [.Name x px, .Name y py] kt pt] (.Tuple [a, b] k2 pt2) pos) (tS cv W (evS cf (.par [i, j] (.cons ia (.cons ib .nil))))) := by
  refine PS.weak (ps_par hc hN hi hj hij hx hy ha hw (by rfl)) fun D σ H ⟨G, ρ, h, α, er, sr, p⟩ => ?_
  simp only [evS] at p
  refine ⟨G, ρ, h, α, er, sr, PostS.ofE er p fun ws h1 α1 H1 vs e1 s1 er1 rs p1 => ?_⟩
  match ws, rs, p1 with
  | [w1, w2], .cons r1 (.cons r2 .nil), p1 => exact ⟨_, _, rfl, p1 _ _ _ (Ext.refl _ _) s1 ((er1.set i r1).set j r2)⟩
  | [], _, p1 => exact p1.elim
  | [_], _, p1 => exact p1.elim
  | _ :: _ :: _ :: _, _, p1 => exact p1.elim
theorem st_par3 {i j l : Nat} {x y z : Str} {a b c : Expr} {ia ib ic : E} {px py pz pt pos : Pos} {kt k2 : Nat} {pt2 : Pos} (hc : X.calm = true) (hN : X.N.Nodup) (hi : X.N[i]? = some x) (hj : X.N[j]? = some y) (hl : X.N[l]? = some z) (hij : i ≠ j) (hil : i ≠ l) (hjl : j ≠ l)
    (hx : X.env.scope.names.lookup x = some .local) (hy : X.env.scope.names.lookup y = some .local) (hz : X.env.scope.names.lookup z = some .local) (ha : PA X [a, b, c] (tRA cv W (evEs cf (.cons ia (.cons ib (.cons ic .nil))))))
    (hw : swappedStores [.Tuple [.Name x px, .Name y py, .Name z pz] kt pt] (.Tuple [a, b, c] k2 pt2) X.env = pure (some [x, y, z])) :
    PS X (.Assign [.Tuple [.Name x px, .Name y py, .Name z pz] kt pt] (.Tuple [a, b, c] k2 pt2) pos) (tS cv W (evS cf (.par [i, j, l] (.cons ia (.cons ib (.cons ic .nil)))))) := by
  refine PS.weak (ps_par3 hc hN hi hj hl hij hil hjl hx hy hz ha hw (by rfl)) fun D σ H ⟨G, ρ, h, α, er, sr, p⟩ => ?_
  simp only [evS] at p
  refine ⟨G, ρ, h, α, er, sr, PostS.ofE er p fun ws h1 α1 H1 vs e1 s1 er1 rs p1 => ?_⟩
  match ws, rs, p1 with
  | [w1, w2, w3], .cons r1 (.cons r2 (.cons r3 .nil)), p1 => exact ⟨_, _, _, rfl, p1 _ _ _ (Ext.refl _ _) s1 (((er1.set i r1).set j r2).set l r3)⟩
  | [], _, p1 => exact p1.elim
  | [_], _, p1 => exact p1.elim
  | [_, _], _, p1 => exact p1.elim
  | _ :: _ :: _ :: _ :: _, _, p1 => exact p1.elim
/-- raise C() or raise C('..') -/
structure ExcG (X : Cx) (cv : Cv) (c : Str) : Prop where
  ex : ∃ C, X.mg c = some (.ref C) ∧ PySem.W.excIn X.K C He.veBase "ValueError.__new__" = true ∧ PySem.W.keepIn X.K (.ref C) = true ∧
    PySem.W.subIn X.K (.ref C) (.type "BaseException") = some true ∧ PySem.W.typeIn X.K (.ref C) = some (.type "type") ∧ cv c = .ref C
/-! ### made to be changed -/
/-- the outcome of an operation that makes a list -/
def rOpM (f : RL.W → RL.W → Hs → Option RL.W) : R2 := fun x y H Q => ∃ G w u h α zs, Rep G H α w x ∧ Rep G H α u y ∧ StR G h α H ∧ f w u h = some (.lst zs) ∧
  ∀ v α' H', Ext H α H' α' → StR G (h ++ [.lst zs]) α' H' → Rep G H' α' (.loc h.length) v → Q v H'
theorem sd_mutbin {a b : Expr} {ia ib : E} {op : Operator} {iop : Bop} {pos : Pos} (ho : OpR X (binaryOp op) (rOpM (bop iop))) (ha : PE X a (tR cv W (evE cf ia))) (hb : PE X b (tR cv W (evE cf ib))) :
    PE X (.BinOp a op b pos) (tR cv W (evE cf (.mut (.bin iop ia ib)))) := by
  refine PE.weak (pe_op ho ha hb) fun σ H Q ⟨G, ρ, h, α, er, sr, p⟩ => ?_
  have p : Post G cv W σ (relW G) (((evE cf ia ρ h).bind fun x h => (evE cf ib ρ h).bind fun y h => R.of (bop iop x y h) h).bind fun x h => match x with
    | .lst ws => .ok (.loc h.length) (h ++ [.lst ws])
    | _ => .bad) α H Q := p
  have ass : ∀ {A B C : Type} (x : R A) (f : A → Hs → R B) (g : B → Hs → R C), (x.bind f).bind g = x.bind fun a h => (f a h).bind g := fun x f g => by cases x <;> rfl
  rw [ass] at p
  refine ⟨G, ρ, h, α, er, sr, p.bind fun x h1 α1 H1 c e1 s1 r1 p1 => ?_⟩
  rw [ass] at p1
  refine ⟨G, ρ, h1, α1, er.mono e1, s1, p1.bind fun y h2 α2 H2 d e2 s2 r2 p2 => ?_⟩
  cases q : bop iop x y h2 with
  | none => rw [q] at p2; exact p2.elim
  | some z =>
    rw [q] at p2
    cases z <;> try exact p2.elim
    rename_i zs
    exact ⟨G, x, y, h2, α2, zs, r1.mono e2, r2, s2, q, fun v α' H' e' s' r' => p2.ok' e' s' r'⟩
theorem len_at {α : List Addr} {p : Addr} {h : Hs} (l : α.length = h.length) : (α ++ [p])[h.length]? = some p := by
  rw [← l, List.getElem?_append_right (Nat.le_refl _)]; simp
/-- the outcome of a call that makes a list to be changed -/
def rClM (f : List RL.W → Hs → Option RL.W) : List V → Hp → VK → Prop := fun xs H Q => ∃ G ws h α zs, Reps G H α ws xs ∧ StR G h α H ∧ f ws h = some (.lst zs) ∧
  ∀ v α' H', Ext H α H' α' → StR G (h ++ [.lst zs]) α' H' → Rep G H' α' (.loc h.length) v → Q v H'
theorem cl_listM : CallR X (.type "list") (rClM (blt .list)) := CallR.weak call_list_of fun xs H Q ⟨G, ws, h, α, zs, r, sr, e, q⟩ => by
  obtain ⟨x, ys, rfl, q1, e2⟩ := bl_list e
  cases e2
  obtain ⟨v, rfl, rv⟩ := r.one
  rcases rep_items sr rv q1 with ⟨a, vs, rfl, hr, rs, _⟩ | ⟨a, vs, rfl, hr, rs, et⟩
  · exact ⟨a, vs, rfl, .inl (.inl hr), fun l hl => q _ _ _ (Ext.push hl) (sr.push hl rs) (.loc (len_at sr.len))⟩
  · exact ⟨a, vs, rfl, .inr (.inl hr), fun l hl => q _ _ _ (Ext.push hl) (sr.push hl rs) (.loc (len_at sr.len))⟩
theorem cl_argsM {b : Bi} {ies : Es} {σ : L2.St} {H : Hp} {Q : VK} : tR cv W (evE cf (.mut (.blt b ies))) σ H Q → tRA cv W (evEs cf ies) σ H fun vs H1 => rClM (blt b) vs H1 Q := fun ⟨G, ρ, h, α, er, sr, p⟩ => by
  have p : Post G cv W σ (relW G) (((evEs cf ies ρ h).bind fun ws h => R.of (blt b ws h) h).bind fun x h => match x with
    | .lst ws => .ok (.loc h.length) (h ++ [.lst ws])
    | _ => .bad) α H Q := p
  have ass : ∀ {A B C : Type} (x : R A) (f : A → Hs → R B) (g : B → Hs → R C), (x.bind f).bind g = x.bind fun a h => (f a h).bind g := fun x f g => by cases x <;> rfl
  rw [ass] at p
  refine ⟨G, ρ, h, α, er, sr, p.bind fun ws h1 α1 H1 c e1 s1 r1 p1 => ?_⟩
  cases q : blt b ws h1 with
  | none => rw [q] at p1; exact p1.elim
  | some z =>
    rw [q] at p1
    cases z <;> try exact p1.elim
    rename_i zs
    exact ⟨G, ws, h1, α1, zs, r1, s1, q, fun v α' H' e' s' r' => p1.ok' e' s' r'⟩
theorem bind_asR {α β γ : Type} (r : R α) (f : α → Hs → R β) (g : β → Hs → R γ) : (r.bind f).bind g = r.bind fun x h => (f x h).bind g := by cases r <;> rfl
/-- a slice of a list that is changed later -/
theorem sd_mutsl {a : Expr} {lo hi : Option Expr} {ia : E} {il iu : Oe} {pos p2 : Pos} (ha : PE X a (tR cv W (evE cf ia)))
    (hl : PO X lo (fun σ H Q => ∃ G ρ h α, EnvR G ρ α σ H ∧ StR G h α H ∧ Post G cv W σ relE (evOe cf il ρ h) α H Q)) (hu : PO X hi (fun σ H Q => ∃ G ρ h α, EnvR G ρ α σ H ∧ StR G h α H ∧ Post G cv W σ relE (evOe cf iu ρ h) α H Q)) :
    PE X (.Subscript a (.Slice lo hi none p2) pos) (tR cv W (evE cf (.mut (.sl ia il iu)))) := by
  refine PE.weak (pe_slice (SlR.or sl_tupA sl_list) ha hl hu) fun σ H Q ⟨G, ρ, h, α, er, sr, p⟩ => ?_
  simp only [evE, bind_asR] at p
  refine ⟨G, ρ, h, α, er, sr, p.bind fun x h1 α1 H1 c e1 s1 r1 p1 => ?_⟩
  refine ⟨G, ρ, h1, α1, er.mono e1, s1, p1.bind fun l h2 α2 H2 d e2 s2 r2 p2 => ?_⟩
  subst r2
  refine ⟨G, ρ, h2, α2, (er.mono e1).mono e2, s2, p2.bind fun u h3 α3 H3 d e3 s3 r3 p3 => ?_⟩
  subst r3
  have rx := (r1.mono e2).mono e3
  cases q : items h3 x with
  | none => cases x <;> simp only [slc, q] at p3 <;> first | exact p3.elim | (simp [items] at q)
  | some xs =>
    rcases rep_items s3 rx q with ⟨a, vs, ec, hr, rs, nt⟩ | ⟨a, vs, ec, hr, rs, et⟩
    · have eq : slc h3 x l u = some (.lst (cut xs l u)) := by cases x <;> first | exact absurd rfl (nt _) | (simp only [slc, q]; rfl)
      rw [eq] at p3
      have p3 : Post G cv W σ (relW G) (.ok (.loc h3.length) (h3 ++ [.lst (cut xs l u)])) α3 H3 Q := p3
      refine .inr ⟨a, vs, ec, .inl hr, fun b hb => ?_⟩
      exact p3.ok' (Ext.push hb) (s3.push hb (cut_eq rs l u)) (.loc (by rw [List.getElem?_append_right (Nat.le_of_eq s3.len), s3.len, Nat.sub_self]; rfl))
    · subst et
      exact (show False from p3).elim
theorem sd_mutlist {x : Str} {e : Expr} {es : List Expr} {ies : Es} {p pos : Pos} (hg : Gl X x) (hm : X.mg x = none) (hv : bootBuiltins x = some (.type "list"))
    (ha : PA X (e :: es) (tRA cv W (evEs cf ies))) (hn : x ≠ "__name__") (hd : (x == ("__debug__" : Str)) = false) (he : starEach (e :: es) X.env = (false, eval e X.env) :: starEach es X.env) (hpl : (backTo pos (starEach es X.env)).any (·.1) = false) :
    PE X (.Call (.Name x p) (e :: es) [] pos) (tR cv W (evE cf (.mut (.blt .list ies)))) :=
  PE.weak (pe_callTy cl_listM hg hm hv ha hn hd he hpl) fun σ H Q q => cl_argsM q
theorem so_mulM : OpR X (binaryOp .Mult) (rOpM (bop .mul)) := by
  intro pins s σ H x y v u Q I rx ry ⟨G, w, w', h, α, zs, r1, r2, sr, e, q⟩
  cases w <;> cases w' <;> simp only [bop] at e <;> try cases e
  · split at e <;> cases e
  · split at e <;> cases e
  · split at e <;> cases e
    rename_i ws k hc
    obtain ⟨a, vs, rfl, hr, hf, hv⟩ := r1.of_lst
    have := r2.of_int; subst this
    have hk := inRng_lt hc.2
    refine op_rep pins s σ H _ _ v u Q I rx ry ⟨a, k, vs, rfl, rfl, hr, by omega, by omega, by rw [← hv.length]; exact lim_size hc.1, fun p hp => ?_⟩
    exact q _ _ _ (Ext.push hp) (sr.push hp (hv.rep _)) (.loc (len_at sr.len))
theorem so_addM : OpR X (binaryOp .Add) (rOpM (bop .add)) := by
  intro pins s σ H x y v u Q I rx ry ⟨G, w, w', h, α, zs, r1, r2, sr, e, q⟩
  have lst2 : ((itemsL h w).bind fun a => (itemsL h w').bind fun b => if a.length + b.length ≤ lim then some (RL.W.lst (a ++ b)) else none) = some (.lst zs) → wpAny (model X.prog X.w) X.A (binaryOp .Add v u) (EP X pins σ Q) X.xe s := by
    intro e
    obtain ⟨a, ha, e⟩ := Option.bind_eq_some_iff.mp e
    obtain ⟨b, hb, e⟩ := Option.bind_eq_some_iff.mp e
    by_cases hl : a.length + b.length ≤ lim
    rotate_left
    · rw [if_neg hl] at e; cases e
    rw [if_pos hl] at e
    cases e
    obtain ⟨p1, vs, rfl, h1, q1⟩ := rep_itemsL sr r1 ha
    obtain ⟨p2, vs2, rfl, h2, q2⟩ := rep_itemsL sr r2 hb
    refine op_cat pins s σ H _ _ v u Q I rx ry ⟨p1, p2, vs, vs2, rfl, rfl, h1, h2, by rw [← q1.length, ← q2.length]; exact lim_size hl, fun p hp => ?_⟩
    exact q _ _ _ (Ext.push hp) (sr.push hp (q1.append q2)) (.loc (len_at sr.len))
  have no : ∀ {c : Prop} [Decidable c] {z : RL.W}, (∀ l, z ≠ .lst l) → (if c then some z else none) ≠ some (RL.W.lst zs) := by
    intro c _ z hz e
    split at e
    · exact hz zs (Option.some.inj e)
    · cases e
  cases w <;> cases w' <;> first | (cases e; done) | exact lst2 e | exact absurd e (no fun l => by simp)
end
end RL

/-! list(range(..)), tuple(range(..)). -/
namespace RL
open PySem.Spec PySem PyProof.Rows L2
variable [Tabl]
theorem rngL_map (n : Nat) (lo : Int) : rngL lo n = (List.range n).map fun i => RL.W.int (lo + (i : Nat)) := by
  apply List.ext_getElem?
  intro i
  rw [rngL_get, List.getElem?_map]
  by_cases h : i < n
  · rw [if_pos h, List.getElem?_range h]; rfl
  · rw [if_neg h, List.getElem?_eq_none (by simpa using h)]; rfl
theorem reps_rng {G : Gx} {H : Hp} {α : List Addr} {a b : Int} : Reps G H α (rngL a (b - a).toNat) (rgV a b) := by
  rw [rngL_map]
  unfold rgV
  generalize List.range (b - a).toNat = l
  induction l with
  | nil => exact .nil
  | cons i l ih => exact .cons (.int _) ih
section
variable {X : Cx} {G : Gx} {cv : Cv} {W : WX} {cf : CF}
theorem rgOk_of {a b : Int} {ws : List RL.W} (h : rngV a b = some ws) : RgOk a b ∧ ws = rngL a (b - a).toNat := by
  obtain ⟨rfl, hl, ha, hb⟩ := rngV_some h
  refine ⟨⟨ha.1, ha.2, hb.1, hb.2, ?_⟩, rfl⟩
  have : lim ≤ 2 ^ 24 := by decide
  omega
/-- the rest, where the bounds are known -/
theorem rng_end {a b : Int} {mk : List RL.W → RL.W} {ly : Hp → List V → VK → Prop} {σ : L2.St} {h : Hs} {α : List Addr} {H : Hp} {Q : VK}
    (p : Post G cv W σ (relW G) (R.of ((rngV a b).map mk) h) α H Q) (s : StR G h α H) (hk : ∀ {ws : List RL.W} {vs : List V}, StR G h α H → Reps G H α ws vs → (∀ v H', Ext H α H' α → StR G h α H' → Rep G H' α (mk ws) v → Q v H') → ly H vs Q) :
    RgOk a b ∧ ly H (rgV a b) Q := by
  cases hr : rngV a b with
  | none => rw [hr] at p; exact p.elim
  | some ws =>
    rw [hr] at p
    obtain ⟨ok, rfl⟩ := rgOk_of hr
    exact ⟨ok, hk s reps_rng fun v H' e s' r => p _ _ _ e s' r⟩
theorem rng_val {x : RL.W} {f : Int → Option RL.W} {σ : L2.St} {h : Hs} {α : List Addr} {H : Hp} {Q : VK} (p : Post G cv W σ (relW G) (R.of ((asInt x).bind f) h) α H Q) : ∃ n, x = .int n ∧ Post G cv W σ (relW G) (R.of (f n) h) α H Q := by
  cases hx : asInt x with
  | none => rw [hx] at p; exact p.elim
  | some n => rw [hx] at p; exact ⟨n, asInt_some hx, p⟩
theorem rng_one {b : Expr} {ib : E} {mk : List RL.W → RL.W} {ly : Hp → List V → VK → Prop} {σ : L2.St} {H : Hp} {Q : VK} {e : E} (he : ∀ ρ h, evE cf e ρ h = (evE cf ib ρ h).bind fun y h => R.of ((asInt y).bind fun j => (rngV 0 j).map mk) h)
    (hk : ∀ {G : Gx} {α : List Addr} {h : Hs} {H : Hp} {ws : List RL.W} {vs : List V} {Q : VK}, StR G h α H → Reps G H α ws vs → (∀ v H', Ext H α H' α → StR G h α H' → Rep G H' α (mk ws) v → Q v H') → ly H vs Q) :
    tR cv W (evE cf e) σ H Q → tRg1 (tR cv W (evE cf ib)) σ H fun a b H1 => RgOk a b ∧ ly H1 (rgV a b) Q := by
  rintro ⟨G, ρ, h, α, er, sr, p⟩
  rw [he] at p
  refine ⟨G, ρ, h, α, er, sr, p.bind fun x h1 α1 H1 c e1 s1 r1 p1 => ?_⟩
  obtain ⟨n, rfl, p2⟩ := rng_val p1
  exact ⟨n, r1.of_int, rng_end p2 s1 hk⟩
theorem rng_two {ia ib : E} {mk : List RL.W → RL.W} {ly : Hp → List V → VK → Prop} {σ : L2.St} {H : Hp} {Q : VK} {e : E} (he : ∀ ρ h, evE cf e ρ h = (evOe cf (.some ia) ρ h).bind fun i h => (evE cf ib ρ h).bind fun y h => R.of ((asInt y).bind fun j => (rngV (i.getD 0) j).map mk) h)
    (hk : ∀ {G : Gx} {α : List Addr} {h : Hs} {H : Hp} {ws : List RL.W} {vs : List V} {Q : VK}, StR G h α H → Reps G H α ws vs → (∀ v H', Ext H α H' α → StR G h α H' → Rep G H' α (mk ws) v → Q v H') → ly H vs Q) :
    tR cv W (evE cf e) σ H Q → tRg2 (tR cv W (evE cf ia)) (tR cv W (evE cf ib)) σ H fun a b H1 => RgOk a b ∧ ly H1 (rgV a b) Q := by
  rintro ⟨G, ρ, h, α, er, sr, p⟩
  rw [he] at p
  have ass : ∀ {A B C : Type} (x : R A) (f : A → Hs → R B) (g : B → Hs → R C), (x.bind f).bind g = x.bind fun a h => (f a h).bind g := fun x f g => by cases x <;> rfl
  simp only [evOe, ass] at p
  refine ⟨G, ρ, h, α, er, sr, p.bind fun x h1 α1 H1 c e1 s1 r1 p1 => ?_⟩
  cases hx : asInt x with
  | none => rw [hx] at p1; exact p1.elim
  | some i =>
    have := asInt_some hx
    subst this
    have p1 : Post G cv W σ (relW G) ((evE cf ib ρ h1).bind fun y h => R.of ((asInt y).bind fun j => (rngV i j).map mk) h) α1 H1 Q := p1
    refine ⟨G, ρ, h1, α1, er.mono e1, s1, p1.bind fun y h2 α2 H2 d e2 s2 r2 p2 => ?_⟩
    obtain ⟨n, rfl, p3⟩ := rng_val p2
    have := r1.of_int
    subst this
    exact ⟨i, n, rfl, r2.of_int, rng_end p3 s2 hk⟩
theorem sd_lrng1 {b : Expr} {ib : E} {p p2 q pos : Pos} (hc : X.calm = true) (hg : Gl X "list") (hm : X.mg "list" = none) (hg2 : Gl X "range") (hm2 : X.mg "range" = none) (hb : PE X b (tR cv W (evE cf ib))) (sb : notStar b = true) :
    PE X (.Call (.Name "list" p) [.Call (.Name "range" p2) [b] [] q] [] pos) (tR cv W (evE cf (.lrng .none ib))) :=
  PE.weak (pe_listRg hc hg hm (prg_1 hg2 hm2 hb (star_ok sb)) rfl) fun σ H Q h => rng_one (b := b) (mk := .lst) (ly := fun H xs Q => ∀ q, H q = none → Q (.ref q) (upd H q (.lst xs))) (fun ρ h => by simp only [evE, evOe]; rfl) (fun s r f q hq => f _ _ (Ext.new hq) (s.new hq) (.lst upd_same (s.fz hq) (r.mono (Ext.new hq)))) h
theorem sd_lrng2 {a b : Expr} {ia ib : E} {p p2 q pos : Pos} (hc : X.calm = true) (hg : Gl X "list") (hm : X.mg "list" = none) (hg2 : Gl X "range") (hm2 : X.mg "range" = none) (ha : PE X a (tR cv W (evE cf ia))) (hb : PE X b (tR cv W (evE cf ib))) (sa : notStar a = true) (sb : notStar b = true) :
    PE X (.Call (.Name "list" p) [.Call (.Name "range" p2) [a, b] [] q] [] pos) (tR cv W (evE cf (.lrng (.some ia) ib))) :=
  PE.weak (pe_listRg hc hg hm (prg_2 hg2 hm2 ha hb (star_ok sa) (star_ok sb) (plain_ok (by simp [sb]))) rfl) fun σ H Q h => rng_two (mk := .lst) (ly := fun H xs Q => ∀ q, H q = none → Q (.ref q) (upd H q (.lst xs))) (fun ρ h => by simp only [evE]) (fun s r f q hq => f _ _ (Ext.new hq) (s.new hq) (.lst upd_same (s.fz hq) (r.mono (Ext.new hq)))) h
theorem sd_trng1 {b : Expr} {ib : E} {p p2 q pos : Pos} (hc : X.calm = true) (hg : Gl X "tuple") (hm : X.mg "tuple" = none) (hg2 : Gl X "range") (hm2 : X.mg "range" = none) (hb : PE X b (tR cv W (evE cf ib))) (sb : notStar b = true) :
    PE X (.Call (.Name "tuple" p) [.Call (.Name "range" p2) [b] [] q] [] pos) (tR cv W (evE cf (.trng .none ib))) :=
  PE.weak (pe_tupRgK hc hg hm (prg_1 hg2 hm2 hb (star_ok sb)) rfl) fun σ H Q h => rng_one (b := b) (mk := .tup) (ly := Lays) (fun ρ h => by simp only [evE, evOe]; rfl) (fun s r f q _ hd hq => f _ _ (Ext.new hq) (s.new hq) (.tup upd_same hd (s.fz hq) (r.mono (Ext.new hq)))) h
theorem sd_trng2 {a b : Expr} {ia ib : E} {p p2 q pos : Pos} (hc : X.calm = true) (hg : Gl X "tuple") (hm : X.mg "tuple" = none) (hg2 : Gl X "range") (hm2 : X.mg "range" = none) (ha : PE X a (tR cv W (evE cf ia))) (hb : PE X b (tR cv W (evE cf ib))) (sa : notStar a = true) (sb : notStar b = true) :
    PE X (.Call (.Name "tuple" p) [.Call (.Name "range" p2) [a, b] [] q] [] pos) (tR cv W (evE cf (.trng (.some ia) ib))) :=
  PE.weak (pe_tupRgK hc hg hm (prg_2 hg2 hm2 ha hb (star_ok sa) (star_ok sb) (plain_ok (by simp [sb]))) rfl) fun σ H Q h => rng_two (mk := .tup) (ly := Lays) (fun ρ h => by simp only [evE]) (fun s r f q _ hd hq => f _ _ (Ext.new hq) (s.new hq) (.tup upd_same hd (s.fz hq) (r.mono (Ext.new hq)))) h
end
end RL

/-! The text and the evaluator's term: a check, and what it is worth. -/
namespace RL
open PySem.Spec PySem PyProof.Rows L2
/-- .. where no lambda is made -/
def Tb.nolam (T : Tb) : Tb := { T with lam := false }
def Tb.lamb (T : Tb) (b : Bool) : Tb := { T with lam := b }
def bangS : Str := Str.ofString "!"
def parenS : Str := Str.ofString "("
/-- no parameter -/
def noPs (p : Arguments) : Bool := p.posonlyargs.isEmpty && p.args.isEmpty && p.vararg.isNone && p.kwonlyargs.isEmpty && p.kw_defaults.isEmpty && p.kwarg.isNone && p.defaults.isEmpty
def ndbg (x : Str) : Bool := !(x == ("__debug__" : Str)) && !(x == ("__classdict__" : Str)) && !(x == ("__name__" : Str))
def gloB (sc : Scope) (x : Str) : Bool := decide (sc.names.lookup x = some .globalImplicit) && ndbg x
def locB (sc : Scope) (x : Str) : Bool := decide (sc.names.lookup x = some .local) || decide (sc.names.lookup x = some .cell)
def visB (sc : Scope) (x : Str) : Bool := locB sc x || decide (sc.names.lookup x = some .free)
def okV (sc : Scope) (N : List Str) (i : Nat) (x : Str) : Bool := decide (N[i]? = some x) && visB sc x && ndbg x
def okC (w : RL.W) (c : Const) : Bool := match c, w with
  | .none, .non => true
  | .bool a, .bl b => a == b
  | .int a, .int b => a == b
  | .str a, .str b => a == b
  | _, _ => false
/-- a comprehension's names, as its block sees them -/
def relabS (sc scope : Scope) : Scope :=
  { scope with names := scope.names.map fun (y, k) => if (k == .free && sc.kind == .function && sc.names.lookup y == some .cell) then (y, .cell) else (y, k) }
def ownOf (N : List Str) (tgs : List Nat) : List (Str × Nat) := tgs.map fun i => (N.getD i (Str.ofString ""), i)
def blkB (N : List Str) (sc scope : Scope) (tgs : List Nat) : Bool :=
  decide (scope.kind = .function) && scope.names.all (fun y => decide (scope.names.lookup y.1 = some y.2)) && tgs.all (fun i => decide (i < N.length)) &&
  scope.names.all (fun y => decide (y.2 ≠ .free) || decide (sc.names.lookup y.1 = some .cell) || decide (sc.names.lookup y.1 = some .free)) &&
  scope.names.all (fun y => (decide (y.2 ≠ .local) && decide (y.2 ≠ .cell)) || (ownOf N tgs).any (fun p => decide (p.1 = y.1)) || !N.any (fun z => decide (z = y.1)))
/-- a target: names with their places; o tells which names may be stored to -/
def okNm (o : Str → Bool) (N : List Str) (i : Nat) (e : Expr) : Bool := match e with
  | .Name x _ => decide (N[i]? = some x) && o x
  | _ => false
def okNms (o : Str → Bool) (N : List Str) : List Nat → List Expr → Bool
  | [], [] => true
  | i :: is, e :: es => okNm o N i e && okNms o N is es
  | _, _ => false
def okTg (o : Str → Bool) (N : List Str) (tgs : List Nat) (e : Expr) : Bool := match tgs, e with
  | [i], e => okNm o N i e
  | is, .Tuple es _ _ => decide (2 ≤ is.length) && okNms o N is es
  | _, _ => false
def isTup : Expr → Bool
  | .Tuple .. => true
  | _ => false
/-- a built-in function's or type's name -/
def biN : Bi → Option (Bool × String)
  | .len => some (false, "len")
  | .lent => some (false, "len")
  | .sum => some (false, "sum")
  | .all => some (false, "all")
  | .any => some (false, "any")
  | .max => some (false, "max")
  | .min => some (false, "min")
  | .repr => some (false, "repr")
  | .tuple => some (true, "tuple")
  | .sorted => some (false, "sorted")
  | .int => some (true, "int")
  | .str => some (true, "str")
  | .suml => some (false, "sum")
  | .list => some (true, "list")
  | .mint => some (false, "min")
  | _ => none
def meN : Mt → Option String
  | .append => some "append"
  | .extend => some "extend"
  | .pop => some "pop"
  | .index => some "index"
  | .count => some "count"
  | _ => none
/-- a tuple's method by its name -/
def tmB : Mt → Str → Bool
  | .tindex, n => decide (n = Str.ofString "index")
  | .tcount, n => decide (n = Str.ofString "count")
  | _, _ => false
def valN : Str := Str.ofString "ValueError"
def isiN : Str := Str.ofString "isinstance"
def madeN : Bool → Str
  | true => valN
  | false => ringN
def frB (T : Tb) (sc : Scope) (x : Str) (n : String) : Bool := decide (x = Str.ofString n) && gloB sc x && T.fr.any fun y => decide (y = x)
/-- a type's name behind isinstance -/
def okTail (T : Tb) (sc : Scope) (n : String) (es : Es) (ys : List Expr) : Bool := match es, ys with
  | .nil, [.Name z _] => frB T sc z n
  | _, _ => false
def okBi (b : Bi) (f g : String → Bool) : Bool := match biN b with
  | some (_, n) => f n
  | none => match isB b with
    | some n => g n
    | none => false
def meB (m : Mt) (nm : Str) (z : Bool) : Bool := match meN m with
  | some n => decide (nm = Str.ofString n) && (!z || decide (n = "pop"))
  | none => false
def onRng (x : Expr) (f : Str → Str → List Expr → Bool) : Bool := match x with
  | .Call (.Name n _) [.Call (.Name m _) es [] _] [] _ => f n m es
  | _ => false
theorem onRng_ok {x : Expr} {f : Str → Str → List Expr → Bool} (h : onRng x f = true) : ∃ n p m p2 es p3 p4, x = .Call (.Name n p) [.Call (.Name m p2) es [] p3] [] p4 ∧ f n m es = true := by
  unfold onRng at h
  split at h
  · exact ⟨_, _, _, _, _, _, _, rfl, h⟩
  · cases h
/-- a comprehension of one for -/
def onC (gs : List Comprehension) (f : Expr → Expr → List Expr → Bool) : Bool := match gs with
  | [⟨tgx, iter, ifs, az⟩] => decide (az = 0) && f tgx iter ifs
  | _ => false
theorem onC_ok {gs : List Comprehension} {f : Expr → Expr → List Expr → Bool} (h : onC gs f = true) : ∃ tgx iter ifs, gs = [⟨tgx, iter, ifs, 0⟩] ∧ f tgx iter ifs = true := by
  unfold onC at h
  split at h
  · obtain ⟨h1, h2⟩ := Bool.and_eq_true_iff.mp h
    have e := of_decide_eq_true h1
    subst e
    exact ⟨_, _, _, rfl, h2⟩
  · cases h
def on1 (xs : List Expr) (f : Expr → Bool) : Bool := match xs with
  | [a] => f a
  | _ => false
theorem on1_ok {xs : List Expr} {f : Expr → Bool} (h : on1 xs f = true) : ∃ a, xs = [a] ∧ f a = true := by
  unfold on1 at h
  split at h
  · exact ⟨_, rfl, h⟩
  · cases h
def on2 (xs : List Expr) (f : Expr → Expr → Bool) : Bool := match xs with
  | [a, b] => f a b
  | _ => false
theorem on2_ok {xs : List Expr} {f : Expr → Expr → Bool} (h : on2 xs f = true) : ∃ a b, xs = [a, b] ∧ f a b = true := by
  unfold on2 at h
  split at h
  · exact ⟨_, _, rfl, h⟩
  · cases h
def isTxt : E → Str → Bool
  | .c (.str z), y => decide (z = y)
  | _, _ => false
theorem isTxt_ok {e : E} {y : Str} (h : isTxt e y = true) : e = .c (.str y) := by
  unfold isTxt at h
  split at h
  · rw [of_decide_eq_true h]
  · cases h
mutual
def okE (T : Tb) (N : List Str) : E → Scope → Bool → Expr → Bool
  | .v i, sc, _, .Name x _ => okV sc N i x
  | .c w, _, t, .Constant k _ _ => !t && okC w k
  | .g y w, sc, t, .Name x _ => !t && decide (y = x) && gloB sc x && T.gl.any fun p => decide (p.1 = x) && W.same p.2 w
  | .bin op a b, sc, t, .BinOp l o r _ => !t && okBop op o && okE T N a sc false l && okE T N b sc false r
  | .neg a, sc, t, .UnaryOp .USub e _ => !t && okE T N a sc false e
  | .not a, sc, t, .UnaryOp .Not e _ => okE T N a sc t e
  | .and a b, sc, t, .BoolOp .And (x :: y :: rest) p => okE T N a sc t x && okE T N b sc t (match rest with | [] => y | z :: r => .BoolOp .And (y :: z :: r) p)
  | .or a b, sc, t, .BoolOp .Or (x :: y :: rest) p => okE T N a sc t x && okE T N b sc t (match rest with | [] => y | z :: r => .BoolOp .Or (y :: z :: r) p)
  | .ite c a b, sc, t, .IfExp c' a' b' _ => !t && okE T N c sc true c' && okE T N a sc false a' && okE T N b sc false b'
  | .cmp a cs, sc, _, .Compare l ops es _ => okE T N a sc false l && okCs T N cs sc ops es && !lastMarks ops es
  | .idx a b, sc, _, .Subscript x y _ => okE T N a sc false x && okE T N b sc false y && notSlice y
  | .sl a lo hi, sc, t, .Subscript x (.Slice l u none _) _ => !t && okE T N a sc false x && okOe T N lo sc l && okOe T N hi sc u
  | .tup es, sc, t, .Tuple xs _ _ => !t && okEs T N es sc xs && decide (es.len ≤ 1000)
  | .lst es, sc, t, .List xs _ => !t && okEs T N es sc xs && decide (es.len ≤ 1000)
  | .mls es, sc, t, .List xs _ => !t && okEs T N es sc xs && decide (es.len ≤ 1000)
  | .comp tg it c el, sc, t, .ListComp elt gs scope _ => onC gs fun tgx iter ifs => !t && okIt T N it sc (isTup tgx) iter && notSet iter && blkB N sc scope tg && okTg (locB scope) N tg tgx && okOt T N c (relabS sc scope) ifs && okE T N el (relabS sc scope) false elt
  | .mut (.comp tg it c el), sc, t, .ListComp elt gs scope _ => onC gs fun tgx iter ifs => !t && okIt T N it sc (isTup tgx) iter && notSet iter && blkB N sc scope tg && okTg (locB scope) N tg tgx && okOt T N c (relabS sc scope) ifs && okE T N el (relabS sc scope) false elt
  | .mut (.sl a lo hi), sc, t, .Subscript x (.Slice l u none _) _ => !t && okE T N a sc false x && okOe T N lo sc l && okOe T N hi sc u
  | .mut (.bin .add a b), sc, t, .BinOp l .Add r _ => !t && okE T N a sc false l && okE T N b sc false r
  | .mut (.blt .list (.cons a .nil)), sc, t, .Call (.Name x _) [y] [] _ => !t && frB T sc x "list" && okE T N a sc false y && notStar y
  | .mut (.bin .mul a b), sc, t, .BinOp l .Mult r _ => !t && okE T N a sc false l && okE T N b sc false r
  | .call f es, sc, _, .Call (.Name x _) xs [] _ => gloB sc x && T.fn.any (fun p => decide (p.1 = f) && decide (p.2 = x)) && okEs T N es sc xs
  | .callh f es, sc, _, .Call (.Name x _) xs [] _ => gloB sc x && T.fn.any (fun p => decide (p.1 = f) && decide (p.2 = x)) && okEs T N es sc xs
  | .callg f es, sc, _, .Call (.Name x _) xs [] _ => gloB sc x && T.fn.any (fun p => decide (p.1 = f) && decide (p.2 = x)) && okEs T N es sc xs
  | .kcall f ns pm es, sc, _, .Call (.Name x _) [] ks _ => gloB sc x && T.kw.any (fun p => decide (p = (f, x, ns, pm))) && okKs T N es ns sc ks
  | .blt b (.cons e es), sc, _, .Call (.Name x _) (y :: ys) [] _ => okE T N e sc false y && notStar y && okBi b (fun n => frB T sc x n && okEs T N es sc ys) (fun n => frB T sc x "isinstance" && okTail T sc n es ys)
  | .meth m o .nil, sc, _, .Call (.Attribute ob nm ap) [] [] cp => okE T N o sc false ob && notCall ob && (ap.endLine == cp.line) && meB m nm true
  | .meth m o (.cons e .nil), sc, _, .Call (.Attribute ob nm ap) [x] [] cp => okE T N o sc false ob && notCall ob && (ap.endLine == cp.line) && (meB m nm false || tmB m nm) && okE T N e sc false x && notStar x
  | .fld c f o, sc, t, .Attribute ob g _ => !t && decide (f = g) && okE T N o sc false ob && notCall ob && T.na.any fun p => decide (p = (c, f))
  | .mcg c m i o es, sc, _, .Call (.Attribute ob nm ap) xs [] cp => decide (nm = m) && okE T N o sc false ob && notCall ob && (ap.endLine == cp.line) && okEs T N es sc xs && decide (xs.length < 20) && T.ms.any fun p => decide (p = (i, c, m))
  | .make c i es, sc, _, .Call (.Name x _) (y :: ys) [] _ => decide (x = c) && gloB sc x && okEs T N es sc (y :: ys) && T.ci.any fun p => decide (p = (i, c))
  | .klen c i o, sc, _, .Call (.Name x _) [y] [] _ => frB T sc x "len" && okE T N o sc false y && notStar y && T.ms.any fun p => decide (p = (i, c, lenN))
  | .krep c i o, sc, _, .Call (.Name x _) [y] [] _ => frB T sc x "repr" && okE T N o sc false y && notStar y && T.ms.any fun p => decide (p = (i, c, reprM))
  | .emp, _, t, .Dict [] [] _ => !t
  | .made c v, sc, _, .Call (.Name i _) [.Call (.Name x _) [] [] _, .Name d _] [] _ => T.lam && (decide (i = isiN) && (decide (x = c) && (decide (d = madeN v) && (gloB sc i && (gloB sc x && (gloB sc d && ((exCs.any fun z => decide (z = c)) && T.ex.any fun z => decide (z = c))))))))
  | .bangs e, sc, _, .Compare (.Subscript x (.Slice none (some (.Constant (.int 1) _ _)) none _) _) [.Eq] [.Constant (.str z) _ _] _ => decide (z = bangS) && okE T N e sc false x
  | .paren e, sc, _, .Compare (.Subscript x (.Slice none (some (.Constant (.int 1) _ _)) none _) _) [.NotEq] [.Constant (.str z) _ _] _ => decide (z = parenS) && okE T N e sc false x
  | .dk k (.tup .nil), _, t, .Dict [some (.Constant (.int i) _ _)] [.Tuple [] _ _] _ => !t && decide (k = i)
  | .join z e, sc, _, .Call (.Attribute (.Constant (.str y) _ _) nm ap) [x] [] cp => decide (z = y) && decide (nm = Str.ofString "join") && (ap.endLine == cp.line) && okE T N e sc false x && notStar x
  | .split e c, sc, _, .Call (.Attribute ob nm ap) [.Constant (.str y) _ _] [] cp => decide (y = ofS [c]) && decide (nm = Str.ofString "split") && (ap.endLine == cp.line) && okE T N e sc false ob && notCall ob
  | .fstr es, sc, t, .JoinedStr (v1 :: v2 :: rest) _ => !t && okF T N es sc (v1 :: v2 :: rest)
  | .rep1 z e, sc, t, .BinOp (.Constant (.str y) _ _) .Mult x _ => !t && decide (z = y) && okE T N e sc false x
  | .splitv e m, sc, _, .Call (.Attribute ob nm ap) [y] [] cp => decide (nm = Str.ofString "split") && (ap.endLine == cp.line) && okE T N e sc false ob && notCall ob && okE T N m sc false y && notStar y
  | .tidx a b, sc, _, .Subscript x y _ => okE T N a sc false x && okE T N b sc false y && notSlice y
  | .tsl a lo hi, sc, t, .Subscript x (.Slice l u none _) _ => !t && okE T N a sc false x && okOe T N lo sc l && okOe T N hi sc u
  | .orS e z, sc, t, .BoolOp .Or [x, .Constant (.str y) _ _] _ => !t && decide (z = y) && okE T N e sc false x
  | .rev e, sc, t, .Subscript x (.Slice none none (some (.UnaryOp .USub (.Constant (.int 1) _ _) _)) _) _ => !t && okE T N e sc false x
  | .said e, sc, _, .Call (.Name x _) [.Lambda prm body scp _] [] _ => T.lam && decide (x = saidN) && gloB sc x && noPs prm && LamX.lamSB sc scp && okE T.nolam N e scp false body
  | .sset e, sc, _, .Call (.Name x _) [.Call (.Name z _) [y] [] _] [] _ => frB T sc x "sorted" && frB T sc z "set" && okE T N e sc false y && notStar y
  | .lrng .none b, sc, _, x => onRng x fun n m es => frB T sc n "list" && frB T sc m "range" && on1 es fun e => okE T N b sc false e && notStar e
  | .lrng (.some a) b, sc, _, x => onRng x fun n m es => frB T sc n "list" && frB T sc m "range" && on2 es fun d e => okE T N a sc false d && okE T N b sc false e && notStar d && notStar e
  | .trng .none b, sc, _, x => onRng x fun n m es => frB T sc n "tuple" && frB T sc m "range" && on1 es fun e => okE T N b sc false e && notStar e
  | .trng (.some a) b, sc, _, x => onRng x fun n m es => frB T sc n "tuple" && frB T sc m "range" && on2 es fun d e => okE T N a sc false d && okE T N b sc false e && notStar d && notStar e
  | _, _, _, _ => false
/-- a test left out or not -/
def okOt (T : Tb) (N : List Str) : Oe → Scope → List Expr → Bool
  | .none, _, [] => true
  | .some e, sc, [x] => okE T N e sc true x
  | _, _, _ => false
def okOe (T : Tb) (N : List Str) : Oe → Scope → Option Expr → Bool
  | .none, _, none => true
  | .some e, sc, some x => okE T N e sc false x
  | _, _, _ => false
def okEs (T : Tb) (N : List Str) : Es → Scope → List Expr → Bool
  | .nil, _, [] => true
  | .cons e es, sc, x :: xs => okE T N e sc false x && okEs T N es sc xs && notStar x
  | _, _, _ => false
/-- an f-string's parts -/
def okF (T : Tb) (N : List Str) : Es → Scope → List Expr → Bool
  | .nil, _, [] => true
  | .cons e es, sc, x :: xs => (match x with
    | .Constant (.str y) _ _ => isTxt e y
    | .FormattedValue v i none _ => decide (i = -1) && okE T N e sc false v
    | _ => false) && okF T N es sc xs
  | _, _, _ => false
/-- arguments by name -/
def okKs (T : Tb) (N : List Str) : Es → List Str → Scope → List Keyword → Bool
  | .nil, [], _, [] => true
  | .cons e es, n :: ns, sc, ⟨some m, x, _⟩ :: ks => decide (n = m) && okE T N e sc false x && okKs T N es ns sc ks
  | _, _, _, _ => false
def okCs (T : Tb) (N : List Str) : Cs → Scope → List CmpOp → List Expr → Bool
  | .one op e, sc, [o], [x] => okCop op o && okE T N e sc false x
  | .cons op e cs, sc, o :: o' :: ops, x :: x' :: xs => okCop op o && okE T N e sc false x && okCs T N cs sc (o' :: ops) (x' :: xs)
  | _, _, _, _ => false
def okIt (T : Tb) (N : List Str) : It → Scope → Bool → Expr → Bool
  | .seq e, sc, _, x => okE T N e sc false x
  | .rng e, sc, _, .Call (.Name n _) [a] [] _ => frB T sc n "range" && okE T N e sc false a && notStar a
  | .rng2 e e2, sc, _, .Call (.Name n _) [a, b] [] _ => frB T sc n "range" && okE T N e sc false a && okE T N e2 sc false b && notStar a && notStar b
  | .rngd e e2, sc, _, .Call (.Name n _) [a, b, .UnaryOp .USub (.Constant (.int 1) _ _) _] [] _ => frB T sc n "range" && okE T N e sc false a && okE T N e2 sc false b && notStar a && notStar b
  | .enum e, sc, tp, .Call (.Name n _) [a] [] _ => tp && frB T sc n "enumerate" && okE T N e sc false a && notStar a
  | .zip e e2, sc, tp, .Call (.Name n _) [a, b] [] _ => tp && frB T sc n "zip" && okE T N e sc false a && okE T N e2 sc false b && notStar a && notStar b
  | _, _, _, _ => false
end
end RL

/-! Two defs that are called while an error is handled: of which classes it is, and its word. -/
namespace RL
open PySem.Spec PySem PyProof.Rows L2
variable [Tabl]
/-- what stood there, stands -/
abbrev Up (H H' : Hp) : Prop := ∀ (b : Addr) (o : HO), H b = some o → H' b = some o
theorem Up.new {H : Hp} {p : Addr} {o : HO} (h : H p = none) : Up H (upd H p o) := fun b u e => by rw [upd_ne (ne_of_none e h)]; exact e
/-- the error that is handled: its object, of the class D -/
structure Err (K : PySem.W.Frag) (D : Addr) (p : Addr × Obj) : Prop where
  cls : Zc (.ref D) none p.2
  fld : ∃ vs, p.2.data = .fields vs
/-- a def's promise while an error is handled; it raises none -/
structure FnX (P : Program) (w : World) (K : PySem.W.Frag) (mg : Str → Option Value) (base : Heap) (k : Nat) (f : Addr) (fd : FuncData) (ps : List Str) (sp : Addr × Obj → List V → Hp → VK → Prop) : Prop where
  len : ∀ p vs H Q, sp p vs H Q → vs.length = ps.length
  run : ∀ (A : Around) (outer : List PySem.Env) (s : Shared) (H : Hp) (args : Args) (us : List Value) (vs : List V) (Q : VK) (p : Addr × Obj), L2H.RoomH k A → L2H.PinOk outer H s p →
    Env0 P w K mg base A outer s H → BindsTo s fd args (ps.zip us) → Vals vs us → sp p vs H Q →
    codeAny (model P w) A (.call (.ref f) args) (CR (L2.CX P w) outer P w H s Q fun _ _ _ => False) s
section
variable {P : Program} {w : World} {K : PySem.W.Frag} {mg : Str → Option Value} {base : Heap} {k : Nat} {f : Addr} {x qual : Str} {st : Stmt} {fd : FuncData} {N ps : List Str} {sp : Addr × Obj → List V → Hp → VK → Prop}
theorem fn_x (F : FunD K x qual (defArgs st) (defBody st) (defScope st) [] [] f fd) (S : FnScope N ps (defScope st)) (len : ∀ p vs H Q, sp p vs H Q → vs.length = ps.length)
    (body : ∀ (cdv : Value) (A : Around) (outer : List PySem.Env) (s : Shared) (H : Hp) (vs : List V) (Q : VK) (p : Addr × Obj), L2H.RoomH k (A.deeper (envOfC qual (defScope st) s.heap.objs.size f cdv)) → sp p vs H Q →
      ∃ t, PSs (L2H.cxH (L2.CX P w) P w K mg base N qual (defScope st) f cdv A outer s H (fun _ _ _ => False) p) (defBody st) t ∧ t { nx := fun _ H' => Q .non H', rt := Q } (start N vs) H) :
    FnX P w K mg base (k + 1) f fd ps sp := by
  rcases F.ex with ⟨oc, od, dV, kV, doc, pm, an, cdv, ct, osl, rfl, lk, hcd, _⟩
  refine ⟨len, fun A outer s H args us vs Q p rm hp e0 hb rv h => ?_⟩
  have KX := e0.mod.kin.keeps fun b o e => (e0.bs b o e).1
  have nl : s.heap.NoLimit := e0.mod.nolimit.keeps fun b o e => (e0.bs b o e).1
  have kinds : ∀ y ∈ ps.zip us, (defScope st).names.lookup y.1 = some .local ∨ ((defScope st).names.lookup y.1 = some .cell ∧ ((cellsFrom (s.heap.objs.size + 1) (defScope st).names []).lookup y.1).isSome = true) := by
    intro y hy
    cases S.par y.1 (List.of_mem_zip hy).1 with
    | inl q => exact .inl q
    | inr q => exact .inr ⟨q, PySem.W.cellsFrom_some _ _ _ (.inl q)⟩
  refine codeAny_call_function rm.depth (KX _ _ lk) rfl S.co S.gen rfl (PySem.W.codeRec_of KX hcd) (hb _ _ _ _ ?_)
  refine wpAny_newFunctionEnv_cells S.kind kinds fun env he s1 ic => ?_
  subst he
  refine ⟨nl.keeps ic.toInCall.keep, codeAny_func ?_⟩
  obtain ⟨t, ht, hq⟩ := body cdv A outer s H vs Q p (rm.deeper _) h
  have I := L2H.inv_startH (CX := L2.CX P w) (E := fun _ _ _ => False) S hp e0 (len _ _ _ _ h) rv ic
  refine wpAny_mono (ht.run [] s1 _ H _ I hq) (fun fl s' hs => ?_) fun e s' hs => hs
  cases fl with
  | brk => exact hs.elim fun _ h => h.elim fun _ h => False.elim h.2
  | cont => exact hs.elim fun _ h => h.elim fun _ h => False.elim h.2
  | ret u =>
    rcases hs with ⟨v, σ', H', J, r, q⟩
    exact ⟨v, H', J.os, J.bare, J.base, J.hok, r, q⟩
  | next =>
    obtain ⟨σ', H', J, q⟩ := hs
    exact ⟨V.non, H', J.os, J.bare, J.base, J.hok, rfl, q⟩
end
section
variable {X : Cx} {k : Nat} {f : Addr} {fd : FuncData} {ps : List Str} {sp : Addr × Obj → List V → Hp → VK → Prop} {p : Addr × Obj} {x : Str} {np pos : Pos} {e : Expr} {es : List Expr} {t : TA}
/-- such a def's call -/
theorem pe_x (F : FnX X.prog X.w X.K X.mg X.base k f fd ps sp) (rm : L2H.RoomH k X.A) (hp : p ∈ X.pn) (hg : Gl X x) (hm : X.mg x = some (.ref f)) (hk : PySem.W.keepIn X.K (.ref f) = true) (hb : Binds X.K fd ps []) (ha : PA X (e :: es) t)
    (hd : (x == ("__debug__" : Str)) = false) (he : starEach (e :: es) X.env = (false, eval e X.env) :: starEach es X.env) (hpl : (backTo pos (starEach es X.env)).any (·.1) = false) :
    PE X (.Call (.Name x np) (e :: es) [] pos) (fun σ H Q => t σ H fun vs H1 => sp p vs H1 Q) := by
  refine ⟨fun pins s σ H Q I h => wpAny_Call_Name_kw (ld_glob I hg hm ?_ hd)⟩
  refine PySem.W.callWith_K (h₀ := X.base) I.ok.mod.kin hk (thn (ha.run pos pins s σ H _ I h) ?_) he hpl
  intro us s1 z
  obtain ⟨vs, H1, I1, rv, q⟩ := z
  refine ⟨I1.kIn, ?_⟩
  have hl : us.length = ps.length := by rw [← rv.length]; exact F.len _ _ _ _ q
  have b : BindsTo s1 fd ⟨us, []⟩ (ps.zip us) := by simpa only [List.append_nil] using hb s1 us I1.kIn (by simpa only [List.append_nil] using hl)
  obtain ⟨p1, p2, p3, p4, p5⟩ := I1.pin p (List.mem_append_left _ hp)
  have pin : L2H.PinOk X.stack H1 s1 p := ⟨p1, p2, fun m => by
    rcases List.mem_cons.mp (I1.stkSub p.1 m) with z | z
    · exact p3 z
    · exact p4 z, p5⟩
  refine wpAny_call (codeAny_mono (F.run X.A X.stack s1 H1 _ us vs Q p rm pin I1.env0 b rv q) fun r s2 hq => ?_)
  match r, hq with
  | .error _, hq =>
    rcases hq with ⟨_, _, _, _, _, _, _, _, _, _, _, _, z⟩
    exact z.elim
  | .ok (.ret u), hq => exact I1.after hq
  | .ok .next, hq => exact False.elim hq
  | .ok .brk, hq => exact False.elim hq
  | .ok .cont, hq => exact False.elim hq
/-- isinstance of the error that is handled -/
theorem call_isP {a D : Addr} {oe : Obj} (C : ExcC X.K D) (er : Err X.K D (a, oe)) (hp : (a, oe) ∈ X.pn) : CallR X (.builtin "isinstance") (rIsE X.K D a) := by
  intro pins s σ H xs us Q I rv hx
  obtain ⟨c, cv, b, rfl, hcv, kb, q⟩ := hx
  obtain ⟨u1, us, rfl, r1, rv⟩ : ∃ u1 us', us = u1 :: us' ∧ RelV (.ref a) u1 ∧ Vals [c] us' := by
    cases rv with | cons r1 r2 => exact ⟨_, _, rfl, r1, r2⟩
  obtain ⟨u2, rfl, r2⟩ := vals1 rv
  cases r1
  cases hcv _ r2
  have at_ : PySem.W.InstAt s.heap a oe D none := by
    have g := (I.pin (a, oe) (List.mem_append_left _ hp)).1
    obtain ⟨z1, z2⟩ := er.cls
    obtain ⟨vs, hv⟩ := er.fld
    cases oe
    dsimp only at z1 z2 hv g
    subst z1 z2 hv
    exact ⟨g, rfl, rfl, trivial⟩
  exact PySem.W.kia_one (PySem.W.handS_kitx_exc C.hg C.hk C.hs C.hd C.ha C.hn C.ht C.hm) I.kIn at_ kb (fun z => nomatch z) fun tk => ⟨.bl b, H, I.kept (t' := tk) fun _ _ z => z, rfl, q⟩
end
/-! ### what the tables must say of the classes -/
structure ExcAll (K : PySem.W.Frag) (mg : Str → Option Value) (cls : Str → Addr) (cs : List Str) : Prop where
  at_ : ∀ c ∈ cs, mg c = some (.ref (cls c))
  exc : ∀ c ∈ cs, ExcC K (cls c)
  one : ∀ c ∈ cs, ∀ d ∈ cs, PySem.W.kitOne K (.ref (cls c)) (.ref (cls d)) = some (decide (c = d))
  val : ∀ c ∈ cs, PySem.W.kitOne K (.ref (cls c)) (.type "ValueError") = some true
/-! ### the texts, and what they say -/
def isOf (cs : List Str) (sc : Scope) (e : Str) (ex : Expr) : Option Str := match ex with
  | .Call (.Name f _) [.Name x _, .Name c _] [] _ => if decide (f = Str.ofString "isinstance") && decide (x = e) && gloB sc f && gloB sc c && visB sc e && ndbg e && cs.any (fun d => decide (d = c)) then some c else none
  | _ => none
theorem isOf_ok {cs : List Str} {sc : Scope} {e c : Str} {ex : Expr} (h : isOf cs sc e ex = some c) : ∃ p1 p2 p3 p4, ex = .Call (.Name (Str.ofString "isinstance") p1) [.Name e p2, .Name c p3] [] p4 ∧ gloB sc (Str.ofString "isinstance") = true ∧ gloB sc c = true ∧ visB sc e = true ∧ ndbg e = true ∧ c ∈ cs := by
  unfold isOf at h
  split at h
  · split at h
    · rename_i q
      cases h
      simp only [decide_eq_true_eq, Bool.and_eq_true] at q
      obtain ⟨⟨⟨⟨⟨⟨rfl, rfl⟩, q3⟩, q4⟩, q5⟩, q6⟩, q7⟩ := q
      obtain ⟨d, hd, e7⟩ := List.any_eq_true.mp q7
      have e7 := of_decide_eq_true e7
      subst e7
      exact ⟨_, _, _, _, rfl, q3, q4, q5, q6, hd⟩
    · cases h
  · cases h
def issOf (cs : List Str) (sc : Scope) (e : Str) : List Expr → Option (List Str)
  | [] => some []
  | x :: xs => (isOf cs sc e x).bind fun c => (issOf cs sc e xs).map fun r => c :: r
def lstOf (cs : List Str) (sc : Scope) (e y : Str) (cur : Option (List Str)) (ex : Expr) : Option (List Str) := match ex with
  | .List es _ => (issOf cs sc e es).bind fun ds => if ds.length ≤ 1000 then some ds else none
  | .BinOp (.Name z _) .Add (.List es _) _ => if decide (z = y) && visB sc y && ndbg y then cur.bind fun c1 => (issOf cs sc e es).bind fun ds => if c1.length + ds.length ≤ 1000 then some (c1 ++ ds) else none else none
  | _ => none
def marksOf (cs : List Str) (sc : Scope) (e y : Str) : Option (List Str) → List Stmt → Option (List Str)
  | cur, [.Return (some ex) _] => lstOf cs sc e y cur ex
  | cur, .Assign [.Name z _] ex _ :: rest => if decide (z = y) && decide (sc.names.lookup y = some .local) then (lstOf cs sc e y cur ex).bind fun ds => marksOf cs sc e y (some ds) rest else none
  | _, _ => none
section
variable {X : Cx} {cls : Str → Addr} {cs : List Str} {e y c0 : Str} {p : Addr × Obj}
theorem glo_of {x : Str} (h : gloB X.env.scope x = true) : Gl X x ∧ ndbg x = true := by
  obtain ⟨h1, h2⟩ := Bool.and_eq_true_iff.mp h
  exact ⟨show X.env.scope.names.lookup x = some .globalImplicit from of_decide_eq_true h1, h2⟩
theorem vis_of {sc : Scope} {x : Str} (h : visB sc x = true) : Vis sc x := by
  obtain h | h := Bool.or_eq_true_iff.mp h
  · rcases Bool.or_eq_true_iff.mp h with h | h
    · exact .inl (of_decide_eq_true h)
    · exact .inr (.inl (of_decide_eq_true h))
  · exact .inr (.inr (of_decide_eq_true h))
theorem nd_of {x : Str} (h : ndbg x = true) : (x == ("__debug__" : Str)) = false ∧ (x == ("__classdict__" : Str)) = false := by
  obtain ⟨h, _⟩ := Bool.and_eq_true_iff.mp h
  obtain ⟨h1, h2⟩ := Bool.and_eq_true_iff.mp h
  exact ⟨by simpa using h1, by simpa using h2⟩
/-- the context, and what it tells -/
structure Hot (X : Cx) (cls : Str → Addr) (cs : List Str) (e c0 : Str) (p : Addr × Obj) : Prop where
  all : ExcAll X.K X.mg cls cs
  mem : c0 ∈ cs
  er : Err X.K (cls c0) p
  pn : p ∈ X.pn
  nd : X.N.Nodup
  at0 : X.N[0]? = some e
  isi : X.mg (Str.ofString "isinstance") = none
theorem isi_bt : bootBuiltins (Str.ofString "isinstance") = some (.builtin "isinstance") := by decide +kernel
theorem isi_nn : Str.ofString "isinstance" ≠ "__name__" ∧ (Str.ofString "isinstance" == ("__debug__" : Str)) = false := by decide +kernel
theorem pe_isP (h : Hot X cls cs e c0 p) {tx : Expr} {c : V} {u : Value} {b : Bool} {p1 p2 p4 : Pos} (hg : gloB X.env.scope (Str.ofString "isinstance") = true) (hv : visB X.env.scope e = true) (hn : ndbg e = true) (ht : PE X tx (tC c)) (hu : ∀ v, RelV c v → v = u)
    (kb : PySem.W.kitOne X.K (.ref (cls c0)) u = some b) (hs : starEach [tx] X.env = [(false, eval tx X.env)]) : PE X (.Call (.Name (Str.ofString "isinstance") p1) [.Name e p2, tx] [] p4) (fun σ H Q => σ[0]? = some (some (.ref p.1)) ∧ Q (.bl b) H) := by
  obtain ⟨a, oe⟩ := p
  refine PE.weak (pe_callB (call_isP (h.all.exc c0 h.mem) h.er h.pn) (glo_of hg).1 h.isi isi_bt (pa_cons (pe_var h.at0 (vis_of hv) (nd_of hn).1 (nd_of hn).2) (pa_cons ht pa_nil (by rw [hs]; rfl)) (by rfl)) isi_nn.1 isi_nn.2 (by rfl) (by rw [hs]; rfl)) fun σ H Q ⟨q1, q2⟩ => ?_
  exact ⟨.ref a, q1, c, u, b, rfl, hu, kb, q2⟩
theorem pa_iss (h : Hot X cls cs e c0 p) : ∀ {es : List Expr} {ds : List Str}, issOf cs X.env.scope e es = some ds → PA X es (fun σ H Q => σ[0]? = some (some (.ref p.1)) ∧ Q (ds.map fun d => .bl (decide (c0 = d))) H)
  | [], ds, q => by
    cases q
    exact PA.weak pa_nil fun σ H Q z => z.2
  | x :: xs, ds, q => by
    have q : ((isOf cs X.env.scope e x).bind fun c => (issOf cs X.env.scope e xs).map fun r => c :: r) = some ds := q
    obtain ⟨c, e1, q⟩ := Option.bind_eq_some_iff.mp q
    obtain ⟨r, e2, q⟩ := Option.map_eq_some_iff.mp q
    cases q
    obtain ⟨p1, p2, p3, p4, rfl, g1, g2, g3, g4, hc⟩ := isOf_ok e1
    have px := pe_isP h (p1 := p1) (p2 := p2) (p4 := p4) g1 g3 g4 (pe_glob (pos := p3) (v := .ref (cls c)) (glo_of g2).1 (h.all.at_ c hc) rfl (nd_of (glo_of g2).2).1) (u := .ref (cls c)) (fun v r => r) (h.all.one c0 h.mem c hc) (by rfl)
    exact PA.weak (pa_cons px (pa_iss h e2) (by rfl)) fun σ H Q z => ⟨z.1, z.1, z.2⟩
/-- the list of marks that slot 1 holds -/
def Cur (c0 : Str) (cur : Option (List Str)) (σ : L2.St) (H : Hp) : Prop := ∀ ds, cur = some ds → ∃ q, σ[1]? = some (some (.ref q)) ∧ H q = some (.lst (ds.map fun d => .bl (decide (c0 = d))))
theorem few_line {n : Nat} (h : n ≤ 1000) : n ≤ sizeLine := Nat.le_trans h (by rw [sizeLine_eq]; decide)
theorem pe_lstOf (h : Hot X cls cs e c0 p) (h1 : X.N[1]? = some y) {cur : Option (List Str)} {ex : Expr} {ds : List Str} (q : lstOf cs X.env.scope e y cur ex = some ds) :
    PE X ex (fun σ H Q => (σ[0]? = some (some (.ref p.1)) ∧ Cur c0 cur σ H) ∧ ∀ b H', Up H H' → H' b = some (.lst (ds.map fun d => .bl (decide (c0 = d)))) → Q (.ref b) H') := by
  unfold lstOf at q
  split at q
  · rename_i es pos
    obtain ⟨d1, e1, q⟩ := Option.bind_eq_some_iff.mp q
    split at q
    · rename_i hz
      cases q
      exact PE.weak (pe_lst (pa_iss h e1)) fun σ H Q ⟨⟨z1, _⟩, z2⟩ => ⟨z1, by rw [List.length_map]; exact few_line hz, fun b hb => z2 b _ (Up.new hb) upd_same⟩
    · cases q
  · rename_i z p1 es p2 p3
    split at q
    · rename_i hc
      simp only [decide_eq_true_eq, Bool.and_eq_true] at hc
      obtain ⟨⟨rfl, hv⟩, hn⟩ := hc
      obtain ⟨d1, ec, q1⟩ := Option.bind_eq_some_iff.mp q
      clear q
      subst ec
      obtain ⟨d2, e2, q⟩ := Option.bind_eq_some_iff.mp q1
      split at q
      · rename_i hz
        cases q
        refine PE.weak (pe_op op_cat (pe_var h1 (vis_of hv) (nd_of hn).1 (nd_of hn).2) (pe_lst (pa_iss h e2))) fun σ H Q ⟨⟨z1, z3⟩, z2⟩ => ?_
        obtain ⟨b1, s1, hb1⟩ := z3 d1 rfl
        refine ⟨.ref b1, s1, z1, by rw [List.length_map]; exact few_line (by omega), fun b hb => ?_⟩
        refine ⟨b1, b, _, _, rfl, rfl, Up.new hb _ _ hb1, upd_same, by rw [List.length_map, List.length_map]; exact few_line hz, fun b' hb' => ?_⟩
        refine z2 b' _ (fun c o q => Up.new hb' _ _ (Up.new hb _ _ q)) ?_
        rw [upd_same, List.map_append]
      · cases q
    · cases q
  · cases q
theorem sw_lstOf {cur : Option (List Str)} {ex : Expr} {ds : List Str} {np : Pos} {l : Nat} (q : lstOf cs X.env.scope e y cur ex = some ds) : swapsWith ex (some (.Name y np)) l X.env = pure false := by
  unfold lstOf at q
  split at q
  · rfl
  · rfl
  · cases q
theorem marks_ok (h : Hot X cls cs e c0 p) (h1 : X.N[1]? = some y) : ∀ {body : List Stmt} {cur : Option (List Str)} {ds : List Str}, marksOf cs X.env.scope e y cur body = some ds →
    PSs X body (fun D σ H => (1 < σ.length ∧ σ[0]? = some (some (.ref p.1)) ∧ Cur c0 cur σ H) ∧ ∀ b H', Up H H' → H' b = some (.lst (ds.map fun d => .bl (decide (c0 = d)))) → D.rt (.ref b) H')
  | [], cur, ds, q => by simp [marksOf] at q
  | st :: rest, cur, ds, q => by
    unfold marksOf at q
    split at q
    · rename_i ex pos heq
      cases heq
      exact PSs.weak (pss_one (ps_ret (pe_lstOf h h1 q))) fun D σ H z => ⟨⟨z.1.2.1, z.1.2.2⟩, z.2⟩
    · rename_i z zp ex pos rest' heq
      cases heq
      split at q
      · rename_i hc
        simp only [decide_eq_true_eq, Bool.and_eq_true] at hc
        obtain ⟨hzy, hl⟩ := hc
        have hzy := hzy.symm
        subst hzy
        obtain ⟨d1, e1, q⟩ := Option.bind_eq_some_iff.mp q
        refine PSs.weak (pss_cons (ps_set h.nd h1 (.inl hl) (pe_lstOf h h1 e1) (sw_lstOf e1) (.inr hl)) (marks_ok h h1 q)) fun D σ H ⟨⟨z1, z2, z3⟩, z4⟩ => ?_
        refine ⟨⟨z2, z3⟩, fun b H1 up hb => ?_⟩
        refine ⟨⟨by rw [List.length_set]; exact z1, by rw [List.getElem?_set_ne (by decide)]; exact z2, fun d2 e2 => ?_⟩, fun b' H2 up2 hb2 => z4 b' H2 (fun c o k => up2 c o (up c o k)) hb2⟩
        cases e2
        exact ⟨b, by rw [List.getElem?_set_self z1], hb⟩
      · cases q
    · cases q
/-! ### the word -/
def strOf : Expr → Option Str
  | .Constant (.str x) _ _ => some x
  | _ => none
def strsOf : List Expr → Option (List Str)
  | [] => some []
  | x :: xs => (strOf x).bind fun z => (strsOf xs).map fun r => z :: r
theorem pa_strs : ∀ {es : List Expr} {ls : List Str}, strsOf es = some ls → PA X es (fun _ H Q => Q (ls.map V.str) H)
  | [], ls, q => by
    cases q
    exact PA.weak pa_nil fun _ _ _ z => z
  | x :: xs, ls, q => by
    have q : ((strOf x).bind fun z => (strsOf xs).map fun r => z :: r) = some ls := q
    obtain ⟨c, e1, q⟩ := Option.bind_eq_some_iff.mp q
    obtain ⟨r, e2, q⟩ := Option.map_eq_some_iff.mp q
    cases q
    unfold strOf at e1
    split at e1
    · cases e1
      exact PA.weak (pa_cons pe_str (pa_strs e2) (by rfl)) fun σ H Q z => z
    · cases e1
/-- m = marks(e) -/
def k1Of (sc : Scope) (e : Str) (st : Stmt) : Option (Str × Str) := match st with
  | .Assign [.Name m _] (.Call (.Name f _) [.Name x _] [] _) _ => if decide (x = e) && gloB sc f && visB sc e && ndbg e && decide (sc.names.lookup m = some .local) then some (m, f) else none
  | _ => none
/-- if m.count(True) != 1 or not isinstance(e, ValueError): .. -/
def k2tOf (sc : Scope) (e m : Str) (t : Expr) : Bool := match t with
  | .BoolOp .Or [.Compare (.Call (.Attribute (.Name m2 _) cn ap) [.Constant (.bool true) _ _] [] cp) [.NotEq] [.Constant (.int 1) _ _] _, .UnaryOp .Not (.Call (.Name i _) [.Name x _, .Name v _] [] _) _] _ =>
    decide (m2 = m) && visB sc m && ndbg m && decide (cn = Str.ofString "count") && (ap.endLine == cp.line) && decide (i = Str.ofString "isinstance") && gloB sc i && decide (x = e) && visB sc e && ndbg e && decide (v = Str.ofString "ValueError") && gloB sc v
  | _ => false
def k2Of (sc : Scope) (e m : Str) (st : Stmt) : Bool := match st with
  | .If t [.Return (some (.Constant (.str _) _ _)) _] [] _ => k2tOf sc e m t
  | _ => false
/-- n = [..] -/
def k3Of (sc : Scope) (st : Stmt) : Option (Str × List Str) := match st with
  | .Assign [.Name n _] (.List es _) _ => if decide (sc.names.lookup n = some .local) then (strsOf es).map fun ls => (n, ls) else none
  | _ => none
/-- return (n + [..])[m.index(True)] -/
def k4Of (sc : Scope) (m n : Str) (st : Stmt) : Option (List Str) := match st with
  | .Return (some (.Subscript (.BinOp (.Name n2 _) .Add (.List es _) _) (.Call (.Attribute (.Name m2 _) ix ap) [.Constant (.bool true) _ _] [] cp) _)) _ =>
    if decide (n2 = n) && visB sc n && ndbg n && decide (m2 = m) && visB sc m && ndbg m && decide (ix = Str.ofString "index") && (ap.endLine == cp.line) then strsOf es else none
  | _ => none
/-- n = n + [..] -/
def k3bOf (sc : Scope) (n : Str) (st : Stmt) : Option (List Str) := match st with
  | .Assign [.Name n1 _] (.BinOp (.Name n2 _) .Add (.List es _) _) _ => if decide (n1 = n) && decide (n2 = n) && decide (sc.names.lookup n = some .local) && visB sc n && ndbg n then strsOf es else none
  | _ => none
def kindOf (sc : Scope) (e : Str) (body : List Stmt) : Option (Str × Str × Str × List Str) := match body with
  | [s1, s2, s3, s4] => (k1Of sc e s1).bind fun r1 => if k2Of sc e r1.1 s2 = true then (k3Of sc s3).bind fun r3 => (k4Of sc r1.1 r3.1 s4).map fun l => (r1.2, r1.1, r3.1, r3.2 ++ l) else none
  | [s1, s2, s3, s5, s4] => (k1Of sc e s1).bind fun r1 => if k2Of sc e r1.1 s2 = true then (k3Of sc s3).bind fun r3 => (k3bOf sc r3.1 s5).bind fun l5 => (k4Of sc r1.1 r3.1 s4).map fun l => (r1.2, r1.1, r3.1, (r3.2 ++ l5) ++ l) else none
  | _ => none
/-- the promise of the def of marks -/
def spMarks (K : PySem.W.Frag) (cls : Str → Addr) (cs : List Str) : Addr × Obj → List V → Hp → VK → Prop := fun p vs H Q =>
  ∃ c0 ∈ cs, vs = [.ref p.1] ∧ Err K (cls c0) p ∧ ∀ b H', Up H H' → H' b = some (.lst (cs.map fun d => .bl (decide (c0 = d)))) → Q (.ref b) H'
/-- .. and of the word -/
def spKind (K : PySem.W.Frag) (cls : Str → Addr) (cs : List Str) (ls : List Str) : Addr × Obj → List V → Hp → VK → Prop := fun p vs H Q =>
  ∃ c0, ∃ i : Nat, ∃ z, cs[i]? = some c0 ∧ cs.Nodup ∧ cs.length ≤ 1000 ∧ ls.length ≤ 1000 ∧ ls[i]? = some z ∧ vs = [.ref p.1] ∧ Err K (cls c0) p ∧ LamX.Tabs Tabl.T H ∧ ∀ H', Ext H [] H' [] → LamX.Tabs Tabl.T H' → Q (.str z) H'
theorem Up.ext {H H' : Hp} (u : Up H H') : Ext H [] H' [] := ⟨⟨[], rfl, fun _ h => nomatch h⟩, fun a o h _ _ => u a o h, fun a h => by
  cases q : H a with
  | none => rfl
  | some o => rw [u a o q] at h; cases h⟩
/-- the marks, as the evaluator has them -/
def mks (c0 : Str) (cs : List Str) : List RL.W := cs.map fun d => .bl (decide (c0 = d))
theorem mks_good (c0 : Str) : ∀ cs : List Str, W.goods (mks c0 cs) = true ∧ W.dps (mks c0 cs) = 0
  | [] => ⟨rfl, rfl⟩
  | _ :: cs => ⟨(mks_good c0 cs).1, by show max 0 (W.dps (mks c0 cs)) = 0; rw [(mks_good c0 cs).2]; rfl⟩
theorem mks_data (c0 : Str) (cs : List Str) : (W.data dep (.bl true) && W.datas dep (mks c0 cs)) = true := by
  unfold W.data W.datas
  rw [(mks_good c0 cs).1, (mks_good c0 cs).2]
  rfl
theorem mks_none {c0 : Str} : ∀ {cs : List Str}, c0 ∉ cs → countIn (.bl true) (mks c0 cs) = 0
  | [], _ => rfl
  | d :: cs, h => by
    have n1 : c0 ≠ d := fun e => h (by rw [e]; exact List.mem_cons_self)
    have ih := mks_none (c0 := c0) (cs := cs) fun m => h (List.mem_cons_of_mem _ m)
    show b2i (decide (c0 = d) == true) + countIn (.bl true) (mks c0 cs) = 0
    rw [ih, decide_eq_false n1]; rfl
theorem mks_count {c0 : Str} : ∀ {cs : List Str} {i : Nat}, cs.Nodup → cs[i]? = some c0 → countIn (.bl true) (mks c0 cs) = 1
  | [], _, _, h => by simp at h
  | d :: cs, 0, n, h => by
    cases (Option.some.inj h : d = c0)
    show b2i (decide (c0 = c0) == true) + countIn (.bl true) (mks c0 cs) = 1
    rw [mks_none (List.nodup_cons.mp n).1, decide_eq_true rfl]; rfl
  | d :: cs, i + 1, n, h => by
    have h : cs[i]? = some c0 := h
    have n1 : c0 ≠ d := fun e => (List.nodup_cons.mp n).1 (by rw [← e]; exact List.mem_of_getElem? h)
    show b2i (decide (c0 = d) == true) + countIn (.bl true) (mks c0 cs) = 1
    rw [mks_count (List.nodup_cons.mp n).2 h, decide_eq_false n1]; rfl
theorem mks_index {c0 : Str} : ∀ {cs : List Str} {i : Nat} (k : Int), cs.Nodup → cs[i]? = some c0 → indexIn (.bl true) k (mks c0 cs) = some (k + (i : Nat))
  | [], _, _, _, hi => by simp at hi
  | d :: cs, 0, k, n, h => by
    cases (Option.some.inj h : d = c0)
    show (if (decide (c0 = c0) == true) = true then some k else indexIn (.bl true) (k + 1) (mks c0 cs)) = some (k + (0 : Nat))
    rw [decide_eq_true rfl]; simp
  | d :: cs, i + 1, k, n, h => by
    have h : cs[i]? = some c0 := h
    have n1 : c0 ≠ d := fun e => (List.nodup_cons.mp n).1 (by rw [← e]; exact List.mem_of_getElem? h)
    show (if (decide (c0 = d) == true) = true then some k else indexIn (.bl true) (k + 1) (mks c0 cs)) = some (k + ((i + 1 : Nat) : Int))
    rw [decide_eq_false n1, mks_index (k + 1) (List.nodup_cons.mp n).2 h]
    simp
    omega
theorem reps_mks {G : Gx} {H : Hp} {α : List Addr} {c0 : Str} : ∀ cs : List Str, Reps G H α (mks c0 cs) (cs.map fun d => V.bl (decide (c0 = d)))
  | [] => .nil
  | _ :: cs => .cons (.bl _) (reps_mks cs)
theorem tabs_up {T : List (Addr × Str)} {H H' : Hp} (t : LamX.Tabs T H) (u : Up H H') : LamX.Tabs T H' := t.ext u
/-- m.count(True), m.index(True) -/
theorem pe_mk {mm : Mt} {name m : Str} {id : String} {j : Nat} {pm ap cp pk : Pos} {jk : Nat} (h1 : X.N[j]? = some m) (hv : visB X.env.scope m = true) (hn : ndbg m = true) (slot : Slot "list" name id) (hty : typeOf (.builtin id) = pure (.type "method_descriptor"))
    (hm : MtR X id (rMe mm)) (hl : (ap.endLine == cp.line) = true) (z : Int) (hz : meth mm (.lst (mks c0 cs)) [.bl true] [] = some (.int z, [])) :
    PE X (.Call (.Attribute (.Name m pm) name ap) [.Constant (.bool true) jk pk] [] cp) (fun σ H Q => (∃ b, σ[j]? = some (some (.ref b)) ∧ H b = some (.lst (cs.map fun d => .bl (decide (c0 = d))))) ∧ LamX.Tabs Tabl.T H ∧ ∀ H', Ext H [] H' [] → LamX.Tabs Tabl.T H' → Q (.int z) H') := by
  refine PE.weak (pe_bm PySem.F.plainAttrs_list slot hty hm (pe_var h1 (vis_of hv) (nd_of hn).1 (nd_of hn).2) (pa_cons pe_bl pa_nil (by rfl)) (by rfl) (by rfl) hl (by rfl) (by rfl)) fun σ H Q ⟨⟨b, s1, hb⟩, t, q⟩ => ?_
  refine ⟨.ref b, s1, .inl ⟨rfl, _, .inl (.inl hb)⟩, ?_⟩
  refine ⟨⟨fun _ => False⟩, .lst (mks c0 cs), [.bl true], [], [], .int z, [], .lst hb ⟨fun x => x, by simp⟩ (reps_mks cs), .cons (.bl true) .nil, ⟨rfl, List.nodup_nil, fun _ x => x.elim, t, fun _ x => (nomatch x), fun n ob q => by simp at q⟩, hz, fun v H' e s' r => ?_⟩
  rw [r.of_int]
  exact q H' e s'.tab
theorem val_bt : bootBuiltins (Str.ofString "ValueError") = some (.type "ValueError") := by decide +kernel
theorem val_nn : Str.ofString "ValueError" ≠ "__name__" ∧ (Str.ofString "ValueError" == ("__debug__" : Str)) = false := by decide +kernel
/-- the two statements ahead, what is between, the word -/
theorem kind_core {x m n : Str} {l3 l4 : List Str} {k : Nat} {fa : Addr} {fd : FuncData} {s1 s2 s4 : Stmt} {mid : List Stmt} {i : Nat} {z : Str} (h : Hot X cls cs e c0 p) (hN : X.N = [e, m, n]) (e1 : k1Of X.env.scope e s1 = some (m, x)) (e2 : k2Of X.env.scope e m s2 = true) (e4 : k4Of X.env.scope m n s4 = some l4)
    (hmid : ∀ T4, PS X s4 T4 → ∃ t, PSs X (mid ++ [s4]) t ∧ ∀ D H b, (∀ b2 H', Up H H' → H' b2 = some (.lst (l3.map V.str)) → T4 D [some (.ref p.1), some (.ref b), some (.ref b2)] H') → t D [some (.ref p.1), some (.ref b), none] H)
    (rm : L2H.RoomH k X.A) (hval : X.mg (Str.ofString "ValueError") = none)
    (F : FnX X.prog X.w X.K X.mg X.base k fa fd [e] (spMarks X.K cls cs)) (hm : X.mg x = some (.ref fa)) (hk : PySem.W.keepIn X.K (.ref fa) = true) (hb : Binds X.K fd [e] []) (hi : cs[i]? = some c0) (hnd : cs.Nodup) (hc : cs.length ≤ 1000) (hls : (l3 ++ l4).length ≤ 1000) (hz : (l3 ++ l4)[i]? = some z) :
    ∃ t, PSs X (s1 :: s2 :: (mid ++ [s4])) t ∧ ∀ D H, LamX.Tabs Tabl.T H → (∀ H', Ext H [] H' [] → LamX.Tabs Tabl.T H' → D.rt (.str z) H') → t D [some (.ref p.1), none, none] H := by
  have n1 : X.N[1]? = some m := by rw [hN]; rfl
  have n2 : X.N[2]? = some n := by rw [hN]; rfl
  have hu : X.A.units + 65 < cLine := by have := rm.un; omega
  -- m = marks(e)
  obtain ⟨T1, P1, t1⟩ : ∃ t, PS X s1 t ∧ ∀ D H, (∀ b H1, Up H H1 → H1 b = some (.lst (cs.map fun d => .bl (decide (c0 = d)))) → D.nx [some (.ref p.1), some (.ref b), none] H1) → t D [some (.ref p.1), none, none] H := by
    unfold k1Of at e1
    split at e1
    rotate_left
    · cases e1
    rename_i mp fp xp p5 p6
    split at e1
    rotate_left
    · cases e1
    rename_i c
    cases e1
    simp only [Bool.and_eq_true, decide_eq_true_eq] at c
    obtain ⟨⟨⟨⟨rfl, g1⟩, g2⟩, g3⟩, g4⟩ := c
    refine ⟨_, ps_set h.nd n1 (.inl g4) (pe_x F rm h.pn (glo_of g1).1 hm hk hb (pa_cons (pe_var h.at0 (vis_of g2) (nd_of g3).1 (nd_of g3).2) pa_nil (by rfl)) (nd_of (glo_of g1).2).1 (by rfl) (by rfl)) (by rfl) (.inr g4), fun D H q => ?_⟩
    refine ⟨.ref p.1, rfl, c0, h.mem, rfl, h.er, fun b H1 up hb1 => ?_⟩
    exact q b H1 up hb1
  -- the test
  obtain ⟨T2, P2, t2⟩ : ∃ t, PS X s2 t ∧ ∀ D H b, H b = some (.lst (cs.map fun d => .bl (decide (c0 = d)))) → LamX.Tabs Tabl.T H → (∀ H', Ext H [] H' [] → LamX.Tabs Tabl.T H' → D.nx [some (.ref p.1), some (.ref b), none] H') → t D [some (.ref p.1), some (.ref b), none] H := by
    unfold k2Of at e2
    split at e2
    rotate_left
    · cases e2
    rename_i tst z0 j0 p0 p1 p2
    unfold k2tOf at e2
    split at e2
    rotate_left
    · cases e2
    simp only [Bool.and_eq_true, decide_eq_true_eq] at e2
    obtain ⟨⟨⟨⟨⟨⟨⟨⟨⟨⟨⟨rfl, g1⟩, g2⟩, rfl⟩, g3⟩, rfl⟩, g4⟩, rfl⟩, g5⟩, g6⟩, rfl⟩, g7⟩ := e2
    have mc : meth .count (.lst (mks c0 cs)) [.bl true] [] = some (.int 1, []) := by
      show (if (W.data dep (.bl true) && W.datas dep (mks c0 cs)) = true then some (RL.W.int (countIn (.bl true) (mks c0 cs)), ([] : Hs)) else none) = _
      rw [if_pos (mks_data c0 cs), mks_count hnd hi]
    refine ⟨_, ps_if (pw_or (pt_cmpR op_ne (pe_mk (c0 := c0) (cs := cs) n1 g1 g2 PySem.F.slot_list_count PySem.F.type_list_count (me_count hu) g3 1 mc) pe_int (by rfl)) (pw_or1 (pt_not (pt_val (pe_isP h g4 g5 g6 (pe_bltn (v := .ty "ValueError") (glo_of g7).1 hval val_bt rfl val_nn.1 val_nn.2) (u := .type "ValueError") (fun v r => r) (h.all.val c0 h.mem) (by rfl)) (fun _ => rfl))))).pt (pss_one (ps_ret pe_str)) pss_nil, fun D H b hb1 t q => ?_⟩
    refine ⟨⟨b, rfl, hb1⟩, t, fun H' e' t' => ⟨rfl, false, rfl, ?_⟩⟩
    exact ⟨rfl, true, rfl, q H' e' t'⟩
  -- the word
  obtain ⟨T4, P4, t4⟩ : ∃ t, PS X s4 t ∧ ∀ D H b b2, H b = some (.lst (cs.map fun d => .bl (decide (c0 = d)))) → H b2 = some (.lst (l3.map V.str)) → LamX.Tabs Tabl.T H → (∀ H', Ext H [] H' [] → LamX.Tabs Tabl.T H' → D.rt (.str z) H') → t D [some (.ref p.1), some (.ref b), some (.ref b2)] H := by
    unfold k4Of at e4
    split at e4
    rotate_left
    · cases e4
    split at e4
    rotate_left
    · cases e4
    rename_i c
    simp only [Bool.and_eq_true, decide_eq_true_eq] at c
    obtain ⟨⟨⟨⟨⟨⟨⟨rfl, g1⟩, g2⟩, rfl⟩, g3⟩, g4⟩, rfl⟩, g5⟩ := c
    have mi : meth .index (.lst (mks c0 cs)) [.bl true] [] = some (.int (i : Nat), []) := by
      show (if (W.data dep (.bl true) && W.datas dep (mks c0 cs)) = true then (indexIn (.bl true) 0 (mks c0 cs)).map fun i => (RL.W.int i, ([] : Hs)) else none) = _
      rw [if_pos (mks_data c0 cs), mks_index 0 hnd hi]
      simp
    have sz : (l3 ++ l4).length ≤ 1000 := hls
    rw [List.length_append] at sz
    refine ⟨_, ps_ret (pe_ix ix_list (pe_op op_cat (pe_var n2 (vis_of g1) (nd_of g2).1 (nd_of g2).2) (pe_lst (pa_strs e4))) (pe_mk (c0 := c0) (cs := cs) n1 g3 g4 PySem.F.slot_list_index PySem.F.type_list_index (me_index hu) g5 (i : Nat) mi) (fun _ _ => rfl)), fun D H b b2 hb1 hb2 t q => ?_⟩
    refine ⟨.ref b2, rfl, by rw [List.length_map]; exact few_line (by omega), fun b3 hb3 => ?_⟩
    refine ⟨b2, b3, _, _, rfl, rfl, Up.new hb3 _ _ hb2, upd_same, by rw [List.length_map, List.length_map]; exact few_line sz, fun b4 hb4 => ?_⟩
    have up : Up H (upd (upd H b3 (.lst (l4.map V.str))) b4 (.lst (l3.map V.str ++ l4.map V.str))) := fun c o q => Up.new hb4 _ _ (Up.new hb3 _ _ q)
    refine ⟨⟨b, rfl, up _ _ hb1⟩, tabs_up t up, fun H' e' t' => ?_⟩
    refine ⟨b4, _, _, .str z, rfl, rfl, .inl (.inl (e'.keep b4 _ upd_same (by simp) fun _ z => nomatch z)), ?_, q H' ((Up.ext up).trans e') t'⟩
    have lt : i < (l3 ++ l4).length := (List.getElem?_eq_some_iff.mp hz).1
    unfold L2.atI
    rw [← List.map_append]
    have : L2.ixN ((l3 ++ l4).map V.str).length ((i : Nat) : Int) = some i := by
      unfold L2.ixN
      rw [List.length_map, if_pos (by omega), if_pos (by omega)]
      rfl
    rw [this, Option.bind_some, List.getElem?_map, hz]
    rfl
  obtain ⟨T3, P3, t3⟩ := hmid T4 P4
  refine ⟨_, pss_cons P1 (pss_cons P2 P3), fun D H t q => ?_⟩
  refine t1 _ H fun b H1 u1 hb1 => t2 _ H1 b hb1 (tabs_up t u1) fun H2 e2 t' => t3 _ H2 b fun b2 H3 u3 hb2 => t4 _ H3 b b2 (u3 _ _ (e2.keep b _ hb1 (by simp) fun _ z => nomatch z)) hb2 (tabs_up t' u3) fun H4 e4 t4' => ?_
  exact q H4 ((((Up.ext u1).trans e2).trans (Up.ext u3)).trans e4) t4'
theorem kind_names {m n : Str} {l3 : List Str} {s3 : Stmt} (h : Hot X cls cs e c0 p) (hN : X.N = [e, m, n]) (e3 : k3Of X.env.scope s3 = some (n, l3)) (hls : l3.length ≤ 1000) :
    ∃ t, PS X s3 t ∧ ∀ D H b, (∀ b2 H', Up H H' → H' b2 = some (.lst (l3.map V.str)) → D.nx [some (.ref p.1), some (.ref b), some (.ref b2)] H') → t D [some (.ref p.1), some (.ref b), none] H := by
  have n2 : X.N[2]? = some n := by rw [hN]; rfl
  unfold k3Of at e3
  split at e3
  rotate_left
  · cases e3
  split at e3
  rotate_left
  · cases e3
  rename_i es p1 p2 g1
  obtain ⟨l, e5, e6⟩ := Option.map_eq_some_iff.mp e3
  cases e6
  have g1 := of_decide_eq_true g1
  refine ⟨_, ps_set h.nd n2 (.inl g1) (pe_lst (pa_strs e5)) (by rfl) (.inr g1), fun D H b q => ?_⟩
  refine ⟨by rw [List.length_map]; exact few_line hls, fun b2 hb2 => ?_⟩
  exact q b2 _ (Up.new hb2) upd_same
theorem kind_more {m n : Str} {l3 l5 : List Str} {s5 : Stmt} (h : Hot X cls cs e c0 p) (hN : X.N = [e, m, n]) (e5 : k3bOf X.env.scope n s5 = some l5) (hls : (l3 ++ l5).length ≤ 1000) :
    ∃ t, PS X s5 t ∧ ∀ D H b b2, H b2 = some (.lst (l3.map V.str)) → (∀ b3 H', Up H H' → H' b3 = some (.lst ((l3 ++ l5).map V.str)) → D.nx [some (.ref p.1), some (.ref b), some (.ref b3)] H') → t D [some (.ref p.1), some (.ref b), some (.ref b2)] H := by
  have n2 : X.N[2]? = some n := by rw [hN]; rfl
  unfold k3bOf at e5
  split at e5
  rotate_left
  · cases e5
  split at e5
  rotate_left
  · cases e5
  rename_i c
  simp only [Bool.and_eq_true, decide_eq_true_eq] at c
  obtain ⟨⟨⟨⟨rfl, rfl⟩, g1⟩, g2⟩, g3⟩ := c
  rw [List.length_append] at hls
  refine ⟨_, ps_set h.nd n2 (.inl g1) (pe_op op_cat (pe_var n2 (vis_of g2) (nd_of g3).1 (nd_of g3).2) (pe_lst (pa_strs e5))) (by rfl) (.inr g1), fun D H b b2 hb2 q => ?_⟩
  refine ⟨.ref b2, rfl, by rw [List.length_map]; exact few_line (by omega), fun b3 hb3 => ?_⟩
  refine ⟨b2, b3, _, _, rfl, rfl, Up.new hb3 _ _ hb2, upd_same, by rw [List.length_map, List.length_map]; exact few_line hls, fun b4 hb4 => ?_⟩
  refine q b4 _ (fun c o q => Up.new hb4 _ _ (Up.new hb3 _ _ q)) ?_
  rw [List.map_append]
  exact upd_same
/-- the context at the def of the word -/
theorem kind_ok {x m n : Str} {ls : List Str} {k : Nat} {fa : Addr} {fd : FuncData} {body : List Stmt} {i : Nat} {z : Str} (h : Hot X cls cs e c0 p) (hN : X.N = [e, m, n]) (q : kindOf X.env.scope e body = some (x, m, n, ls)) (rm : L2H.RoomH k X.A) (hval : X.mg (Str.ofString "ValueError") = none)
    (F : FnX X.prog X.w X.K X.mg X.base k fa fd [e] (spMarks X.K cls cs)) (hm : X.mg x = some (.ref fa)) (hk : PySem.W.keepIn X.K (.ref fa) = true) (hb : Binds X.K fd [e] []) (hi : cs[i]? = some c0) (hnd : cs.Nodup) (hc : cs.length ≤ 1000) (hls : ls.length ≤ 1000) (hz : ls[i]? = some z) :
    ∃ t, PSs X body t ∧ ∀ D H, LamX.Tabs Tabl.T H → (∀ H', Ext H [] H' [] → LamX.Tabs Tabl.T H' → D.rt (.str z) H') → t D [some (.ref p.1), none, none] H := by
  unfold kindOf at q
  split at q
  · rename_i s1 s2 s3 s4
    obtain ⟨⟨m', f'⟩, e1, q⟩ := Option.bind_eq_some_iff.mp q
    split at q
    rotate_left
    · cases q
    rename_i e2
    obtain ⟨⟨n', l3⟩, e3, q⟩ := Option.bind_eq_some_iff.mp q
    obtain ⟨l4, e4, q⟩ := Option.map_eq_some_iff.mp q
    cases q
    dsimp only at e2 e3 e4 hm hN hls hz
    refine kind_core (mid := [s3]) h hN e1 e2 e4 (fun T4 P4 => ?_) rm hval F hm hk hb hi hnd hc hls hz
    obtain ⟨T3, P3, t3⟩ := kind_names h hN e3 (by rw [List.length_append] at hls; omega)
    exact ⟨_, pss_cons P3 (pss_one P4), fun D H b q => t3 _ H b q⟩
  · rename_i s1 s2 s3 s5 s4
    obtain ⟨⟨m', f'⟩, e1, q⟩ := Option.bind_eq_some_iff.mp q
    split at q
    rotate_left
    · cases q
    rename_i e2
    obtain ⟨⟨n', l3⟩, e3, q⟩ := Option.bind_eq_some_iff.mp q
    obtain ⟨l5, e5, q⟩ := Option.bind_eq_some_iff.mp q
    obtain ⟨l4, e4, q⟩ := Option.map_eq_some_iff.mp q
    cases q
    dsimp only at e2 e3 e4 e5 hm hN hls hz
    refine kind_core (mid := [s3, s5]) h hN e1 e2 e4 (fun T4 P4 => ?_) rm hval F hm hk hb hi hnd hc hls hz
    have l1 : (l3 ++ l5).length ≤ 1000 := by rw [List.length_append] at hls; omega
    obtain ⟨T3, P3, t3⟩ := kind_names h hN e3 (by rw [List.length_append] at l1; omega)
    obtain ⟨T5, P5, t5⟩ := kind_more (l3 := l3) h hN e5 l1
    refine ⟨_, pss_cons P3 (pss_cons P5 (pss_one P4)), fun D H b q => t3 _ H b fun b2 H2 u2 hb2 => t5 _ H2 b b2 hb2 fun b3 H3 u3 hb3 => ?_⟩
    exact q b3 H3 (fun a o q => u3 a o (u2 a o q)) hb3
  · cases q
end
end RL

/-! isinstance of an error that is made, and not raised. -/
namespace RL
open PySem.Spec PySem PyProof.Rows L2
variable [Tabl]
/-- what the tables must say -/
structure MadeF (X : Cx) : Prop where
  isi : X.mg isiN = none
  val : X.mg valN = none
  ex : ∀ c ∈ exCs, ∃ C R, X.mg c = some (.ref C) ∧ ExcC X.K C ∧ X.mg ringN = some (.ref R) ∧ PySem.W.kitOne X.K (.ref C) (.ref R) = some true ∧ PySem.W.kitOne X.K (.ref C) (.type "ValueError") = some true
section
variable {X : Cx} {cv : Cv} {W : WX} {cf : CF}
/-- X(): the new object is pinned -/
theorem ev_made {C : Addr} {bmB : List Value} {B newId initId : String} {x : Str} {p pos : Pos} (F : ExcBaseFacts B newId initId bmB) (q : PySem.W.excIn X.K C bmB newId = true) (gC : X.mg x = some (.ref C)) (kC : PySem.W.keepIn X.K (.ref C) = true) (hg : Gl X x)
    (hd : (x == ("__debug__" : Str)) = false) {pins : List (Addr × Obj)} {s : Shared} {σ : L2.St} {H : Hp} {Q : Value → Shared → Prop} (I : Inv X pins σ H s)
    (h : ∀ a oe s', Inv X ((a, oe) :: pins) σ H s' → oe.cls = .ref C → oe.dict = none → (∃ vs, oe.data = .fields vs) → Q (.ref a) s') : wpAny (model X.prog X.w) X.A (eval (.Call (.Name x p) [] [] pos) X.env) Q X.xe s := by
  refine wpAny_Call_Name_kw (ld_glob I hg gC (PySem.W.callWith_K0 I.kIn kC ?_) hd)
  obtain ⟨bm, N, nm, qn, bs, hdct, sn, sub, ab, col, dd, k0, k1, k2, k3, k5, mN, hC, hN, hni, t⟩ := exc_obj I.kIn q
  refine wpAny_call_exc_subT F t hC hN hni (fun h' e hm => ?_) (Nat.zero_le _)
  obtain ⟨t2, he, _, _⟩ := hm.there
  have J : Inv X pins σ H { s with heap := h', toks := s.toks } := I.kept hm.keeps
  have nl : e ≠ X.env.locals := fun z => by
    obtain ⟨m, ⟨o, es, ep, ho, _⟩, _⟩ := I.loc
    have n := hm.new
    rw [z, ho] at n
    cases n
  have nf : e ∉ X.fs := fun z => by
    obtain ⟨_, o, ho, _⟩ := I.funs.mem z
    rw [hm.new] at ho
    cases ho
  have J2 : Inv X ((e, _) :: pins) σ H { s with heap := h', toks := s.toks } := J.pins_of fun p hp => by
    rcases List.mem_cons.mp hp with z | z
    · rw [z]
      exact ⟨he, I.hok.gone hm.new, nl, nf, fun v z => nomatch z⟩
    · exact J.pin p (List.mem_append_right _ z)
  exact h e _ _ J2 rfl rfl ⟨_, rfl⟩
/-- isinstance(C(), d) -/
theorem pe_made {C : Addr} {x d : Str} {u : Value} {v : V} {p1 p2 p3 p4 p5 : Pos} (F : ExcG X cv x) (mC : X.mg x = some (.ref C)) (E : ExcC X.K C) (mI : X.mg isiN = none) (hg : Gl X isiN) (hx : Gl X x) (nx : (x == ("__debug__" : Str)) = false)
    (hd : PE X (.Name d p4) (tC v)) (hu : ∀ w, RelV v w → w = u) (kb : PySem.W.kitOne X.K (.ref C) u = some true) : PE X (.Call (.Name isiN p1) [.Call (.Name x p2) [] [] p3, .Name d p4] [] p5) (fun _ H Q => Q (.bl true) H) := by
  obtain ⟨C', f1, f2, f3, _, _, _⟩ := F.ex
  obtain rfl : C' = C := by
    rw [f1] at mC
    cases mC
    rfl
  refine PE.mk (fun pins s σ H Q I h => ?_)
  refine wpAny_Call_Name_kw (ld_blt I hg mI isi_bt ?_ isi_nn.1 isi_nn.2)
  refine PyProof.Rows.callWith_builtin1 (e := .Call (.Name x p2) [] [] p3) (rest := [.Name d p4]) ?_ (by rfl) (by rfl)
  rw [show starEach (.Call (.Name x p2) [] [] p3 :: [.Name d p4]) X.env = (false, eval (.Call (.Name x p2) [] [] p3) X.env) :: starEach [.Name d p4] X.env from rfl]
  show wpAny _ _ (spliced ((false, eval (.Call (.Name x p2) [] [] p3) X.env) :: backTo p5 (starEach [.Name d p4] X.env))) _ _ s
  refine Calls.spliced_cons (ev_made PySem.F.excBase_ValueError f2 f1 f3 hx nx I fun a oe s1 J c1 c2 c3 => ?_)
  refine thn ((pa_cons hd pa_nil (by rfl)).run p5 _ s1 σ H (fun vs H' => vs = [v] ∧ H' = H) J ⟨rfl, rfl⟩) fun us s2 z => ?_
  obtain ⟨vs, H2, J2, r2, rfl, rfl⟩ := z
  obtain ⟨u2, rfl, r5⟩ := vals1 r2
  cases hu _ r5
  have at_ : PySem.W.InstAt s2.heap a oe C' none := by
    have g := (J2.pin (a, oe) (List.mem_append_right _ List.mem_cons_self)).1
    obtain ⟨fs, c3⟩ := c3
    cases oe
    dsimp only at c1 c2 c3 g
    subst c1 c2 c3
    exact ⟨g, rfl, rfl, trivial⟩
  have J3 : Inv X pins σ H2 s2 := J2.pins_of fun p hp => J2.pin p (List.mem_append_right _ (List.mem_cons_of_mem _ hp))
  exact PySem.W.kia_one (PySem.W.handS_kitx_exc E.hg E.hk E.hs E.hd E.ha E.hn E.ht E.hm) J3.kIn at_ kb (fun z => nomatch z) fun tk => ⟨.bl true, H2, J3.kept (t' := tk) fun _ _ z => z, rfl, h⟩
theorem made_bt : bootBuiltins valN = some (.type "ValueError") := by decide +kernel
theorem made_nn : valN ≠ "__name__" ∧ (valN == ("__debug__" : Str)) = false := by decide +kernel
theorem ring_nn : (ringN == ("__debug__" : Str)) = false := by decide +kernel
theorem sd_made {x : Str} {v : Bool} {p1 p2 p3 p4 p5 : Pos} (M : MadeF X) (hx : x ∈ exCs) (F : ExcG X cv x) (hg : Gl X isiN) (gx : Gl X x) (gd : Gl X (madeN v)) (nx : (x == ("__debug__" : Str)) = false) :
    PE X (.Call (.Name isiN p1) [.Call (.Name x p2) [] [] p3, .Name (madeN v) p4] [] p5) (tR cv W (evE cf (.made x v))) := by
  obtain ⟨C, R, m1, E, m2, k1, k2⟩ := M.ex x hx
  have main : PE X (.Call (.Name isiN p1) [.Call (.Name x p2) [] [] p3, .Name (madeN v) p4] [] p5) (fun _ H Q => Q (.bl true) H) := by
    cases v with
    | false => exact pe_made F m1 E M.isi hg gx nx (pe_glob gd m2 (v := .ref R) rfl ring_nn) (fun w r => r) k1
    | true => exact pe_made F m1 E M.isi hg gx nx (v := .ty "ValueError") (pe_ty gd M.val made_bt made_nn.1 made_nn.2) (fun w r => r) k2
  exact PE.weak main fun σ H Q ⟨G, ρ, h, α, er, sr, p⟩ => Post.ok p sr (.bl _)
end
end RL

/-! A lambda without parameters, handed to the def that tells what is said of a call. -/
namespace RL
open PySem.Spec PySem PyProof.Rows L2
variable [Tabl]
theorem marks_fn {P : Program} {w : World} {K : PySem.W.Frag} {mg : Str → Option Value} {base : Heap} {k : Nat} {f : Addr} {x e y : Str} {st : Stmt} {fd : FuncData} {cls : Str → Addr} {cs : List Str}
    (F : FunD K x x (defArgs st) (defBody st) (defScope st) [] [] f fd) (S : FnScope [e, y] [e] (defScope st)) (all : ExcAll K mg cls cs) (isi : mg (Str.ofString "isinstance") = none) (hb : marksOf cs (defScope st) e y none (defBody st) = some cs) :
    FnX P w K mg base (k + 1) f fd [e] (spMarks K cls cs) := by
  refine fn_x F S (fun p vs H Q ⟨c0, _, e, _⟩ => by rw [e]; rfl) fun cdv A outer s H vs Q p rm ⟨c0, hc, e1, er, q⟩ => ?_
  subst e1
  refine ⟨_, marks_ok (X := L2H.cxH (L2.CX P w) P w K mg base [e, y] x (defScope st) f cdv A outer s H (fun _ _ _ => False) p) ⟨all, hc, er, List.mem_singleton.mpr rfl, S.nd, rfl, isi⟩ rfl hb, ?_⟩
  exact ⟨⟨by show 1 < 2; omega, rfl, fun ds z => nomatch z⟩, q⟩
theorem kind_fn {P : Program} {w : World} {K : PySem.W.Frag} {mg : Str → Option Value} {base : Heap} {k : Nat} {f fm : Addr} {x e m n xm : Str} {st : Stmt} {fd fdm : FuncData} {cls : Str → Addr} {cs ls : List Str}
    (F : FunD K x x (defArgs st) (defBody st) (defScope st) [] [] f fd) (S : FnScope [e, m, n] [e] (defScope st)) (all : ExcAll K mg cls cs) (isi : mg (Str.ofString "isinstance") = none) (val : mg (Str.ofString "ValueError") = none) (hb : kindOf (defScope st) e (defBody st) = some (xm, m, n, ls))
    (M : FnX P w K mg base (k + 1) fm fdm [e] (spMarks K cls cs)) (hm : mg xm = some (.ref fm)) (hk : PySem.W.keepIn K (.ref fm) = true) (bd : Binds K fdm [e] []) :
    FnX P w K mg base (k + 2) f fd [e] (spKind K cls cs ls) := by
  refine fn_x F S (fun p vs H Q ⟨_, _, _, _, _, _, _, _, e, _⟩ => by rw [e]; rfl) fun cdv A outer s H vs Q p rm ⟨c0, i, z, hi, nd, l1, l2, hz, e1, er, t, q⟩ => ?_
  subst e1
  obtain ⟨T, PT, tt⟩ := kind_ok (X := L2H.cxH (L2.CX P w) P w K mg base [e, m, n] x (defScope st) f cdv A outer s H (fun _ _ _ => False) p) ⟨all, List.mem_of_getElem? hi, er, List.mem_singleton.mpr rfl, S.nd, rfl, isi⟩ rfl hb rm val M hm hk bd hi nd l1 l2 hz
  exact ⟨T, PT, tt _ H t q⟩
/-! ### the lambda -/
section
variable {s : Shared} {H : Hp} {X : Cx} {σ : L2.St} {pins : List (Addr × Obj)}
/-- the lambda's object is made; its code object is found in the table, or laid there -/
theorem lam_new {c T : Addr} {prm : Arguments} {body : Expr} {sc : Scope} {at_ : Pos} {E : Value → Shared → Prop} {R : Value → Shared → Prop} (I : Inv X pins σ H s) (tb : LamX.TabB X.base X.mg c T) (hc : X.env.code = .ref c) (tabs : LamX.Tabs Tabl.T H)
    (hm : (T, X.env.qual ++ "<lambda>") ∈ Tabl.T) (one : ∀ p ∈ Tabl.T, p.1 = T → p.2 = X.env.qual ++ "<lambda>") (nd : defaultsOf prm X.env = ([], [])) (fr : ∀ y ∈ sc.names, y.2 = .free → ∃ c, X.env.cells.lookup y.1 = some c)
    (go : ∀ (f c' : Addr) (pm ctv : Value) (H1 : Hp) (s' : Shared), Inv X pins σ H1 s' → Ext H [] H1 [] → LamX.Tabs Tabl.T H1 → H1 c' = some (LamX.CodeO c' (X.env.qual ++ "<lambda>")) → H1 f = none → f ∉ frs X.stack →
      s'.heap.get? f = some (PySem.W.kla_obj "<lambda>" (X.env.qual ++ "<lambda>") prm body sc (cloFrom X.env.cells sc.names []) pm c' ctv) → R (.ref f) s') :
    wpAny (model X.prog X.w) X.A (eval (.Lambda prm body sc at_) X.env) R E s := by
  obtain ⟨ps, e1, e2, e3⟩ := tabs _ hm
  have atT : s.heap.get? T = some { cls := .none, data := .fields ps } := I.hok T _ e1
  have bm := tb.bm.keeps I.bk
  have far : ∀ f : Addr, s.heap.objs.size ≤ f → f ∉ frs X.stack := by
    intro f hf z
    obtain e | e := List.mem_cons.mp (I.stkSub _ z)
    · exact absurd (Nat.lt_of_lt_of_le (e ▸ I.lt) hf) (Nat.lt_irrefl _)
    · exact I.nofs hf e
  apply PySem.W.kla_eval nd
  generalize hq : codeAmong at_ ps.toList = oc
  cases oc with
  | some cv =>
    obtain ⟨c', rfl, hco⟩ := e3 at_ cv hq
    refine PySem.W.kla_makeFunctionHit (mg := X.mg) (c := c) (P := T) (ps := ps) (closure_ok fr) I.ok.glob (I.mod.glob.keeps I.bk) hc (tb.code.keeps I.bk) atT e2 hq bm fun ctv h' tk kp sz => ?_
    refine go h'.objs.size c' ((X.mg "__name__").getD .none) ctv H _ (I.kept (t' := tk) fun b o e => Heap.get?_push_of_some _ (kp b o e)) (Ext.refl _ _) tabs hco (I.hok.fresh sz) (far _ sz) ?_
    apply Heap.get?_push_size; rfl
  | none =>
    refine PySem.W.kla_makeFunction (mg := X.mg) (c := c) (P := T) (ps := ps) (closure_ok fr) I.ok.glob (I.mod.glob.keeps I.bk) hc (tb.code.keeps I.bk) atT e2 hq tb.gP bm fun c' ctv h' tk but ge lt rec_ tab => ?_
    obtain ⟨_, oc, vs, t, z, g1, g2, g3⟩ := rec_
    cases z
    have nc : H c' = none := I.hok.fresh ge
    have ne : T ≠ c' := ne_of_none e1 nc
    have sz : s.heap.objs.size ≤ h'.objs.size := Nat.le_of_lt (Nat.lt_of_le_of_lt ge lt)
    generalize hf : PySem.W.kla_obj "<lambda>" (X.env.qual ++ "<lambda>") prm body sc (cloFrom X.env.cells sc.names []) ((X.mg "__name__").getD .none) c' ctv = fo at go ⊢
    have I1 := LamX.inv_table (q := X.env.qual ++ "<lambda>") (t' := tk) (more := #[rawInt at_.line, rawInt at_.col, .ref c']) (h' := h'.push fo) I e1 (fun b o hb e => Heap.get?_push_of_some _ (but b o hb e)) (Heap.get?_push_of_some _ tab) ge ⟨oc, vs, t, Heap.get?_push_of_some _ g1, g2, g3⟩
    have ex : Ext H [] (upd (upd H T (.tbl (ps ++ #[rawInt at_.line, rawInt at_.col, .ref c']))) c' (LamX.CodeO c' (X.env.qual ++ "<lambda>"))) [] := by
      refine ⟨⟨[], rfl, fun _ h => nomatch h⟩, fun b o e _ nt => ?_, fun b e => ?_⟩
      · have n1 : b ≠ c' := ne_of_none e nc
        have n2 : b ≠ T := fun z => nt ps (Option.some.inj (e.symm.trans (by rw [z]; exact e1)))
        rw [upd_ne n1, upd_ne n2]; exact e
      · by_cases n1 : b = c'
        · rw [n1]; exact nc
        · rw [upd_ne n1] at e
          by_cases n2 : b = T
          · rw [n2, upd_same] at e; cases e
          · rw [upd_ne n2] at e; exact e
    have nco : ∀ (d : Addr) (q : Str) (ps : Array Value), LamX.CodeO d q ≠ .tbl ps := fun d q ps z => by
      unfold LamX.CodeO at z
      cases z
    have tabs' : LamX.Tabs Tabl.T (upd (upd H T (.tbl (ps ++ #[rawInt at_.line, rawInt at_.col, .ref c']))) c' (LamX.CodeO c' (X.env.qual ++ "<lambda>"))) := by
      intro p hp
      by_cases hb : p.1 = T
      · rw [one p hp hb, hb]
        refine ⟨ps ++ #[rawInt at_.line, rawInt at_.col, .ref c'], by rw [upd_ne ne, upd_same], ?_, fun p' cv z => ?_⟩
        · rw [Array.toList_append]
          exact PySem.TriplesOk_snoc _ _ _ _ e2
        · rw [Array.toList_append] at z
          rcases LamX.among_app _ e2 z with z | z
          · obtain ⟨c0, a1, a2⟩ := e3 p' cv z
            exact ⟨c0, a1, ex.keep _ _ a2 (by simp) (nco _ _)⟩
          · exact ⟨c', z, upd_same⟩
      · obtain ⟨ps', a1, a2, a3⟩ := tabs p hp
        refine ⟨ps', by rw [upd_ne (ne_of_none a1 nc), upd_ne hb]; exact a1, a2, fun p' cv z => ?_⟩
        obtain ⟨c0, b1, b2⟩ := a3 p' cv z
        exact ⟨c0, b1, ex.keep _ _ b2 (by simp) (nco _ _)⟩
    refine go h'.objs.size c' ((X.mg "__name__").getD .none) ctv _ { s with heap := h'.push fo, toks := tk } I1 ex tabs' upd_same ?_ (far _ sz) ?_
    · rw [upd_ne (Nat.ne_of_gt lt), upd_ne (Nat.ne_of_gt (Nat.lt_of_lt_of_le (Heap.lt_size atT) sz))]
      exact I.hok.fresh sz
    · rw [← hf]
      apply Heap.get?_push_size; rfl
/-- the lambda called by the def that got it -/
theorem lam_act {Ng : List Str} {qg : Str} {sg : Scope} {g f c' : Addr} {cdg pm ctv : Value} {prm : Arguments} {body : Expr} {sc : Scope} {k i : Nat} {a : Str} {pn : List (Addr × Obj)} {xe : Value → Shared → Prop} {W : WX} {E : XK} {tb : TE} {p1 p2 : Pos} {Eg : XK}
    (I : Inv X pins σ H s) (L : LamX.LamS X.env.scope sc) (hf : s.heap.get? f = some (PySem.W.kla_obj "<lambda>" (X.env.qual ++ "<lambda>") prm body sc (cloFrom X.env.cells sc.names []) pm c' ctv)) (hn : H f = none) (hfr : f ∉ frs X.stack)
    (bd : bindArgs (PySem.W.kla_fn "<lambda>" (X.env.qual ++ "<lambda>") prm body sc (cloFrom X.env.cells sc.names []) pm (.ref c') ctv) ⟨[], []⟩ = pure [])
    (tk : Takes ((cxOf (L2.CX X.prog X.w) X.prog X.w X.K X.mg X.base Ng qg sg g cdg X.A X.stack s H Eg).tr pn xe) W) (rm : Room (4 * k + 34 + 2) (X.A.deeper (envOfC qg sg s.heap.objs.size g cdg))) (bare : X.A.guards = some [])
    (hb : ∀ (A : Around) (outer : List PySem.Env) (s : Shared) (H : Hp), Free1 k (A.deeper (LamX.lamEnv X sc s.heap.objs.size f c')) → PE (LamX.lamCx X A outer s H E sc f c') body tb)
    (hN : Ng[i]? = some a) (hv : Vis sg a) (hd : (a == ("__debug__" : Str)) = false) (hcd : (a == ("__classdict__" : Str)) = false) :
    PE ((cxOf (L2.CX X.prog X.w) X.prog X.w X.K X.mg X.base Ng qg sg g cdg X.A X.stack s H Eg).tr pn xe) (.Call (.Name a p1) [] [] p2)
      (fun σ1 H1 Q => σ1[i]? = some (some (.ref f)) ∧ H1 c' = some (LamX.CodeO c' (X.env.qual ++ "<lambda>")) ∧ (∀ c d H', E c d H' → W c d σ1 H') ∧ tb σ H1 Q) := by
  refine ⟨fun pins1 s1 σ1 H1 Q I1 ⟨q1, q2, qW, q3⟩ => ?_⟩
  apply wpAny_Call_Name_kw
  refine thn ((pe_var (pos := p1) (i := i) hN hv hd hcd).run pins1 s1 σ1 H1 (fun v H2 => v = .ref f ∧ H2 = H1) I1 ⟨_, q1, rfl, rfl⟩) fun u s2 ⟨v, H2, I2, r2, ev, eH⟩ => ?_
  subst ev eH
  cases (r2 : u = Value.ref f)
  have un : Un (frs X.stack) [] H H2 s.heap s2.heap := I2.base
  have hf2 := un.keep f _ hf hn hfr (by simp)
  refine PySem.W.callWith_F0 ⟨_, _, _, _, hf2⟩ ?_
  obtain ⟨⟨oc, vs, t, g1, g2, g3⟩, _, _⟩ := I2.hok c' _ q2
  have run : codeAny (model X.prog X.w) (X.A.deeper (envOfC qg sg s.heap.objs.size g cdg)) (.call (.ref f) ⟨[], []⟩) (CR (L2.CX X.prog X.w) (envOfC qg sg s.heap.objs.size g cdg :: X.stack) X.prog X.w H2 s2 Q E) s2 := by
    refine PySem.W.kla_callFunE rm.depth hf2 rfl L.co L.gen rfl ⟨c', oc, vs, t, rfl, g1, g2, g3⟩ ?_
    rw [bd]
    refine wpAny_pure (wpAny_newFunctionEnv (fun y hy => (L.own y hy).2) (fun _ hy => nomatch hy) (fun h3 hns nb => ⟨I2.nolimit.fresh _ nb, ?_⟩) L.kind)
    show codeAny _ _ (.expr body (LamX.lamEnv X sc s2.heap.objs.size f c')) _ _
    have kp : ∀ b o, s2.heap.get? b = some o → h3.get? b = some o := fun b o e => nb.extBut b o (Nat.ne_of_lt (Heap.lt_size e)) (Heap.get?_push_of_some _ e)
    have J := LamX.lam_start2 (E := E) (f := f) (c' := c') (tk := s2.toks + ([] : List (Str × Value)).length) I L I2.env0 rm.hd un hns kp
    have fr : Free1 k ((X.A.deeper (envOfC qg sg s.heap.objs.size g cdg)).deeper (LamX.lamEnv X sc s2.heap.objs.size f c')) := ⟨⟨((rm.mono (by omega) : Room (4 * k + 34 + 1) _).deeper _).mono (by omega), bare⟩, (rm : Room (4 * k + 34 + 1 + 1) _).deeper _, _, by show (X.A.frames.map _).map _ = _; rw [I.ok.frames]; rfl⟩
    refine PySem.W.kla_codeExpr (wpAny_mono ((hb _ _ s2 H2 fr).run [] _ _ H2 Q J q3) (fun v s4 hq => ?_) fun _ _ hq => hq)
    obtain ⟨x, H4, J4, rv, q⟩ := hq
    exact ⟨x, H4, J4.os, J4.bare, J4.base, J4.hok, rv, q⟩
  refine wpAny_call (codeAny_mono run fun r s3 hq => ?_)
  match r, hq with
  | .error e, hq => exact tk e s3 (XE.of_call I2 qW hq)
  | .ok (.ret u), hq => exact I2.after hq
  | .ok .next, hq => exact False.elim hq
  | .ok .brk, hq => exact False.elim hq
  | .ok .cont, hq => exact False.elim hq
/-! ### what is said of a call -/
def bangN : Str := Str.ofString "! "
def sTry (sc : Scope) (a : Str) (b : List Stmt) : Bool := match b with
  | [.Return (some (.Call (.Name rp _) [.Call (.Name a2 _) [] [] _] [] _)) _] => decide (rp = reprN) && gloB sc rp && decide (a2 = a) && visB sc a && ndbg a
  | _ => false
def sCat (sc : Scope) (e : Str) (b : List Stmt) : Option Str := match b with
  | [.Return (some (.BinOp (.Constant (.str z) _ _) .Add (.Call (.Name kd _) [.Name e2 _] [] _) _)) _] => if decide (z = bangN) && gloB sc kd && decide (e2 = e) && visB sc e && ndbg e then some kd else none
  | _ => none
def sHan (sc : Scope) (e : Str) (h : ExceptHandler) : Option (Str × Str) := match h with
  | .ExceptHandler (some (.Name r _)) (some n) b _ => if decide (n = e) && gloB sc r && decide (sc.names.lookup e = some .local) then (sCat sc e b).map fun kd => (r, kd) else none
  | _ => none
def saidOf (sc : Scope) (a e : Str) (body : List Stmt) : Option (Str × Str) := match body with
  | [.Try b [h] [] [] _] => if sTry sc a b = true then sHan sc e h else none
  | _ => none
theorem repr_bt : bootBuiltins reprN = some (.builtin "repr") := by decide +kernel
theorem repr_nn : reprN ≠ "__name__" ∧ (reprN == ("__debug__" : Str)) = false := by decide +kernel
theorem word_at {c x : Str} : ∀ {xs ys : List Str}, wordOf c xs ys = some x → ∃ i : Nat, xs[i]? = some c ∧ ys[i]? = some x
  | [], _, h => by simp [wordOf] at h
  | _ :: _, [], h => by simp [wordOf] at h
  | y :: xs, z :: ys, h => by
    unfold wordOf at h
    by_cases e : c = y
    · rw [if_pos e] at h
      exact ⟨0, by rw [e]; rfl, h⟩
    · rw [if_neg e] at h
      obtain ⟨i, h1, h2⟩ := word_at h
      exact ⟨i + 1, h1, h2⟩
theorem exCs_nd : exCs.Nodup := by decide +kernel
theorem ls_small : ∀ z ∈ exLs, z.length ≤ 100 := by decide +kernel
theorem no_takes {X : Cx} : Takes X fun _ _ _ _ => False := fun _ _ x => by
  rcases x with ⟨_, _, _, _, _, _, _, _, _, _, _, _, _, _, _, _, z⟩
  exact z.elim
theorem noPs_eq {p : Arguments} (h : noPs p = true) : p = ⟨[], [], none, [], [], none, []⟩ := by
  obtain ⟨a, b, c, d, e, f, g⟩ := p
  unfold noPs at h
  simp only [Bool.and_eq_true, List.isEmpty_iff, Option.isNone_iff_eq_none] at h
  obtain ⟨⟨⟨⟨⟨⟨rfl, rfl⟩, rfl⟩, rfl⟩, rfl⟩, rfl⟩, rfl⟩ := h
  rfl
section
variable {X : Cx} {cv : Cv} {W : WX} {cls : Str → Addr} {g : Env → Hs → R RL.W}
theorem said_rule {k : Nat} {x a e r kd ek : Str} {st : Stmt} {fS fK c T : Addr} {fdS fdK : FuncData} {prm : Arguments} {body : Expr} {sc : Scope} {p lp pos : Pos}
    (hx : Gl X x) (mx : X.mg x = some (.ref fS)) (FS : FunD X.K x x (defArgs st) (defBody st) (defScope st) [] [] fS fdS) (S : FnScope [a, e] [a] (defScope st)) (hS : saidOf (defScope st) a e (defBody st) = some (r, kd)) (bS : Binds X.K fdS [a] [])
    (mr : X.mg reprN = none) (mR : X.mg r = some (.ref (cls r))) (ring : ∀ c ∈ exCs, PySem.W.exmOne X.K (.ref (cls c)) (.ref (cls r)) = some true) (hcv : ∀ c ∈ exCs, cv c = .ref (cls c))
    (K : FnX X.prog X.w X.K X.mg X.base 2 fK fdK [ek] (spKind X.K cls exCs exLs)) (mk : X.mg kd = some (.ref fK)) (kk : PySem.W.keepIn X.K (.ref fK) = true) (bK : Binds X.K fdK [ek] [])
    (tb : LamX.TabB X.base X.mg c T) (hc : X.env.code = .ref c) (hm : (T, X.env.qual ++ "<lambda>") ∈ Tabl.T) (one : ∀ p ∈ Tabl.T, p.1 = T → p.2 = X.env.qual ++ "<lambda>") (rm : Room (4 * k + 34 + 3) X.A) (bare : X.A.guards = some []) (hd : (x == ("__debug__" : Str)) = false)
    (L : LamX.LamS X.env.scope sc) (hp : noPs prm = true) (hb : ∀ (A : Around) (outer : List PySem.Env) (s : Shared) (H : Hp) (E : XK) (f c' : Addr), Free1 k (A.deeper (LamX.lamEnv X sc s.heap.objs.size f c')) → PE (LamX.lamCx X A outer s H E sc f c') body (tR cv (fun c d _ H => E c d H) g)) :
    PE X (.Call (.Name x p) [.Lambda prm body sc lp] [] pos) (tR cv W fun ρ h => saidR (g ρ h)) := by
  have := noPs_eq hp
  subst this
  refine ⟨fun pins s σ H Q I ⟨G, ρ, h, α, er, sr, q⟩ => ?_⟩
  have kS := FS.kp
  obtain ⟨oc, od, dV, kV, doc, pm, an, cdv, ct, osl, rfl, lk, hcd, _⟩ := FS.ex
  refine wpAny_Call_Name_kw (ld_glob I hx mx ?_ hd)
  refine PySem.W.callWith_K (h₀ := X.base) I.ok.mod.kin kS ?_ (by rfl) (by rfl)
  show wpAny _ _ (spliced ((false, eval (.Lambda ⟨[], [], none, [], [], none, []⟩ body sc lp) X.env) :: backTo pos (starEach [] X.env))) _ _ s
  refine Calls.spliced_cons (lam_new I tb hc sr.tab hm one rfl (L.has I.ok) fun f c' pm' ctv H1 s' I1 ex tabs hco hn hfr hf => ?_)
  have kin := I1.kIn
  refine Calls.spliced_nil ⟨kin, ?_⟩
  have exA : Ext H α H1 α := Ext.unhide ex
  have sr1 := sr.unhide ex tabs
  have er1 := er.mono exA
  have rc : codeAny (model X.prog X.w) X.A (.call (.ref fS) ⟨[.ref f], []⟩) (CR (L2.CX X.prog X.w) X.stack X.prog X.w H1 s' Q fun _ _ _ => False) s' := by
    refine LamX.run_ofS (k := 4 * k + 34 + 2) (N := [a, e]) (ps := [a]) (us := [.ref f]) (vs := [.ref f]) lk hcd S rm I1.env0 (bS s' [.ref f] I1.kIn rfl) (.cons rfl .nil) rfl fun rm2 => ?_
    unfold saidOf at hS
    split at hS
    rotate_left
    · cases hS
    rename_i bt hn' p3 heq
    split at hS
    rotate_left
    · cases hS
    rename_i hT
    unfold sHan at hS
    split at hS
    rotate_left
    · cases hS
    rename_i r' p4 n' bc p5
    split at hS
    rotate_left
    · cases hS
    rename_i c1
    obtain ⟨kd', hC, z⟩ := Option.map_eq_some_iff.mp hS
    cases z
    simp only [Bool.and_eq_true, decide_eq_true_eq] at c1
    obtain ⟨⟨rfl, c2⟩, c3⟩ := c1
    unfold sTry at hT
    split at hT
    rotate_left
    · cases hT
    rename_i rp p6 a2 p7 p8 p9 p10
    simp only [Bool.and_eq_true, decide_eq_true_eq] at hT
    obtain ⟨⟨⟨⟨rfl, t1⟩, rfl⟩, t2⟩, t3⟩ := hT
    unfold sCat at hC
    split at hC
    rotate_left
    · cases hC
    rename_i z p11 j11 kd2 p12 e2 p13 p14 p15 p16
    split at hC
    rotate_left
    · cases hC
    rename_i c4
    cases hC
    simp only [Bool.and_eq_true, decide_eq_true_eq] at c4
    obtain ⟨⟨⟨⟨rfl, g1⟩, rfl⟩, g2⟩, g3⟩ := c4
    rw [heq]
    obtain ⟨Z, hZ⟩ : ∃ Z : Cx, Z = cxOf (L2.CX X.prog X.w) X.prog X.w X.K X.mg X.base [a2, e2] x (defScope st) fS cdv X.A X.stack s' H1 (fun _ _ _ => False) := ⟨_, rfl⟩
    have hgl : Gl Z r := by rw [hZ]; exact (glo_of (X := cxOf (L2.CX X.prog X.w) X.prog X.w X.K X.mg X.base [a2, e2] x (defScope st) fS cdv X.A X.stack s' H1 (fun _ _ _ => False)) c2).1
    have fr1 : Free k (X.A.deeper (envOfC x (defScope st) s'.heap.objs.size fS cdv)) := ⟨rm2.mono (by omega), bare⟩
    rw [← hZ]
    refine ⟨_, pss_one (ps_try_as (X := Z) (x := r) (n := e2) (c := .ref (cls r)) (i := 1) (Wout := fun _ _ _ _ => False)
      (tb := fun W' D σ1 H2 => σ1 = [some (.ref f), none] ∧ H2 c' = some (LamX.CodeO c' (X.env.qual ++ "<lambda>")) ∧ tR cv (fun c d _ H' => W' c d [some (.ref f), none] H') g σ H2 fun v H3 => rCl (blt .repr) [v] H3 D.rt)
      (ts := fun a' cl d D σ1 H2 => ∃ c0, ∃ i : Nat, ∃ z, exCs[i]? = some c0 ∧ exLs[i]? = some z ∧ cl = .ref (cls c0) ∧ d = none ∧ σ1[1]? = some (some (.ref a')) ∧ LamX.Tabs Tabl.T H2 ∧ ∀ H3, Ext H2 [] H3 [] → LamX.Tabs Tabl.T H3 → D.rt (.str (bangN ++ z)) H3)
      (by rw [hZ]; rfl) (by rw [hZ]; rfl) (by rw [hZ]; exact S.nd) (by rw [hZ]; rfl) (by rw [hZ]; exact c3) ⟨hgl, (nd_of (Bool.and_eq_true_iff.mp c2).2).1, .inl (by rw [hZ]; exact mR)⟩ no_takes (fun W' pn xe tk po => ?_) (fun a' oe cl d pn hz hfld => ?_)), ?_⟩
    · subst hZ
      refine PSs.weak (pss_one (ps_ret (pe_callB (cl_repr (X := (cxOf (L2.CX X.prog X.w) X.prog X.w X.K X.mg X.base [a2, e2] x (defScope st) fS cdv X.A X.stack s' H1 (fun _ _ _ => False)).tr pn xe) fr1) (glo_of (X := cxOf (L2.CX X.prog X.w) X.prog X.w X.K X.mg X.base [a2, e2] x (defScope st) fS cdv X.A X.stack s' H1 (fun _ _ _ => False)) t1).1 mr repr_bt
        (pa_cons (lam_act (k := k) (E := fun c d H' => W' c d [some (.ref f), none] H') (i := 0) I1 L hf hn hfr rfl tk rm2 bare (fun A outer s H fr => hb A outer s H _ f c' fr) rfl (vis_of t2) (nd_of t3).1 (nd_of t3).2) pa_nil (by rfl)) repr_nn.1 repr_nn.2 (by rfl) (by rfl)))) fun D σ1 H2 ⟨z1, z2, z3⟩ => ?_
      subst z1
      exact ⟨rfl, z2, fun _ _ _ z => z, z3⟩
    · subst hZ
      refine PSs.weak (pss_one (ps_ret (pe_op op_add_str pe_str (pe_x (p := (a', oe)) K (by have := rm2.mono (show 2 ≤ 4 * k + 34 + 2 by omega); exact ⟨this.dp, this.un⟩) (by simp) (glo_of (X := cxOf (L2.CX X.prog X.w) X.prog X.w X.K X.mg X.base [a2, e2] x (defScope st) fS cdv X.A X.stack s' H1 (fun _ _ _ => False)) g1).1 mk kk bK (pa_cons (pe_var (i := 1) rfl (vis_of g2) (nd_of g3).1 (nd_of g3).2) pa_nil (by rfl)) (nd_of (glo_of (X := cxOf (L2.CX X.prog X.w) X.prog X.w X.K X.mg X.base [a2, e2] x (defScope st) fS cdv X.A X.stack s' H1 (fun _ _ _ => False)) g1).2).1 (by rfl) (by rfl))))) fun D σ1 H2 ⟨c0, i, z, z1, z2, z3, z4, z5, z6, z7⟩ => ?_
      subst z3 z4
      refine ⟨.ref a', z5, c0, i, z, z1, exCs_nd, by decide, by decide, z2, rfl, ⟨hz, hfld⟩, z6, fun H3 e3 t3 => ?_⟩
      refine ⟨bangN, z, rfl, rfl, ?_, z7 H3 e3 t3⟩
      have := ls_small z (List.mem_of_getElem? z2)
      have b2 : bangN.length = 2 := by decide +kernel
      rw [b2]
      exact few_line (by omega)
    · refine ⟨rfl, hco, G, ρ, h, α, er1, sr1, ?_⟩
      have q : Post G cv W σ (relW G) (saidR (g ρ h)) α H1 Q := Post.base exA q
      revert q
      cases g ρ h with
      | bad => exact fun z => z
      | ok w h' =>
        intro q α' H' v e' s' rv
        have q : Post G cv W σ (relW G) (R.of (blt .repr [w] h') h') α H1 Q := q
        cases hs : blt .repr [w] h' with
        | none => rw [hs] at q; exact q.elim
        | some z =>
          rw [hs] at q
          exact ⟨G, [w], h', α', z, .cons rv .nil, s', hs, fun u H3 e3 s3 r3 => q α' H3 u (e'.trans e3) s3 r3⟩
      | ex c0 h' =>
        intro q α' H' e' s'
        have q : Post G cv W σ (relW G) (match wordOf c0 exCs exLs with | some x => R.ok (.str (Str.ofString "! " ++ x)) h' | none => .bad) α H1 Q := q
        cases hw : wordOf c0 exCs exLs with
        | none => rw [hw] at q; exact q.elim
        | some z =>
          rw [hw] at q
          obtain ⟨i, z1, z2⟩ := word_at hw
          have m1 := List.mem_of_getElem? z1
          refine ⟨true, by rw [hcv c0 m1, hZ]; exact ring c0 m1, fun _ a' ha => ⟨c0, i, z, z1, z2, hcv c0 m1, rfl, rfl, s'.tab, fun H3 e3 t3 => ?_⟩, fun z => nomatch z⟩
          exact q α' H3 _ (e'.trans (Ext.unhide e3)) (s'.unhide e3 t3) (.str _)
  refine wpAny_call (codeAny_mono rc fun res s2 hq => ?_)
  match res, hq with
  | .error _, hq =>
    rcases hq with ⟨_, _, _, _, _, _, _, _, _, _, _, _, z⟩
    exact z.elim
  | .ok (.ret u), hq => exact I1.after hq
  | .ok .next, hq => exact False.elim hq
  | .ok .brk, hq => exact False.elim hq
  | .ok .cont, hq => exact False.elim hq
/-- what the head tells, so that a lambda may be handed on -/
structure SaidF (X : Cx) (cv : Cv) (k : Nat) : Prop where
  ex : ∃ (a e r kd ek : Str) (st : Stmt) (fS fK c T : Addr) (fdS fdK : FuncData) (cls : Str → Addr),
    X.mg saidN = some (.ref fS) ∧ FunD X.K saidN saidN (defArgs st) (defBody st) (defScope st) [] [] fS fdS ∧ FnScope [a, e] [a] (defScope st) ∧ saidOf (defScope st) a e (defBody st) = some (r, kd) ∧ Binds X.K fdS [a] [] ∧
    X.mg reprN = none ∧ X.mg r = some (.ref (cls r)) ∧ (∀ c ∈ exCs, PySem.W.exmOne X.K (.ref (cls c)) (.ref (cls r)) = some true) ∧ (∀ c ∈ exCs, cv c = .ref (cls c)) ∧
    FnX X.prog X.w X.K X.mg X.base 2 fK fdK [ek] (spKind X.K cls exCs exLs) ∧ X.mg kd = some (.ref fK) ∧ PySem.W.keepIn X.K (.ref fK) = true ∧ Binds X.K fdK [ek] [] ∧
    LamX.TabB X.base X.mg c T ∧ X.env.code = .ref c ∧ (T, X.env.qual ++ "<lambda>") ∈ Tabl.T ∧ (∀ p ∈ Tabl.T, p.1 = T → p.2 = X.env.qual ++ "<lambda>")
  rm : Room (4 * k + 34 + 3) X.A
  bare : X.A.guards = some []
  made : MadeF X
theorem said_nd : (saidN == ("__debug__" : Str)) = false := by decide +kernel
theorem SaidF.rule {k : Nat} (F : SaidF X cv k) {prm : Arguments} {body : Expr} {sc : Scope} {p lp pos : Pos} (hx : Gl X saidN) (L : LamX.LamS X.env.scope sc) (hp : noPs prm = true)
    (hb : ∀ (A : Around) (outer : List PySem.Env) (s : Shared) (H : Hp) (E : XK) (f c' : Addr), Free1 k (A.deeper (LamX.lamEnv X sc s.heap.objs.size f c')) → PE (LamX.lamCx X A outer s H E sc f c') body (tR cv (fun c d _ H => E c d H) g)) :
    PE X (.Call (.Name saidN p) [.Lambda prm body sc lp] [] pos) (tR cv W fun ρ h => saidR (g ρ h)) := by
  obtain ⟨a, e, r, kd, ek, st, fS, fK, c, T, fdS, fdK, cls, h1, h2, h3, h4, h5, h6, h7, h8, h9, h10, h11, h12, h13, h14, h15, h16, h17⟩ := F.ex
  exact said_rule hx h1 h2 h3 h4 h5 h6 h7 h8 h9 h10 h11 h12 h13 h14 h15 h16 h17 F.rm F.bare said_nd L hp hb
end
end
end RL

/-! A word's first sign; {}. -/
namespace RL
open PySem.Spec PySem PyProof.Rows L2
variable [Tabl]
theorem bangS_eq : bangS = ⟨#[33]⟩ := by decide +kernel
theorem cut1 (z : Str) : (cutS z none (some 1) = bangS) ↔ z.cps[0]? = some 33 := by
  rw [bangS_eq]
  obtain ⟨a⟩ := z
  unfold cutS
  have e : (Str.mk a).length = a.toList.length := by show a.size = _; simp
  rw [e]
  generalize ha : a.toList = l
  have ea : a = l.toArray := by rw [← ha]
  subst ea
  cases l with
  | nil => simp [HT.sIx]
  | cons x r =>
    have : HT.sIx (x :: r).length (x :: r).length (some 1) = 1 := by
      unfold HT.sIx
      simp
    rw [this]
    simp [HT.sIx]
theorem first_in {z : Str} {c : Nat} (h : z.cps[0]? = some c) : c ∈ z.cps.toList := by
  have := Array.mem_of_getElem? h
  exact Array.mem_def.mp this
theorem textFrom_pre : ∀ (ts : List Str) (k : Nat) (acc : Str), ∃ r, (textFrom k acc ts).cps.toList = acc.cps.toList ++ r
  | [], k, acc => ⟨[], by show acc.cps.toList = _; simp⟩
  | t :: ts, k, acc => by
    obtain ⟨r, e⟩ := textFrom_pre ts (k + 1) (acc ++ (if k > 0 then ", " else "" : String) ++ t)
    have e : (textFrom k acc (t :: ts)).cps.toList = (acc ++ Str.ofString (if k > 0 then ", " else "") ++ t).cps.toList ++ r := e
    rw [cps_toList_append, cps_toList_append, List.append_assoc, List.append_assoc] at e
    exact ⟨_, e⟩
theorem cons_first {z : Str} {c : Nat} {r : List Nat} (h : z.cps.toList = c :: r) : z.cps[0]? = some c := by
  rw [← Array.getElem?_toList, h]; rfl
theorem bang_txt {w : RL.W} (h : noBang w = true) : (txt w).cps[0]? ≠ some 33 := by
  unfold txt
  cases w with
  | non => exact fun e => shown_none_free (k := 33) (by omega) (first_in e)
  | bl b => exact fun e => shown_bool_free (k := 33) (by omega) b (first_in e)
  | int i => exact fun e => shown_int_free (k := 33) (by omega) i (first_in e)
  | tup ws =>
    intro e
    have : (toD (.tup ws)).shown.cps.toList = 40 :: (Str.join ", " (PyData.shownAll (toDs ws)) ++ (if (PyData.shownAll (toDs ws)).length == 1 then ",)" else ")" : String)).cps.toList := by
      simp only [toD, PyData.shown, tupleText]
      rw [cps_toList_append, cps_toList_append, signs_lparen, cps_toList_append]
      rfl
    rw [cons_first this] at e
    cases e
  | lst ws =>
    intro e
    obtain ⟨r, q⟩ := textFrom_pre (PyData.shownAll (toDs ws)) 0 "["
    have : (toD (.lst ws)).shown.cps.toList = 91 :: (r ++ (("]" : String) : Str).cps.toList) := by
      simp only [toD, PyData.shown, listText]
      rw [cps_toList_append, q, signs_lbrack]
      rfl
    rw [cons_first this] at e
    cases e
  | emp => exact fun e => absurd e (by decide +kernel)
  | _ => cases h
section
variable {X : Cx} {cv : Cv} {W : WX} {cf : CF}
theorem sd_emp {pos : Pos} : PE X (.Dict [] [] pos) (tR cv W (evE cf .emp)) :=
  PE.weak pe_dnewK fun σ H Q ⟨G, ρ, h, α, er, sr, p⟩ => fun b hb => p.ok' (Ext.new hb) (sr.new hb) (.emp upd_same (sr.fz hb))
theorem bangs_weak {ie : E} {σ : L2.St} {H : Hp} {Q : VK} (hq : tR cv W (evE cf (.bangs ie)) σ H Q) : tOp rEq (tSl rSlS (tR cv W (evE cf ie)) tNoPart (tPart (tC (.int 1)))) (tC (.str bangS)) σ H Q := by
  obtain ⟨G, ρ, h, α, er, sr, p⟩ := hq
  simp only [evE] at p
  refine ⟨G, ρ, h, α, er, sr, p.bind fun x h1 α1 H1 c e1 s1 r1 p1 => ?_⟩
  have key : ∀ (z : Str) (b : Bool), c = .str z → z.length ≤ sizeLine → decide (z.cps[0]? = some 33) = b → Q (.bl b) H1 → ∃ i, V.int 1 = .int i ∧ ∃ y, c = .str y ∧ y.length ≤ sizeLine ∧ scal (.str (cutS y none (some i))) (.str bangS) = true ∧ Q (.bl (decide (V.str (cutS y none (some i)) = V.str bangS))) H1 := fun z b hc hz hb q => by
    refine ⟨1, rfl, z, hc, hz, rfl, ?_⟩
    have : decide (V.str (cutS z none (some 1)) = V.str bangS) = b := by
      rw [← hb]
      simp [cut1 z]
    rw [this]
    exact q
  cases x with
  | str z =>
    have p1 : Post G cv W σ (relW G) (R.of (if z.length ≤ 1000 then some (RL.W.bl (decide (z.cps[0]? = some 33))) else none) h1) α1 H1 Q := p1
    by_cases hz : z.length ≤ 1000
    · rw [if_pos hz] at p1
      exact key z _ r1.of_str (few_line hz) rfl (p1.ok s1 (.bl _))
    · rw [if_neg hz] at p1
      exact p1.elim
  | rs w =>
    have p1 : Post G cv W σ (relW G) (R.of (if (noBang w && (isEmp w || RL.W.shows w)) = true then some (RL.W.bl false) else none) h1) α1 H1 Q := p1
    by_cases hz : (noBang w && (isEmp w || RL.W.shows w)) = true
    · rw [if_pos hz] at p1
      obtain ⟨h2, h3⟩ := Bool.and_eq_true_iff.mp hz
      cases r1
      refine key (txt w) false rfl ?_ (decide_eq_false (bang_txt h2)) (p1.ok s1 (.bl _))
      cases hne : isEmp w with
      | true =>
        cases w <;> first | cases hne | skip
        exact Nat.le_trans (show (PyData.dict []).shown.length ≤ 100 by decide +kernel) (by rw [sizeLine_eq]; decide)
      | false =>
        rw [hne, Bool.false_or] at h3
        exact (shows_ok h3).2.2
    · rw [if_neg hz] at p1
      exact p1.elim
  | _ => exact p1.elim
theorem sd_bangs {e : Expr} {ie : E} {j j2 : Nat} {p1 p2 p3 p4 p5 : Pos} (he : PE X e (tR cv W (evE cf ie))) :
    PE X (.Compare (.Subscript e (.Slice none (some (.Constant (.int 1) j p1)) none p2) p3) [.Eq] [.Constant (.str bangS) j2 p4] p5) (tR cv W (evE cf (.bangs ie))) :=
  PE.weak (pe_cmpR op_eq (pe_slice sl_str he po_none (po_some pe_int)) pe_str (by rfl)) fun σ H Q q => bangs_weak q
theorem asT_tR {f : Env → Hs → R RL.W} {σ : L2.St} {H : Hp} {Q : Bool → Hp → Prop} (q : tRT cv W (asT f) σ H Q) : tR cv W f σ H fun v H' => ∃ k, v = .bl k ∧ Q k H' := by
  obtain ⟨G, ρ, h, α, er, sr, p⟩ := q
  refine ⟨G, ρ, h, α, er, sr, p.bind fun x h1 α1 H1 c e1 s1 r1 p1 => ?_⟩
  cases hb : asBl x with
  | none => rw [hb] at p1; exact p1.elim
  | some b =>
    rw [hb] at p1
    have := asBl_some hb
    subst this
    exact ⟨b, r1.of_bl, p1.ok s1 rfl⟩
theorem sd_bangsT {e : Expr} {ie : E} {j j2 : Nat} {p1 p2 p3 p4 p5 : Pos} (he : PE X e (tR cv W (evE cf ie))) :
    PT X (.Compare (.Subscript e (.Slice none (some (.Constant (.int 1) j p1)) none p2) p3) [.Eq] [.Constant (.str bangS) j2 p4] p5) (tRT cv W (asT (evE cf (.bangs ie)))) :=
  PT.weak (pt_cmpR op_eq (pe_slice sl_str he po_none (po_some pe_int)) pe_str (by rfl)) fun σ H Q q => bangs_weak (asT_tR q)
end
end RL

/-! x[::-1] of a list or a tuple; range(a, b, c); [:1] != "(". -/
namespace RL
open PySem.Spec PySem PyProof.Rows L2 HT
variable [Tabl]
section
variable {pr : Program} {wo : World} {ar : Around} {ex : Value → Shared → Prop} {s : Shared}
theorem rev_adjust (n : Nat) : Builtin.Slice.sliceAdjust none none (-1) (n : Int) = ((n : Int) - 1, -1) := by
  unfold Builtin.Slice.sliceAdjust; rfl
theorem rev_places (n : Nat) : Builtin.Slice.slicePlaces ((n : Int) - 1) (-1) (-1) = n := by
  show (if (-1 : Int) > 0 then _ else (if (n : Int) - 1 > -1 then ((n : Int) - 1 - -1 - 1) / (- -1) + 1 else 0) : Int).toNat = n
  rw [if_neg (by decide)]
  by_cases c : (n : Int) - 1 > -1
  · rw [if_pos c, show (- -1 : Int) = 1 from rfl, Int.ediv_one]; omega
  · rw [if_neg c]; omega
theorem fm_congr {α β : Type} {f g : α → Option β} : ∀ {l : List α}, (∀ a ∈ l, f a = g a) → l.filterMap f = l.filterMap g
  | [], _ => rfl
  | a :: l, h => by
    rw [List.filterMap_cons, List.filterMap_cons, h a List.mem_cons_self, fm_congr fun b hb => h b (List.mem_cons_of_mem _ hb)]
theorem rev_pick (xs : Array Value) : ((List.range xs.size).filterMap fun (m : Nat) => xs[(((xs.size : Int) - 1) + (m : Int) * (-1)).toNat]?).toArray = xs.toList.reverse.toArray := by
  rw [← PySem.W.krv_pick]
  unfold PySem.slicePick
  rw [PySem.W.krv_bounds]
  show _ = ((sliceRange ((xs.size : Int) - 1) (-1) (-1)).filterMap (xs[·]?)).toArray
  rw [PySem.W.krv_sliceRange, List.filterMap_map]
  congr 1
  refine fm_congr fun m hm => ?_
  have := List.mem_range.mp hm
  show _ = xs[xs.size - 1 - m]?
  rw [show (((xs.size : Int) - 1) + (m : Int) * (-1)).toNat = xs.size - 1 - m from by omega]
/-- the parts of a slice that goes back over all -/
theorem rev_applied {sl : Addr} {k : Tok} {n : Nat} {Q : Int × Int × Nat → Shared → Prop} (hs : s.heap.IsSliceOf sl .none .none (.int (-1) k)) (h : Q ((n : Int) - 1, -1, n) s) : wpAny (model pr wo) ar (Builtin.Slice.sliceApplied (.ref sl) (pure (n : Int))) Q ex s := by
  obtain ⟨ob, g1, g2, g3⟩ := hs
  have rest : wpAny (model pr wo) ar (pure ((n : Int) - 1, (-1 : Int), Builtin.Slice.slicePlaces ((n : Int) - 1) (-1) (-1)) : Sem (Int × Int × Nat)) Q ex s := by rw [rev_places]; exact wpAny_pure h
  refine wpAny_bind (wpAny_bind (wpAny_field g1 g3 (x := .none) rfl (wpAny_bind (wpAny_field g1 g3 (x := .none) rfl (wpAny_bind (wpAny_field g1 g3 (x := .int (-1) k) rfl (wpAny_pure ?_)))))))
  refine wpAny_bind (slicePart_int ?_)
  show wpAny _ _ (if ((-1 : Int) == 0) = true then _ else _) _ _ s
  rw [if_neg (by decide)]; refine wpAny_bind (slicePart_none (wpAny_bind (slicePart_none (wpAny_bind (wpAny_pure ?_)))))
  show wpAny _ _ (match Builtin.Slice.sliceAdjust none none (-1) (n : Int) with | (lo, hi) => pure (lo, (-1 : Int), Builtin.Slice.slicePlaces lo hi (-1))) _ _ s
  rw [rev_adjust n]
  exact rest
theorem getItem_tuple_rev {t sl : Addr} {us : Array Value} {k : Tok} {Q : Value → Shared → Prop} (ht : IsTup s.heap t us) (hs : s.heap.IsSliceOf sl .none .none (.int (-1) k))
    (h : Q (.ref s.heap.objs.size) { s with heap := s.heap.push { cls := .type "tuple", data := .seq us.toList.reverse.toArray } }) (hz : us.size ≤ sizeLine) : wpAny (model pr wo) ar (getItem (.ref t) (.ref sl)) Q ex s := by
  have fits : sizeOk (.seq us.toList.reverse.toArray) := by
    show us.toList.reverse.toArray.size ≤ sizeLine
    rw [List.size_toArray, List.length_reverse, Array.length_toList]; exact hz
  have ty : s.TypeIs (.ref sl) "slice" := by
    obtain ⟨ob, g1, g2, _⟩ := hs
    exact ⟨ob, g1, g2⟩
  have look : wpAny (model pr wo) ar (call (.builtin "tuple.__getitem__") [.ref t, .ref sl]) Q ex s := by
    refine wpAny_call_entry PyProof.Rows.slot_tuple_getitem ht.typeIs entry_tuple_getitem ?_ (args_tuple_getitem _ _)
    show wpAny _ ar.in1 (Builtin.Tuple.tupleItemsOf (.ref t) >>= _) _ ex s
    refine wpAny_bind (tupleItemsOf_ ht (wpAny_bind (wpAny_typeOf ty ?_)))
    rw [if_pos (by decide)]
    refine wpAny_bind (rev_applied (n := us.size) hs ?_)
    show wpAny _ _ (if ((((us.size : Int) - 1) == 0 && (-1 : Int) == 1 && us.size == us.size) = true) then _ else _) _ _ s
    rw [if_neg (by intro q; rw [Bool.and_eq_true, Bool.and_eq_true] at q; exact absurd q.1.2 (by decide)), rev_pick]
    refine wpAny_bind (wpAny_newObj_type ?_ fits)
    exact wpAny_pure ⟨_, rfl, h⟩
  unfold getItem
  refine wpAny_holding ?_
  refine wpAny_bind (wpAny_sequenceKey ht.typeIs (by decide) (wpAny_bind (wpAny_callSpecial?_slot (name := Str.ofString "__getitem__") ht.typeIs PyProof.Rows.slot_tuple_getitem ?_)))
  exact thn look fun v s' q => wpAny_pure q
end
section
variable {X : Cx} {cv : Cv} {W : WX} {cf : CF}
def tRevA (K : PySem.W.Frag) (te : TE) : TE := fun σ H Q => te σ H fun x H1 => (∃ a xs, x = .ref a ∧ SqL K H1 a xs ∧ ∀ p, H1 p = none → Q (.ref p) (upd H1 p (.lst xs.reverse))) ∨ (∃ a xs, x = .ref a ∧ SqT K H1 a xs ∧ Lays H1 xs.reverse Q)
theorem pe_revA {e : Expr} {te : TE} {k : Nat} {p1 p2 p3 pos : Pos} (he : PE X e te) : PE X (.Subscript e (.Slice none none (some (.UnaryOp .USub (.Constant (.int 1) k p1) p2)) p3) pos) (tRevA X.K te) := by
  refine ⟨fun pins s σ H Q I h => Subscript_ (thn (he.run pins s σ H _ I h) fun v s1 ⟨x, H1, I1, r1, q1⟩ => ?_)⟩
  obtain ⟨a, ex⟩ : ∃ a, x = .ref a := q1.elim (fun ⟨a, _, e, _⟩ => ⟨a, e⟩) fun ⟨a, _, e, _⟩ => ⟨a, e⟩
  subst ex
  cases r1
  have back : PO X (some (.UnaryOp .USub (.Constant (.int 1) k p1) p2)) (tPart (tUn (rU fun i => .int (-i)) (tC (.int 1)))) :=
    po_some (pe_un un_neg pe_int)
  refine wpAny_Slice (thn (po_none.run pins s1 σ H1 (fun o G => o = none ∧ G = H1) I1 ⟨rfl, rfl⟩) fun vl s2 ⟨l, H2, I2, pl, el, e2⟩ => ?_)
  subst el e2; refine thn (po_none.run pins s2 σ H2 (fun o H3 => o = none ∧ H3 = H2) I2 ⟨rfl, rfl⟩) fun vu s3 ⟨u, H3, I3, pu, eu, e3⟩ => ?_
  subst eu e3; refine thn (back.run pins s3 σ H3 (fun o H4 => o = some (-1) ∧ H4 = H3) I3 ⟨1, rfl, -1, rfl, rfl, rfl⟩) fun vs s4 ⟨o, H4, I4, ps, eo, e4⟩ => ?_
  subst eo e4
  cases pl
  cases pu
  cases ps with
  | int _ k =>
  have I5 : Inv X pins σ H4 { s4 with heap := s4.heap.push { cls := .type "slice", data := .fields #[.none, .none, .int (-1) k] } } := I4.kept (t' := s4.toks) fun b ob q => Heap.get?_push_of_some _ q
  show wpAny (model X.prog X.w) X.A (subscriptTail e (.Slice none none (some (.UnaryOp .USub (.Constant (.int 1) _ p1) p2)) p3) (.ref a) (.ref s4.heap.objs.size)) (EP X pins σ Q) X.xe { s4 with heap := s4.heap.push { cls := .type "slice", data := .fields #[.none, .none, .int (-1) k] } }
  obtain ⟨a', xs, ex, hx, q⟩ | ⟨a', xs, ex, hx, q⟩ := q1
  · cases ex
    obtain ⟨its, r, ht, hz⟩ := I5.list hx; have hlen := r.length
    refine tail_any (ops := [.ref a, .ref s4.heap.objs.size]) ht.isList.typeIs (PySem.slot_list_getitem.lookup) (wpAny_getItem_list_slice ht.isList (Heap.IsSliceOf.new _ .none .none (.int (-1) k)) .none .none (.int _ _) (by decide) ?_ (by rw [List.size_toArray]; omega)) (by with_unfolding_all rfl)
    rw [PySem.W.krv_pick]; refine ⟨.ref _, _, I5.laid (t' := s4.toks) (o := .lst xs.reverse) (fun b ob q => Heap.get?_push_of_some _ q) (Nat.le_refl _) ⟨by rw [List.length_reverse]; exact hz, _, 0, r.reverse, Heap.get?_push_size _ rfl⟩, rfl, q _ (I5.hok.fresh (Nat.le_refl _))⟩
  · cases ex
    obtain ⟨its, r, ht, hz⟩ := I5.tuple hx; have hlen := r.length
    refine tail_any (ops := [.ref a, .ref s4.heap.objs.size]) ht.typeIs PyProof.Rows.slot_tuple_getitem.lookup (getItem_tuple_rev ht (Heap.IsSliceOf.new _ .none .none (.int (-1) k)) ?_ (by rw [List.size_toArray]; omega)) (by with_unfolding_all rfl)
    exact lay_end I5 r.reverse (by rw [List.length_reverse]; exact hz) _ q
theorem reps_rev {G : Gx} {H : Hp} {α : List Addr} : ∀ {ws : List RL.W} {vs : List V}, Reps G H α ws vs → Reps G H α ws.reverse vs.reverse
  | _, _, .nil => .nil
  | _, _, .cons h r => by
    simp only [List.reverse_cons]
    exact (reps_rev r).append (.cons h .nil)
theorem sd_rev {e : Expr} {ie : E} {k : Nat} {p1 p2 p3 pos : Pos} (he : PE X e (tR cv W (evE cf ie))) : PE X (.Subscript e (.Slice none none (some (.UnaryOp .USub (.Constant (.int 1) k p1) p2)) p3) pos) (tR cv W (evE cf (.rev ie))) := by
  refine PE.weak (pe_revA he) fun σ H Q ⟨G, ρ, h, α, er, sr, p⟩ => ?_
  simp only [evE] at p
  refine ⟨G, ρ, h, α, er, sr, p.bind fun x h1 α1 H1 c e1 s1 r1 p1 => ?_⟩
  have lst : ∀ ws : List RL.W, itemsL h1 x = some ws → revW h1 x = some (.lst ws.reverse) → ∃ a xs, c = .ref a ∧ SqL X.K H1 a xs ∧ ∀ p, H1 p = none → Q (.ref p) (upd H1 p (.lst xs.reverse)) := fun ws q1 q2 => by
    rw [q2] at p1
    obtain ⟨a, vs, rfl, hr, q3⟩ := rep_itemsL s1 r1 q1
    refine ⟨a, vs, rfl, .inl (.inl hr), fun b hb => p1.ok' (Ext.new hb) (s1.new hb) (.lst upd_same (s1.fz hb) (Reps.mono (Ext.new hb) (reps_rev q3)))⟩
  cases x with
  | tup ws =>
    have p1 : Post G cv W σ (relW G) (R.of (some (RL.W.tup ws.reverse)) h1) α1 H1 Q := p1
    obtain ⟨a, vs, rfl, hr, _, q3⟩ := r1.of_tup
    exact .inr ⟨a, vs, rfl, hr.sq, fun b _ hd hb => p1.ok' (Ext.new hb) (s1.new hb) (.tup upd_same hd (s1.fz hb) (Reps.mono (Ext.new hb) (reps_rev q3)))⟩
  | lst ws => exact .inl (lst ws rfl rfl)
  | loc n =>
    cases q : listAt h1 n with
    | none =>
      have p1 : Post G cv W σ (relW G) (R.of ((listAt h1 n).map fun ws => RL.W.lst ws.reverse) h1) α1 H1 Q := p1
      rw [q] at p1
      exact p1.elim
    | some ws => exact .inl (lst ws q (by show (listAt h1 n).map _ = _; rw [q]; rfl))
  | _ => exact p1.elim
/-! ### range(a, b, -1) -/
theorem rngDL_get : ∀ (n : Nat) (lo : Int) (i : Nat), (rngDL lo n)[i]? = if i < n then some (.int (lo + (i : Nat) * (-1))) else none
  | 0, _, i => by simp [rngDL]
  | n + 1, lo, 0 => by simp [rngDL]
  | n + 1, lo, i + 1 => by
    rw [rngDL, List.getElem?_cons_succ, rngDL_get n (lo - 1) i]
    by_cases h : i < n
    · rw [if_pos h, if_pos (show i + 1 < n + 1 by omega)]
      congr 2; push_cast; omega
    · rw [if_neg h, if_neg (show ¬ i + 1 < n + 1 by omega)]
theorem rngDL_len : ∀ (n : Nat) (lo : Int), (rngDL lo n).length = n
  | 0, _ => rfl
  | n + 1, lo => by rw [rngDL, List.length_cons, rngDL_len n]
theorem wk_rngd {G : Gx} {lo : Int} {n : Nat} {α : List Addr} {H : Hp} (hn : n ≤ lim) : Wk G (Itc lo (-1) n) (.ws (rngDL lo n)) α H := by
  refine ⟨fun G' α' H' h' i w g e s q => ?_, fun G' α' H' h' i g e s q => ?_, ?_⟩
  · have q' : (rngDL lo n)[i]? = some w := Option.some.inj q
    rw [rngDL_get] at q'
    split at q' <;> cases q'
    rename_i hi
    exact ⟨hi, fun x H'' hy => by obtain ⟨rfl, rfl⟩ := hy; exact ⟨Ext.refl _ _, s, .int _⟩⟩
  · have q' : (rngDL lo n)[i]? = none := Option.some.inj q
    rw [rngDL_get] at q'
    split at q' <;> first | cases q' | skip
    rename_i hi
    exact Nat.not_lt.mp hi
  · intro z us e
    cases e
    rw [rngDL_len]
    exact lim_size hn
theorem id_rngd {tg a b : Expr} {ia ib : E} {k : Nat} {p p1 p2 pos : Pos} (hg : Gl X "range") (hm : X.mg "range" = none) (ha : PE X a (tR cv W (evE cf ia))) (hb : PE X b (tR cv W (evE cf ib))) (hs : starEach [a, b, .UnaryOp .USub (.Constant (.int 1) k p1) p2] X.env = (false, eval a X.env) :: starEach [b, .UnaryOp .USub (.Constant (.int 1) k p1) p2] X.env) (hs2 : starEach [b, .UnaryOp .USub (.Constant (.int 1) k p1) p2] X.env = [(false, eval b X.env), (false, eval (.UnaryOp .USub (.Constant (.int 1) k p1) p2) X.env)]) :
    PI X tg (.Call (.Name "range" p) [a, b, .UnaryOp .USub (.Constant (.int 1) k p1) p2] [] pos) (tI cv W (evIt cf (.rngd ia ib))) := by
  have pa : PA X [a, b, .UnaryOp .USub (.Constant (.int 1) k p1) p2] (tCons (tR cv W (evE cf ia)) (tCons (tR cv W (evE cf ib)) (tCons (tUn (rU fun i => .int (-i)) (tC (.int 1))) tNil))) :=
    pa_cons ha (pa_cons hb (pa_cons (pe_un un_neg pe_int) pa_nil (by rfl)) (by rw [hs2]; rfl)) hs
  refine PI.weak (pi_range3 hg hm pa hs (by rw [hs2]; rfl)) fun σ H Rr ⟨G, ρ, h, α, er, sr, p⟩ => ?_
  simp only [evIt] at p
  refine ⟨G, ρ, h, α, er, sr, p.bind fun x h1 α1 H1 c e1 s1 r1 p1 => ?_⟩
  refine ⟨G, ρ, h1, α1, er.mono e1, s1, p1.bind fun y h2 α2 H2 d e2 s2 r2 p2 => ?_⟩
  cases q1 : asInt x with
  | none => rw [q1] at p2; exact p2.elim
  | some n =>
    cases q3 : asInt y with
    | none => rw [q1, q3] at p2; exact p2.elim
    | some m =>
      cases q2 : rngD n m with
      | none => rw [q1, q3] at p2; simp only [Option.bind_some, q2] at p2; exact p2.elim
      | some ws =>
        rw [q1, q3] at p2
        simp only [Option.bind_some, q2] at p2
        have ew : ws = rngDL n (n - m).toNat ∧ (n - m).toNat ≤ lim ∧ inRng n = true ∧ inRng m = true := by
          unfold rngD at q2
          split at q2 <;> cases q2
          rename_i hc
          exact ⟨rfl, hc⟩
        obtain ⟨rfl, hl, ha', hb'⟩ := ew
        have ha' := inRng_lt ha'
        have hb' := inRng_lt hb'
        have := asInt_some q1; subst this
        have := asInt_some q3; subst this
        have ec := (r1.mono e2).of_int
        have ed := r2.of_int
        subst ec ed
        exact ⟨1, rfl, n, m, -1, (n - m).toNat, rfl, RgC.neg ha'.1 ha'.2 hb'.1 hb'.2, p2 _ _ _ (Ext.refl _ _) s2 (wk_rngd hl)⟩
/-! ### [:1] != "(" -/
theorem cut1c (c : Nat) (z : Str) : (cutS z none (some 1) = ⟨#[c]⟩) ↔ z.cps[0]? = some c := by
  obtain ⟨a⟩ := z
  unfold cutS
  have e : (Str.mk a).length = a.toList.length := by show a.size = _; simp
  rw [e]
  generalize ha : a.toList = l
  have ea : a = l.toArray := by rw [← ha]
  subst ea
  cases l with
  | nil => simp [HT.sIx]
  | cons x r =>
    have : HT.sIx (x :: r).length (x :: r).length (some 1) = 1 := by
      unfold HT.sIx; simp
    rw [this]; simp [HT.sIx]
theorem parenS_eq : parenS = ⟨#[40]⟩ := by decide +kernel
theorem tup_paren (ws : List RL.W) : (txt (.tup ws)).cps[0]? = some 40 := by
  unfold txt
  refine cons_first (r := (Str.join ", " (PyData.shownAll (toDs ws)) ++ (if (PyData.shownAll (toDs ws)).length == 1 then ",)" else ")" : String)).cps.toList) ?_
  simp only [toD, PyData.shown, tupleText]
  rw [cps_toList_append, cps_toList_append, signs_lparen, cps_toList_append]; rfl
theorem paren_weak {ie : E} {σ : L2.St} {H : Hp} {Q : VK} (hq : tR cv W (evE cf (.paren ie)) σ H Q) : tOp rNe (tSl rSlS (tR cv W (evE cf ie)) tNoPart (tPart (tC (.int 1)))) (tC (.str parenS)) σ H Q := by
  obtain ⟨G, ρ, h, α, er, sr, p⟩ := hq
  simp only [evE] at p
  refine ⟨G, ρ, h, α, er, sr, p.bind fun x h1 α1 H1 c e1 s1 r1 p1 => ?_⟩
  cases x with
  | rs w =>
    cases w with
    | tup ws =>
      have p1 : Post G cv W σ (relW G) (R.of (if RL.W.shows (.tup ws) = true then some (RL.W.bl false) else none) h1) α1 H1 Q := p1
      by_cases hz : RL.W.shows (.tup ws) = true
      · rw [if_pos hz] at p1
        cases r1
        refine ⟨1, rfl, txt (.tup ws), rfl, (shows_ok hz).2.2, rfl, ?_⟩
        have e : decide (V.str (cutS (txt (.tup ws)) none (some 1)) = V.str parenS) = true := by
          rw [decide_eq_true_eq, parenS_eq, (cut1c 40 _).mpr (tup_paren ws)]
        rw [e]
        exact p1.ok s1 (.bl _)
      · rw [if_neg hz] at p1
        exact p1.elim
    | _ => exact p1.elim
  | _ => exact p1.elim
theorem sd_paren {e : Expr} {ie : E} {j j2 : Nat} {p1 p2 p3 p4 p5 : Pos} (he : PE X e (tR cv W (evE cf ie))) :
    PE X (.Compare (.Subscript e (.Slice none (some (.Constant (.int 1) j p1)) none p2) p3) [.NotEq] [.Constant (.str parenS) j2 p4] p5) (tR cv W (evE cf (.paren ie))) :=
  PE.weak (pe_cmpR op_ne (pe_slice sl_str he po_none (po_some pe_int)) pe_str (by rfl)) fun σ H Q q => paren_weak q
theorem sd_parenT {e : Expr} {ie : E} {j j2 : Nat} {p1 p2 p3 p4 p5 : Pos} (he : PE X e (tR cv W (evE cf ie))) :
    PT X (.Compare (.Subscript e (.Slice none (some (.Constant (.int 1) j p1)) none p2) p3) [.NotEq] [.Constant (.str parenS) j2 p4] p5) (tRT cv W (asT (evE cf (.paren ie)))) :=
  PT.weak (pt_cmpR op_ne (pe_slice sl_str he po_none (po_some pe_int)) pe_str (by rfl)) fun σ H Q q => paren_weak (asT_tR q)
end
end RL

/-! join, split, f-strings, a text once or not at all; a mapping of one key. -/
namespace RL
open PySem.Spec PySem PyProof.Rows L2
variable [Tabl]
theorem strs_vals {G : Gx} {H : Hp} {α : List Addr} : ∀ {ys : List Str} {vs : List V}, Reps G H α (ys.map RL.W.str) vs → vs = ys.map V.str
  | [], _, h => by cases h; rfl
  | y :: ys, _, h => by
    cases h with
    | cons a b => rw [a.of_str, strs_vals b]; rfl
theorem vals_strsR {G : Gx} {H : Hp} {α : List Addr} : ∀ (ys : List Str), Reps G H α (ys.map RL.W.str) (ys.map V.str)
  | [] => .nil
  | y :: ys => .cons (.str y) (vals_strsR ys)
section
variable {X : Cx} {cv : Cv} {W : WX} {cf : CF}
theorem sd_join {z : Str} {e : Expr} {ie : E} {j : Nat} {p apos pos : Pos} (he : PE X e (tR cv W (evE cf ie))) (hs : starEach [e] X.env = [(false, eval e X.env)]) (hline : (apos.endLine == pos.line) = true) :
    PE X (.Call (.Attribute (.Constant (.str z) j p) "join" apos) [e] [] pos) (tR cv W (evE cf (.join z ie))) := by
  refine PE.weak (pe_join (o := .Constant (.str z) j p) pe_str he hs (att_base rfl) hline) fun σ H Q ⟨G, ρ, h, α, er, sr, q⟩ => ?_
  simp only [evE] at q
  refine ⟨⟨z, rfl⟩, G, ρ, h, α, er, sr, q.bind fun x h1 α1 H1 c e1 s1 r1 p1 => ?_⟩
  cases hx : itemsL h1 x with
  | none => rw [hx] at p1; exact p1.elim
  | some ws =>
    rw [hx, Option.bind_some] at p1
    cases hy : asStrs ws with
    | none => rw [hy] at p1; exact p1.elim
    | some ys =>
      rw [hy, Option.bind_some] at p1
      unfold gluW at p1
      split at p1
      · rename_i hl
        obtain ⟨a, vs, rfl, ha, rs⟩ := rep_itemsL s1 r1 hx
        have := asStrs_some hy
        subst this
        have := strs_vals rs
        subst this
        refine ⟨z, a, ys, rfl, rfl, .inl (SqL.of ha), Nat.le_trans hl (by decide), ?_⟩
        rw [glu_is]
        exact p1.ok s1 (.str _)
      · exact p1.elim
theorem sd_split {c : Nat} {o : Expr} {io : E} {j : Nat} {p apos pos : Pos} (ho : PE X o (tR cv W (evE cf io))) (hb : notCall o = true) (hline : (apos.endLine == pos.line) = true) :
    PE X (.Call (.Attribute o "split" apos) [.Constant (.str (ofS [c])) j p] [] pos) (tR cv W (evE cf (.split io c))) := by
  refine PE.weak (pe_split ho (e := .Constant (.str (ofS [c])) j p) pe_str (by rfl) (att_base hb) hline) fun σ H Q ⟨G, ρ, h, α, er, sr, q⟩ => ?_
  simp only [evE] at q
  refine ⟨G, ρ, h, α, er, sr, q.bind fun x h1 α1 H1 d e1 s1 r1 p1 => ?_⟩
  cases x with
  | str z =>
    have p1 : Post G cv W σ (relW G) (R.of (if z.length ≤ 100000 ∧ c < 256 then some (RL.W.lst ((cutN c [] (sgs z)).map fun l => RL.W.str (ofS l))) else none) h1) α1 H1 Q := p1
    split at p1
    · rename_i hl
      obtain ⟨h1, h2⟩ := hl
      have := r1.of_str
      subst this
      refine ⟨⟨z, rfl⟩, z, ofS [c], rfl, rfl, by rw [ofS_len]; rfl, Nat.le_trans (Nat.add_le_add_right h1 2) (by rw [sizeLine_eq]; decide), fun b hb => ?_⟩
      rw [cut_is z h2]
      refine p1.ok' (Ext.new hb) (s1.new hb) (.lst upd_same (s1.fz hb) ?_)
      have e : ∀ l : List (List Nat), (l.map fun l => RL.W.str (ofS l)) = (l.map ofS).map RL.W.str := fun l => by rw [List.map_map]; rfl
      rw [e]
      exact vals_strsR _
    · exact p1.elim
  | _ => exact p1.elim
theorem sd_splitv {o e : Expr} {io ie : E} {apos pos : Pos} (ho : PE X o (tR cv W (evE cf io))) (he : PE X e (tR cv W (evE cf ie))) (hs : starEach [e] X.env = [(false, eval e X.env)]) (hb : notCall o = true) (hline : (apos.endLine == pos.line) = true) :
    PE X (.Call (.Attribute o "split" apos) [e] [] pos) (tR cv W (evE cf (.splitv io ie))) := by
  refine PE.weak (pe_split ho he hs (att_base hb) hline) fun σ H Q ⟨G, ρ, h, α, er, sr, q⟩ => ?_
  simp only [evE] at q
  refine ⟨G, ρ, h, α, er, sr, q.bind fun x h1 α1 H1 d e1 s1 r1 p1 => ?_⟩
  cases x with
  | str z =>
    have := r1.of_str
    subst this
    have p1 : Post G cv W σ (relW G) ((evE cf ie ρ h1).bind fun u h => R.of (splitV (.str z) u) h) α1 H1 Q := p1
    refine ⟨⟨z, rfl⟩, G, ρ, h1, α1, er.mono e1, s1, p1.bind fun y h2 α2 H2 d e2 s2 r2 p2 => ?_⟩
    cases y with
    | str m =>
      cases hs1 : sgs m with
      | nil =>
        have p2 : Post G cv W σ (relW G) (R.of (match sgs m with | [c] => splitW c (.str z) | _ => none) h2) α2 H2 Q := p2
        rw [hs1] at p2
        exact p2.elim
      | cons c r =>
        have p2 : Post G cv W σ (relW G) (R.of (match sgs m with | [c] => splitW c (.str z) | _ => none) h2) α2 H2 Q := p2
        rw [hs1] at p2
        cases r with
        | cons _ _ => exact p2.elim
        | nil =>
          have p3 : Post G cv W σ (relW G) (R.of (if z.length ≤ 100000 ∧ c < 256 then some (RL.W.lst ((cutN c [] (sgs z)).map fun l => RL.W.str (ofS l))) else none) h2) α2 H2 Q := p2
          by_cases hl : z.length ≤ 100000 ∧ c < 256
          · rw [if_pos hl] at p3
            obtain ⟨l1, l2⟩ := hl
            have := r2.of_str
            subst this
            have em : m = ofS [c] := by rw [← ofS_sgs m, hs1]
            subst em
            refine ⟨z, ofS [c], rfl, rfl, by rw [ofS_len]; rfl, Nat.le_trans (Nat.add_le_add_right l1 2) (by rw [sizeLine_eq]; decide), fun b hb => ?_⟩
            rw [cut_is z l2]
            refine p3.ok' (Ext.new hb) (s2.new hb) (.lst upd_same (s2.fz hb) ?_)
            have e : ∀ l : List (List Nat), (l.map fun l => RL.W.str (ofS l)) = (l.map ofS).map RL.W.str := fun l => by rw [List.map_map]; rfl
            rw [e]
            exact vals_strsR _
          · rw [if_neg hl] at p3
            exact p3.elim
    | _ => exact p2.elim
  | _ => exact p1.elim
/-- the parts of an f-string, by the evaluator's term -/
structure PF (X : Cx) (cv : Cv) (W : WX) (cf : CF) (es : Es) (xs : List Expr) : Prop where
  ex : ∃ ts, PJ X xs ts ∧ ∀ (a : Str) (σ : L2.St) (H : Hp) (Q : VK), tR cv W (evF cf es a) σ H Q → tJs ts a σ H fun out H1 => Q (.str out) H1
theorem fd_nil : PF X cv W cf .nil [] := ⟨[], .nil, fun a σ H Q ⟨G, ρ, h, α, er, sr, q⟩ => q.ok sr (.str a)⟩
theorem fd_con {z : Str} {j : Nat} {p : Pos} {es : Es} {xs : List Expr} (h : PF X cv W cf es xs) : PF X cv W cf (.cons (.c (.str z)) es) (.Constant (.str z) j p :: xs) := by
  obtain ⟨ts, h1, h2⟩ := h.ex
  refine ⟨tC (.str z) :: ts, .cons pe_str h1, fun a σ H Q ⟨G, ρ, h, α, er, sr, q⟩ => ?_⟩
  simp only [evF, evE, R.bind, fmtW] at q
  split at q
  · rename_i hl
    refine ⟨z, rfl, big_line (by rw [← ofS_cat, ofS_len, List.length_append, ← len_sgs, ← len_sgs]; exact hl), h2 _ σ H Q ⟨G, ρ, h, α, er, sr, by rw [ofS_cat] at q; exact q⟩⟩
  · exact q.elim
theorem fd_fmt {e : Expr} {ie : E} {p : Pos} {es : Es} {xs : List Expr} (he : PE X e (tR cv W (evE cf ie))) (h : PF X cv W cf es xs) : PF X cv W cf (.cons ie es) (.FormattedValue e (-1) none p :: xs) := by
  obtain ⟨ts, h1, h2⟩ := h.ex
  refine ⟨tFmt (tR cv W (evE cf ie)) :: ts, .cons (pe_fmt he) h1, fun a σ H Q ⟨G, ρ, h, α, er, sr, q⟩ => ?_⟩
  simp only [evF] at q
  refine ⟨G, ρ, h, α, er, sr, q.bind fun x h1 α1 H1 d e1 s1 r1 p1 => ?_⟩
  cases x with
  | str z =>
    simp only [fmtW] at p1
    split at p1
    · rename_i hl
      have := r1.of_str
      subst this
      refine .inl ⟨z, rfl, big_line (Nat.le_trans (Nat.le_add_left _ _) hl), z, rfl, big_line (by rw [← ofS_cat, ofS_len, List.length_append, ← len_sgs, ← len_sgs]; exact hl), h2 _ σ H1 Q ⟨G, ρ, h1, α1, er.mono e1, s1, by rw [ofS_cat] at p1; exact p1⟩⟩
    · exact p1.elim
  | int i =>
    simp only [fmtW] at p1
    by_cases hi : i.natAbs.log2 < 1920
    · rw [if_pos hi] at p1
      simp only at p1
      split at p1
      · rename_i hl
        have := r1.of_int
        subst this
        rw [numS_is] at p1 hl
        refine .inr ⟨i, rfl, hi, _, rfl, big_line (by rw [← ofS_cat, ofS_len, List.length_append, ← len_sgs, ← len_sgs]; exact hl), h2 _ σ H1 Q ⟨G, ρ, h1, α1, er.mono e1, s1, by rw [ofS_cat] at p1; exact p1⟩⟩
      · exact p1.elim
    · rw [if_neg hi] at p1
      exact p1.elim
  | _ => exact p1.elim
theorem sd_fstr {es : Es} {v1 v2 : Expr} {rest : List Expr} {pos : Pos} (h : PF X cv W cf es (v1 :: v2 :: rest)) : PE X (.JoinedStr (v1 :: v2 :: rest) pos) (tR cv W (evE cf (.fstr es))) := by
  obtain ⟨ts, h1, h2⟩ := h.ex
  refine PE.weak (pe_joined h1) fun σ H Q ⟨G, ρ, h, α, er, sr, q⟩ => ?_
  simp only [evE] at q
  exact h2 Str.empty σ H Q ⟨G, ρ, h, α, er, sr, q⟩
/-- a text once or not at all -/
theorem op_rep1 : OpR X (binaryOp .Mult) (fun x y H Q => ∃ (z : Str) (i : Int), x = .str z ∧ y = .int i ∧ 0 ≤ i ∧ i ≤ 1 ∧ Q (.str (if i = 1 then z else ofS [])) H) := by
  intro pins s σ H x y v u Q I rx ry ⟨z, i, ex, ey, h0, h1, q⟩
  subst ex ey
  obtain ⟨t, rfl⟩ := rx
  obtain ⟨k, rfl⟩ := ry
  have hi : i = 0 ∨ i = 1 := by omega
  rcases hi with rfl | rfl
  · exact PySem.P.mul_str_none (by decide) (by decide) ⟨.str (ofS []), H, I.tok _, ⟨_, rfl⟩, q⟩
  · exact PySem.P.mul_str (by decide) (fun _ h => absurd h (by simp)) (fun _ h => absurd h (by simp)) (by
      rw [if_neg (by decide), if_pos (by simp)]
      exact ⟨.str z, H, I, ⟨_, rfl⟩, q⟩)
theorem sd_rep1 {z : Str} {e : Expr} {ie : E} {j : Nat} {p pos : Pos} (he : PE X e (tR cv W (evE cf ie))) :
    PE X (.BinOp (.Constant (.str z) j p) .Mult e pos) (tR cv W (evE cf (.rep1 z ie))) := by
  refine PE.weak (pe_op op_rep1 (a := .Constant (.str z) j p) pe_str he) fun σ H Q ⟨G, ρ, h, α, er, sr, q⟩ => ?_
  simp only [evE] at q
  refine ⟨G, ρ, h, α, er, sr, q.bind fun x h1 α1 H1 d e1 s1 r1 p1 => ?_⟩
  cases x with
  | int i =>
    have p1 : Post G cv W σ (relW G) (R.of (if 0 ≤ i ∧ i ≤ 1 then some (RL.W.str (if i = 1 then z else ofS [])) else none) h1) α1 H1 Q := p1
    split at p1
    · rename_i hl
      exact ⟨z, i, rfl, r1.of_int, hl.1, hl.2, p1.ok s1 (.str _)⟩
    · exact p1.elim
  | _ => exact p1.elim
/-! ### a text's signs, parts; a text or another one -/
theorem cutL_is (z : Str) (l u : Option Int) : ofS (cutL (sgs z) l u) = cutS z l u := by
  unfold cutL cutS
  rw [sIx_eq, sIx_eq, ← len_sgs]
  rfl
theorem sd_tidx {a b : Expr} {ia ib : E} {pos : Pos} (ha : PE X a (tR cv W (evE cf ia))) (hb : PE X b (tR cv W (evE cf ib))) (hs : PlainIx b) : PE X (.Subscript a b pos) (tR cv W (evE cf (.tidx ia ib))) := by
  refine PE.weak (pe_ix ix_str ha hb hs) fun σ H Q ⟨G, ρ, h, α, er, sr, p⟩ => ?_
  simp only [evE] at p
  refine ⟨G, ρ, h, α, er, sr, p.bind fun x h1 α1 H1 c e1 s1 r1 p1 => ?_⟩
  refine ⟨G, ρ, h1, α1, er.mono e1, s1, p1.bind fun y h2 α2 H2 d e2 s2 r2 p2 => ?_⟩
  match x, y, p2 with
  | .str z, .int i, p2 =>
    have p2 : Post G cv W σ (relW G) (R.of (if z.length ≤ 100000 then (RL.ixN z.length i).bind fun j => (sgs z)[j]?.map fun c => RL.W.str (ofS [c]) else none) h2) α2 H2 Q := p2
    by_cases hz : z.length ≤ 100000
    · rw [if_pos hz] at p2
      cases q3 : RL.ixN z.length i with
      | none => rw [q3] at p2; exact p2.elim
      | some j =>
        rw [q3, Option.bind_some] at p2
        cases q4 : (sgs z)[j]? with
        | none => rw [q4] at p2; exact p2.elim
        | some g =>
          rw [q4] at p2
          refine ⟨z, i, g, r1.of_str, r2.of_int, big_line hz, ?_, p2.ok s2 (.str _)⟩
          unfold atI
          rw [← ixN_eq, ← show z.length = z.cps.toList.length from len_sgs z, q3]
          exact q4
    · rw [if_neg hz] at p2
      exact p2.elim
theorem sd_tsl {a : Expr} {lo hi : Option Expr} {ia : E} {il iu : Oe} {pos p2 : Pos} (ha : PE X a (tR cv W (evE cf ia)))
    (hl : PO X lo (fun σ H Q => ∃ G ρ h α, EnvR G ρ α σ H ∧ StR G h α H ∧ Post G cv W σ relE (evOe cf il ρ h) α H Q)) (hu : PO X hi (fun σ H Q => ∃ G ρ h α, EnvR G ρ α σ H ∧ StR G h α H ∧ Post G cv W σ relE (evOe cf iu ρ h) α H Q)) :
    PE X (.Subscript a (.Slice lo hi none p2) pos) (tR cv W (evE cf (.tsl ia il iu))) := by
  refine PE.weak (pe_slice sl_str ha hl hu) fun σ H Q ⟨G, ρ, h, α, er, sr, p⟩ => ?_
  simp only [evE] at p
  refine ⟨G, ρ, h, α, er, sr, p.bind fun x h1 α1 H1 c e1 s1 r1 p1 => ?_⟩
  refine ⟨G, ρ, h1, α1, er.mono e1, s1, p1.bind fun l h2 α2 H2 d e2 s2 r2 p2 => ?_⟩
  subst r2
  refine ⟨G, ρ, h2, α2, (er.mono e1).mono e2, s2, p2.bind fun u h3 α3 H3 d e3 s3 r3 p3 => ?_⟩
  subst r3
  cases x with
  | str z =>
    have p3 : Post G cv W σ (relW G) (R.of (if z.length ≤ 100000 then some (RL.W.str (ofS (cutL (sgs z) l u))) else none) h3) α3 H3 Q := p3
    by_cases hz : z.length ≤ 100000
    · rw [if_pos hz, cutL_is] at p3
      exact ⟨z, r1.of_str, big_line hz, p3.ok s3 (.str _)⟩
    · rw [if_neg hz] at p3
      exact p3.elim
  | _ => exact p3.elim
theorem sd_orS {z : Str} {e : Expr} {ie : E} {j : Nat} {p pos : Pos} (he : PE X e (tR cv W (evE cf ie))) :
    PE X (.BoolOp .Or [e, .Constant (.str z) j p] pos) (tR cv W (evE cf (.orS ie z))) := by
  refine PE.weak (pe_orT he (pe_one (a := .Constant (.str z) j p) pe_str)) fun σ H Q ⟨G, ρ, h, α, er, sr, q⟩ => ?_
  simp only [evE] at q
  refine ⟨G, ρ, h, α, er, sr, q.bind fun x h1 α1 H1 c e1 s1 r1 p1 => ?_⟩
  cases x with
  | str y =>
    have p1 : Post G cv W σ (relW G) (R.of (if y.length ≤ 100000 then some (RL.W.str (if y.length = 0 then z else y)) else none) h1) α1 H1 Q := p1
    by_cases hz : y.length ≤ 100000
    · rw [if_pos hz] at p1
      have := r1.of_str
      subst this
      by_cases h0 : y.length = 0
      · rw [if_pos h0] at p1
        refine ⟨false, ⟨big_line hz, by rw [h0]; rfl⟩, ?_⟩
        rw [(if_neg Bool.false_ne_true)]
        exact p1.ok s1 (.str _)
      · rw [if_neg h0] at p1
        refine ⟨true, ⟨big_line hz, ?_⟩, ?_⟩
        · have : ((y.length : Int) != 0) = true := by rw [bne_iff_ne]; omega
          exact this.symm
        · rw [if_pos rfl]
          exact p1.ok s1 (.str _)
    · rw [if_neg hz] at p1
      exact p1.elim
  | _ => exact p1.elim
/-- {k: ()} -/
theorem sd_dk {k : Int} {j j2 : Nat} {p p2 pos : Pos} : PE X (.Dict [some (.Constant (.int k) j p)] [.Tuple [] j2 p2] pos) (tR cv W (evE cf (.dk k (.tup .nil)))) := by
  refine PE.weak (pe_disp (pps_cons (k := .Constant (.int k) j p) (v := .Tuple [] j2 p2) pe_int (pe_tupK pa_nil) pps_nil) (by rfl) (by rfl) (by simp) (by simp)) fun σ H Q ⟨G, ρ, h, α, er, sr, q⟩ => ?_
  have q : Post G cv W σ (relW G) (.ok (.dk k (.tup [])) h) α H Q := q
  intro a ha
  show _ ∧ _
  refine ⟨Nat.zero_le _, fun b ob hd hb => ?_⟩
  have hab : b ≠ a := fun z => by
    subst z
    rw [upd_same] at hb
    cases hb
  have hb' : H b = none := by rwa [upd_ne hab] at hb
  refine ⟨by rw [upd_ne (Ne.symm hab), upd_same], [(.inl k, .ref b)], rfl, by simp, ?_⟩
  have e : upd (upd (upd H a (.dK [])) b (.frz ob (.tup []))) a (.dK (mergeK [] [(.inl k, .ref b)])) = upd (upd H b (.frz ob (.tup []))) a (.dK [(.inl k, .ref b)]) := by
    funext c
    by_cases h1 : c = a
    · subst h1; rw [upd_same, upd_same]; rfl
    · rw [upd_ne h1, upd_ne h1]
      by_cases h2 : c = b
      · subst h2; rw [upd_same, upd_same]
      · rw [upd_ne h2, upd_ne h2, upd_ne h1]
  rw [e]
  have hn : upd H b (.frz ob (.tup [])) a = none := by rw [upd_ne (Ne.symm hab)]; exact ha
  have x1 : Ext H α (upd H b (.frz ob (.tup []))) α := Ext.new hb'
  have s1 := sr.new (o := .frz ob (.tup [])) hb'
  have x2 : Ext (upd H b (.frz ob (.tup []))) α (upd (upd H b (.frz ob (.tup []))) a (.dK [(.inl k, .ref b)])) α := Ext.new hn
  have r : Rep G (upd H b (.frz ob (.tup []))) α (.tup []) (.ref b) := .tup upd_same hd (sr.fz hb') .nil
  exact q.ok' (x1.trans x2) (s1.new hn) (.dk upd_same (s1.fz hn) (r.mono x2))
end
end RL

/-! Objects of the program's own classes: fields, methods, making. -/
namespace RL
open PySem.Spec PySem PyProof.Rows L2
variable [Tabl]
/-! ### fields by names -/
theorem look_is {G : Gx} {H : Hp} {α : List Addr} {f : Str} {w : W} : ∀ {fs : List (Str × W)} {gs : List (Str × V)}, gs.map (fun p => p.1) = fs.map (fun p => p.1) → Reps G H α (fs.map fun p => p.2) (gs.map fun p => p.2) → lookW f fs = some w → ∃ v, gs.lookup f = some v ∧ Rep G H α w v
  | [], _, _, _, h => nomatch h
  | (g, x) :: fs, [], k, _, _ => nomatch k
  | (g, x) :: fs, (g', v) :: gs, k, r, h => by
    have k1 : g' = g := (List.cons.inj k).1
    have k2 := (List.cons.inj k).2
    subst k1
    cases r with
    | cons r1 r2 =>
      have h : (if f = g' then some x else lookW f fs) = some w := h
      show ∃ v', (match f == g' with | true => some v | false => gs.lookup f) = some v' ∧ _
      by_cases e : f = g'
      · rw [if_pos e] at h
        cases h
        rw [show (f == g') = true from beq_iff_eq.mpr e]
        exact ⟨v, rfl, r1⟩
      · rw [if_neg e] at h
        rw [show (f == g') = false from beq_eq_false_iff_ne.mpr e]
        exact look_is k2 r2 h
theorem look_no {f : Str} : ∀ {fs : List (Str × W)} {gs : List (Str × V)}, gs.map (fun p => p.1) = fs.map (fun p => p.1) → lookW f fs = none → gs.lookup f = none
  | [], [], _, _ => rfl
  | [], _ :: _, k, _ => nomatch k
  | _ :: _, [], k, _ => nomatch k
  | (g, x) :: fs, (g', v) :: gs, k, h => by
    have k1 : g' = g := (List.cons.inj k).1
    have k2 := (List.cons.inj k).2
    subst k1
    have h : (if f = g' then some x else lookW f fs) = none := h
    show (match f == g' with | true => some v | false => gs.lookup f) = none
    by_cases e : f = g'
    · rw [if_pos e] at h; cases h
    · rw [if_neg e] at h
      rw [show (f == g') = false from beq_eq_false_iff_ne.mpr e]
      exact look_no k2 h
theorem put_keys {f : Str} {w : W} {v : V} : ∀ {fs : List (Str × W)} {gs : List (Str × V)}, gs.map (fun p => p.1) = fs.map (fun p => p.1) → (L2.putF f v gs).map (fun p => p.1) = (putW f w fs).map (fun p => p.1)
  | [], [], _ => rfl
  | [], _ :: _, k => nomatch k
  | _ :: _, [], k => nomatch k
  | (g, x) :: fs, (g', u) :: gs, k => by
    have k1 : g' = g := (List.cons.inj k).1
    have k2 := (List.cons.inj k).2
    subst k1
    show (if g' = f then (g', v) :: gs else (g', u) :: L2.putF f v gs).map (fun p => p.1) = (if g' = f then (g', w) :: fs else (g', x) :: putW f w fs).map (fun p => p.1)
    by_cases e : g' = f
    · rw [if_pos e, if_pos e, List.map_cons, List.map_cons, k2]
    · rw [if_neg e, if_neg e, List.map_cons, List.map_cons, put_keys k2]
theorem put_reps {G : Gx} {H : Hp} {α : List Addr} {f : Str} {w : W} {v : V} (r0 : Rep G H α w v) : ∀ {fs : List (Str × W)} {gs : List (Str × V)}, gs.map (fun p => p.1) = fs.map (fun p => p.1) → Reps G H α (fs.map fun p => p.2) (gs.map fun p => p.2) → Reps G H α ((putW f w fs).map fun p => p.2) ((L2.putF f v gs).map fun p => p.2)
  | [], [], _, _ => .cons r0 .nil
  | [], _ :: _, k, _ => nomatch k
  | _ :: _, [], k, _ => nomatch k
  | (g, x) :: fs, (g', u) :: gs, k, r => by
    have k1 : g' = g := (List.cons.inj k).1
    have k2 := (List.cons.inj k).2
    subst k1
    cases r with
    | cons r1 r2 =>
      show Reps G H α ((if g' = f then (g', w) :: fs else (g', x) :: putW f w fs).map fun p => p.2) ((if g' = f then (g', v) :: gs else (g', u) :: L2.putF f v gs).map fun p => p.2)
      by_cases e : g' = f
      · rw [if_pos e, if_pos e]; exact .cons r0 r2
      · rw [if_neg e, if_neg e]; exact .cons r1 (put_reps r0 k2 r2)
section
variable {X : Cx} {G : Gx} {cv : Cv} {W : WX} {cf : CF} {h : Hs} {α : List Addr} {H : Hp}
theorem ins_of {x : RL.W} {v : V} {p : Str × List (Str × RL.W)} (s : StR G h α H) (r : Rep G H α x v) (q : insAt h x = some p) :
    ∃ n a dx gs, x = .loc n ∧ v = .ref a ∧ α[n]? = some a ∧ H a = some (.ins (Tabl.C p.1) dx gs) ∧ gs.map (fun p => p.1) = p.2.map (fun p => p.1) ∧ Reps G H α (p.2.map fun p => p.2) (gs.map fun p => p.2) := by
  cases x <;> first | (cases (show (none : Option (Str × List (Str × RL.W))) = some p from q)) | skip
  rename_i n
  obtain ⟨a, rfl, ea⟩ := r.of_loc
  obtain ⟨b, dx, gs, eb, h1, h2, h3⟩ := s.ins (c := p.1) (fs := p.2) q
  rw [ea] at eb
  cases eb
  exact ⟨n, a, dx, gs, rfl, rfl, ea, h1, h2, h3⟩
theorem sd_fld {c f : Str} {e : Expr} {ie : E} {pos : Pos} (he : PE X e (tR cv W (evE cf ie))) (hb : notCall e = true) (kc : Cls X.K (Tabl.C c)) (kn : NoAttr X.K (Tabl.C c) f) : PE X (.Attribute e f pos) (tR cv W (evE cf (.fld c f ie))) := by
  refine PE.weak (pe_fld he (att_base hb)) fun σ H Q ⟨G, ρ, h, α, er, sr, p⟩ => ?_
  simp only [evE] at p
  refine ⟨G, ρ, h, α, er, sr, p.bind fun x h1 α1 H1 v e1 s1 r1 p1 => ?_⟩
  unfold fldW at p1
  cases q : insAt h1 x with
  | none => rw [q] at p1; exact p1.elim
  | some pr =>
    obtain ⟨d, fs⟩ := pr
    rw [q] at p1
    have p1 : Post G cv W σ (relW G) (R.of (if d = c then lookW f fs else none) h1) α1 H1 Q := p1
    by_cases e : d = c
    · rw [if_pos e] at p1
      cases l : lookW f fs with
      | none => rw [l] at p1; exact p1.elim
      | some w =>
        rw [l] at p1
        obtain ⟨n, a, dx, gs, _, ev, _, ha, hk, hr⟩ := ins_of s1 r1 q
        obtain ⟨u, l2, ru⟩ := look_is hk hr l
        exact ⟨a, _, dx, gs, u, ev, ha, by rw [e]; exact kc, by rw [e]; exact kn, l2, p1.ok s1 ru⟩
    · rw [if_neg e] at p1; exact p1.elim
theorem keys_len {fs : List (Str × RL.W)} {gs : List (Str × V)} (k : gs.map (fun p => p.1) = fs.map (fun p => p.1)) : gs.length = fs.length := by
  have := congrArg List.length k
  rwa [List.length_map, List.length_map] at this
theorem st_sfld {c f : Str} {o e : Expr} {io ie : E} {pos pos' : Pos} (ho : PE X o (tR cv W (evE cf io))) (he : PE X e (tR cv W (evE cf ie))) (hs : swapsWith e (some (.Attribute o f pos')) pos.line X.env = pure false) (kc : Cls X.K (Tabl.C c)) (kn : NoAttr X.K (Tabl.C c) f) :
    PS X (.Assign [.Attribute o f pos'] e pos) (tS cv W (evS cf (.sfld c f io ie))) := by
  refine PS.weak (ps_fld ho he hs) fun D σ H ⟨G, ρ, h, α, er, sr, p⟩ => ?_
  simp only [evS] at p
  refine ⟨G, ρ, h, α, er, sr, PostS.ofE er p fun y h1 α1 H1 u e1 s1 er1 ry p1 => ?_⟩
  refine ⟨G, ρ, h1, α1, er1, s1, PostS.ofE er1 p1 fun x h2 α2 H2 v e2 s2 er2 rx p2 => ?_⟩
  cases q : setFld h2 c f y x with
  | none => rw [q] at p2; exact p2.elim
  | some h3 =>
    rw [q] at p2
    cases x <;> first | (cases (show (none : Option Hs) = some h3 from q)) | skip
    rename_i n
    obtain ⟨a, rfl, ea⟩ := rx.of_loc
    have q : (match h2[n]? with | some (.ins d fs) => if d = c ∧ fs.length < 100 then some (h2.set n (.ins d (putW f y fs))) else none | _ => none) = some h3 := q
    cases g : h2[n]? with
    | none => rw [g] at q; cases q
    | some ob =>
      rw [g] at q
      cases ob with
      | lst ws => cases q
      | ins d fs =>
        have q : (if d = c ∧ fs.length < 100 then some (h2.set n (.ins d (putW f y fs))) else none) = some h3 := q
        by_cases hc : d = c ∧ fs.length < 100
        · rw [if_pos hc] at q
          cases q
          obtain ⟨rfl, hl⟩ := hc
          obtain ⟨b, eb, dx, gs, ha, hk, hr⟩ := s2.at_ n _ g
          rw [ea] at eb
          cases eb
          have ma := List.mem_of_getElem? ea
          have ex : Ext H2 α2 (upd H2 a (.ins (Tabl.C d) dx (L2.putF f u gs))) α2 := Ext.set ma (by rw [ha]; simp)
          refine ⟨a, _, dx, gs, rfl, ha, kc, kn, by rw [keys_len hk]; omega, ?_⟩
          exact p2 α2 _ σ ex (s2.setO ea ⟨dx, _, upd_same, put_keys hk, Reps.mono ex (put_reps (ry.mono e2) hk hr)⟩) (er2.mono ex)
        · rw [if_neg hc] at q; cases q
end
/-! ### methods -/
section
variable {X : Cx} {k : Nat} {f C : Addr} {fd : FuncData} {ps : List Str} {sp : Sp} {W : WX} {m : Str} {o e : Expr} {es : List Expr} {ta : TE} {t : TA} {pos apos : Pos} {pl : Sem Bool}
def tMethS (C : Addr) (m : Str) (sp : Sp) (W : WX) (ta : TE) (t : TA) : TE := fun σ H Q => ta σ H fun x H1 => ∃ a dx fs, x = .ref a ∧ H1 a = some (.ins C dx fs) ∧ fs.lookup m = none ∧ t σ H1 fun vs H2 => sp (.ref a :: vs) H2 Q (WE W σ)
theorem attr_call {prog : Program} {w : World} {A : Around} {env : PySem.Env} {Q E : Value → Shared → Prop} {s : Shared} (hb : attributeBase o m env (eval o env) = eval o env) (hf : methodCallForm es.length (backTo pos (starEach es env)) [] = true) (hl : (apos.endLine == pos.line) = true)
    (h : wpAny (model prog w) A (eval o env) (fun ov s₁ => ∀ pl : Sem Bool, wpAny (model prog w) A (getMethod ov m pl) (fun fx s₂ => wpAny (model prog w) A (callWith pos fx.1 fx.2 (backTo pos (starEach es env)) (backToKw pos (keywordEach [] env))) Q E s₂) E s₁) E s) :
    wpAny (model prog w) A (eval (.Call (.Attribute o m apos) es [] pos) env) Q E s := by
  have hp : methodCallPos true o env apos pos = pure pos := by unfold methodCallPos; simp [hl]
  have hf' : methodCallForm (es.length + ([] : List Keyword).length) (backTo pos (starEach es env)) (backToKw pos (keywordEach [] env)) = true := hf
  rw [arm_eval_Call, hb]
  refine wpAny_bind (wpAny_mono h (fun ov s₁ h₁ => wpAny_bind (wpAny_standAt ?_)) fun _ _ x => x)
  unfold methodCall
  rw [hf']
  refine wpAny_bind (wpAny_holding (wpAny_mono (h₁ _) (fun fx s₂ h₂ => ?_) fun _ _ x => x))
  exact wpAny_bind (wpAny_of_eq hp h₂)
theorem meth_go {F : FnG X.prog X.w X.K X.mg X.base k f fd ps sp} (he : PE X o ta) (c : Cls X.K C) (hm : Meth X.K C m f) (fr : Free k X.A) (hb : Binds X.K fd ps []) (tk : Takes X W) (ha : PA X (e :: es) t)
    (h1 : starEach (e :: es) X.env = (false, eval e X.env) :: starEach es X.env) (h2 : (backTo pos (starEach es X.env)).any (·.1) = false)
    (hbs : attributeBase o m X.env (eval o X.env) = eval o X.env) (hf : methodCallForm (e :: es).length (backTo pos (starEach (e :: es) X.env)) [] = true) (hl : (apos.endLine == pos.line) = true) : PE X (.Call (.Attribute o m apos) (e :: es) [] pos) (tMethS C m sp W ta t) :=
  ⟨fun pins s σ H Q I h => attr_call hbs hf hl (thn (he.run pins s σ H _ I h) fun u s1 ⟨x, H1, I1, rx, a, dx, fs, ex, ea, l, q⟩ pl => by
    subst ex
    have eu : u = Value.ref a := rx
    subst eu
    exact getmeth_ok I1 ea c hm l (PySem.W.callWith_K (first := [.ref a]) (h₀ := X.base) I.ok.mod.kin hm.kp (thn (ha.run pos pins s1 σ H1 _ I1 q) fun us s2 ⟨vs, H2, I2, r, q2⟩ => ⟨I2.kIn, run_g (us := .ref a :: us) (vs := .ref a :: vs) F fr hb tk I2 (.cons rfl r) q2⟩) h1 h2))⟩
theorem meth_go0 {F : FnG X.prog X.w X.K X.mg X.base k f fd ps sp} (he : PE X o ta) (c : Cls X.K C) (hm : Meth X.K C m f) (fr : Free k X.A) (hb : Binds X.K fd ps []) (tk : Takes X W)
    (hbs : attributeBase o m X.env (eval o X.env) = eval o X.env) (hl : (apos.endLine == pos.line) = true) : PE X (.Call (.Attribute o m apos) [] [] pos) (tMethS C m sp W ta tNil) :=
  ⟨fun pins s σ H Q I h => attr_call hbs rfl hl (thn (he.run pins s σ H _ I h) fun u s1 ⟨x, H1, I1, rx, a, dx, fs, ex, ea, l, q⟩ pl => by
    subst ex
    have eu : u = Value.ref a := rx
    subst eu
    exact getmeth_ok I1 ea c hm l (PySem.W.callWith_K0 (first := [.ref a]) I1.kIn hm.kp (run_g (us := [.ref a]) (vs := [.ref a]) F fr hb tk I1 (.cons rfl .nil) q)))⟩
/-! ### making -/
theorem make_go {pins : List (Addr × Obj)} {σ : L2.St} {H : Hp} {s : Shared} {Q : VK} {us : List Value} {vs : List V} (M : Mk X.K C f) (F : FnG X.prog X.w X.K X.mg X.base k f fd ps sp) (rm : Room (4 * k + 34 + 1) X.A) (bare : X.A.guards = some []) (hb : Binds X.K fd ps [])
    (tk : Takes X W) (I : Inv X pins σ H s) (r : Vals vs us)
    (h : ∀ x dx, H x = none → H dx = none → dx ≠ x → sp (.ref x :: vs) (upd (upd H dx (.own x)) x (.ins C dx [])) (fun v H2 => v = .non ∧ Q (.ref x) H2) (WE W σ)) :
    wpAny (model X.prog X.w) X.A (call (Value.ref C) us) (EP X pins σ Q) X.xe s := by
  have q0 := h (s.heap.objs.size + 1) s.heap.objs.size (I.hok.fresh (Nat.le_succ _)) (I.hok.fresh (Nat.le_refl _)) (Nat.ne_of_lt (Nat.lt_succ_self _))
  have J := Inv.made (C := C) I
  have rv : Vals (V.ref (s.heap.objs.size + 1) :: vs) (Value.ref (s.heap.objs.size + 1) :: us) := .cons rfl r
  have hl : (Value.ref (s.heap.objs.size + 1) :: us).length = ps.length := by rw [← rv.length]; exact F.len _ _ _ _ q0
  have bd := hb { s with heap := (s.heap.push PySem.W.emptyDict).push (PySem.W.instObj C s.heap.objs.size) } (Value.ref (s.heap.objs.size + 1) :: us) J.kIn (by rw [List.append_nil]; exact hl)
  rw [List.append_nil] at bd
  have run := F.run _ X.stack _ _ ⟨Value.ref (s.heap.objs.size + 1) :: us, []⟩ _ _ _ (WE W σ) ⟨rm.make C us [], bare⟩ (J.env0.make C us []) bd rv q0
  refine wpAny_call (make_map (f := f) I.kIn M.makes M.init (beq_iff_eq.mp M.fn) (codeAny_mono run fun res s' hq => ?_))
  match res, hq with
  | .error e, hq => exact passAt tk σ pins _ _ e s' J hq
  | .ok (.ret u), hq =>
    obtain ⟨v, H', I3, r3, ev, q3⟩ := J.after hq
    subst ev
    exact ⟨r3, V.ref (s.heap.objs.size + 1), H', I3, rfl, q3⟩
  | .ok .next, hq => exact False.elim hq
  | .ok .brk, hq => exact False.elim hq
  | .ok .cont, hq => exact False.elim hq
def tMakeS (C : Addr) (sp : Sp) (W : WX) (t : TA) : TE := fun σ H Q => t σ H fun vs H1 => ∀ x dx, H1 x = none → H1 dx = none → dx ≠ x → sp (.ref x :: vs) (upd (upd H1 dx (.own x)) x (.ins C dx [])) (fun v H2 => v = .non ∧ Q (.ref x) H2) (WE W σ)
theorem make_pe {x : Str} {p : Pos} (M : Mk X.K C f) (F : FnG X.prog X.w X.K X.mg X.base k f fd ps sp) (rm : Room (4 * k + 34 + 1) X.A) (bare : X.A.guards = some []) (hg : Gl X x) (hm : X.mg x = some (.ref C)) (hb : Binds X.K fd ps []) (tk : Takes X W) (ha : PA X (e :: es) t)
    (hd : (x == ("__debug__" : Str)) = false) (h1 : starEach (e :: es) X.env = (false, eval e X.env) :: starEach es X.env) (h2 : (backTo pos (starEach es X.env)).any (·.1) = false) :
    PE X (.Call (.Name x p) (e :: es) [] pos) (tMakeS C sp W t) :=
  ⟨fun pins s σ H Q I h => wpAny_Call_Name_kw (ld_glob I hg hm (PySem.W.callWith_K (h₀ := X.base) I.ok.mod.kin M.kp (thn (ha.run pos pins s σ H _ I h) fun us s1 ⟨vs, H1, I1, r, q⟩ => ⟨I1.kIn, make_go M F rm bare hb tk I1 r q⟩) h1 h2) hd)⟩
/-! ### own __len__, __repr__ -/
theorem own_call {pins : List (Addr × Obj)} {σ : L2.St} {H : Hp} {s : Shared} {a : Addr} {P : Value → Shared → Prop} {Q : VK} (F : FnG X.prog X.w X.K X.mg X.base k f fd ps sp) (rm : Room (4 * k + 34 + 1) X.A) (bare : X.A.guards = some []) (hb : Binds X.K fd ps []) (I : Inv X pins σ H s)
    (q : sp [.ref a] H Q fun _ _ _ => False) (go : ∀ v u H2 s2, Inv X pins σ H2 s2 → RelV v u → Q v H2 → P u s2) : wpAny (model X.prog X.w) X.A.in1 (call (.ref f) [.ref a]) P X.xe s := by
  have e := I.env0
  have hl := F.len _ _ _ _ q
  have bd := hb s [.ref a] I.kIn (by rw [List.append_nil]; exact hl)
  rw [List.append_nil] at bd
  refine wpAny_call (codeAny_mono (F.run X.A.in1 X.stack s H ⟨[.ref a], []⟩ [.ref a] [.ref a] _ _ ⟨rm.in1, bare⟩ ⟨e.frames, e.mod, e.bs, e.bsz, e.funs, e.frf, e.hok, e.bare⟩ bd (.cons rfl .nil) q) fun res s' hq => ?_)
  match res, hq with
  | .error _, hq =>
    rcases hq with ⟨_, _, _, _, _, _, _, _, _, _, _, _, z⟩
    exact z.elim
  | .ok (.ret u), hq =>
    obtain ⟨v, H2, I2, rv, q2⟩ := I.after hq
    exact go v u H2 s' I2 rv q2
  | .ok .next, hq => exact False.elim hq
  | .ok .brk, hq => exact False.elim hq
  | .ok .cont, hq => exact False.elim hq
theorem own_len (F : FnG X.prog X.w X.K X.mg X.base k f fd ps sp) (hm : Meth X.K C lenN f) (rm : Room (4 * k + 34 + 1) X.A) (bare : X.A.guards = some []) (hb : Binds X.K fd ps []) :
    CallR X (.builtin "len") (fun xs H Q => ∃ a dx fs, xs = [.ref a] ∧ H a = some (.ins C dx fs) ∧ sp [.ref a] H (fun v H2 => ∃ n : Int, v = .int n ∧ 0 ≤ n ∧ n ≤ 1000000 ∧ Q (.int n) H2) fun _ _ _ => False) := by
  intro pins s σ H xs us Q I r ⟨a, dx, fs, e, ha, q⟩
  subst e
  obtain ⟨u, rfl, rx⟩ := (vals1 r)
  cases rx
  obtain ⟨mA, J, _⟩ := (ins_get I.hok ha)
  obtain ⟨od, J, _⟩ := J.look
  obtain ⟨m, hF⟩ := I.fr
  refine PySem.W.len_K hF I.ok.mod.kin J hm.at_ hm.fn (own_call F rm bare hb I q fun v u H2 s2 I2 rv ⟨n, ev, n0, n1, q2⟩ => ?_)
  subst ev
  obtain ⟨t, rfl⟩ := rv
  exact ⟨⟨n0, by omega⟩, .int n, H2, I2.tok _, ⟨_, rfl⟩, q2⟩
theorem own_repr (F : FnG X.prog X.w X.K X.mg X.base k f fd ps sp) (hm : Meth X.K C reprM f) (rm : Room (4 * k + 34 + 1) X.A) (bare : X.A.guards = some []) (hb : Binds X.K fd ps []) :
    CallR X (.builtin "repr") (fun xs H Q => ∃ a dx fs, xs = [.ref a] ∧ H a = some (.ins C dx fs) ∧ sp [.ref a] H (fun v H2 => ∃ z : Str, v = .str z ∧ Q (.str z) H2) fun _ _ _ => False) := by
  intro pins s σ H xs us Q I r ⟨a, dx, fs, e, ha, q⟩
  subst e
  obtain ⟨u, rfl, rx⟩ := (vals1 r)
  cases rx
  obtain ⟨mA, J, _⟩ := (ins_get I.hok ha)
  obtain ⟨od, J, _⟩ := J.look
  obtain ⟨m, hF⟩ := I.fr
  refine PySem.W.repr_K (rm.in1.units0) hF I.ok.mod.kin J hm.at_ hm.fn (own_call F rm bare hb I q fun v u H2 s2 I2 rv ⟨z, ev, q2⟩ => ?_)
  subst ev
  obtain ⟨t, rfl⟩ := rv
  exact ⟨.str z, H2, I2, ⟨_, rfl⟩, q2⟩
end
/-! ### .. as the evaluator has them -/
theorem form_ok {es : List Expr} {env : PySem.Env} {pos : Pos} (hp : (backTo pos (starEach es env)).any (·.1) = false) (hl : es.length < 20) : methodCallForm es.length (backTo pos (starEach es env)) [] = true := by
  have a : (backTo pos (starEach es env)).all (fun x => !x.1) = true := List.all_eq_true.mpr fun x hx => by
    cases q : x.1 with
    | false => rfl
    | true => exact absurd (List.any_eq_true.mpr ⟨x, hx, q⟩) (by rw [hp]; exact Bool.false_ne_true)
  unfold methodCallForm
  rw [a]
  simp
  omega
structure CalleeM (X : Cx) (cv : Cv) (k : Nat) (r : List RL.W → Hs → R RL.W) (c m : Str) : Prop where
  ex : ∃ f fd ps, FnG X.prog X.w X.K X.mg X.base k f fd ps (spF cv r) ∧ Cls X.K (Tabl.C c) ∧ Meth X.K (Tabl.C c) m f ∧ Binds X.K fd ps []
structure CalleeI (X : Cx) (cv : Cv) (k : Nat) (r : List RL.W → Hs → R RL.W) (c : Str) : Prop where
  ex : ∃ f fd ps, FnG X.prog X.w X.K X.mg X.base k f fd ps (spF cv r) ∧ Mk X.K (Tabl.C c) f ∧ X.mg c = some (.ref (Tabl.C c)) ∧ Binds X.K fd ps []
theorem isIns_some {h : Hs} {c m : Str} {x : RL.W} {u : Unit} (q : isIns h c m x = some u) : ∃ fs, insAt h x = some (c, fs) ∧ lookW m fs = none := by
  unfold isIns at q
  cases e : insAt h x with
  | none => rw [e] at q; cases q
  | some p =>
    obtain ⟨d, fs⟩ := p
    rw [e] at q
    have q : (if d = c ∧ lookW m fs = none then some () else none) = some u := q
    by_cases z : d = c ∧ lookW m fs = none
    · obtain ⟨rfl, z⟩ := z
      exact ⟨fs, rfl, z⟩
    · rw [if_neg z] at q; cases q
section
variable {X : Cx} {cv : Cv} {W : WX} {cf : CF} {k : Nat} {c m y : Str} {i : Nat} {io : E} {ies : Es} {es : List Expr} {p p0 ap pos : Pos}
theorem sd_mcg {o : Expr} (C : CalleeM X cv k (cf i) c m) (fr : Free k X.A) (tk : Takes X W) (ho : PE X o (tR cv W (evE cf io))) (hb : notCall o = true) (hl : (ap.endLine == pos.line) = true) (hf : methodCallForm es.length (backTo pos (starEach es X.env)) [] = true) (ha : PA X es (tRA cv W (evEs cf ies))) (he0 : es = [] → ies = .nil)
    (hs : ∀ e es', es = e :: es' → starEach (e :: es') X.env = (false, eval e X.env) :: starEach es' X.env) (hpl : ∀ e es', es = e :: es' → (backTo pos (starEach es' X.env)).any (·.1) = false) :
    PE X (.Call (.Attribute o m ap) es [] pos) (tR cv W (evE cf (.mcg c m i io ies))) := by
  obtain ⟨f, fd, ps, F, kc, km, hbd⟩ := C.ex
  have key : ∀ (t : TA) (σ : L2.St) (H : Hp) (Q : VK), (∀ (G : Gx) (ρ : Env) (h : Hs) (α : List Addr) (H : Hp) (Q : List V → Hp → Prop), EnvR G ρ α σ H → StR G h α H → Post G cv W σ (relWs G) (evEs cf ies ρ h) α H Q → t σ H Q) → tR cv W (evE cf (.mcg c m i io ies)) σ H Q → tMethS (Tabl.C c) m (spF cv (cf i)) W (tR cv W (evE cf io)) t σ H Q := by
    intro t σ H Q ht ⟨G, ρ, h, α, er, sr, q⟩
    simp only [evE] at q
    refine ⟨G, ρ, h, α, er, sr, q.bind fun x h1 α1 H1 v e1 s1 r1 p1 => ?_⟩
    cases z : isIns h1 c m x with
    | none => rw [z] at p1; exact p1.elim
    | some u =>
      rw [z] at p1
      obtain ⟨fs, z1, z2⟩ := isIns_some z
      obtain ⟨n, a, dx, gs, _, ev, _, hA, hk, _⟩ := ins_of s1 r1 z1
      subst ev
      have p1 : Post G cv W σ (relW G) ((evEs cf ies ρ h1).bind fun ws h => callG (cf i (x :: ws) h) h) α1 H1 Q := p1
      exact ⟨a, dx, gs, rfl, hA, look_no hk z2, ht G ρ h1 α1 H1 _ (er.mono e1) s1 (p1.bind fun ws h2 α2 H2 vs e2 s2 rs p2 => call_cut (.cons (r1.mono e2) rs) s2 p2)⟩
  cases es with
  | nil =>
    have := he0 rfl
    subst this
    refine PE.weak (meth_go0 (F := F) ho kc km fr hbd tk (att_base hb) hl) fun σ H Q h => key tNil σ H Q (fun G ρ h α H Q er sr q => ?_) h
    exact q.ok sr .nil
  | cons e es' => exact PE.weak (meth_go (F := F) ho kc km fr hbd tk ha (hs e es' rfl) (hpl e es' rfl) (att_base hb) hf hl) fun σ H Q h => key (tRA cv W (evEs cf ies)) σ H Q (fun G ρ h α H Q er sr q => ⟨G, ρ, h, α, er, sr, q⟩) h
theorem sd_make {e : Expr} (C : CalleeI X cv k (cf i) c) (rm : Room (4 * k + 34 + 1) X.A) (bare : X.A.guards = some []) (hg : Gl X c) (tk : Takes X W) (ha : PA X (e :: es) (tRA cv W (evEs cf ies))) (hd : (c == ("__debug__" : Str)) = false)
    (hs : starEach (e :: es) X.env = (false, eval e X.env) :: starEach es X.env) (hpl : (backTo pos (starEach es X.env)).any (·.1) = false) :
    PE X (.Call (.Name c p) (e :: es) [] pos) (tR cv W (evE cf (.make c i ies))) := by
  obtain ⟨f, fd, ps, F, M, hm, hb⟩ := C.ex
  refine PE.weak (make_pe M F rm bare hg hm hb tk ha hd hs hpl) fun σ H Q ⟨G, ρ, h, α, er, sr, q⟩ => ?_
  simp only [evE] at q
  refine ⟨G, ρ, h, α, er, sr, q.bind fun ws h1 α1 H1 vs e1 s1 rs p1 => fun x dx hx hdx ne => ?_⟩
  have hx2 : upd H1 dx (.own x) x = none := by rw [upd_ne (Ne.symm ne)]; exact hx
  have x1 : Ext H1 α1 (upd H1 dx (.own x)) α1 := Ext.new hdx
  have x2 : Ext (upd H1 dx (.own x)) α1 (upd (upd H1 dx (.own x)) x (.ins (Tabl.C c) dx [])) (α1 ++ [x]) := Ext.push hx2
  have s2 := (s1.new (o := .own x) hdx).pushO (nb := .ins c []) (o := .ins (Tabl.C c) dx []) hx2 ⟨dx, [], upd_same, rfl, .nil⟩
  have ln : (α1 ++ [x])[h1.length]? = some x := by rw [List.getElem?_append_right (Nat.le_of_eq s1.len), s1.len, Nat.sub_self]; rfl
  refine ⟨G, .loc h1.length :: ws, h1 ++ [.ins c []], α1 ++ [x], .cons (.loc ln) (rs.mono (x1.trans x2)), s2, ?_⟩
  revert p1
  cases cf i (.loc h1.length :: ws) (h1 ++ [.ins c []]) with
  | bad => exact fun z => z
  | ex d h' => exact fun p1 α' H' e' s' => p1 α' H' ((x1.trans x2).trans e') s'
  | ok w h' =>
    cases w <;> first | exact fun z => z.elim | skip
    intro p1 α' H' v e' s' rv
    cases rv
    exact ⟨rfl, p1 α' H' _ ((x1.trans x2).trans e') s' (.loc (e'.get ln))⟩
theorem own_go {x : RL.W} {v : V} {G : Gx} {h : Hs} {α : List Addr} {H : Hp} {σ : L2.St} {g : RL.W → Hs → R RL.W} {Q : VK} {T : V → Hp → Prop} (s : StR G h α H) (r : Rep G H α x v) (p : Post G cv W σ (relW G) ((callG (cf i [x] h) h).noEx.bind g) α H Q)
    (go : ∀ w h' α' H' u, Ext H α H' α' → StR G h' α' H' → Rep G H' α' w u → Post G cv W σ (relW G) (g w h') α' H' Q → T u H') : spF cv (cf i) [v] H T fun _ _ _ => False := by
  refine call_cut (σ := σ) (W := fun _ _ _ _ => False) (.cons r .nil) s ?_
  revert p
  cases callG (cf i [x] h) h with
  | bad => exact fun z => z
  | ex d h' => exact fun z => z.elim
  | ok w h' => exact fun p α' H' u e' s' ru => go w h' α' H' u e' s' ru (Post.base e' p)
theorem sd_klen {x : Str} {e : Expr} (C : CalleeM X cv k (cf i) c lenN) (rm : Room (4 * k + 34 + 1) X.A) (bare : X.A.guards = some []) (hg : Gl X x) (hm : X.mg x = none) (hv : bootBuiltins x = some (.builtin "len")) (he : PE X e (tR cv W (evE cf io))) (hn : x ≠ "__name__") (hd : (x == ("__debug__" : Str)) = false)
    (hs : starEach [e] X.env = [(false, eval e X.env)]) : PE X (.Call (.Name x p) [e] [] pos) (tR cv W (evE cf (.klen c i io))) := by
  obtain ⟨f, fd, ps, F, kc, km, hb⟩ := C.ex
  refine PE.weak (pe_callB (own_len F km rm bare hb) hg hm hv (pa_cons he pa_nil (by rw [hs]; rfl)) hn hd (by rw [hs]; rfl) (by rfl)) fun σ H Q ⟨G, ρ, h, α, er, sr, q⟩ => ?_
  simp only [evE] at q
  refine ⟨G, ρ, h, α, er, sr, q.bind fun w h1 α1 H1 v e1 s1 r1 p1 => ?_⟩
  cases z : isIns h1 c (Str.ofString "") w with
  | none => rw [z] at p1; exact p1.elim
  | some u =>
    rw [z] at p1
    obtain ⟨fs, z1, z2⟩ := isIns_some z
    obtain ⟨n, a, dx, gs, _, ev, _, hA, hk, _⟩ := ins_of s1 r1 z1
    subst ev
    have p1 : Post G cv W σ (relW G) ((callG (cf i [w] h1) h1).noEx.bind fun v h => R.of (lenV v) h) α1 H1 Q := p1
    refine ⟨a, dx, gs, rfl, hA, own_go s1 r1 p1 fun w h' α' H' u e' s' ru p2 => ?_⟩
    cases w <;> first | exact p2.elim | skip
    rename_i j
    have p2 : Post G cv W σ (relW G) (R.of (if 0 ≤ j ∧ j ≤ 1000000 then some (RL.W.int j) else none) h') α' H' Q := p2
    by_cases hj : 0 ≤ j ∧ j ≤ 1000000
    · rw [if_pos hj] at p2
      exact ⟨j, ru.of_int, hj.1, hj.2, p2.ok s' (.int j)⟩
    · rw [if_neg hj] at p2; exact p2.elim
theorem sd_krep {x : Str} {e : Expr} (C : CalleeM X cv k (cf i) c reprM) (rm : Room (4 * k + 34 + 1) X.A) (bare : X.A.guards = some []) (hg : Gl X x) (hm : X.mg x = none) (hv : bootBuiltins x = some (.builtin "repr")) (he : PE X e (tR cv W (evE cf io))) (hn : x ≠ "__name__") (hd : (x == ("__debug__" : Str)) = false)
    (hs : starEach [e] X.env = [(false, eval e X.env)]) : PE X (.Call (.Name x p) [e] [] pos) (tR cv W (evE cf (.krep c i io))) := by
  obtain ⟨f, fd, ps, F, kc, km, hb⟩ := C.ex
  refine PE.weak (pe_callB (own_repr F km rm bare hb) hg hm hv (pa_cons he pa_nil (by rw [hs]; rfl)) hn hd (by rw [hs]; rfl) (by rfl)) fun σ H Q ⟨G, ρ, h, α, er, sr, q⟩ => ?_
  simp only [evE] at q
  refine ⟨G, ρ, h, α, er, sr, q.bind fun w h1 α1 H1 v e1 s1 r1 p1 => ?_⟩
  cases z : isIns h1 c (Str.ofString "") w with
  | none => rw [z] at p1; exact p1.elim
  | some u =>
    rw [z] at p1
    obtain ⟨fs, z1, z2⟩ := isIns_some z
    obtain ⟨n, a, dx, gs, _, ev, _, hA, hk, _⟩ := ins_of s1 r1 z1
    subst ev
    have p1 : Post G cv W σ (relW G) ((callG (cf i [w] h1) h1).noEx.bind fun v h => R.of (repV v) h) α1 H1 Q := p1
    refine ⟨a, dx, gs, rfl, hA, own_go s1 r1 p1 fun w h' α' H' u e' s' ru p2 => ?_⟩
    cases w <;> first | exact p2.elim | skip
    rename_i j
    have p2 : Post G cv W σ (relW G) (.ok (RL.W.str j) h') α' H' Q := p2
    cases ru
    exact ⟨j, rfl, p2.ok s' (.str j)⟩
end
end RL

namespace RL
open PySem.Spec PySem PyProof.Rows L2
variable [Tabl]
structure CalleeG (X : Cx) (cv : Cv) (k : Nat) (r : List RL.W → Hs → R RL.W) (x : Str) : Prop where
  ex : ∃ f fd ps, FnG X.prog X.w X.K X.mg X.base k f fd ps (spF cv r) ∧ X.mg x = some (.ref f) ∧ PySem.W.keepIn X.K (.ref f) = true ∧ Binds X.K fd ps []
/-- a def's parameters, given by name -/
def permV (pm : List Nat) (vs : List V) : List V := pm.map fun i => (vs[i]?).getD .non
def permU (pm : List Nat) (us : List Value) : List Value := pm.map fun i => (us[i]?).getD .none
def KwF (K : PySem.W.Frag) (fd : FuncData) (ps ns : List Str) (pm : List Nat) : Prop :=
  ∀ (s : Shared) (us : List Value), us.length = ns.length → BindsTo s fd ⟨[], ns.zip us⟩ (ps.zip (permU pm us))
structure CalleeK (X : Cx) (cv : Cv) (k : Nat) (r : List RL.W → Hs → R RL.W) (x : Str) (ns : List Str) (pm : List Nat) : Prop where
  ex : ∃ f fd ps, FnG X.prog X.w X.K X.mg X.base k f fd ps (spF cv r) ∧ X.mg x = some (.ref f) ∧ PySem.W.keepIn X.K (.ref f) = true ∧ KwF X.K fd ps ns pm
/-- a context in which the tables say true things -/
structure Good (T : Tb) (cv : Cv) (cf : CF) (k : Nat) (X : Cx) (W : WX) : Prop where
  calm : X.calm = true
  nd : X.N.Nodup
  free : Free k X.A
  tk : Takes X W
  fn : ∀ p ∈ T.fn, CalleeG X cv k (cf p.1) p.2
  gl : ∀ p ∈ T.gl, ∃ v u, X.mg p.1 = some u ∧ RelV v u ∧ ∀ G H α, Rep G H α p.2 v
  fr : ∀ x ∈ T.fr, X.mg x = none
  ex : ∀ c ∈ T.ex, ExcG X cv c
  kw : ∀ q ∈ T.kw, CalleeK X cv k (cf q.1) q.2.1 q.2.2.1 q.2.2.2
  said : T.lam = true → SaidF X cv k
  rm : Room (4 * k + 34 + 1) X.A
  ms : ∀ p ∈ T.ms, CalleeM X cv k (cf p.1) p.2.1 p.2.2
  ci : ∀ p ∈ T.ci, CalleeI X cv k (cf p.1) p.2
  na : ∀ p ∈ T.na, Cls X.K (Tabl.C p.1) ∧ NoAttr X.K (Tabl.C p.1) p.2
  see : Sees X.prog X.base
  pyl : PylAt X.prog X.w X.base X.A
/-- what the check is worth -/
def Snd (cv : Cv) (cf : CF) (X : Cx) (W : WX) (e : E) (t : Bool) (x : Expr) : Prop := match t with
  | false => PE X x (tR cv W (evE cf e))
  | true => PT X x (tRT cv W (asT (evE cf e))) ∧ ∀ op vs p, x = .BoolOp op vs p → PW X x (tRT cv W (asT (evE cf e)))
theorem and2 {a b : Bool} (h : (a && b) = true) : a = true ∧ b = true := Bool.and_eq_true_iff.mp h
theorem ndbg_ok {x : Str} (h : ndbg x = true) : (x == ("__debug__" : Str)) = false ∧ (x == ("__classdict__" : Str)) = false ∧ x ≠ "__name__" := by
  obtain ⟨h1, h3⟩ := and2 h
  obtain ⟨h1, h2⟩ := and2 h1
  refine ⟨by simpa using h1, by simpa using h2, fun e => ?_⟩
  subst e
  exact absurd h3 (by decide +kernel)
section
variable {X : Cx} {cv : Cv} {W : WX} {cf : CF} {T : Tb} {k : Nat}
theorem glo_b {x : Str} (h : gloB X.env.scope x = true) : Gl X x ∧ ndbg x = true := by
  obtain ⟨h1, h2⟩ := and2 h
  exact ⟨show X.env.scope.names.lookup x = some .globalImplicit from of_decide_eq_true h1, h2⟩
theorem vis_b {sc : Scope} {x : Str} (h : visB sc x = true) : Vis sc x := by
  obtain h | h := Bool.or_eq_true_iff.mp h
  · rcases Bool.or_eq_true_iff.mp h with h | h
    · exact .inl (of_decide_eq_true h)
    · exact .inr (.inl (of_decide_eq_true h))
  · exact .inr (.inr (of_decide_eq_true h))
theorem fr_b (g : Good T cv cf k X W) {x : Str} {n : String} (h : frB T X.env.scope x n = true) : x = Str.ofString n ∧ Gl X x ∧ ndbg x = true ∧ X.mg x = none := by
  obtain ⟨h1, h3⟩ := and2 h
  obtain ⟨h1, h2⟩ := and2 h1
  obtain ⟨y, hy, e⟩ := List.any_eq_true.mp h3
  have e := of_decide_eq_true e
  subst e
  exact ⟨of_decide_eq_true h1, (glo_b h2).1, (glo_b h2).2, g.fr _ hy⟩
/-- names, calls, items: tests by their value -/
def plainT : Expr → Bool
  | .Name .. => true
  | .Call .. => true
  | .Subscript .. => true
  | _ => false
theorem snd_plain {e : E} {x : Expr} {t : Bool} (hx : plainT x = true) (p : PE X x (tR cv W (evE cf e))) : Snd cv cf X W e t x := by
  cases t with
  | false => exact p
  | true => cases x <;> first | exact absurd hx Bool.false_ne_true | exact ⟨sd_val p fun _ => rfl, fun _ _ _ z => nomatch z⟩
theorem snd_val {e : E} {x : Expr} {t : Bool} (ht : (!t) = true) (p : PE X x (tR cv W (evE cf e))) : Snd cv cf X W e t x := by
  cases t with
  | false => exact p
  | true => exact absurd ht Bool.false_ne_true
theorem sd_cB {w : RL.W} {c : Const} {j : Nat} {pos : Pos} (h : okC w c = true) : PE X (.Constant c j pos) (tR cv W (evE cf (.c w))) := by
  apply sd_c
  cases c <;> cases w <;> first | exact absurd h Bool.false_ne_true | exact True.intro | exact eq_of_beq h
/-- a call -/
theorem sd_callG {f : Nat} {x : Str} {es : List Expr} {ies : Es} {p pos : Pos} {g : List RL.W → Hs → R RL.W} (c : CalleeG X cv k (cf f) x) (fr : Free k X.A) (hg : Gl X x) (tk : Takes X W) (ha : PA X es (tRA cv W (evEs cf ies)))
    (hn : ∀ {σ : L2.St} {G : Gx} {ws : List RL.W} {vs : List V} {h : Hs} {α : List Addr} {H : Hp} {Q : VK}, Reps G H α ws vs → StR G h α H → Post G cv W σ (relW G) (g ws h) α H Q → spF cv (cf f) vs H Q (WE W σ))
    (he0 : es = [] → ies = .nil) (hd : (x == ("__debug__" : Str)) = false) (hs : es.all notStar = true) :
    PE X (.Call (.Name x p) es [] pos) (tR cv W fun ρ h => (evEs cf ies ρ h).bind g) := by
  obtain ⟨fa, fd, ps, F, hm, hk, hb⟩ := c.ex
  have st : ∀ e es', es = e :: es' → notStar e = true ∧ es'.all notStar = true := fun e es' z => by
    rw [z] at hs
    exact and2 hs
  refine PE.weak (pe_g F fr hg hm hk hb tk (t := fun σ H Q => (es = [] → Q [] H) ∧ (es ≠ [] → tRA cv W (evEs cf ies) σ H Q)) ?_ (fun z σ H Q q => q.1 z) hd (fun e es' z => star_ok (st e es' z).1) fun e es' z => plain_ok (st e es' z).2) fun σ H Q ⟨G, ρ, h, α, er, sr, q⟩ => ?_
  · refine ⟨fun pos pins s σ H Q I q => ?_⟩
    cases es with
    | nil => exact Calls.spliced_nil ⟨[], H, I, .nil, q.1 rfl⟩
    | cons e es' => exact ha.run pos pins s σ H Q I (q.2 (by simp))
  · refine ⟨fun z => ?_, fun _ => ⟨G, ρ, h, α, er, sr, q.bind fun ws h1 α1 H1 vs e1 s1 rs p1 => hn rs s1 p1⟩⟩
    have := he0 z
    subst this
    simp only [evEs, R.bind] at q
    exact hn .nil sr q
/-- a call by names -/
theorem reps_perm {G : Gx} {H : Hp} {α : List Addr} {ws : List RL.W} {vs : List V} (r : Reps G H α ws vs) : ∀ pm : List Nat, Reps G H α (permW pm ws) (permV pm vs)
  | [] => .nil
  | i :: pm => by
    refine .cons ?_ (reps_perm r pm)
    show Rep G H α ((ws[i]?).getD .non) ((vs[i]?).getD .non)
    cases q : ws[i]? with
    | none =>
      have : vs[i]? = none := by
        rw [List.getElem?_eq_none_iff] at q ⊢
        rw [← r.length]; exact q
      rw [this]
      exact .non
    | some w =>
      obtain ⟨v, e, rv⟩ := r.get q
      rw [e]
      exact rv
theorem vals_perm {vs : List V} {us : List Value} (r : Vals vs us) : ∀ pm : List Nat, Vals (permV pm vs) (permU pm us)
  | [] => .nil
  | i :: pm => by
    refine .cons ?_ (vals_perm r pm)
    show RelV ((vs[i]?).getD .non) ((us[i]?).getD .none)
    cases q : vs[i]? with
    | none =>
      rw [r.none_of q]
      exact rfl
    | some w =>
      obtain ⟨v, e, rv⟩ := r.get q
      rw [e]
      exact rv
theorem run_k {pins : List (Addr × Obj)} {σ : L2.St} {H : Hp} {s : Shared} {Q : VK} {us : List Value} {vs : List V} {f : Addr} {fd : FuncData} {ps ns : List Str} {pm : List Nat} {sp : Sp}
    (F : FnG X.prog X.w X.K X.mg X.base k f fd ps sp) (fr : Free k X.A) (hb : KwF X.K fd ps ns pm) (tk : Takes X W)
    (I : Inv X pins σ H s) (r : Vals vs us) (hl : vs.length = ns.length) (h : sp (permV pm vs) H Q (WE W σ)) :
    wpAny (model X.prog X.w) X.A (call (Value.ref f) [] (ns.zip us)) (EP X pins σ Q) X.xe s := by
  have b := hb s us (by rw [← r.length]; exact hl)
  refine wpAny_call (codeAny_mono (F.run X.A X.stack s H _ _ _ Q _ fr I.env0 b (vals_perm r pm) h) fun res s' hq => ?_)
  match res, hq with
  | .error e, hq => exact passAt tk σ pins H s e s' I hq
  | .ok (.ret u), hq => exact I.after hq
  | .ok .next, hq => exact False.elim hq
  | .ok .brk, hq => exact False.elim hq
  | .ok .cont, hq => exact False.elim hq
theorem PK.weak {X : Cx} {ks : List Keyword} {t t' : TA} (p : PK X ks t) (h : ∀ σ H Q, t' σ H Q → t σ H Q) : PK X ks t' :=
  ⟨fun pos pins s σ H Q I q => p.run pos pins s σ H Q I (h σ H Q q)⟩
theorem kd_nil : PK X [] (tRA cv W (evEs cf .nil)) := PK.weak pk_nil fun σ H Q ⟨G, ρ, h, α, er, sr, p⟩ => p.ok sr .nil
theorem kd_cons {n : Option Str} {e : Expr} {kp : Pos} {ks : List Keyword} {ie : E} {ies : Es} (ha : PE X e (tR cv W (evE cf ie))) (hr : PK X ks (tRA cv W (evEs cf ies))) :
    PK X (⟨n, e, kp⟩ :: ks) (tRA cv W (evEs cf (.cons ie ies))) := by
  refine PK.weak (pk_cons ha hr) fun σ H Q ⟨G, ρ, h, α, er, sr, p⟩ => ?_
  simp only [evEs] at p
  refine ⟨G, ρ, h, α, er, sr, p.bind fun x h1 α1 H1 c e1 s1 r1 p1 => ?_⟩
  refine ⟨G, ρ, h1, α1, er.mono e1, s1, p1.bind fun y h2 α2 H2 d e2 s2 r2 p2 => ?_⟩
  exact p2.ok s2 (.cons (r1.mono e2) r2)
theorem sd_callK {f : Nat} {x : Str} {ks : List Keyword} {ies : Es} {ns : List Str} {pm : List Nat} {p pos : Pos} (c : CalleeK X cv k (cf f) x ns pm) (fr : Free k X.A) (hg : Gl X x) (tk : Takes X W) (ha : PK X ks (tRA cv W (evEs cf ies)))
    (hall : (backToKw pos (keywordEach ks X.env)).all (·.1.isSome) = true) (hks : (backToKw pos (keywordEach ks X.env)).filterMap (·.1) = ns) (hpl : ((backTo pos (starEach [] X.env)).any (·.1) || (backToKw pos (keywordEach ks X.env)).any (·.1.isNone)) = false)
    (hd : (x == ("__debug__" : Str)) = false) :
    PE X (.Call (.Name x p) [] ks pos) (tR cv W (evE cf (.kcall f ns pm ies))) := by
  obtain ⟨fa, fd, ps, F, hm, hk, hb⟩ := c.ex
  refine ⟨fun pins s σ H Q I ⟨G, ρ, h, α, er, sr, q⟩ => wpAny_Call_Name_kw (ld_glob I hg hm ?_ hd)⟩
  simp only [evE] at q
  refine PySem.W.callWith_KW0 (h₀ := X.base) I.ok.mod.kin hk hall (thn (ha.run pos pins s σ H (fun vs H1 => vs.length = ns.length ∧ spF cv (cf f) (permV pm vs) H1 Q (WE W σ)) I ⟨G, ρ, h, α, er, sr, q.bind fun ws h1 α1 H1 vs e1 s1 rs p1 => ?_⟩) ?_) hpl
  · by_cases hl : ws.length = ns.length
    · rw [if_pos hl] at p1
      exact ⟨by rw [← rs.length]; exact hl, call_pure (reps_perm rs pm) s1 p1⟩
    · rw [if_neg hl] at p1
      exact p1.elim
  · intro us s1 z
    obtain ⟨vs, H1, I1, r, l1, q1⟩ := z
    rw [hks]
    exact ⟨I1.kIn, run_k F fr hb tk I1 r l1 q1⟩
/-- the built-ins -/
theorem bi_ok (g : Good T cv cf k X W) {b : Bi} {tp : Bool} {n : String} (h : biN b = some (tp, n)) :
    (tp = false ∧ bootBuiltins (Str.ofString n) = some (.builtin n) ∧ CallR X (.builtin n) (rCl (blt b))) ∨ (tp = true ∧ bootBuiltins (Str.ofString n) = some (.type n) ∧ CallR X (.type n) (rCl (blt b))) := by
  cases b <;> cases h
  · exact .inl ⟨rfl, by decide +kernel, cl_len⟩
  · exact .inl ⟨rfl, by decide +kernel, cl_lent⟩
  · exact .inl ⟨rfl, by decide +kernel, cl_sum g.calm⟩
  · exact .inl ⟨rfl, by decide +kernel, cl_suml g.calm⟩
  · exact .inl ⟨rfl, by decide +kernel, cl_sorted g.free⟩
  · exact .inl ⟨rfl, by decide +kernel, cl_all g.calm⟩
  · exact .inl ⟨rfl, by decide +kernel, cl_any g.calm⟩
  · exact .inr ⟨rfl, by decide +kernel, cl_tuple⟩
  · exact .inr ⟨rfl, by decide +kernel, cl_list⟩
  · exact .inl ⟨rfl, by decide +kernel, cl_max g.free g.calm⟩
  · exact .inl ⟨rfl, by decide +kernel, cl_min g.free g.calm⟩
  · exact .inl ⟨rfl, by decide +kernel, cl_repr g.free⟩
  · exact .inr ⟨rfl, by decide +kernel, cl_int⟩
  · exact .inr ⟨rfl, by decide +kernel, cl_str⟩
  · exact .inl ⟨rfl, by decide +kernel, cl_mint g.free⟩
theorem set_boot : bootBuiltins (Str.ofString "set") = some (.type "set") := by decide +kernel
theorem sorted_boot : bootBuiltins (Str.ofString "sorted") = some (.builtin "sorted") := by decide +kernel
theorem isT_boot : ∀ T ∈ ["bool", "int", "str", "tuple", "list"], bootBuiltins (Str.ofString T) = some (.type T) := by decide +kernel
theorem isi_boot : bootBuiltins (Str.ofString "isinstance") = some (.builtin "isinstance") := by decide +kernel
theorem enum_boot : bootBuiltins (Str.ofString "enumerate") = some (.type "enumerate") := by decide +kernel
/-! ### targets -/
theorem nm_ok {o : Str → Bool} {i : Nat} {e : Expr} (ho : ∀ x, o x = true → Loc X.env.scope x ∧ (X.fn x = true ∨ X.env.scope.names.lookup x = some .local)) (hN : X.N.Nodup) (h : okNm o X.N i e = true) : ∃ x pos, e = .Name x pos ∧ X.N[i]? = some x ∧ Loc X.env.scope x ∧ (X.fn x = true ∨ X.env.scope.names.lookup x = some .local) := by
  cases e <;> first | exact absurd h Bool.false_ne_true | skip
  rename_i x pos
  obtain ⟨h1, h2⟩ := and2 h
  exact ⟨x, pos, rfl, of_decide_eq_true h1, (ho x h2).1, (ho x h2).2⟩
theorem nms_ok {o : Str → Bool} (ho : ∀ x, o x = true → Loc X.env.scope x ∧ (X.fn x = true ∨ X.env.scope.names.lookup x = some .local)) (hN : X.N.Nodup) : ∀ (is : List Nat) (es : List Expr), okNms o X.N is es = true → PGs X es (tGs is) ∧ (assignEach es X.env).length = is.length ∧ (assignEach es X.env).findIdx? (·.1) = none
  | [], [], _ => ⟨gd_nil, rfl, rfl⟩
  | i :: is, e :: es, h => by
    obtain ⟨h1, h2⟩ := and2 (show (okNm o X.N i e && okNms o X.N is es) = true from h)
    obtain ⟨x, pos, rfl, hi, hl, hf⟩ := nm_ok ho hN h1
    obtain ⟨p, l, f⟩ := nms_ok ho hN is es h2
    refine ⟨gd_cons hN hi hl hf p, ?_, ?_⟩
    · show (assignEach es X.env).length + 1 = is.length + 1
      rw [l]
    · show List.findIdx? _ ((false, _) :: assignEach es X.env) = none
      rw [List.findIdx?_cons]
      simp only [f]
      rfl
  | [], _ :: _, h => absurd h Bool.false_ne_true
  | _ :: _, [], h => absurd h Bool.false_ne_true
theorem tg_ok {o : Str → Bool} {tgs : List Nat} {e : Expr} (ho : ∀ x, o x = true → Loc X.env.scope x ∧ (X.fn x = true ∨ X.env.scope.names.lookup x = some .local)) (hc : X.calm = true) (hN : X.N.Nodup) (h : okTg o X.N tgs e = true) : PG X e (tG tgs) := by
  unfold okTg at h
  split at h
  · obtain ⟨x, pos, rfl, hi, hl, hf⟩ := nm_ok ho hN h
    exact gd_name hN hi hl hf
  · obtain ⟨h1, h2⟩ := and2 h
    obtain ⟨p, l, f⟩ := nms_ok ho hN _ _ h2
    exact gd_tup hc p (of_decide_eq_true h1) l f
  · exact absurd h Bool.false_ne_true
/-! ### blocks -/
theorem blk_ok {N : List Str} {sc scope : Scope} {tgs : List Nat} (h : blkB N sc scope tgs = true) : BlkOk N sc scope (ownOf N tgs) ∧ (ownOf N tgs).map (·.2) = tgs := by
  obtain ⟨h, h5⟩ := and2 h
  obtain ⟨h, h4⟩ := and2 h
  obtain ⟨h, h3⟩ := and2 h
  obtain ⟨h1, h2⟩ := and2 h
  refine ⟨⟨of_decide_eq_true h1, fun y hy => of_decide_eq_true (List.all_eq_true.mp h2 y hy), fun p hp => ?_, fun y hy e => ?_, fun y hy e => ?_⟩, ?_⟩
  · obtain ⟨i, hi, rfl⟩ := List.mem_map.mp hp
    have := of_decide_eq_true (List.all_eq_true.mp h3 i hi)
    simp only [List.getD_eq_getElem?_getD, List.getElem?_eq_getElem this, Option.getD_some]
  · have := List.all_eq_true.mp h4 y hy
    simp only [Bool.or_eq_true, decide_eq_true_eq] at this
    rcases this with (z | z) | z
    · exact absurd e z
    · exact .inl z
    · exact .inr z
  · have := List.all_eq_true.mp h5 y hy
    rcases Bool.or_eq_true_iff.mp this with z | z
    · rcases Bool.or_eq_true_iff.mp z with z | z
      · obtain ⟨z1, z2⟩ := and2 z
        rcases e with e | e
        · exact absurd e (of_decide_eq_true z1)
        · exact absurd e (of_decide_eq_true z2)
      · obtain ⟨p, hp, ep⟩ := List.any_eq_true.mp z
        exact .inl (by rw [← of_decide_eq_true ep]; exact List.mem_map_of_mem hp)
    · refine .inr fun m => ?_
      have : N.any (fun z => decide (z = y.1)) = true := List.any_eq_true.mpr ⟨y.1, m, decide_eq_true rfl⟩
      rw [this] at z
      exact absurd z Bool.false_ne_true
  · unfold ownOf
    rw [List.map_map]
    exact List.map_id'' (fun _ => rfl) tgs
theorem relab_cell {env : PySem.Env} : ∀ {names : List (Str × NameKind)} {x : Str}, names.lookup x = some .cell →
    (names.map fun (n, k) => if (k == NameKind.free && env.scope.kind == .function && env.kindOf n == some .cell) then (n, NameKind.cell) else (n, k)).lookup x = some .cell
  | [], _, h => by simp at h
  | (n, k) :: r, x, h => by
    have ih := @relab_cell env r x
    change List.lookup x ((if (k == NameKind.free && env.scope.kind == .function && env.kindOf n == some .cell) = true then (n, NameKind.cell) else (n, k)) :: _) = _
    cases hx : x == n with
    | true =>
      rw [List.lookup_cons, hx] at h
      cases h
      simp [List.lookup_cons, hx]
    | false =>
      rw [List.lookup_cons, hx] at h
      split <;> (simp only [List.lookup_cons, hx]; exact ih h)
theorem blk_store {s : Shared} {H : Hp} {C : Addr} {cl : List (Str × Addr)} {fp : List Addr} {scope : Scope} (x : Str) (h : locB scope x = true) :
    Loc (X.blk s H scope (compEnvC scope cl C X.env) fp).env.scope x ∧ ((X.blk s H scope (compEnvC scope cl C X.env) fp).fn x = true ∨ (X.blk s H scope (compEnvC scope cl C X.env) fp).env.scope.names.lookup x = some .local) := by
  obtain h | h := Bool.or_eq_true_iff.mp h
  · have z := lookup_relabel_local (env := X.env) (of_decide_eq_true h)
    exact ⟨.inl z, .inr z⟩
  · have z := relab_cell (env := X.env) (of_decide_eq_true h)
    refine ⟨.inr z, .inl ?_⟩
    show (scope.names.lookup x == some .cell) = true
    rw [of_decide_eq_true h]; rfl
theorem Good.blk (g : Good T cv cf k X W) {s : Shared} {H : Hp} {C : Addr} {cl : List (Str × Addr)} {fp : List Addr} {scope : Scope} : Good T cv cf k (X.blk s H scope (compEnvC scope cl C X.env) fp) Wno :=
  ⟨g.calm, g.nd, g.free, takes0, fun p hp => ⟨(g.fn p hp).ex⟩, g.gl, g.fr, fun c hc => ⟨(g.ex c hc).ex⟩, fun q hq => ⟨(g.kw q hq).ex⟩, fun hl => ⟨(g.said hl).ex, (g.said hl).rm, (g.said hl).bare, ⟨(g.said hl).made.isi, (g.said hl).made.val, (g.said hl).made.ex⟩⟩, g.rm, fun p hp => ⟨(g.ms p hp).ex⟩, fun p hp => ⟨(g.ci p hp).ex⟩, g.na, g.see, g.pyl⟩
/-- .. in a lambda's body -/
theorem Good.lamb (g : Good T cv cf k X W) {sc : Scope} (L : LamX.LamS X.env.scope sc) {A : Around} {outer : List PySem.Env} {s : Shared} {H : Hp} {E : XK} {f c' : Addr} (fr : Free1 k (A.deeper (LamX.lamEnv X sc s.heap.objs.size f c'))) : Good T.nolam cv cf k (LamX.lamCx X A outer s H E sc f c') (fun c d _ H => E c d H) :=
  ⟨rfl, g.nd, fr.fr, takes_of rfl rfl rfl rfl, fun p hp => ⟨(g.fn p hp).ex⟩, g.gl, g.fr, fun c hc => ⟨(g.ex c hc).ex⟩, fun q hq => ⟨(g.kw q hq).ex⟩, fun z => (nomatch z), fr.rm, fun p hp => ⟨(g.ms p hp).ex⟩, fun p hp => ⟨(g.ci p hp).ex⟩, g.na, g.see, by
    obtain ⟨l, hl⟩ := fr.fra
    have hl : A.frames.map (LamX.lamEnv X sc s.heap.objs.size f c' :: ·) = some l := hl
    obtain ⟨l0, h0, _⟩ := Option.map_eq_some_iff.mp hl
    exact pyl_at (A := A.deeper (LamX.lamEnv X sc s.heap.objs.size f c')) (env := LamX.lamEnv X sc s.heap.objs.size f c') (l := l0) g.see (by have q := fr.rm.dp; show (A.deeper (LamX.lamEnv X sc s.heap.objs.size f c')).depth + 100 < recursionLimit; omega) (by show A.frames.map _ = _; rw [h0]; rfl) L.gen L.co rfl rfl⟩
/-! ### expressions -/
theorem boot_at {x : Str} {n : String} {v : Value} (e : x = Str.ofString n) (h : bootBuiltins (Str.ofString n) = some v) : bootBuiltins x = some v := by rw [e]; exact h
theorem slot_of {m : Mt} {n : String} (fr : Free k X.A) (h : meN m = some n) : ∃ id, Slot "list" (Str.ofString n) id ∧ typeOf (.builtin id) = pure (.type "method_descriptor") ∧ MtR X id (rMe m) ∧ ∀ h x, metAs m h x = metAt h x := by
  cases m <;> cases h
  · exact ⟨_, PySem.F.slot_list_append, PySem.F.type_list_append, me_append, fun _ _ => rfl⟩
  · exact ⟨_, PySem.F.slot_list_extend, PySem.F.type_list_extend, me_extend, fun _ _ => rfl⟩
  · exact ⟨_, PySem.F.slot_list_pop, PySem.F.type_list_pop, me_pop, fun _ _ => rfl⟩
  · exact ⟨_, PySem.F.slot_list_index, PySem.F.type_list_index, me_index (by have := fr.room.un; omega), fun _ _ => rfl⟩
  · exact ⟨_, PySem.F.slot_list_count, PySem.F.type_list_count, me_count (by have := fr.room.un; omega), fun _ _ => rfl⟩
theorem tslot_of {m : Mt} {n : Str} (fr : Free k X.A) (h : tmB m n = true) : ∃ id, Slot "tuple" n id ∧ typeOf (.builtin id) = pure (.type "method_descriptor") ∧ MtR X id (rMe m) ∧ ∀ h x, metAs m h x = metTp x := by
  cases m <;> first | cases h | cases of_decide_eq_true (show decide _ = true from h)
  · exact ⟨_, PySem.F.slot_tuple_index, PySem.F.type_tuple_index, me_tindex (by have := fr.room.un; omega), fun _ _ => rfl⟩
  · exact ⟨_, PySem.F.slot_tuple_count, PySem.F.type_tuple_count, me_tcount (by have := fr.room.un; omega), fun _ _ => rfl⟩
mutual
theorem okE_ok : ∀ (e : E) {T : Tb} {X : Cx} {W : WX} (_ : Good T cv cf k X W) (t : Bool) (x : Expr), okE T X.N e X.env.scope t x = true → Snd cv cf X W e t x
  | .v i, T, X, W, g, t, x, h => by
    cases x <;> first | exact absurd h Bool.false_ne_true | skip
    rename_i y pos
    obtain ⟨h1, h3⟩ := and2 (show okV X.env.scope X.N i y = true from h)
    obtain ⟨h1, h2⟩ := and2 h1
    obtain ⟨d1, d2, _⟩ := ndbg_ok h3
    exact snd_plain rfl (sd_v (of_decide_eq_true h1) (vis_b h2) d1 d2)
  | .c w, T, X, W, g, t, x, h => by
    cases x <;> first | exact absurd h Bool.false_ne_true | skip
    obtain ⟨h1, h2⟩ := and2 h
    exact snd_val h1 (sd_cB h2)
  | .g y w, T, X, W, g, t, x, h => by
    cases x <;> first | exact absurd h Bool.false_ne_true | skip
    rename_i z pos
    have h : (!t && decide (y = z) && gloB X.env.scope z && T.gl.any fun p => decide (p.1 = z) && RL.W.same p.2 w) = true := h
    obtain ⟨h0, h2⟩ := and2 h
    obtain ⟨h00, h3⟩ := and2 h0
    obtain ⟨h1, h4⟩ := and2 h00
    obtain ⟨p, hp, e⟩ := List.any_eq_true.mp h2
    obtain ⟨e1, e2⟩ := and2 e
    have e1 := of_decide_eq_true e1
    have e2 := same_eq _ _ e2
    obtain ⟨v, u, hm, r, hr⟩ := g.gl p hp
    have e4 := of_decide_eq_true h4
    subst e4
    rw [e1] at hm
    rw [e2] at hr
    exact snd_val h1 (sd_g (glo_b h3).1 hm r hr (ndbg_ok (glo_b h3).2).1)
  | .bin op a b, T, X, W, g, t, x, h => by
    cases x <;> first | exact absurd h Bool.false_ne_true | skip
    obtain ⟨h, h4⟩ := and2 h
    obtain ⟨h, h3⟩ := and2 h
    obtain ⟨h1, h2⟩ := and2 h
    exact snd_val h1 (sd_bin (so_bop g.pyl h2) (okE_ok a g false _ h3) (okE_ok b g false _ h4))
  | .neg a, T, X, W, g, t, x, h => by
    cases x <;> first | exact absurd h Bool.false_ne_true | skip
    rename_i op y pos
    cases op <;> first | exact absurd h Bool.false_ne_true | skip
    obtain ⟨h1, h2⟩ := and2 h
    exact snd_val h1 (sd_neg (okE_ok a g false _ h2))
  | .not a, T, X, W, g, t, x, h => by
    cases x <;> first | exact absurd h Bool.false_ne_true | skip
    rename_i op y pos
    cases op <;> first | exact absurd h Bool.false_ne_true | skip
    have h' : okE T X.N a X.env.scope t y = true := h
    have ih := okE_ok a g t y h'
    cases t with
    | false => exact sd_notv ih
    | true => exact ⟨sd_not ih.1, fun _ _ _ z => nomatch z⟩
  | .and a b, T, X, W, g, t, x, h => by
    cases x <;> first | exact absurd h Bool.false_ne_true | skip
    rename_i op vs pos
    match op, vs, h with
    | .Or, _, h => exact absurd h Bool.false_ne_true
    | .And, [], h => exact absurd h Bool.false_ne_true
    | .And, [_], h => exact absurd h Bool.false_ne_true
    | .And, [y, z], h =>
      obtain ⟨h1, h2⟩ := and2 h
      have ia := okE_ok a g t y h1
      have ib := okE_ok b g t z h2
      cases t with
      | false => exact sd_and ia (pe_one ib)
      | true =>
        have p := sd_andT (pos := pos) ia.1 (pw_and1 (pos := pos) ib.1)
        exact ⟨p.pt, fun _ _ _ _ => p⟩
    | .And, y :: z :: z2 :: r, h =>
      obtain ⟨h1, h2⟩ := and2 h
      have ia := okE_ok a g t y h1
      have ib := okE_ok b g t (.BoolOp .And (z :: z2 :: r) pos) h2
      cases t with
      | false => exact sd_and ia ib
      | true =>
        have p := sd_andT (pos := pos) ia.1 (ib.2 _ _ _ rfl)
        exact ⟨p.pt, fun _ _ _ _ => p⟩
  | .or a b, T, X, W, g, t, x, h => by
    cases x <;> first | exact absurd h Bool.false_ne_true | skip
    rename_i op vs pos
    match op, vs, h with
    | .And, _, h => exact absurd h Bool.false_ne_true
    | .Or, [], h => exact absurd h Bool.false_ne_true
    | .Or, [_], h => exact absurd h Bool.false_ne_true
    | .Or, [y, z], h =>
      obtain ⟨h1, h2⟩ := and2 h
      have ia := okE_ok a g t y h1
      have ib := okE_ok b g t z h2
      cases t with
      | false => exact sd_or ia (pe_one ib)
      | true =>
        have p := sd_orT (pos := pos) ia.1 (pw_or1 (pos := pos) ib.1)
        exact ⟨p.pt, fun _ _ _ _ => p⟩
    | .Or, y :: z :: z2 :: r, h =>
      obtain ⟨h1, h2⟩ := and2 h
      have ia := okE_ok a g t y h1
      have ib := okE_ok b g t (.BoolOp .Or (z :: z2 :: r) pos) h2
      cases t with
      | false => exact sd_or ia ib
      | true =>
        have p := sd_orT (pos := pos) ia.1 (ib.2 _ _ _ rfl)
        exact ⟨p.pt, fun _ _ _ _ => p⟩
  | .ite c a b, T, X, W, g, t, x, h => by
    cases x <;> first | exact absurd h Bool.false_ne_true | skip
    obtain ⟨h, h4⟩ := and2 h
    obtain ⟨h, h3⟩ := and2 h
    obtain ⟨h1, h2⟩ := and2 h
    exact snd_val h1 (sd_ite (okE_ok c g true _ h2).1 (okE_ok a g false _ h3) (okE_ok b g false _ h4))
  | .cmp a cs, T, X, W, g, t, x, h => by
    cases x <;> first | exact absurd h Bool.false_ne_true | skip
    rename_i l ops es pos
    obtain ⟨h, h3⟩ := and2 h
    obtain ⟨h1, h2⟩ := and2 h
    have ia := okE_ok a g false _ h1
    have ics := okCs_ok cs g _ _ h2
    have hm : lastMarks ops es = false := by simpa using h3
    cases t with
    | false => exact sd_cmp ia ics hm
    | true => exact ⟨sd_cmpT ia ics hm, fun _ _ _ z => nomatch z⟩
  | .idx a b, T, X, W, g, t, x, h => by
    cases x <;> first | exact absurd h Bool.false_ne_true | skip
    rename_i y z pos
    have h : (okE T X.N a X.env.scope false y && okE T X.N b X.env.scope false z && notSlice z) = true := h
    obtain ⟨h, h3⟩ := and2 h
    obtain ⟨h1, h2⟩ := and2 h
    exact snd_plain rfl (sd_idx (okE_ok a g false _ h1) (okE_ok b g false _ h2) (ix_ok h3))
  | .sl a lo hi, T, X, W, g, t, x, h => by
    cases x <;> first | exact absurd h Bool.false_ne_true | skip
    rename_i y z pos
    cases z <;> first | exact absurd h Bool.false_ne_true | skip
    rename_i l u st p2
    cases st <;> first | exact absurd h Bool.false_ne_true | skip
    obtain ⟨h, h4⟩ := and2 h
    obtain ⟨h, h3⟩ := and2 h
    obtain ⟨h1, h2⟩ := and2 h
    exact snd_val h1 (sd_sl (okE_ok a g false _ h2) (okOe_ok lo g _ h3) (okOe_ok hi g _ h4))
  | .tup es, T, X, W, g, t, x, h => by
    cases x <;> first | exact absurd h Bool.false_ne_true | skip
    obtain ⟨h, h3⟩ := and2 h
    obtain ⟨h1, h2⟩ := and2 h
    exact snd_val h1 (sd_tup (okEs_ok es g _ h2).1 (of_decide_eq_true h3))
  | .lst es, T, X, W, g, t, x, h => by
    cases x <;> first | exact absurd h Bool.false_ne_true | skip
    obtain ⟨h, h3⟩ := and2 h
    obtain ⟨h1, h2⟩ := and2 h
    exact snd_val h1 (sd_lst (okEs_ok es g _ h2).1 (of_decide_eq_true h3))
  | .mls es, T, X, W, g, t, x, h => by
    cases x <;> first | exact absurd h Bool.false_ne_true | skip
    obtain ⟨h, h3⟩ := and2 h
    obtain ⟨h1, h2⟩ := and2 h
    exact snd_val h1 (sd_mls (okEs_ok es g _ h2).1 (of_decide_eq_true h3))
  | .comp tg it c el, T, X, W, g, t, x, h => by
    cases x <;> first | exact absurd h Bool.false_ne_true | skip
    rename_i elt gs scope pos
    obtain ⟨tgx, iter, ifs, eg, h⟩ := onC_ok h
    subst eg
    · · have h : (!t && okIt T X.N it X.env.scope (isTup tgx) iter && notSet iter && blkB X.N X.env.scope scope tg && okTg (locB scope) X.N tg tgx && okOt T X.N c (relabS X.env.scope scope) ifs && okE T X.N el (relabS X.env.scope scope) false elt) = true := h
        obtain ⟨h, h7⟩ := and2 h
        obtain ⟨h, h6⟩ := and2 h
        obtain ⟨h, h5⟩ := and2 h
        obtain ⟨h, h4⟩ := and2 h
        obtain ⟨h, h3⟩ := and2 h
        obtain ⟨h1, h2⟩ := and2 h
        obtain ⟨b1, b2⟩ := blk_ok h4
        refine snd_val h1 ?_
        rw [evC_comp]
        exact sd_comp g.calm g.nd (okIt_ok it g tgx iter h2) b1 b2 (fun s H C cl fp => tg_ok (fun x hx => blk_store x hx) g.calm g.nd h5) (fun s H C cl fp => okOt_ok c g.blk _ h6) (fun s H C cl fp => okE_ok el g.blk false _ h7) (set_ok h3)
  | .mut e, T, X, W, g, t, x, h => by
    match e, x, h with
    | .comp tg it c el, .ListComp elt gs scope pos, h =>
      obtain ⟨tgx, iter, ifs, eg, h⟩ := onC_ok h
      subst eg
      · · have h : (!t && okIt T X.N it X.env.scope (isTup tgx) iter && notSet iter && blkB X.N X.env.scope scope tg && okTg (locB scope) X.N tg tgx && okOt T X.N c (relabS X.env.scope scope) ifs && okE T X.N el (relabS X.env.scope scope) false elt) = true := h
          obtain ⟨h, h7⟩ := and2 h
          obtain ⟨h, h6⟩ := and2 h
          obtain ⟨h, h5⟩ := and2 h
          obtain ⟨h, h4⟩ := and2 h
          obtain ⟨h, h3⟩ := and2 h
          obtain ⟨h1, h2⟩ := and2 h
          obtain ⟨b1, b2⟩ := blk_ok h4
          refine snd_val h1 ?_
          rw [evC_mut]
          exact sd_comp g.calm g.nd (okIt_ok it g tgx iter h2) b1 b2 (fun s H C cl fp => tg_ok (fun x hx => blk_store x hx) g.calm g.nd h5) (fun s H C cl fp => okOt_ok c g.blk _ h6) (fun s H C cl fp => okE_ok el g.blk false _ h7) (set_ok h3)
    | .bin .add a b, .BinOp l .Add r pos, h =>
      obtain ⟨h, h3⟩ := and2 h
      obtain ⟨h1, h2⟩ := and2 h
      exact snd_val h1 (sd_mutbin so_addM (okE_ok a g false _ h2) (okE_ok b g false _ h3))
    | .sl a lo hi, .Subscript x (.Slice l u none p2) pos, h =>
      have h : (!t && okE T X.N a X.env.scope false x && okOe T X.N lo X.env.scope l && okOe T X.N hi X.env.scope u) = true := h
      obtain ⟨h, h4⟩ := and2 h
      obtain ⟨h, h3⟩ := and2 h
      obtain ⟨h1, h2⟩ := and2 h
      exact snd_val h1 (sd_mutsl (okE_ok a g false _ h2) (okOe_ok lo g l h3) (okOe_ok hi g u h4))
    | .bin .mul a b, .BinOp l .Mult r pos, h =>
      obtain ⟨h, h3⟩ := and2 h
      obtain ⟨h1, h2⟩ := and2 h
      exact snd_val h1 (sd_mutbin so_mulM (okE_ok a g false _ h2) (okE_ok b g false _ h3))
    | .blt .list (.cons a .nil), .Call (.Name n p) [y] [] pos, h =>
      obtain ⟨h, h4⟩ := and2 h
      obtain ⟨h, h3⟩ := and2 h
      obtain ⟨h1, h2⟩ := and2 h
      obtain ⟨f1, f2, f3, f4⟩ := fr_b g h2
      obtain ⟨d1, d2, d3⟩ := ndbg_ok f3
      obtain ⟨j1, j2, j3⟩ := okEs_ok (T := T) .nil g [] rfl
      exact snd_val h1 (sd_mutlist f2 f4 (boot_at f1 (by decide +kernel)) (sd_cons (okE_ok a g false y h3) j1 (star_ok h4)) d3 d1 (star_ok h4) (plain_ok j2))
  | .call f es, T, X, W, g, t, x, h => by
    cases x <;> first | exact absurd h Bool.false_ne_true | skip
    rename_i fx xs kw pos
    match fx, kw, h with
    | .Name y p, [], h =>
      have h : (gloB X.env.scope y && T.fn.any (fun p => decide (p.1 = f) && decide (p.2 = y)) && okEs T X.N es X.env.scope xs) = true := h
      obtain ⟨h, h3⟩ := and2 h
      obtain ⟨h1, h2⟩ := and2 h
      obtain ⟨q, hq, e⟩ := List.any_eq_true.mp h2
      obtain ⟨e1, e2⟩ := and2 e
      have e1 := of_decide_eq_true e1
      have e2 := of_decide_eq_true e2
      have c := g.fn q hq
      rw [e1, e2] at c
      obtain ⟨i1, i2, i3⟩ := okEs_ok es g xs h3
      refine snd_plain rfl (PE.weak (sd_callG (g := fun ws h => callP (cf f ws []) ws h) c g.free (glo_b h1).1 g.tk i1 (fun r s p => call_pure r s p) i3 (ndbg_ok (glo_b h1).2).1 i2) fun σ H Q q => ?_)
      simpa only [tR, evE] using q
  | .callh f es, T, X, W, g, t, x, h => by
    cases x <;> first | exact absurd h Bool.false_ne_true | skip
    rename_i fx xs kw pos
    match fx, kw, h with
    | .Name y p, [], h =>
      have h : (gloB X.env.scope y && T.fn.any (fun p => decide (p.1 = f) && decide (p.2 = y)) && okEs T X.N es X.env.scope xs) = true := h
      obtain ⟨h, h3⟩ := and2 h
      obtain ⟨h1, h2⟩ := and2 h
      obtain ⟨q, hq, e⟩ := List.any_eq_true.mp h2
      obtain ⟨e1, e2⟩ := and2 e
      have e1 := of_decide_eq_true e1
      have e2 := of_decide_eq_true e2
      have c := g.fn q hq
      rw [e1, e2] at c
      obtain ⟨i1, i2, i3⟩ := okEs_ok es g xs h3
      refine snd_plain rfl (PE.weak (sd_callG (g := fun ws h => cf f ws h) c g.free (glo_b h1).1 g.tk i1 (fun r s p => call_full r s p) i3 (ndbg_ok (glo_b h1).2).1 i2) fun σ H Q q => ?_)
      simpa only [tR, evE] using q
  | .callg f es, T, X, W, g, t, x, h => by
    cases x <;> first | exact absurd h Bool.false_ne_true | skip
    rename_i fx xs kw pos
    match fx, kw, h with
    | .Name y p, [], h =>
      have h : (gloB X.env.scope y && T.fn.any (fun p => decide (p.1 = f) && decide (p.2 = y)) && okEs T X.N es X.env.scope xs) = true := h
      obtain ⟨h, h3⟩ := and2 h
      obtain ⟨h1, h2⟩ := and2 h
      obtain ⟨q, hq, e⟩ := List.any_eq_true.mp h2
      obtain ⟨e1, e2⟩ := and2 e
      have e1 := of_decide_eq_true e1
      have e2 := of_decide_eq_true e2
      have c := g.fn q hq
      rw [e1, e2] at c
      obtain ⟨i1, i2, i3⟩ := okEs_ok es g xs h3
      refine snd_plain rfl (PE.weak (sd_callG (g := fun ws h => callG (cf f ws h) h) c g.free (glo_b h1).1 g.tk i1 (fun r s p => call_cut r s p) i3 (ndbg_ok (glo_b h1).2).1 i2) fun σ H Q q => ?_)
      simpa only [tR, evE] using q
  | .kcall f ns pm es, T, X, W, g, t, x, h => by
    cases x <;> first | exact absurd h Bool.false_ne_true | skip
    rename_i fx xs kw pos
    match fx, xs, h with
    | .Name y p, [], h =>
      have h : (gloB X.env.scope y && T.kw.any (fun p => decide (p = (f, y, ns, pm))) && okKs T X.N es ns X.env.scope kw) = true := h
      obtain ⟨h, h3⟩ := and2 h
      obtain ⟨h1, h2⟩ := and2 h
      obtain ⟨q, hq, e⟩ := List.any_eq_true.mp h2
      have e := of_decide_eq_true e
      subst e
      have c := g.kw _ hq
      obtain ⟨i1, i2, i3, i4⟩ := okKs_ok es g ns kw h3
      exact snd_plain rfl (sd_callK c g.free (glo_b h1).1 g.tk i1 (i2 pos) (i3 pos) (i4 pos) (ndbg_ok (glo_b h1).2).1)
  | .blt b es, T, X, W, g, t, x, h => by
    match es, x, h with
    | .cons e es, .Call (.Name n p) (y :: ys) [] pos, h =>
      have h : (okE T X.N e X.env.scope false y && notStar y && okBi b (fun m => frB T X.env.scope n m && okEs T X.N es X.env.scope ys) (fun m => frB T X.env.scope n "isinstance" && okTail T X.env.scope m es ys)) = true := h
      obtain ⟨h, h3⟩ := and2 h
      obtain ⟨h1, h2⟩ := and2 h
      have i1 := okE_ok e g false y h1
      have js := okEs_ok es g ys
      unfold okBi at h3
      cases hb : biN b with
      | some q =>
        obtain ⟨tp, nm⟩ := q
        simp only [hb] at h3
        obtain ⟨h3, h4⟩ := and2 h3
        obtain ⟨f1, f2, f3, f4⟩ := fr_b g h3
        obtain ⟨d1, d2, d3⟩ := ndbg_ok f3
        obtain ⟨j1, j2, j3⟩ := js h4
        have pa := sd_cons i1 j1 (star_ok h2)
        refine snd_plain rfl ?_
        rcases bi_ok g hb with ⟨_, b1, b2⟩ | ⟨_, b1, b2⟩
        · exact sd_blt b2 f2 f4 (boot_at f1 b1) pa d3 d1 (star_ok h2) (plain_ok j2)
        · exact sd_blty b2 f2 f4 (boot_at f1 b1) pa d3 d1 (star_ok h2) (plain_ok j2)
      | none =>
        simp only [hb] at h3
        cases hi : isB b with
        | none => simp only [hi] at h3; exact absurd h3 Bool.false_ne_true
        | some m =>
          simp only [hi] at h3
          obtain ⟨h7, h8⟩ := and2 h3
          clear js h3
          match es, ys, h8 with
          | .nil, [.Name z p2], h8 =>
            obtain ⟨f1, f2, f3, f4⟩ := fr_b g h7
            obtain ⟨d1, d2, d3⟩ := ndbg_ok f3
            obtain ⟨k1, k2, k3, k4⟩ := fr_b (n := m) g h8
            obtain ⟨c1, c2, c3⟩ := ndbg_ok k3
            exact snd_plain rfl (sd_isi hi f2 f4 (boot_at f1 isi_boot) k2 k4 (boot_at k1 (isT_boot _ (isB_mem hi))) i1 d3 d1 c3 c1 (star_ok h2) rfl)
  | .meth m o es, T, X, W, g, t, x, h => by
    match es, x, h with
    | .nil, .Call (.Attribute ob nm ap) [] [] cp, h =>
      have h : (okE T X.N o X.env.scope false ob && notCall ob && (ap.endLine == cp.line) && meB m nm true) = true := h
      obtain ⟨h, h4⟩ := and2 h
      obtain ⟨h, h3⟩ := and2 h
      obtain ⟨h1, h2⟩ := and2 h
      unfold meB at h4
      cases hm : meN m with
      | none => simp only [hm] at h4; exact absurd h4 Bool.false_ne_true
      | some n =>
        simp only [hm] at h4
        obtain ⟨h4, _⟩ := and2 h4
        obtain ⟨id, s1, s2, s3, s4⟩ := slot_of (X := X) g.free hm
        have e1 := of_decide_eq_true h4
        subst e1
        exact snd_plain rfl (sd_meth0 s1 s2 s3 s4 (okE_ok o g false ob h1) h2 h3)
    | .cons e .nil, .Call (.Attribute ob nm ap) [y] [] cp, h =>
      have h : (okE T X.N o X.env.scope false ob && notCall ob && (ap.endLine == cp.line) && (meB m nm false || tmB m nm) && okE T X.N e X.env.scope false y && notStar y) = true := h
      obtain ⟨h, h6⟩ := and2 h
      obtain ⟨h, h5⟩ := and2 h
      obtain ⟨h, h4⟩ := and2 h
      obtain ⟨h, h3⟩ := and2 h
      obtain ⟨h1, h2⟩ := and2 h
      obtain h4 | h4 := (Bool.or_eq_true_iff.mp h4).symm
      · obtain ⟨id, s1, s2, s3, s4⟩ := tslot_of (X := X) g.free h4
        exact snd_plain rfl (sd_tmeth s1 s2 s3 s4 (okE_ok o g false ob h1) (okE_ok e g false y h5) h2 h3 (star_ok h6))
      unfold meB at h4
      cases hm : meN m with
      | none => simp only [hm] at h4; exact absurd h4 Bool.false_ne_true
      | some n =>
        simp only [hm] at h4
        obtain ⟨h4, _⟩ := and2 h4
        obtain ⟨id, s1, s2, s3, s4⟩ := slot_of (X := X) g.free hm
        have e1 := of_decide_eq_true h4
        subst e1
        exact snd_plain rfl (sd_meth s1 s2 s3 s4 (okE_ok o g false ob h1) (okE_ok e g false y h5) h2 h3 (star_ok h6))
  | .fld c f o, T, X, W, g, t, x, h => by
    match x, h with
    | .Attribute ob nm pos, h =>
      have h : (!t && decide (f = nm) && okE T X.N o X.env.scope false ob && notCall ob && T.na.any fun p => decide (p = (c, f))) = true := h
      obtain ⟨h, h5⟩ := and2 h
      obtain ⟨h, h4⟩ := and2 h
      obtain ⟨h, h3⟩ := and2 h
      obtain ⟨h1, h2⟩ := and2 h
      have e2 := of_decide_eq_true h2
      subst e2
      obtain ⟨q, hq, e⟩ := List.any_eq_true.mp h5
      have e := of_decide_eq_true e
      subst e
      obtain ⟨a1, a2⟩ := g.na _ hq
      exact snd_val h1 (sd_fld (okE_ok o g false ob h3) h4 a1 a2)
  | .mcg c m i o es, T, X, W, g, t, x, h => by
    cases x <;> first | exact absurd h Bool.false_ne_true | skip
    rename_i fx xs kw pos
    match fx, kw, h with
    | .Attribute ob nm ap, [], h =>
      have h : (decide (nm = m) && okE T X.N o X.env.scope false ob && notCall ob && (ap.endLine == pos.line) && okEs T X.N es X.env.scope xs && decide (xs.length < 20) && T.ms.any fun p => decide (p = (i, c, m))) = true := h
      obtain ⟨h, h7⟩ := and2 h
      obtain ⟨h, h6⟩ := and2 h
      obtain ⟨h, h5⟩ := and2 h
      obtain ⟨h, h4⟩ := and2 h
      obtain ⟨h, h3⟩ := and2 h
      obtain ⟨h1, h2⟩ := and2 h
      have e1 := of_decide_eq_true h1
      subst e1
      obtain ⟨q, hq, e⟩ := List.any_eq_true.mp h7
      have e := of_decide_eq_true e
      subst e
      obtain ⟨i1, i2, i3⟩ := okEs_ok es g xs h5
      have st : ∀ e es', xs = e :: es' → notStar e = true ∧ es'.all notStar = true := fun e es' z => by
        rw [z] at i2
        exact and2 i2
      exact snd_plain rfl (sd_mcg (g.ms _ hq) g.free g.tk (okE_ok o g false ob h2) h3 h4 (form_ok (plain_ok i2) (of_decide_eq_true h6)) i1 i3 (fun e es' z => star_ok (st e es' z).1) fun e es' z => plain_ok (st e es' z).2)
  | .make c i es, T, X, W, g, t, x, h => by
    cases x <;> first | exact absurd h Bool.false_ne_true | skip
    rename_i fx xs kw pos
    match fx, xs, kw, h with
    | .Name y p, z :: zs, [], h =>
      have h : (decide (y = c) && gloB X.env.scope y && okEs T X.N es X.env.scope (z :: zs) && T.ci.any fun p => decide (p = (i, c))) = true := h
      obtain ⟨h, h4⟩ := and2 h
      obtain ⟨h, h3⟩ := and2 h
      obtain ⟨h1, h2⟩ := and2 h
      have e1 := of_decide_eq_true h1
      subst e1
      obtain ⟨q, hq, e⟩ := List.any_eq_true.mp h4
      have e := of_decide_eq_true e
      subst e
      obtain ⟨i1, i2, i3⟩ := okEs_ok es g (z :: zs) h3
      have st := and2 i2
      exact snd_plain rfl (sd_make (g.ci _ hq) g.rm g.free.bare (glo_b h2).1 g.tk i1 (ndbg_ok (glo_b h2).2).1 (star_ok st.1) (plain_ok st.2))
  | .klen c i o, T, X, W, g, t, x, h => by
    cases x <;> first | exact absurd h Bool.false_ne_true | skip
    rename_i fx xs kw pos
    match fx, xs, kw, h with
    | .Name y p, [z], [], h =>
      have h : (frB T X.env.scope y "len" && okE T X.N o X.env.scope false z && notStar z && T.ms.any fun p => decide (p = (i, c, lenN))) = true := h
      obtain ⟨h, h4⟩ := and2 h
      obtain ⟨h, h3⟩ := and2 h
      obtain ⟨h1, h2⟩ := and2 h
      obtain ⟨q, hq, e⟩ := List.any_eq_true.mp h4
      have e := of_decide_eq_true e
      subst e
      obtain ⟨f1, f2, f3, f4⟩ := fr_b g h1
      obtain ⟨d1, d2, d3⟩ := ndbg_ok f3
      exact snd_plain rfl (sd_klen (g.ms _ hq) g.rm g.free.bare f2 f4 (boot_at f1 boot_len) (okE_ok o g false z h2) d3 d1 (star_ok h3))
  | .krep c i o, T, X, W, g, t, x, h => by
    cases x <;> first | exact absurd h Bool.false_ne_true | skip
    rename_i fx xs kw pos
    match fx, xs, kw, h with
    | .Name y p, [z], [], h =>
      have h : (frB T X.env.scope y "repr" && okE T X.N o X.env.scope false z && notStar z && T.ms.any fun p => decide (p = (i, c, reprM))) = true := h
      obtain ⟨h, h4⟩ := and2 h
      obtain ⟨h, h3⟩ := and2 h
      obtain ⟨h1, h2⟩ := and2 h
      obtain ⟨q, hq, e⟩ := List.any_eq_true.mp h4
      have e := of_decide_eq_true e
      subst e
      obtain ⟨f1, f2, f3, f4⟩ := fr_b g h1
      obtain ⟨d1, d2, d3⟩ := ndbg_ok f3
      exact snd_plain rfl (sd_krep (g.ms _ hq) g.rm g.free.bare f2 f4 (boot_at f1 repr_bt) (okE_ok o g false z h2) d3 d1 (star_ok h3))
  | .emp, T, X, W, g, t, x, h => by
    match x, h with
    | .Dict [] [] pos, h => exact snd_val h sd_emp
  | .made c v, T, X, W, g, t, x, h => by
    match x, h with
    | .Call (.Name i p1) [.Call (.Name y p2) [] [] p3, .Name d p4] [] p5, h =>
      have h : (T.lam && (decide (i = isiN) && (decide (y = c) && (decide (d = madeN v) && (gloB X.env.scope i && (gloB X.env.scope y && (gloB X.env.scope d && ((exCs.any fun z => decide (z = c)) && T.ex.any fun z => decide (z = c))))))))) = true := h
      obtain ⟨h1, h⟩ := and2 h
      obtain ⟨h2, h⟩ := and2 h
      obtain ⟨h3, h⟩ := and2 h
      obtain ⟨h4, h⟩ := and2 h
      obtain ⟨h5, h⟩ := and2 h
      obtain ⟨h6, h⟩ := and2 h
      obtain ⟨h7, h⟩ := and2 h
      obtain ⟨h8, h9⟩ := and2 h
      have e2 := of_decide_eq_true h2
      have e3 := of_decide_eq_true h3
      have e4 := of_decide_eq_true h4
      subst e2 e3 e4
      obtain ⟨z, mz, ez⟩ := List.any_eq_true.mp h8
      have ez := of_decide_eq_true ez
      subst ez
      obtain ⟨z', mz', ez'⟩ := List.any_eq_true.mp h9
      have ez' := of_decide_eq_true ez'
      subst ez'
      exact snd_plain rfl (sd_made (g.said h1).made mz (g.ex _ mz') (glo_b h5).1 (glo_b h6).1 (glo_b h7).1 (ndbg_ok (glo_b h6).2).1)
  | .bangs e, T, X, W, g, t, x, h => by
    match x, h with
    | .Compare (.Subscript y (.Slice none (some (.Constant (.int 1) j p1)) none p2) p3) [.Eq] [.Constant (.str z) j2 p4] p5, h =>
      have h : (decide (z = bangS) && okE T X.N e X.env.scope false y) = true := h
      obtain ⟨h1, h2⟩ := and2 h
      have h1 := of_decide_eq_true h1
      subst h1
      have ih := okE_ok e g false y h2
      cases t with
      | false => exact sd_bangs ih
      | true => exact ⟨sd_bangsT ih, fun _ _ _ z => nomatch z⟩
  | .paren e, T, X, W, g, t, x, h => by
    match x, h with
    | .Compare (.Subscript y (.Slice none (some (.Constant (.int 1) j p1)) none p2) p3) [.NotEq] [.Constant (.str z) j2 p4] p5, h =>
      have h : (decide (z = parenS) && okE T X.N e X.env.scope false y) = true := h
      obtain ⟨h1, h2⟩ := and2 h
      have h1 := of_decide_eq_true h1
      subst h1
      have ih := okE_ok e g false y h2
      cases t with
      | false => exact sd_paren ih
      | true => exact ⟨sd_parenT ih, fun _ _ _ z => nomatch z⟩
  | .dk k e, T, X, W, g, t, x, h => by
    match e, x, h with
    | .tup .nil, .Dict [some (.Constant (.int i) j p)] [.Tuple [] j2 p2] pos, h =>
      have h : (!t && decide (k = i)) = true := h
      obtain ⟨h1, h2⟩ := and2 h
      have h2 := of_decide_eq_true h2
      subst h2
      exact snd_val h1 sd_dk
  | .join z e, T, X, W, g, t, x, h => by
    match x, h with
    | .Call (.Attribute (.Constant (.str y) j p) nm ap) [v] [] cp, h =>
      have h : (decide (z = y) && decide (nm = Str.ofString "join") && (ap.endLine == cp.line) && okE T X.N e X.env.scope false v && notStar v) = true := h
      obtain ⟨h, h5⟩ := and2 h
      obtain ⟨h, h4⟩ := and2 h
      obtain ⟨h, h3⟩ := and2 h
      obtain ⟨h1, h2⟩ := and2 h
      have h1 := of_decide_eq_true h1
      have h2 := of_decide_eq_true h2
      subst h1 h2
      exact snd_plain rfl (sd_join (okE_ok e g false v h4) (star_ok h5) h3)
  | .split e c, T, X, W, g, t, x, h => by
    match x, h with
    | .Call (.Attribute ob nm ap) [.Constant (.str y) j p] [] cp, h =>
      have h : (decide (y = ofS [c]) && decide (nm = Str.ofString "split") && (ap.endLine == cp.line) && okE T X.N e X.env.scope false ob && notCall ob) = true := h
      obtain ⟨h, h5⟩ := and2 h
      obtain ⟨h, h4⟩ := and2 h
      obtain ⟨h, h3⟩ := and2 h
      obtain ⟨h1, h2⟩ := and2 h
      have h1 := of_decide_eq_true h1
      have h2 := of_decide_eq_true h2
      subst h1 h2
      exact snd_plain rfl (sd_split (okE_ok e g false ob h4) h5 h3)
  | .fstr es, T, X, W, g, t, x, h => by
    match x, h with
    | .JoinedStr (v1 :: v2 :: rest) pos, h =>
      have h : (!t && okF T X.N es X.env.scope (v1 :: v2 :: rest)) = true := h
      obtain ⟨h1, h2⟩ := and2 h
      exact snd_val h1 (sd_fstr (okF_ok es g _ h2))
  | .rep1 z e, T, X, W, g, t, x, h => by
    match x, h with
    | .BinOp (.Constant (.str y) j p) .Mult v pos, h =>
      have h : (!t && decide (z = y) && okE T X.N e X.env.scope false v) = true := h
      obtain ⟨h, h3⟩ := and2 h
      obtain ⟨h1, h2⟩ := and2 h
      have h2 := of_decide_eq_true h2
      subst h2
      exact snd_val h1 (sd_rep1 (okE_ok e g false v h3))
  | .splitv e m, T, X, W, g, t, x, h => by
    match x, h with
    | .Call (.Attribute ob nm ap) [y] [] cp, h =>
      have h : (decide (nm = Str.ofString "split") && (ap.endLine == cp.line) && okE T X.N e X.env.scope false ob && notCall ob && okE T X.N m X.env.scope false y && notStar y) = true := h
      obtain ⟨h, h6⟩ := and2 h
      obtain ⟨h, h5⟩ := and2 h
      obtain ⟨h, h4⟩ := and2 h
      obtain ⟨h, h3⟩ := and2 h
      obtain ⟨h1, h2⟩ := and2 h
      have h1 := of_decide_eq_true h1
      subst h1
      exact snd_plain rfl (sd_splitv (okE_ok e g false ob h3) (okE_ok m g false y h5) (star_ok h6) h4 h2)
  | .tidx a b, T, X, W, g, t, x, h => by
    cases x <;> first | exact absurd h Bool.false_ne_true | skip
    rename_i y z pos
    have h : (okE T X.N a X.env.scope false y && okE T X.N b X.env.scope false z && notSlice z) = true := h
    obtain ⟨h, h3⟩ := and2 h
    obtain ⟨h1, h2⟩ := and2 h
    exact snd_plain rfl (sd_tidx (okE_ok a g false _ h1) (okE_ok b g false _ h2) (ix_ok h3))
  | .tsl a lo hi, T, X, W, g, t, x, h => by
    match x, h with
    | .Subscript y (.Slice l u none p2) pos, h =>
      have h : (!t && okE T X.N a X.env.scope false y && okOe T X.N lo X.env.scope l && okOe T X.N hi X.env.scope u) = true := h
      obtain ⟨h, h4⟩ := and2 h
      obtain ⟨h, h3⟩ := and2 h
      obtain ⟨h1, h2⟩ := and2 h
      exact snd_val h1 (sd_tsl (okE_ok a g false _ h2) (okOe_ok lo g _ h3) (okOe_ok hi g _ h4))
  | .orS e z, T, X, W, g, t, x, h => by
    match x, h with
    | .BoolOp .Or [v, .Constant (.str y) j p] pos, h =>
      have h : (!t && decide (z = y) && okE T X.N e X.env.scope false v) = true := h
      obtain ⟨h, h3⟩ := and2 h
      obtain ⟨h1, h2⟩ := and2 h
      have h2 := of_decide_eq_true h2
      subst h2
      exact snd_val h1 (sd_orS (okE_ok e g false v h3))
  | .rev e, T, X, W, g, t, x, h => by
    match x, h with
    | .Subscript y (.Slice none none (some (.UnaryOp .USub (.Constant (.int 1) k p1) p2)) p3) pos, h =>
      have h : (!t && okE T X.N e X.env.scope false y) = true := h
      obtain ⟨h1, h2⟩ := and2 h
      exact snd_val h1 (sd_rev (okE_ok e g false y h2))
  | .said e, T, X, W, g, t, x, h => by
    match x, h with
    | .Call (.Name n p) [.Lambda prm b scp p2] [] pos, h =>
      have h : (T.lam && decide (n = saidN) && gloB X.env.scope n && noPs prm && LamX.lamSB X.env.scope scp && okE T.nolam X.N e scp false b) = true := h
      obtain ⟨h, h6⟩ := and2 h
      obtain ⟨h, h5⟩ := and2 h
      obtain ⟨h, h4⟩ := and2 h
      obtain ⟨h, h3⟩ := and2 h
      obtain ⟨h1, h2⟩ := and2 h
      have h2 := of_decide_eq_true h2
      subst h2
      exact snd_plain rfl (PE.weak ((g.said h1).rule (g := evE cf e) (glo_b h3).1 (LamX.lamS_by h5) h4 fun A outer s H E f c' fr => okE_ok e (g.lamb (LamX.lamS_by h5) fr) false b h6) fun σ H Q q => by simpa only [tR, evE] using q)
  | .sset e, T, X, W, g, t, x, h => by
    match x, h with
    | .Call (.Name n p) [.Call (.Name z p2) [y] [] p3] [] pos, h =>
      have h : (frB T X.env.scope n "sorted" && frB T X.env.scope z "set" && okE T X.N e X.env.scope false y && notStar y) = true := h
      obtain ⟨h, h4⟩ := and2 h
      obtain ⟨h, h3⟩ := and2 h
      obtain ⟨h1, h2⟩ := and2 h
      obtain ⟨f1, f2, f3, f4⟩ := fr_b g h1
      obtain ⟨d1, d2, d3⟩ := ndbg_ok f3
      obtain ⟨k1, k2, k3, k4⟩ := fr_b g h2
      obtain ⟨c1, c2, c3⟩ := ndbg_ok k3
      exact snd_plain rfl (sd_sset g.calm f2 f4 (boot_at f1 sorted_boot) k2 k4 (boot_at k1 set_boot) (okE_ok e g false y h3) d3 d1 c3 c1 (star_ok h4))
  | .lrng .none b, T, X, W, g, t, x, h => by
    obtain ⟨n, p, m, p2, es, p3, p4, rfl, h⟩ := onRng_ok h
    obtain ⟨h, h3⟩ := and2 h
    obtain ⟨h1, h2⟩ := and2 h
    obtain ⟨e, rfl, h3⟩ := on1_ok h3
    obtain ⟨h3, h4⟩ := and2 h3
    obtain ⟨f1, f2, f3, f4⟩ := fr_b g h1
    obtain ⟨k1, k2, k3, k4⟩ := fr_b g h2
    subst f1 k1
    exact snd_plain rfl (sd_lrng1 g.calm f2 f4 k2 k4 (okE_ok b g false e h3) h4)
  | .lrng (.some a) b, T, X, W, g, t, x, h => by
    obtain ⟨n, p, m, p2, es, p3, p4, rfl, h⟩ := onRng_ok h
    obtain ⟨h, h3⟩ := and2 h
    obtain ⟨h1, h2⟩ := and2 h
    obtain ⟨d, e, rfl, h3⟩ := on2_ok h3
    obtain ⟨h3, h7⟩ := and2 h3
    obtain ⟨h3, h6⟩ := and2 h3
    obtain ⟨h4, h5⟩ := and2 h3
    obtain ⟨f1, f2, f3, f4⟩ := fr_b g h1
    obtain ⟨k1, k2, k3, k4⟩ := fr_b g h2
    subst f1 k1
    exact snd_plain rfl (sd_lrng2 g.calm f2 f4 k2 k4 (okE_ok a g false d h4) (okE_ok b g false e h5) h6 h7)
  | .trng .none b, T, X, W, g, t, x, h => by
    obtain ⟨n, p, m, p2, es, p3, p4, rfl, h⟩ := onRng_ok h
    obtain ⟨h, h3⟩ := and2 h
    obtain ⟨h1, h2⟩ := and2 h
    obtain ⟨e, rfl, h3⟩ := on1_ok h3
    obtain ⟨h3, h4⟩ := and2 h3
    obtain ⟨f1, f2, f3, f4⟩ := fr_b g h1
    obtain ⟨k1, k2, k3, k4⟩ := fr_b g h2
    subst f1 k1
    exact snd_plain rfl (sd_trng1 g.calm f2 f4 k2 k4 (okE_ok b g false e h3) h4)
  | .trng (.some a) b, T, X, W, g, t, x, h => by
    obtain ⟨n, p, m, p2, es, p3, p4, rfl, h⟩ := onRng_ok h
    obtain ⟨h, h3⟩ := and2 h
    obtain ⟨h1, h2⟩ := and2 h
    obtain ⟨d, e, rfl, h3⟩ := on2_ok h3
    obtain ⟨h3, h7⟩ := and2 h3
    obtain ⟨h3, h6⟩ := and2 h3
    obtain ⟨h4, h5⟩ := and2 h3
    obtain ⟨f1, f2, f3, f4⟩ := fr_b g h1
    obtain ⟨k1, k2, k3, k4⟩ := fr_b g h2
    subst f1 k1
    exact snd_plain rfl (sd_trng2 g.calm f2 f4 k2 k4 (okE_ok a g false d h4) (okE_ok b g false e h5) h6 h7)
theorem okOt_ok : ∀ (e : Oe) {T : Tb} {X : Cx} {W : WX} (_ : Good T cv cf k X W) (xs : List Expr), okOt T X.N e X.env.scope xs = true → PTs X xs (tRT cv W (evT cf e))
  | .none, T, X, W, g, xs, h => by
    match xs, h with
    | [], _ => exact td_none
  | .some e, T, X, W, g, xs, h => by
    match xs, h with
    | [x], h => exact td_some (okE_ok e g true x h).1
theorem okOe_ok : ∀ (e : Oe) {T : Tb} {X : Cx} {W : WX} (_ : Good T cv cf k X W) (x : Option Expr), okOe T X.N e X.env.scope x = true → PO X x (fun σ H Q => ∃ G ρ h α, EnvR G ρ α σ H ∧ StR G h α H ∧ Post G cv W σ relE (evOe cf e ρ h) α H Q)
  | .none, T, X, W, g, x, h => by
    match x, h with
    | none, _ => exact sd_noPart
  | .some e, T, X, W, g, x, h => by
    match x, h with
    | some x, h => exact sd_part (okE_ok e g false x h)
theorem okEs_ok : ∀ (es : Es) {T : Tb} {X : Cx} {W : WX} (_ : Good T cv cf k X W) (xs : List Expr), okEs T X.N es X.env.scope xs = true → PA X xs (tRA cv W (evEs cf es)) ∧ xs.all notStar = true ∧ (xs = [] → es = .nil)
  | .nil, T, X, W, g, xs, h => by
    match xs, h with
    | [], _ => exact ⟨sd_nil, rfl, fun _ => rfl⟩
  | .cons e es, T, X, W, g, xs, h => by
    match xs, h with
    | x :: xs, h =>
      obtain ⟨h, h3⟩ := and2 h
      obtain ⟨h1, h2⟩ := and2 h
      obtain ⟨i1, i2, i3⟩ := okEs_ok es g xs h2
      refine ⟨sd_cons (okE_ok e g false x h1) i1 (star_ok h3), ?_, fun z => nomatch z⟩
      show (notStar x && xs.all notStar) = true
      rw [h3, i2]; rfl
theorem okF_ok : ∀ (es : Es) {T : Tb} {X : Cx} {W : WX} (_ : Good T cv cf k X W) (xs : List Expr), okF T X.N es X.env.scope xs = true → PF X cv W cf es xs
  | .nil, T, X, W, g, xs, h => by
    match xs, h with
    | [], _ => exact fd_nil
  | .cons e es, T, X, W, g, xs, h => by
    match xs, h with
    | x :: xs, h =>
      obtain ⟨h1, h2⟩ := and2 h
      have r := okF_ok es g xs h2
      split at h1
      · rename_i y j p
        rw [isTxt_ok h1]
        exact fd_con r
      · rename_i v i p
        obtain ⟨h3, h4⟩ := and2 h1
        rw [of_decide_eq_true h3]
        exact fd_fmt (okE_ok e g false v h4) r
      · cases h1
theorem okKs_ok : ∀ (es : Es) {T : Tb} {X : Cx} {W : WX} (_ : Good T cv cf k X W) (ns : List Str) (ks : List Keyword), okKs T X.N es ns X.env.scope ks = true → PK X ks (tRA cv W (evEs cf es)) ∧
    (∀ pos, (backToKw pos (keywordEach ks X.env)).all (·.1.isSome) = true) ∧ (∀ pos, (backToKw pos (keywordEach ks X.env)).filterMap (·.1) = ns) ∧ ∀ pos, ((backTo pos (starEach [] X.env)).any (·.1) || (backToKw pos (keywordEach ks X.env)).any (·.1.isNone)) = false
  | .nil, T, X, W, g, ns, ks, h => by
    match ns, ks, h with
    | [], [], _ => exact ⟨kd_nil, fun _ => rfl, fun _ => rfl, fun _ => rfl⟩
  | .cons e es, T, X, W, g, ns, ks, h => by
    match ns, ks, h with
    | n :: ns, ⟨some m, x, kp⟩ :: ks, h =>
      obtain ⟨h, h3⟩ := and2 h
      obtain ⟨h1, h2⟩ := and2 h
      have h1 := of_decide_eq_true h1
      subst h1
      obtain ⟨i1, i2, i3, i4⟩ := okKs_ok es g ns ks h3
      refine ⟨kd_cons (okE_ok e g false x h2) i1, fun pos => ?_, fun pos => ?_, fun pos => ?_⟩
      · exact i2 pos
      · show n :: (backToKw pos (keywordEach ks X.env)).filterMap (·.1) = n :: ns
        rw [i3 pos]
      · exact i4 pos
theorem okCs_ok : ∀ (cs : Cs) {T : Tb} {X : Cx} {W : WX} (_ : Good T cv cf k X W) (ops : List CmpOp) (es : List Expr), okCs T X.N cs X.env.scope ops es = true → SC X cv W cf ops es cs
  | .one op e, T, X, W, g, ops, es, h => by
    match ops, es, h with
    | [o], [x], h =>
      obtain ⟨h1, h2⟩ := and2 h
      exact sc_one (so_cop g.free.room h1) (okE_ok e g false x h2)
  | .cons op e cs, T, X, W, g, ops, es, h => by
    match ops, es, h with
    | o :: o' :: ops, x :: x' :: xs, h =>
      obtain ⟨h, h3⟩ := and2 h
      obtain ⟨h1, h2⟩ := and2 h
      exact sc_cons (so_cop g.free.room h1) (okE_ok e g false x h2) (okCs_ok cs g _ _ h3)
theorem okIt_ok : ∀ (it : It) {T : Tb} {X : Cx} {W : WX} (_ : Good T cv cf k X W) (tg : Expr) (x : Expr), okIt T X.N it X.env.scope (isTup tg) x = true → PI X tg x (tI cv W (evIt cf it))
  | .seq e, T, X, W, g, tg, x, h => id_seq (okE_ok e g false x h)
  | .rng e, T, X, W, g, tg, x, h => by
    match x, h with
    | .Call (.Name n p) [a] [] pos, h =>
      obtain ⟨h, h3⟩ := and2 h
      obtain ⟨h1, h2⟩ := and2 h
      obtain ⟨f1, f2, f3, f4⟩ := fr_b g h1
      subst f1
      exact id_rng f2 f4 (okE_ok e g false a h2) (star_ok h3)
  | .rng2 e e2, T, X, W, g, tg, x, h => by
    match x, h with
    | .Call (.Name n p) [a, b] [] pos, h =>
      obtain ⟨h, h5⟩ := and2 h
      obtain ⟨h, h4⟩ := and2 h
      obtain ⟨h, h3⟩ := and2 h
      obtain ⟨h1, h2⟩ := and2 h
      obtain ⟨f1, f2, f3, f4⟩ := fr_b g h1
      subst f1
      exact id_rng2 f2 f4 (okE_ok e g false a h2) (okE_ok e2 g false b h3) (by rw [star_ok h4, star_ok h5]; rfl) (star_ok h5)
  | .rngd e e2, T, X, W, g, tg, x, h => by
    match x, h with
    | .Call (.Name n p) [a, b, .UnaryOp .USub (.Constant (.int 1) k p1) p2] [] pos, h =>
      obtain ⟨h, h5⟩ := and2 h
      obtain ⟨h, h4⟩ := and2 h
      obtain ⟨h, h3⟩ := and2 h
      obtain ⟨h1, h2⟩ := and2 h
      obtain ⟨f1, f2, f3, f4⟩ := fr_b g h1
      subst f1
      exact id_rngd f2 f4 (okE_ok e g false a h2) (okE_ok e2 g false b h3) (star_ok h4) (by rw [star_ok h5]; rfl)
  | .enum e, T, X, W, g, tg, x, h => by
    match x, h with
    | .Call (.Name n p) [a] [] pos, h =>
      obtain ⟨h, h4⟩ := and2 h
      obtain ⟨h, h3⟩ := and2 h
      obtain ⟨h1, h2⟩ := and2 h
      obtain ⟨f1, f2, f3, f4⟩ := fr_b g h2
      obtain ⟨d1, d2, d3⟩ := ndbg_ok f3
      cases tg <;> first | exact absurd h1 Bool.false_ne_true | skip
      exact id_enum (boot_at f1 enum_boot) f2 f4 d3 d1 (okE_ok e g false a h3) (star_ok h4)
  | .zip e e2, T, X, W, g, tg, x, h => by
    match x, h with
    | .Call (.Name n p) [a, b] [] pos, h =>
      obtain ⟨h, h6⟩ := and2 h
      obtain ⟨h, h5⟩ := and2 h
      obtain ⟨h, h4⟩ := and2 h
      obtain ⟨h, h3⟩ := and2 h
      obtain ⟨h1, h2⟩ := and2 h
      obtain ⟨f1, f2, f3, f4⟩ := fr_b g h2
      subst f1
      cases tg <;> first | exact absurd h1 Bool.false_ne_true | skip
      exact id_zip f2 f4 (okE_ok e g false a h3) (okE_ok e2 g false b h4) (star_ok h5) (star_ok h6)
end
end
end RL

namespace RL
open PySem.Spec PySem PyProof.Rows L2
variable [Tabl]
/-! ### statements: the check -/
/-- where «name = [..]» stores first -/
def swB (sc : Scope) (y : Str) (scope : Scope) (py cp : Pos) : Bool := decide (sc.names.lookup y = some .local) && (py.line == cp.line) && !(scope.names.any fun (n, k) => n == y && (k == .local || k == .cell))
theorem swp2 {x y : Str} {a b : Expr} {px py tp p2 : Pos} {k k2 : Nat} {env : PySem.Env} (hk : env.blockKind = .function) (hx : env.scope.names.lookup x = some .local) (hy : env.scope.names.lookup y = some .local) (hl : (py.line == px.line) = true) (hxy : x ≠ y)
    (ha : notStar a = true) (hb : notStar b = true) (hf : (foldedForSure 8 a && foldedForSure 8 b) = false) (hc : (constantsAlone 8 a && constantsAlone 8 b) = false) :
    swappedStores [.Tuple [.Name x px, .Name y py] k tp] (.Tuple [a, b] k2 p2) env = pure (some [x, y]) := by
  have hx : env.kindOf x = some .local := hx
  have hy : env.kindOf y = some .local := hy
  have hl : py.line = px.line := eq_of_beq hl
  have st : (([a, b] : List Expr).any fun | .Starred .. => true | _ => false) = false := by
    cases a <;> first | exact absurd ha Bool.false_ne_true | (cases b <;> first | exact absurd hb Bool.false_ne_true | rfl)
  have fo : ([a, b] : List Expr).all (foldedForSure 8) = false := by simpa using hf
  have co : ([a, b] : List Expr).all (constantsAlone 8) = false := by simpa using hc
  have dd : ([x, y] : List Str).eraseDups.length = 2 := by simp [List.eraseDups_cons, Ne.symm hxy]
  unfold swappedStores
  simp only [st, fo, co, hk]
  simp [hx, hy, hl, Expr.pos, dd]
  rintro (h | h) <;> exfalso
  · cases a <;> first | exact absurd ha Bool.false_ne_true | exact absurd h Bool.false_ne_true
  · cases b <;> first | exact absurd hb Bool.false_ne_true | exact absurd h Bool.false_ne_true
theorem swp3 {x y z : Str} {a b c : Expr} {px py pz tp p2 : Pos} {k k2 : Nat} {env : PySem.Env} (hk : env.blockKind = .function) (hx : env.scope.names.lookup x = some .local) (hy : env.scope.names.lookup y = some .local) (hz : env.scope.names.lookup z = some .local)
    (hl : (py.line == px.line) = true) (hl2 : (pz.line == px.line) = true) (hxy : x ≠ y) (hxz : x ≠ z) (hyz : y ≠ z)
    (ha : notStar a = true) (hb : notStar b = true) (hc : notStar c = true) (hf : (foldedForSure 8 a && foldedForSure 8 b && foldedForSure 8 c) = false) (hca : (constantsAlone 8 a && constantsAlone 8 b && constantsAlone 8 c) = false) :
    swappedStores [.Tuple [.Name x px, .Name y py, .Name z pz] k tp] (.Tuple [a, b, c] k2 p2) env = pure (some [x, y, z]) := by
  have hx : env.kindOf x = some .local := hx
  have hy : env.kindOf y = some .local := hy
  have hz : env.kindOf z = some .local := hz
  have hl : py.line = px.line := eq_of_beq hl
  have hl2 : pz.line = px.line := eq_of_beq hl2
  have st : (([a, b, c] : List Expr).any fun | .Starred .. => true | _ => false) = false := by
    have h1 : ∀ e : Expr, notStar e = true → (match e with | .Starred .. => true | _ => false) = false := by
      intro e he
      cases e <;> first | rfl | exact absurd he Bool.false_ne_true
    simp only [List.any_cons, List.any_nil, h1 a ha, h1 b hb, h1 c hc, Bool.or_self]
  have fo : ([a, b, c] : List Expr).all (foldedForSure 8) = false := by simpa [Bool.and_assoc] using hf
  have co : ([a, b, c] : List Expr).all (constantsAlone 8) = false := by simpa [Bool.and_assoc] using hca
  have dd : ([x, y, z] : List Str).eraseDups.length = 3 := by simp [List.eraseDups_cons, Ne.symm hxy, Ne.symm hxz, Ne.symm hyz]
  unfold swappedStores
  simp only [st, fo, co, hk]
  simp [hx, hy, hz, hl, hl2, Expr.pos, dd]
  rintro (h | h | h) <;> exfalso
  · cases a <;> first | exact absurd ha Bool.false_ne_true | exact absurd h Bool.false_ne_true
  · cases b <;> first | exact absurd hb Bool.false_ne_true | exact absurd h Bool.false_ne_true
  · cases c <;> first | exact absurd hc Bool.false_ne_true | exact absurd h Bool.false_ne_true
/-- not one plain local among them all -/
def someCell (sc : Scope) (ts : List Expr) : Bool := ts.any fun | .Name x _ => !decide (sc.names.lookup x = some .local) | _ => true
theorem swp0 {ts vs : List Expr} {k k2 : Nat} {tp p2 : Pos} {env : PySem.Env} (h : (someCell env.scope ts || vs.all (foldedForSure 8)) = true) : swappedStores [.Tuple ts k tp] (.Tuple vs k2 p2) env = pure none := by
  unfold swappedStores
  dsimp only
  split
  · rfl
  split
  · rfl
  split
  · rfl
  rename_i h3
  obtain h | h := Bool.or_eq_true_iff.mp h
  · exfalso
    obtain ⟨e, he, q⟩ := List.any_eq_true.mp h
    apply h3
    rw [Bool.or_eq_true]
    left
    have : ∀ (f : Expr → Option Str) (ts : List Expr) (e : Expr), e ∈ ts → f e = none → (ts.filterMap f).length < ts.length := by
      intro f ts
      induction ts with
      | nil => intro e he; cases he
      | cons t ts ih =>
        intro e he hn
        obtain rfl | he := List.mem_cons.mp he
        · rw [List.filterMap_cons_none hn, List.length_cons]
          exact Nat.lt_succ_of_le (List.length_filterMap_le f ts)
        · have := ih e he hn
          rw [List.filterMap_cons, List.length_cons]
          split
          · omega
          · rw [List.length_cons]; omega
    have lt := this (fun | .Name id pos => if env.kindOf id == some .local && pos.line == ((ts.head?.map (·.pos.line)).getD 0) then some id else none | _ => none) ts e he (by
      cases e <;> try rfl
      rename_i id pos
      have q : env.kindOf id ≠ some .local := by
        have q : env.scope.names.lookup id ≠ some .local := by simpa using q
        exact q
      simp [q])
    exact bne_iff_ne.mpr (Nat.ne_of_lt lt)
  · rw [if_pos h]
theorem sw_eq {elt : Expr} {gs : List Comprehension} {scope : Scope} {cp py : Pos} {y : Str} {l : Nat} {env : PySem.Env} (hk : env.scope.kind = .function) (h : swB env.scope y scope py cp = false) : swapsWith (.ListComp elt gs scope cp) (some (.Name y py)) l env = pure false := by
  have hb : env.blockKind = .function := by simp only [Env.blockKind, hk]; rfl
  have e1 : ∀ (o : Option NameKind), (o == some NameKind.local) = decide (o = some .local) := by
    intro o
    cases o with
    | none => rfl
    | some k => cases k <;> rfl
  have h : (env.kindOf y == some .local && py.line == cp.line && !(scope.names.any fun (n, k) => n == y && (k == .local || k == .cell))) = false := by
    rw [e1]; exact h
  unfold swapsWith
  simp only [hb, Expr.pos]
  show pure ((ScopeKind.function == ScopeKind.function) && env.kindOf y == some .local && py.line == cp.line && !(scope.names.any fun (n, k) => n == y && (k == .local || k == .cell))) = _
  rw [show (ScopeKind.function == ScopeKind.function) = true from rfl, Bool.true_and, h]
theorem sw_yes {elt : Expr} {gs : List Comprehension} {scope : Scope} {cp py : Pos} {y : Str} {l : Nat} {env : PySem.Env} (hk : env.scope.kind = .function) (h : swB env.scope y scope py cp = true) : env.scope.names.lookup y = some .local ∧ swapsWith (.ListComp elt gs scope cp) (some (.Name y py)) l env = pure true := by
  obtain ⟨h, h3⟩ := and2 h
  obtain ⟨h1, h2⟩ := and2 h
  exact ⟨of_decide_eq_true h1, sw_true hk (of_decide_eq_true h1) h2 (by simpa using h3)⟩
end RL

namespace RL
open PySem.Spec PySem PyProof.Rows L2
variable [Tabl]
def isLC : Expr → Bool
  | .ListComp .. => true
  | _ => false
def okSwp (sc : Scope) (es : List Expr) : Expr → Bool
  | .Tuple vs _ _ => someCell sc es || vs.all (foldedForSure 8)
  | _ => true
def plB (sc : Scope) (N : List Str) (i : Nat) (x : Str) : Bool := decide (N[i]? = some x) && decide (sc.names.lookup x = some .local)
/-! the kinds of statement -/
def onAssign (x : Stmt) (f : Expr → Expr → Bool) : Bool := match x with
  | .Assign [t] v _ => f t v
  | _ => false
theorem onAssign_ok {x : Stmt} {f : Expr → Expr → Bool} (h : onAssign x f = true) : ∃ t v p, x = .Assign [t] v p ∧ f t v = true := by
  unfold onAssign at h
  split at h
  · exact ⟨_, _, _, rfl, h⟩
  · cases h
def onName (x : Expr) (f : Str → Bool) : Bool := match x with
  | .Name y _ => f y
  | _ => false
theorem onName_ok {x : Expr} {f : Str → Bool} (h : onName x f = true) : ∃ y p, x = .Name y p ∧ f y = true := by
  unfold onName at h
  split at h
  · exact ⟨_, _, rfl, h⟩
  · cases h
def onTup (x : Expr) (f : List Expr → Bool) : Bool := match x with
  | .Tuple y _ _ => f y
  | _ => false
theorem onTup_ok {x : Expr} {f : List Expr → Bool} (h : onTup x f = true) : ∃ y k p, x = .Tuple y k p ∧ f y = true := by
  unfold onTup at h
  split at h
  · exact ⟨_, _, _, rfl, h⟩
  · cases h
def onItem (x : Expr) (f : Expr → Expr → Bool) : Bool := match x with
  | .Subscript y z _ => f y z
  | _ => false
theorem onItem_ok {x : Expr} {f : Expr → Expr → Bool} (h : onItem x f = true) : ∃ y z p, x = .Subscript y z p ∧ f y z = true := by
  unfold onItem at h
  split at h
  · exact ⟨_, _, _, rfl, h⟩
  · cases h
def onAttr (x : Expr) (f : Expr → Str → Bool) : Bool := match x with
  | .Attribute y n _ => f y n
  | _ => false
theorem onAttr_ok {x : Expr} {f : Expr → Str → Bool} (h : onAttr x f = true) : ∃ y n p, x = .Attribute y n p ∧ f y n = true := by
  unfold onAttr at h
  split at h
  · exact ⟨_, _, _, rfl, h⟩
  · cases h
def onTwo (ts : List Expr) (f : Expr → Expr → Expr → Expr → Bool) : Bool := match ts with
  | [.Subscript y z _, .Subscript y2 z2 _] => f y z y2 z2
  | _ => false
theorem onTwo_ok {ts : List Expr} {f : Expr → Expr → Expr → Expr → Bool} (h : onTwo ts f = true) : ∃ y z p y2 z2 p2, ts = [.Subscript y z p, .Subscript y2 z2 p2] ∧ f y z y2 z2 = true := by
  unfold onTwo at h
  split at h
  · exact ⟨_, _, _, _, _, _, rfl, h⟩
  · cases h
def onExpr (x : Stmt) (f : Expr → Bool) : Bool := match x with
  | .Expr v _ => f v
  | _ => false
theorem onExpr_ok {x : Stmt} {f : Expr → Bool} (h : onExpr x f = true) : ∃ v p, x = .Expr v p ∧ f v = true := by
  unfold onExpr at h
  split at h
  · exact ⟨_, _, rfl, h⟩
  · cases h
def isNonE : E → Bool
  | .c .non => true
  | _ => false
def onRet (x : Stmt) (f : Expr → Bool) (n : Bool) : Bool := match x with
  | .Return (some v) _ => f v
  | .Return none _ => n
  | _ => false
theorem onRet_ok {x : Stmt} {f : Expr → Bool} {n : Bool} (h : onRet x f n = true) : (∃ v p, x = .Return (some v) p ∧ f v = true) ∨ ∃ p, x = .Return none p ∧ n = true := by
  unfold onRet at h
  split at h
  · exact .inl ⟨_, _, rfl, h⟩
  · exact .inr ⟨_, rfl, h⟩
  · cases h
def onRaise (x : Stmt) (f : Expr → Bool) : Bool := match x with
  | .Raise (some e) none _ => f e
  | _ => false
theorem onRaise_ok {x : Stmt} {f : Expr → Bool} (h : onRaise x f = true) : ∃ e p, x = .Raise (some e) none p ∧ f e = true := by
  unfold onRaise at h
  split at h
  · exact ⟨_, _, rfl, h⟩
  · cases h
def onCall0 (x : Expr) (f : Expr → Bool) : Bool := match x with
  | .Call y [] [] _ => f y
  | _ => false
theorem onCall0_ok {x : Expr} {f : Expr → Bool} (h : onCall0 x f = true) : ∃ y p, x = .Call y [] [] p ∧ f y = true := by
  unfold onCall0 at h
  split at h
  · exact ⟨_, _, rfl, h⟩
  · cases h
def isPass : Stmt → Bool
  | .Pass _ => true
  | _ => false
def isBreak : Stmt → Bool
  | .Break _ => true
  | _ => false
def isCont : Stmt → Bool
  | .Continue _ => true
  | _ => false
def onIf (x : Stmt) (f : Expr → List Stmt → List Stmt → Bool) : Bool := match x with
  | .If c a b _ => f c a b
  | _ => false
theorem onIf_ok {x : Stmt} {f : Expr → List Stmt → List Stmt → Bool} (h : onIf x f = true) : ∃ c a b p, x = .If c a b p ∧ f c a b = true := by
  unfold onIf at h
  split at h
  · exact ⟨_, _, _, _, rfl, h⟩
  · cases h
def onFor (x : Stmt) (f : Expr → Expr → List Stmt → Bool) : Bool := match x with
  | .For c a b [] _ => f c a b
  | _ => false
theorem onFor_ok {x : Stmt} {f : Expr → Expr → List Stmt → Bool} (h : onFor x f = true) : ∃ c a b p, x = .For c a b [] p ∧ f c a b = true := by
  unfold onFor at h
  split at h
  · exact ⟨_, _, _, _, rfl, h⟩
  · cases h
def onWhile (x : Stmt) (f : Expr → List Stmt → Bool) : Bool := match x with
  | .While c b [] _ => f c b
  | _ => false
theorem onWhile_ok {x : Stmt} {f : Expr → List Stmt → Bool} (h : onWhile x f = true) : ∃ c b p, x = .While c b [] p ∧ f c b = true := by
  unfold onWhile at h
  split at h
  · exact ⟨_, _, _, rfl, h⟩
  · cases h
def onTry (x : Stmt) (f : List Stmt → Bool) : Bool := match x with
  | .Try b (_ :: _) [] [] _ => f b
  | _ => false
theorem onTry_ok {x : Stmt} {f : List Stmt → Bool} (h : onTry x f = true) : ∃ b a r p, x = .Try b (a :: r) [] [] p ∧ f b = true := by
  unfold onTry at h
  split at h
  · exact ⟨_, _, _, _, rfl, h⟩
  · cases h
def onSs (xs : List Stmt) (f : Stmt → List Stmt → Bool) : Bool := match xs with
  | x :: xs => f x xs
  | [] => false
theorem onSs_ok {xs : List Stmt} {f : Stmt → List Stmt → Bool} (h : onSs xs f = true) : ∃ y ys, xs = y :: ys ∧ f y ys = true := by
  cases xs with
  | nil => cases h
  | cons y ys => exact ⟨y, ys, rfl, h⟩
/-- pairs and threes of plain locals, stored one by one -/
def okPar (sc : Scope) (N : List Str) : List Nat → List Expr → List Expr → Bool
  | [i, j], [.Name x px, .Name y py], [a, b] => plB sc N i x && plB sc N j y && decide (i ≠ j) && decide (x ≠ y) && (py.line == px.line) && !(foldedForSure 8 a && foldedForSure 8 b) && !(constantsAlone 8 a && constantsAlone 8 b)
  | [i, j, l], [.Name x px, .Name y py, .Name z pz], [a, b, c] => plB sc N i x && plB sc N j y && plB sc N l z && decide (i ≠ j ∧ i ≠ l ∧ j ≠ l) && decide (x ≠ y ∧ x ≠ z ∧ y ≠ z) && (py.line == px.line) && (pz.line == px.line) &&
      !(foldedForSure 8 a && foldedForSure 8 b && foldedForSure 8 c) && !(constantsAlone 8 a && constantsAlone 8 b && constantsAlone 8 c)
  | _, _, _ => false
theorem okPar_ok {sc : Scope} {N : List Str} {is : List Nat} {ts vs : List Expr} (h : okPar sc N is ts vs = true) :
    (∃ i j x px y py a b, is = [i, j] ∧ ts = [.Name x px, .Name y py] ∧ vs = [a, b] ∧ (plB sc N i x && plB sc N j y && decide (i ≠ j) && decide (x ≠ y) && (py.line == px.line) && !(foldedForSure 8 a && foldedForSure 8 b) && !(constantsAlone 8 a && constantsAlone 8 b)) = true) ∨
    (∃ i j l x px y py z pz a b c, is = [i, j, l] ∧ ts = [.Name x px, .Name y py, .Name z pz] ∧ vs = [a, b, c] ∧ (plB sc N i x && plB sc N j y && plB sc N l z && decide (i ≠ j ∧ i ≠ l ∧ j ≠ l) && decide (x ≠ y ∧ x ≠ z ∧ y ≠ z) && (py.line == px.line) && (pz.line == px.line) &&
      !(foldedForSure 8 a && foldedForSure 8 b && foldedForSure 8 c) && !(constantsAlone 8 a && constantsAlone 8 b && constantsAlone 8 c)) = true) := by
  unfold okPar at h
  split at h
  · exact .inl ⟨_, _, _, _, _, _, _, _, rfl, rfl, rfl, h⟩
  · exact .inr ⟨_, _, _, _, _, _, _, _, _, _, _, _, rfl, rfl, rfl, h⟩
  · cases h
mutual
def okS (T : Tb) (N : List Str) : S → Scope → Stmt → Bool
  | .set i e, sc, x => onAssign x fun t v => onName t fun y => decide (N[i]? = some y) && locB sc y && okE T N e sc false v && (notComp v || isLC v)
  | .sets is e, sc, x => onAssign x fun t v => onTup t fun es => decide (2 ≤ is.length) && okNms (locB sc) N is es && okE T N e sc false v && notComp v && okSwp sc es v
  | .par is es, sc, x => onAssign x fun t v => onTup t fun ts => onTup v fun vs => okEs T N es sc vs && okPar sc N is ts vs
  | .sub o i e, sc, x => onAssign x fun t v => onItem t fun y z => okE T N o sc false y && okE T N i sc false z && okE T N e sc false v && notComp v && notSlice z
  | .sfld c f o e, sc, x => onAssign x fun t v => onAttr t fun y n => okE T N o sc false y && okE T N e sc false v && notComp v && decide (f = n) && T.na.any fun p => decide (p = (c, f))
  | .sub2 o i o2 i2 e, sc, x => onAssign x fun t v => onTup t fun ts => onTwo ts fun y z y2 z2 => okE T N o sc false y && okE T N i sc false z && okE T N o2 sc false y2 && okE T N i2 sc false z2 && okE T N e sc false v && notComp v && notSlice z && notSlice z2
  | .exp e, sc, x => onExpr x fun v => okE T N e sc false v && notComp v
  | .ret e, sc, x => onRet x (fun v => okE T N e sc false v) (isNonE e)
  | .raise c, sc, x => onRaise x fun e => onCall0 e fun n => onName n fun y => decide (c = y) && gloB sc y && T.ex.any fun z => decide (z = y)
  | .pass, _, x => isPass x
  | .brk, _, x => isBreak x
  | .cont, _, x => isCont x
  | .ite c a b, sc, x => onIf x fun c' a' b' => okE T N c sc true c' && okSs T N a sc a' && okSs T N b sc b'
  | .forr tg it b, sc, x => onFor x fun tgx iter body => okIt T N it sc (isTup tgx) iter && notSet iter && okTg (locB sc) N tg tgx && okSs T N b sc body
  | .whil _ c b, sc, x => onWhile x fun c' body => okE T N c sc true c' && okSs T N b sc body
  | .tryy b, sc, x => onTry x fun body => okSs T N b sc body
def okSs (T : Tb) (N : List Str) : Ss → Scope → List Stmt → Bool
  | .nil, _, xs => xs.isEmpty
  | .cons s ss, sc, xs => onSs xs fun x xs => okS T N s sc x && okSs T N ss sc xs
  | .kill _ ss, sc, xs => okSs T N ss sc xs
end
theorem okEs_two {T : Tb} {N : List Str} {es : Es} {sc : Scope} {a b : Expr} (h : okEs T N es sc [a, b] = true) : ∃ ia ib, es = .cons ia (.cons ib .nil) := by
  cases es with
  | nil => exact absurd h Bool.false_ne_true
  | cons e es =>
    obtain ⟨h, _⟩ := and2 h
    obtain ⟨_, h⟩ := and2 h
    cases es with
    | nil => exact absurd h Bool.false_ne_true
    | cons e2 es =>
      obtain ⟨h, _⟩ := and2 h
      obtain ⟨_, h⟩ := and2 h
      cases es with
      | nil => exact ⟨_, _, rfl⟩
      | cons _ _ => exact absurd h Bool.false_ne_true
theorem okEs_three {T : Tb} {N : List Str} {es : Es} {sc : Scope} {a b c : Expr} (h : okEs T N es sc [a, b, c] = true) : ∃ ia ib ic, es = .cons ia (.cons ib (.cons ic .nil)) := by
  cases es with
  | nil => exact absurd h Bool.false_ne_true
  | cons e es =>
    obtain ⟨h, _⟩ := and2 h
    obtain ⟨_, h⟩ := and2 h
    obtain ⟨ia, ib, rfl⟩ := okEs_two h
    exact ⟨_, _, _, rfl⟩
/-- X() -/
theorem pmk_own0 {X : Cx} {C : Addr} {bmB : List Value} {B newId initId : String} {x : Str} {p pos : Pos} (F : ExcBaseFacts B newId initId bmB) (q : PySem.W.excIn X.K C bmB newId = true) (gC : X.mg x = some (.ref C)) (kC : PySem.W.keepIn X.K (.ref C) = true) (r : Raises X (.ref C)) (hg : Gl X x)
    (hd : (x == ("__debug__" : Str)) = false) : PMk X (.Call (.Name x p) [] [] pos) (fun _ H Q => Q (.ref C) none H) := by
  intro pins s σ H Q I h
  refine wpAny_Call_Name_kw (ld_glob I hg gC (PySem.W.callWith_K0 I.kIn kC ?_) hd)
  obtain ⟨bm, N, nm, qn, bs, hdct, sn, sub, ab, col, dd, k0, k1, k2, k3, k5, mN, hC, hN, hni, t⟩ := exc_obj I.kIn q
  exact wpAny_call_exc_subT F t hC hN hni (fun h' e hm => mk_of I hm r h (I.hok.gone hm.new)) (Nat.zero_le _)
structure GoodS (T : Tb) (cv : Cv) (cf : CF) (k : Nat) (X : Cx) (W : WX) : Prop where
  g : Good T cv cf k X W
  kind : Scope.kind X.env.scope = .function
  own : PassesOwn (model X.prog X.w) X.A X.env X.xe
  fn : ∀ x, X.fn x = true
section
variable {X : Cx} {cv : Cv} {W : WX} {cf : CF} {T : Tb} {k : Nat}
theorem loc_b {sc : Scope} {x : Str} (h : locB sc x = true) : Loc sc x := by
  obtain h | h := Bool.or_eq_true_iff.mp h
  · exact .inl (of_decide_eq_true h)
  · exact .inr (of_decide_eq_true h)
/-- .. where no exception goes on -/
theorem GoodS.nox (g : GoodS T cv cf k X W) : GoodS T cv cf k X.nox Wno :=
  ⟨⟨g.g.calm, g.g.nd, g.g.free, takes0, fun p hp => ⟨(g.g.fn p hp).ex⟩, g.g.gl, g.g.fr, fun c hc => ⟨(g.g.ex c hc).ex⟩, fun q hq => ⟨(g.g.kw q hq).ex⟩, fun hl => ⟨(g.g.said hl).ex, (g.g.said hl).rm, (g.g.said hl).bare, ⟨(g.g.said hl).made.isi, (g.g.said hl).made.val, (g.g.said hl).made.ex⟩⟩, g.g.rm, fun p hp => ⟨(g.g.ms p hp).ex⟩, fun p hp => ⟨(g.g.ci p hp).ex⟩, g.g.na, g.g.see, g.g.pyl⟩, g.kind, PassesOwn.never, g.fn⟩
theorem GoodS.to (g : GoodS T cv cf k X W) (x : Str) (h : locB X.env.scope x = true) : Loc X.env.scope x ∧ (X.fn x = true ∨ X.env.scope.names.lookup x = some .local) := ⟨loc_b h, .inl (g.fn x)⟩
/-- what a comprehension's check holds -/
def CParts (cv : Cv) (cf : CF) (X : Cx) (W : WX) (e : E) (elt : Expr) (gs : List Comprehension) (scope : Scope) : Prop :=
    ∃ mt tg it c el tgx iter ifs, gs = [⟨tgx, iter, ifs, 0⟩] ∧ evE cf e = evC cf mt tg it c el ∧ PI X tgx iter (tI cv W (evIt cf it)) ∧ BlkOk X.N X.env.scope scope (ownOf X.N tg) ∧ (ownOf X.N tg).map (·.2) = tg ∧
      (∀ (s : Shared) (H : Hp) (C : Addr) (cl : List (Str × Addr)) (fp : List Addr), PG (X.blk s H scope (compEnvC scope cl C X.env) fp) tgx (tG tg)) ∧
      (∀ (s : Shared) (H : Hp) (C : Addr) (cl : List (Str × Addr)) (fp : List Addr), PTs (X.blk s H scope (compEnvC scope cl C X.env) fp) ifs (tRT cv Wno (evT cf c))) ∧
      (∀ (s : Shared) (H : Hp) (C : Addr) (cl : List (Str × Addr)) (fp : List Addr), PE (X.blk s H scope (compEnvC scope cl C X.env) fp) elt (tR cv Wno (evE cf el))) ∧ ∀ x, foldedSetIterable iter X.env x = pure x
theorem okC_parts (g : Good T cv cf k X W) {e : E} {elt : Expr} {gs : List Comprehension} {scope : Scope} {pos : Pos} (h : okE T X.N e X.env.scope false (.ListComp elt gs scope pos) = true) : CParts cv cf X W e elt gs scope := by
  have main : ∀ (mt : Bool) (tg : List Nat) (it : It) (c : Oe) (el : E), evE cf e = evC cf mt tg it c el →
      (∀ tgx iter ifs az, gs = [⟨tgx, iter, ifs, az⟩] → az = 0 → (okIt T X.N it X.env.scope (isTup tgx) iter && notSet iter && blkB X.N X.env.scope scope tg && okTg (locB scope) X.N tg tgx && okOt T X.N c (relabS X.env.scope scope) ifs && okE T X.N el (relabS X.env.scope scope) false elt) = true →
      CParts cv cf X W e elt gs scope) := by
    intro mt tg it c el he tgx iter ifs az hg ha h
    subst ha
    obtain ⟨h, h7⟩ := and2 h
    obtain ⟨h, h6⟩ := and2 h
    obtain ⟨h, h5⟩ := and2 h
    obtain ⟨h, h4⟩ := and2 h
    obtain ⟨h2, h3⟩ := and2 h
    obtain ⟨b1, b2⟩ := blk_ok h4
    exact ⟨mt, tg, it, c, el, tgx, iter, ifs, hg, he, okIt_ok it g tgx iter h2, b1, b2, fun s H C cl fp => tg_ok (fun x hx => blk_store x hx) g.calm g.nd h5, fun s H C cl fp => okOt_ok c g.blk _ h6, fun s H C cl fp => okE_ok el g.blk false _ h7, set_ok h3⟩
  have one : ∀ (mt : Bool) (tg : List Nat) (it : It) (c : Oe) (el : E), evE cf e = evC cf mt tg it c el → (∀ gs, okE T X.N e X.env.scope false (.ListComp elt gs scope pos) = okE T X.N (.comp tg it c el) X.env.scope false (.ListComp elt gs scope pos)) → CParts cv cf X W e elt gs scope := fun mt tg it c el he hk => by
    rw [hk] at h
    obtain ⟨tgx, iter, ifs, eg, h⟩ := onC_ok h
    refine main mt tg it c el he tgx iter ifs 0 eg rfl ?_
    have h : (!false && okIt T X.N it X.env.scope (isTup tgx) iter && notSet iter && blkB X.N X.env.scope scope tg && okTg (locB scope) X.N tg tgx && okOt T X.N c (relabS X.env.scope scope) ifs && okE T X.N el (relabS X.env.scope scope) false elt) = true := h
    simpa only [Bool.not_false, Bool.true_and] using h
  cases e with
  | comp tg it c el => exact one false tg it c el evC_comp fun _ => rfl
  | «mut» e =>
    cases e with
    | comp tg it c el =>
      exact one true tg it c el evC_mut fun gs => rfl
    | bin op a b => cases op <;> exact absurd h Bool.false_ne_true
    | blt q es =>
      cases es with
      | nil => cases q <;> exact absurd h Bool.false_ne_true
      | cons e es => cases es <;> cases q <;> exact absurd h Bool.false_ne_true
    | _ => exact absurd h Bool.false_ne_true
  | lrng a b => cases a <;> exact absurd h Bool.false_ne_true
  | trng a b => cases a <;> exact absurd h Bool.false_ne_true
  | blt q es => cases es <;> exact absurd h Bool.false_ne_true
  | meth m o es =>
    cases es with
    | nil => exact absurd h Bool.false_ne_true
    | cons e es => cases es <;> exact absurd h Bool.false_ne_true
  | dk k e =>
    cases e with
    | tup es => cases es <;> exact absurd h Bool.false_ne_true
    | _ => exact absurd h Bool.false_ne_true
  | _ => exact absurd h Bool.false_ne_true
mutual
theorem okS_ok : ∀ (s : S) {X : Cx} {W : WX} (_ : GoodS T cv cf k X W) (x : Stmt), okS T X.N s X.env.scope x = true → PS X x (tS cv W (evS cf s))
  | .set i e, X, W, g, x, h => by
    obtain ⟨t, v, pos, rfl, h⟩ := onAssign_ok h
    obtain ⟨y, py, rfl, h⟩ := onName_ok h
    obtain ⟨h, h4⟩ := and2 h
    obtain ⟨h, h3⟩ := and2 h
    obtain ⟨h1, h2⟩ := and2 h
    have hi : X.N[i]? = some y := of_decide_eq_true h1
    have pe : PE X v (tR cv W (evE cf e)) := okE_ok e g.g false v h3
    rcases Bool.or_eq_true_iff.mp h4 with h4 | h4
    · exact st_set g.g.nd hi (loc_b h2) pe (swap_ok h4) (.inl (g.fn y))
    · cases v with
      | ListComp elt gs scope cp =>
        cases hs : swB X.env.scope y scope py cp with
        | false => exact st_set g.g.nd hi (loc_b h2) pe (sw_eq g.kind hs) (.inl (g.fn y))
        | true =>
          obtain ⟨z1, z2⟩ := sw_yes (elt := elt) (gs := gs) (l := pos.line) g.kind hs
          obtain ⟨mt, tg, it, c, el, tgx, iter, ifs, rfl, he, q1, q2, q3, q4, q5, q6, q7⟩ := okC_parts g.g h3
          exact st_setC he g.g.calm g.g.nd hi z1 z2 q1 q2 q3 q4 q5 q6 q7
      | _ => exact absurd h4 Bool.false_ne_true
  | .sets is e, X, W, g, x, h => by
    obtain ⟨t, v, pos, rfl, h⟩ := onAssign_ok h
    obtain ⟨es, kk, tp, rfl, h⟩ := onTup_ok h
    obtain ⟨h, h5⟩ := and2 h
    obtain ⟨h, h4⟩ := and2 h
    obtain ⟨h, h3⟩ := and2 h
    obtain ⟨h1, h2⟩ := and2 h
    obtain ⟨p, l, f⟩ := nms_ok g.to g.g.nd _ _ h2
    refine st_sets (okE_ok e g.g false v h3) (gd_tup g.g.calm p (of_decide_eq_true h1) l f) h4 ?_
    cases v <;> first | exact swp0 h5 | exact swapped_none rfl
  | .par is es, X, W, g, x, h => by
    obtain ⟨t, v, pos, rfl, h⟩ := onAssign_ok h
    obtain ⟨ts, kk, tp, rfl, h⟩ := onTup_ok h
    obtain ⟨vs, k2, p2, rfl, h⟩ := onTup_ok h
    obtain ⟨h1, h2⟩ := and2 h
    obtain ⟨pa, st, _⟩ := okEs_ok es g.g vs h1
    have bk : X.env.blockKind = .function := by unfold Env.blockKind; rw [g.kind]; rfl
    rcases okPar_ok h2 with ⟨i, j, x, px, y, py, a, b, rfl, rfl, rfl, h2⟩ | ⟨i, j, l, x, px, y, py, z, pz, a, b, c, rfl, rfl, rfl, h2⟩
    · obtain ⟨ia, ib, rfl⟩ := okEs_two h1
      obtain ⟨h2, k7⟩ := and2 h2
      obtain ⟨h2, k6⟩ := and2 h2
      obtain ⟨h2, k5⟩ := and2 h2
      obtain ⟨h2, k4⟩ := and2 h2
      obtain ⟨h2, k3⟩ := and2 h2
      obtain ⟨k1, k2⟩ := and2 h2
      obtain ⟨i1, i2⟩ := and2 k1
      obtain ⟨j1, j2⟩ := and2 k2
      obtain ⟨s1, s2⟩ := and2 (show (notStar a && ([b].all notStar)) = true from st)
      obtain ⟨s2, _⟩ := and2 (show (notStar b && ([].all notStar)) = true from s2)
      exact st_par2 g.g.calm g.g.nd (of_decide_eq_true i1) (of_decide_eq_true j1) (of_decide_eq_true k3) (of_decide_eq_true i2) (of_decide_eq_true j2) pa
        (swp2 bk (of_decide_eq_true i2) (of_decide_eq_true j2) k5 (of_decide_eq_true k4) s1 s2 (by rwa [Bool.not_eq_true'] at k6) (by rwa [Bool.not_eq_true'] at k7))
    · obtain ⟨ia, ib, ic, rfl⟩ := okEs_three h1
      obtain ⟨h2, k9⟩ := and2 h2
      obtain ⟨h2, k8⟩ := and2 h2
      obtain ⟨h2, k7⟩ := and2 h2
      obtain ⟨h2, k6⟩ := and2 h2
      obtain ⟨h2, k5⟩ := and2 h2
      obtain ⟨h2, k4⟩ := and2 h2
      obtain ⟨h2, k3⟩ := and2 h2
      obtain ⟨k1, k2⟩ := and2 h2
      obtain ⟨i1, i2⟩ := and2 k1
      obtain ⟨j1, j2⟩ := and2 k2
      obtain ⟨l1, l2⟩ := and2 k3
      obtain ⟨s1, s2⟩ := and2 (show (notStar a && ([b, c].all notStar)) = true from st)
      obtain ⟨s2, s3⟩ := and2 (show (notStar b && ([c].all notStar)) = true from s2)
      obtain ⟨s3, _⟩ := and2 (show (notStar c && ([].all notStar)) = true from s3)
      have ij := of_decide_eq_true k4
      have xy := of_decide_eq_true k5
      exact st_par3 g.g.calm g.g.nd (of_decide_eq_true i1) (of_decide_eq_true j1) (of_decide_eq_true l1) ij.1 ij.2.1 ij.2.2 (of_decide_eq_true i2) (of_decide_eq_true j2) (of_decide_eq_true l2) pa
        (swp3 bk (of_decide_eq_true i2) (of_decide_eq_true j2) (of_decide_eq_true l2) k6 k7 xy.1 xy.2.1 xy.2.2 s1 s2 s3 (by rwa [Bool.not_eq_true'] at k8) (by rwa [Bool.not_eq_true'] at k9))
  | .sub o i e, X, W, g, x, h => by
    obtain ⟨t, v, pos, rfl, h⟩ := onAssign_ok h
    obtain ⟨a, b, tp, rfl, h⟩ := onItem_ok h
    obtain ⟨h, h5⟩ := and2 h
    obtain ⟨h, h4⟩ := and2 h
    obtain ⟨h, h3⟩ := and2 h
    obtain ⟨h1, h2⟩ := and2 h
    exact st_sub (okE_ok o g.g false a h1) (okE_ok i g.g false b h2) (okE_ok e g.g false v h3) h4 h5
  | .sfld c f o e, X, W, g, x, h => by
    obtain ⟨t, v, pos, rfl, h⟩ := onAssign_ok h
    obtain ⟨y, n, p, rfl, h⟩ := onAttr_ok h
    obtain ⟨h, h5⟩ := and2 h
    obtain ⟨h, h4⟩ := and2 h
    obtain ⟨h, h3⟩ := and2 h
    obtain ⟨h1, h2⟩ := and2 h
    have e4 := of_decide_eq_true h4
    subst e4
    obtain ⟨q, hq, eq⟩ := List.any_eq_true.mp h5
    have eq := of_decide_eq_true eq
    subst eq
    obtain ⟨a1, a2⟩ := g.g.na _ hq
    exact st_sfld (okE_ok o g.g false y h1) (okE_ok e g.g false v h2) (swap_ok h3) a1 a2
  | .sub2 o i o2 i2 e, X, W, g, x, h => by
    obtain ⟨t, v, pos, rfl, h⟩ := onAssign_ok h
    obtain ⟨ts, kt, pt, rfl, h⟩ := onTup_ok h
    obtain ⟨y, z, tp, y2, z2, tp2, rfl, h⟩ := onTwo_ok h
    obtain ⟨h, h8⟩ := and2 h
    obtain ⟨h, h7⟩ := and2 h
    obtain ⟨h, h6⟩ := and2 h
    obtain ⟨h, h5⟩ := and2 h
    obtain ⟨h, h4⟩ := and2 h
    obtain ⟨h, h3⟩ := and2 h
    obtain ⟨h1, h2⟩ := and2 h
    exact st_sub2 g.g.calm (okE_ok o g.g false y h1) (okE_ok i g.g false z h2) (okE_ok o2 g.g false y2 h3) (okE_ok i2 g.g false z2 h4) (okE_ok e g.g false v h5) h6 h7 h8
  | .exp e, X, W, g, x, h => by
    obtain ⟨v, pos, rfl, h⟩ := onExpr_ok h
    obtain ⟨h1, h2⟩ := and2 h
    exact st_exp (okE_ok e g.g false v h1) (swap_ok h2)
  | .ret e, X, W, g, x, h => by
    rcases onRet_ok h with ⟨v, pos, rfl, hv⟩ | ⟨pos, rfl, hn⟩
    · exact st_ret (okE_ok e g.g false v hv)
    · have : e = .c .non := by
        clear h
        cases e <;> first | exact absurd hn Bool.false_ne_true | skip
        rename_i w
        cases w <;> first | exact absurd hn Bool.false_ne_true | rfl
      subst this
      exact st_retN
  | .raise c, X, W, g, x, h => by
    obtain ⟨e, p2, rfl, h⟩ := onRaise_ok h
    obtain ⟨n, p, rfl, h⟩ := onCall0_ok h
    obtain ⟨y, p3, rfl, h⟩ := onName_ok h
    obtain ⟨h, h3⟩ := and2 h
    obtain ⟨h1, h2⟩ := and2 h
    have e1 := of_decide_eq_true h1
    subst e1
    obtain ⟨z, hz, ez⟩ := List.any_eq_true.mp h3
    have ez := of_decide_eq_true ez
    subst ez
    obtain ⟨C, f1, f2, f3, f4, f5, f6⟩ := (g.g.ex _ hz).ex
    refine PS.weak (ps_raise g.g.calm g.g.tk (pmk_own0 F.excBase_ValueError f2 f1 f3 (raises_own f4 f5) (glo_b h2).1 (ndbg_ok (glo_b h2).2).1)) fun D σ H ⟨G, ρ, h, α, er, sr, p⟩ => ?_
    rw [← f6]
    exact p α H σ (Ext.refl _ _) sr er
  | .pass, X, W, g, x, h => by
    cases x <;> first | exact absurd h Bool.false_ne_true | exact st_pass
  | .brk, X, W, g, x, h => by
    cases x <;> first | exact absurd h Bool.false_ne_true | exact st_brk
  | .cont, X, W, g, x, h => by
    cases x <;> first | exact absurd h Bool.false_ne_true | exact st_cont
  | .ite c a b, X, W, g, x, h => by
    obtain ⟨c', a', b', pos, rfl, h⟩ := onIf_ok h
    obtain ⟨h, h3⟩ := and2 h
    obtain ⟨h1, h2⟩ := and2 h
    exact st_ite (okE_ok c g.g true _ h1).1 (okSs_ok a g _ h2) (okSs_ok b g _ h3)
  | .forr tg it b, X, W, g, x, h => by
    obtain ⟨tgx, iter, body, pos, rfl, h⟩ := onFor_ok h
    obtain ⟨h, h4⟩ := and2 h
    obtain ⟨h, h3⟩ := and2 h
    obtain ⟨h1, h2⟩ := and2 h
    exact st_for g.own g.g.calm (okIt_ok it g.g tgx iter h1) (tg_ok g.to g.g.calm g.g.nd h3) (okSs_ok b g _ h4) (set_ok h2)
  | .tryy b, X, W, g, x, h => by
    obtain ⟨body, a, r, pos, rfl, h⟩ := onTry_ok h
    refine PS.weak (ps_try_thru0 (okSs_ok b g.nox body h)) fun D σ H ⟨G, ρ, h, α, er, sr, p⟩ => ⟨G, ρ, h, α, er, sr, ?_⟩
    simp only [evS] at p
    cases hb : evSs cf b ρ h <;> rw [hb] at p <;> first | exact p | exact p.elim
  | .whil n c b, X, W, g, x, h => by
    obtain ⟨c', body, pos, rfl, h⟩ := onWhile_ok h
    obtain ⟨h1, h2⟩ := and2 h
    exact st_while g.own (okE_ok c g.g true _ h1).1 (okSs_ok b g _ h2)
theorem okSs_ok : ∀ (ss : Ss) {X : Cx} {W : WX} (_ : GoodS T cv cf k X W) (xs : List Stmt), okSs T X.N ss X.env.scope xs = true → PSs X xs (tS cv W (evSs cf ss))
  | .nil, X, W, g, xs, h => by
    have h := List.isEmpty_iff.mp h
    subst h
    exact ss_nil
  | .cons s ss, X, W, g, xs, h => by
    obtain ⟨x, xs', rfl, h⟩ := onSs_ok h
    obtain ⟨h1, h2⟩ := and2 h
    exact ss_cons (okS_ok s g x h1) (okSs_ok ss g xs' h2)
  | .kill is ss, X, W, g, xs, h => ss_kill (okSs_ok ss g xs h)
end
end
end RL

/-! From the check of each def to the law's promise. -/
namespace RL
open PySem.Spec PySem PyProof.Rows L2
variable [Tabl]
def scopeB (N ps : List Str) (sc : Scope) : Bool :=
  decide (sc.kind = .function) && !sc.isCoroutine && !sc.isGenerator && decide N.Nodup && decide (N.take ps.length = ps) &&
  ps.all (fun x => locB sc x) && sc.names.all (fun y => decide (y.2 ≠ .free))
def okDf (T : Tb) (fs : Nat → Option Fn) (d : Df) : Bool := match fs d.id with
  | none => false
  | some fn => scopeB d.N d.ps (defScope d.st) && decide (fn.ar = d.ps.length) && decide (fn.nl = d.N.length) && okSs (T.lamb d.lm) d.N fn.body (defScope d.st) (defBody d.st)
theorem scope_b {N ps : List Str} {sc : Scope} (h : scopeB N ps sc = true) : FnScope N ps sc := by
  obtain ⟨h, h7⟩ := and2 h
  obtain ⟨h, h6⟩ := and2 h
  obtain ⟨h, h5⟩ := and2 h
  obtain ⟨h, h4⟩ := and2 h
  obtain ⟨h, h3⟩ := and2 h
  obtain ⟨h1, h2⟩ := and2 h
  exact ⟨of_decide_eq_true h1, by rwa [Bool.not_eq_true'] at h2, by rwa [Bool.not_eq_true'] at h3, of_decide_eq_true h4, of_decide_eq_true h5, fun x hx => loc_b (List.all_eq_true.mp h6 x hx), fun y hy => of_decide_eq_true (List.all_eq_true.mp h7 y hy)⟩
section
variable {P : Program} {w : World} {K : PySem.W.Frag} {mg : Str → Option Value} {base : Heap} {cv : Cv} {T : Tb} {fs : Nat → Option Fn}
/-- what the head tells of a def -/
def DFact (K : PySem.W.Frag) (mg : Str → Option Value) (d : Df) : Prop :=
  ∃ fa fd, FunD K d.x d.q (defArgs d.st) (defBody d.st) (defScope d.st) [] [] fa fd ∧ (d.cl = none → mg d.x = some (.ref fa)) ∧ Binds K fd d.ps [] ∧ fa = He.fAd K d.at_
def sdB (s : Sd) : Bool := scopeB [s.a, s.e] [s.a] (defScope s.stS) && scopeB [s.ek, s.m, s.n] [s.ek] (defScope s.stK) && scopeB [s.ek, s.y] [s.ek] (defScope s.stM) && decide (saidOf (defScope s.stS) s.a s.e (defBody s.stS) = some (s.r, s.xK)) &&
  decide (kindOf (defScope s.stK) s.ek (defBody s.stK) = some (s.xM, s.m, s.n, exLs)) && decide (marksOf exCs (defScope s.stM) s.ek s.y none (defBody s.stM) = some exCs)
structure SdFact (K : PySem.W.Frag) (mg : Str → Option Value) (cv : Cv) (s : Sd) : Prop where
  fS : DFact K mg s.dS
  fK : DFact K mg s.dK
  fM : DFact K mg s.dM
  rp : mg reprN = none
  isi : mg (Str.ofString "isinstance") = none
  val : mg (Str.ofString "ValueError") = none
  ring : mg s.r = some (.ref (He.ga K s.r))
  all : ExcAll K mg (He.ga K) exCs
  up : ∀ c ∈ exCs, PySem.W.exmOne K (.ref (He.ga K c)) (.ref (He.ga K s.r)) = some true
  cvs : ∀ c ∈ exCs, cv c = .ref (He.ga K c)
  ringM : mg ringN = some (.ref (He.ga K ringN))
  ringK : ∀ c ∈ exCs, PySem.W.kitOne K (.ref (He.ga K c)) (.ref (He.ga K ringN)) = some true
def TabFact (K : PySem.W.Frag) (mg : Str → Option Value) (base : Heap) (d : Df) : Prop :=
  ∃ T, LamX.TabB base mg (He.codeOf K (d.x, none)) T ∧ (T, lamQ d) ∈ Tabl.T ∧ ∀ p ∈ Tabl.T, p.1 = T → p.2 = lamQ d
/-- .. of the tables -/
structure TFact (K : PySem.W.Frag) (mg : Str → Option Value) (cv : Cv) (T : Tb) : Prop where
  gl : ∀ p ∈ T.gl, ∃ v u, mg p.1 = some u ∧ RelV v u ∧ ∀ G H α, Rep G H α p.2 v
  fr : ∀ x ∈ T.fr, mg x = none
  ex : ∀ c ∈ T.ex, ∃ C, mg c = some (.ref C) ∧ PySem.W.excIn K C He.veBase "ValueError.__new__" = true ∧ PySem.W.keepIn K (.ref C) = true ∧
    PySem.W.subIn K (.ref C) (.type "BaseException") = some true ∧ PySem.W.typeIn K (.ref C) = some (.type "type") ∧ cv c = .ref C
  ms : ∀ p ∈ T.ms, Cls K (Tabl.C p.2.1) ∧ Meth K (Tabl.C p.2.1) p.2.2 (He.fAd K (p.2.1, some p.2.2))
  ci : ∀ p ∈ T.ci, Mk K (Tabl.C p.2) (He.fAd K (p.2, some (Str.ofString "__init__"))) ∧ mg p.2 = some (.ref (Tabl.C p.2))
  na : ∀ p ∈ T.na, Cls K (Tabl.C p.1) ∧ NoAttr K (Tabl.C p.1) p.2
def CallK (P : Program) (w : World) (K : PySem.W.Frag) (mg : Str → Option Value) (base : Heap) (cv : Cv) (fs : Nat → Option Fn) (k : Nat) (d : Df) : Prop :=
  ∃ fa fd, FunD K d.x d.q (defArgs d.st) (defBody d.st) (defScope d.st) [] [] fa fd ∧ FnG P w K mg base k fa fd d.ps (spF cv (callF fs k d.id)) ∧ (d.cl = none → mg d.x = some (.ref fa)) ∧ Binds K fd d.ps [] ∧ fa = He.fAd K d.at_
theorem env_start {G : Gx} {ws : List RL.W} {vs : List V} {α : List Addr} {H : Hp} {N : List Str} {n : Nat} (r : Reps G H α ws vs) (hn : n = N.length) : EnvR G (ws.map some ++ List.replicate (n - ws.length) none) α (L2.start N vs) H := by
  have hl := r.length
  refine ⟨by simp [L2.start, hn, hl], fun i w q => ?_⟩
  by_cases hi : i < ws.length
  · rw [List.getElem?_append_left (by simpa using hi), List.getElem?_map] at q
    obtain ⟨w', h1, h2⟩ := Option.map_eq_some_iff.mp q
    cases h2
    obtain ⟨v, h3, h4⟩ := r.get h1
    refine ⟨v, ?_, h4⟩
    unfold L2.start
    rw [List.getElem?_append_left (by simp; omega), List.getElem?_map, h3]; rfl
  · rw [List.getElem?_append_right (by simp; omega)] at q
    have := List.mem_of_getElem? q
    simp at this
theorem out_post {G : Gx} {r : RS} {α : List Addr} {H : Hp} {Q : VK} {E : XK} (p : Post G cv (fun c d _ H => E c d H) [] (relW G) r.out α H Q) :
    PostS G cv (fun c d _ H => E c d H) r α H { nx := fun _ H' => Q .non H', rt := Q } := by
  cases r with
  | nx ρ h => exact fun α' H' σ' e s _ => p α' H' .non e s .non
  | rt w h => exact p
  | br ρ h => exact p.elim
  | ct ρ h => exact p.elim
  | ex c ρ h => exact fun α' H' σ' e s _ => p α' H' e s
  | bad => exact p.elim
theorem level_up (see : Sees P base) {D : List Df} (hD : ∀ d ∈ D, DFact K mg d) (t : TFact K mg cv T) (hT : ∀ p ∈ T.fn, ∃ d ∈ D, d.id = p.1 ∧ d.x = p.2 ∧ d.cl = none)
    (hM : ∀ p ∈ T.ms, ∃ d ∈ D, d.id = p.1 ∧ d.cl = some p.2.1 ∧ d.x = p.2.2) (hI : ∀ p ∈ T.ci, ∃ d ∈ D, d.id = p.1 ∧ d.cl = some p.2 ∧ d.x = Str.ofString "__init__")
    (hK : ∀ q ∈ T.kw, ∃ d ∈ D, d.id = q.1 ∧ d.x = q.2.1 ∧ d.cl = none ∧ ∀ fa fd, FunD K d.x d.q (defArgs d.st) (defBody d.st) (defScope d.st) [] [] fa fd → KwF K fd d.ps q.2.2.1 q.2.2.2) (hok : D.all (okDf T fs) = true)
    {sdo : Option Sd} (hsd : ∀ s, sdo = some s → sdB s = true ∧ SdFact K mg cv s) (hlm : D.all (fun d => !d.lm || sdo.isSome) = true) (hlc : D.all (fun d => !d.lm || d.cl.isNone) = true) (htab : ∀ d ∈ D, d.lm = true → TabFact K mg base d) :
    ∀ k, ∀ d ∈ D, CallK P w K mg base cv fs k d
  | 0, d, hd => by
    obtain ⟨fa, fd, F, hm, hb, hfa⟩ := hD d hd
    have no : ∀ vs H Q E, ¬ spF cv (callF fs 0 d.id) vs H Q E := fun vs H Q E ⟨G, ws, h, α, _, _, p⟩ => p.elim
    exact ⟨fa, fd, F, ⟨fun vs H Q E q => (no _ _ _ _ q).elim, fun A outer s H args us vs Q E _ _ _ _ q => (no _ _ _ _ q).elim⟩, hm, hb, hfa⟩
  | k + 1, d, hd => by
    have ih := level_up see hD t hT hM hI hK hok hsd hlm hlc htab k
    obtain ⟨fa, fd, F, hm, hb, hfa⟩ := hD d hd
    have ok := List.all_eq_true.mp hok d hd
    unfold okDf at ok
    cases hf : fs d.id with
    | none => simp only [hf] at ok; exact absurd ok Bool.false_ne_true
    | some fn =>
      simp only [hf] at ok
      obtain ⟨ok, o4⟩ := and2 ok
      obtain ⟨ok, o3⟩ := and2 ok
      obtain ⟨o1, o2⟩ := and2 ok
      have o2 : fn.ar = d.ps.length := of_decide_eq_true o2
      have o3 : fn.nl = d.N.length := of_decide_eq_true o3
      have S := scope_b o1
      have call : ∀ ws h, callF fs (k + 1) d.id ws h = if ws.length = fn.ar then (evSs (callF fs k) fn.body (ws.map some ++ List.replicate (fn.nl - fn.ar) none) h).out else .bad := by
        intro ws h
        simp only [callF, hf]
      refine ⟨fa, fd, F, fn_g see F S (fun vs H Q E q => ?_) (fun cdv A outer s H vs Q E cod fr rm py q => ?_), hm, hb, hfa⟩
      · obtain ⟨G, ws, h, α, r, _, p⟩ := q
        rw [call] at p
        by_cases hl : ws.length = fn.ar
        · rw [← r.length, hl, o2]
        · rw [if_neg hl] at p; exact p.elim
      · refine ⟨tS cv (fun c d _ H => E c d H) (evSs (callF fs k) fn.body), okSs_ok (T := T.lamb d.lm) (k := k) fn.body ⟨⟨rfl, S.nd, fr, takes_of rfl rfl rfl rfl, fun p hp => ?_, fun p hp => t.gl p hp, fun x hx => t.fr x hx, fun c hc => ⟨t.ex c hc⟩, fun q hq => ?_, fun hl => ?_, rm.mono (by omega), fun p hp => ?_, fun p hp => ?_, fun p hp => t.na p hp, see, py⟩, S.kind, passes_of rfl, fun _ => rfl⟩ _ o4, ?_⟩
        · obtain ⟨d', hd', e1, e2, e3⟩ := hT p hp
          obtain ⟨fa', fd', F', G', m', b', _⟩ := ih d' hd'
          rw [← e1, ← e2]
          exact ⟨fa', fd', d'.ps, G', m' e3, F'.kp, b'⟩
        · obtain ⟨d', hd', e1, e2, e3, kf⟩ := hK q hq
          obtain ⟨fa', fd', F', G', m', b', _⟩ := ih d' hd'
          rw [← e1, ← e2]
          exact ⟨fa', fd', d'.ps, G', m' e3, F'.kp, kf fa' fd' F'⟩
        · have hl : d.lm = true := hl
          have := List.all_eq_true.mp hlm d hd
          rw [hl] at this
          obtain ⟨s0, hs0⟩ := Option.isSome_iff_exists.mp (show sdo.isSome = true from this)
          obtain ⟨hsB, sf⟩ := hsd s0 hs0
          unfold sdB at hsB
          simp only [Bool.and_eq_true, decide_eq_true_eq] at hsB
          obtain ⟨⟨⟨⟨⟨b1, b2⟩, b3⟩, b4⟩, b5⟩, b6⟩ := hsB
          obtain ⟨fS, fdS, FS, mS, bS, _⟩ := sf.fS
          obtain ⟨fK, fdK, FK, mK, bK, _⟩ := sf.fK
          obtain ⟨fM, fdM, FM, mM, bM, _⟩ := sf.fM
          obtain ⟨Tt, tb, tm, to⟩ := htab d hd hl
          obtain ⟨c, hc⟩ := He.codeIn_ref cod.ok
          obtain ⟨oc, od, osl, lk⟩ := cod.at_
          have nc : d.cl = none := by
            have := List.all_eq_true.mp hlc d hd
            rw [hl] at this
            exact Option.isNone_iff_eq_none.mp this
          have ec : He.codeOf K (d.x, none) = c := He.codeOf_eq (by rw [show ((d.x, none) : Str × Option Str) = d.at_ from by unfold Df.at_; rw [nc], ← hfa]; exact lk) (cod.code.trans hc)
          rw [ec] at tb
          exact ⟨⟨s0.a, s0.e, s0.r, s0.xK, s0.ek, s0.stS, fS, fK, c, Tt, fdS, fdK, He.ga K, mS rfl, FS, scope_b b1, b4, bS, sf.rp, sf.ring, sf.up, sf.cvs,
            kind_fn FK (scope_b b2) sf.all sf.isi sf.val b5 (marks_fn (k := 0) FM (scope_b b3) sf.all sf.isi b6) (mM rfl) FM.kp bM, mK rfl, FK.kp, bK, tb, hc, tm, to⟩, rm, fr.bare, ⟨sf.isi, sf.val, fun c hc => ⟨_, _, sf.all.at_ c hc, sf.all.exc c hc, sf.ringM, sf.ringK c hc, sf.all.val c hc⟩⟩⟩
        · obtain ⟨d', hd', e1, e2, e3⟩ := hM p hp
          obtain ⟨fa', fd', F', G', m', b', z'⟩ := ih d' hd'
          obtain ⟨a1, a2⟩ := t.ms p hp
          have z2 : fa' = He.fAd K (p.2.1, some p.2.2) := by rw [z']; unfold Df.at_; rw [e2, e3]
          rw [← e3, ← show fa' = He.fAd K (p.2.1, some d'.x) from by rw [e3]; exact z2] at a2
          rw [← e1, ← e3]
          refine ⟨fa', fd', d'.ps, G', a1, ?_, b'⟩
          exact a2
        · obtain ⟨d', hd', e1, e2, e3⟩ := hI p hp
          obtain ⟨fa', fd', F', G', m', b', z'⟩ := ih d' hd'
          obtain ⟨a1, a2⟩ := t.ci p hp
          have z2 : fa' = He.fAd K (p.2, some (Str.ofString "__init__")) := by rw [z']; unfold Df.at_; rw [e2, e3]
          rw [← z2] at a1
          rw [← e1]
          exact ⟨fa', fd', d'.ps, G', a1, a2, b'⟩
        · obtain ⟨G, ws, h, α, r, sr, p⟩ := q
          rw [call] at p
          by_cases hl : ws.length = fn.ar
          · rw [if_pos hl] at p
            exact ⟨G, _, h, α, by rw [← hl]; exact env_start r o3, sr, out_post p⟩
          · rw [if_neg hl] at p; exact p.elim
end
/-! ### the end: a law's def, called with a locked list -/
omit [Tabl] in
theorem noLists_ok {K : PySem.W.Frag} (h : noLists K = true) {a : Addr} {o : Obj} (hl : K.lookup a = some o) : o.cls ≠ .type "list" := by
  have m := He.lookup_mem hl
  have := List.all_eq_true.mp h _ m
  simpa using this
section
variable {P : Program} {w : World} {K : PySem.W.Frag} {mg mb : Str → Option Value} {k : Nat} {fa a : Addr} {fd : FuncData} {x : Str} {sp : Sp} {s : Shared} {vs : List Value} {ns : List Int} {cs : List (Addr × Addr)}
/-- what is tracked at the law's call: the script, and the tables -/
def lawH (a : Addr) (vs : List Value) (ns : List Int) (ts : List Addr) : Hp := fun b => if b = a then some (.frz { cls := .type "list", data := .seq vs.toArray } (.lst (ns.map V.int))) else if b ∈ ts then some (.tbl #[]) else none
omit [Tabl] in
theorem call_locked (KX : K.In s.heap) (noL : noLists K = true) (hns : s.heap.Ns mainGlobals mg) (hb : s.heap.Ns builtinsNs mb) (hbb : ∀ x : Str, x ≠ "__name__" → mb x = bootBuiltins x)
    (hlim : s.heap.NoLimit) (hg : s.gens = #[]) (ha : s.heap.get? a = some { cls := .type "list", data := .seq vs.toArray }) (hi : IntsAre vs ns)
    (t0 : ∀ p ∈ cs, s.heap.get? p.2 = some { cls := .none, data := .fields #[] }) (tK : ∀ p ∈ cs, K.lookup p.2 = none) (tC : ∀ p ∈ cs, PySem.W.CodeHd s.heap p.1 p.2)
    (bm : ∃ (bm : Addr) (ob : Obj), mg "__builtins__" = some (.ref bm) ∧ bm ≠ builtinsNs ∧ s.heap.get? bm = some ob ∧ ob.cls = .type "module" ∧ ob.dict = some builtinsNs ∧ ob.data = .plain)
    (hl : ns.length ≤ sizeLine) (fr : Free k callerA)
    (F : ∀ base : Heap, K.In base → base.Ns mainGlobals mg → (∀ p ∈ cs, LamX.TabB base mg p.1 p.2) → Sees P base → FnG P w K mg base k fa fd [x] sp)
    (seer : s.heap.NoSeer) (tree : P.given.tree = none) (bind : Binds K fd [x] [])
    (hsp : ∀ (H : Hp) (o : Obj), (∀ p ∈ cs, H p.2 = some (.tbl #[])) → H a = some (.frz o (.lst (ns.map V.int))) → sp [.ref a] H (fun v _ => v = .bl true) fun _ _ _ => False) :
    codeAny (model P w) callerA (.call (.ref fa) ⟨[.ref a], []⟩)
      (fun r s' => r = .ok (.ret (.bool true)) ∧ OldK s.heap s'.heap ∧ s'.os = s.os ∧ AllBare s'.gens) s := by
  have rv := vals_ints hi
  have nK : K.lookup a = none := by
    cases q : K.lookup a with
    | none => rfl
    | some o =>
      have e := KX a o q
      rw [ha] at e
      cases e
      exact absurd rfl (noLists_ok noL q)
  obtain ⟨ts, hts⟩ : ∃ ts : List Addr, ts = cs.map (·.2) := ⟨_, rfl⟩
  have inT : ∀ p ∈ cs, p.2 ∈ ts := fun p hp => by rw [hts]; exact List.mem_map_of_mem hp
  have ofT : ∀ b ∈ ts, ∃ p ∈ cs, p.2 = b := fun b hb => by rw [hts] at hb; obtain ⟨p, hp, e⟩ := List.mem_map.mp hb; exact ⟨p, hp, e⟩
  have getT : ∀ b ∈ ts, s.heap.get? b = some { cls := .none, data := .fields #[] } := fun b hb => by obtain ⟨p, hp, e⟩ := ofT b hb; rw [← e]; exact t0 p hp
  have aT : a ∉ ts := fun z => by
    have e := getT a z
    rw [ha] at e
    exact nomatch (show Data.seq vs.toArray _ = Data.fields #[] from congrArg Obj.data (Option.some.inj e))
  obtain ⟨H, hH⟩ : ∃ H : Hp, H = lawH a vs ns ts := ⟨_, rfl⟩
  have Ha : H a = some (.frz { cls := .type "list", data := .seq vs.toArray } (.lst (ns.map V.int))) := by rw [hH]; exact if_pos rfl
  have Ht : ∀ b ∈ ts, H b = some (.tbl #[]) := fun b hb => by rw [hH]; exact (if_neg fun z => aT (by rw [← z]; exact hb)).trans (if_pos hb)
  have Hn : ∀ b, b ≠ a → b ∉ ts → H b = none := fun b n m => by rw [hH]; exact (if_neg n).trans (if_neg m)
  have none_of : ∀ {b : Addr} {o : Obj}, s.heap.get? b = some o → (∀ xs n, o.data ≠ .seq xs n) → o.data ≠ .fields #[] → H b = none := by
    intro b o e d1 d2
    refine Hn b (fun z => ?_) fun z => ?_
    · rw [z, ha] at e
      cases e
      exact d1 _ _ rfl
    · rw [getT b z] at e
      cases e
      exact d2 rfl
  have up : ∀ {b : Addr} {m : Str → Option Value}, s.heap.Ns b m → (hidT s.heap H).Ns b m := by
    rintro b m ⟨o, es, ep, e, d, r⟩
    exact ⟨o, es, ep, hidT_get e (none_of e (fun _ _ z => by rw [d] at z; cases z) fun z => by rw [d] at z; cases z), d, r⟩
  have KB : K.In (hidT s.heap H) := fun b o e => hidT_get (KX b o e) (Hn b (fun n => by rw [n, nK] at e; cases e) fun m => by
    obtain ⟨p, hp, z⟩ := ofT b m
    rw [← z, tK p hp] at e
    cases e)
  have TB : ∀ p ∈ cs, LamX.TabB (hidT s.heap H) mg p.1 p.2 := fun p hp => by
    have nG : mainGlobals ≠ p.2 := fun z => by
      obtain ⟨o, es, ep, e, d, _⟩ := hns
      rw [z, t0 p hp] at e
      cases e
      exact nomatch d
    refine ⟨?_, ?_, nG⟩
    · obtain ⟨o, us, file, tf, flags, tg, inF, text, tt, e1, e2, e3, e4, rest⟩ := tC p hp
      refine ⟨o, us, file, tf, flags, tg, inF, text, tt, hidT_get e1 (none_of e1 (fun _ _ z => ?_) fun z => ?_), e2, e3, e4, rest⟩
      · rw [e3] at z; cases z
      · rw [e3] at z
        cases z
        simp at e4
    · obtain ⟨m, ob, b1, b2, b3, b4, b5, b6⟩ := bm
      refine ⟨m, ob, b1, b2, fun z => ?_, fun z => ?_, hidT_get b3 (none_of b3 (fun _ _ z => ?_) fun z => ?_), b4, b5, b6⟩
      · obtain ⟨o, es, ep, e, d, _⟩ := hns
        rw [z, e] at b3
        cases b3
        rw [d] at b6
        cases b6
      · rw [z, t0 p hp] at b3
        cases b3
        cases b6
      · rw [b6] at z; cases z
      · rw [b6] at z; cases z
  have hok : HOk P w H s.heap := by
    intro b u z
    by_cases n : b = a
    · rw [n, Ha] at z
      cases z
      rw [n]
      exact ⟨ha, Nat.le_trans (Nat.le_of_eq (List.length_map _)) hl, vs, _, rv, ha⟩
    · by_cases m : b ∈ ts
      · rw [Ht b m] at z
        cases z
        exact getT b m
      · rw [Hn b n m] at z; cases z
  have limB : (hidT s.heap H).NoLimit := let ⟨mc, h1, h2⟩ := hlim; ⟨mc, up h1, h2⟩
  have see : Sees P (hidT s.heap H) := by
    refine ⟨⟨let ⟨mc, h1, h2⟩ := seer.statics; ⟨mc, up h1, h2⟩, let ⟨mc, h1, h2⟩ := seer.mods; ⟨mc, up h1, h2⟩, let ⟨mc, h1, h2⟩ := seer.imp; ⟨mc, up h1, h2⟩, ?_⟩, limB, tree⟩
    obtain ⟨m, ob, b1, b2, b3, b4, b5, b6⟩ := bm
    refine ⟨mg, m, ob, up hns, b1, hidT_get b3 (none_of b3 (fun _ _ z => ?_) fun z => ?_), b4, b5⟩
    · rw [b6] at z; cases z
    · rw [b6] at z; cases z
  have e0 : Env0 P w K mg (hidT s.heap H) callerA [] s H := by
    refine ⟨rfl, ⟨KB, up hns, ⟨mb, up hb, hbb⟩, ?_⟩, fun b o e => of_hidT e, Nat.le_of_eq (hidT_size _ _), trivial, fun b hb => (nomatch (show b ∈ ([] : List Addr) from hb)), hok, .of_eq hg⟩
    obtain ⟨mc, h1, h2⟩ := hlim
    exact ⟨mc, up h1, h2⟩
  refine codeAny_mono ((F _ KB (up hns) TB see).run callerA [] s H ⟨[.ref a], []⟩ [.ref a] [.ref a] _ _ fr e0 (bind s [.ref a] KX rfl) (.cons rfl .nil) (hsp H _ (fun p hp => Ht _ (inT p hp)) Ha)) fun r s' h => ?_
  match r, h with
  | .error e, h =>
    rcases h with ⟨_, _, _, _, _, _, _, _, _, _, _, _, z⟩
    exact z.elim
  | .ok .next, h => exact False.elim h
  | .ok .brk, h => exact False.elim h
  | .ok .cont, h => exact False.elim h
  | .ok (.ret u), h =>
    rcases h with ⟨v, H', os, bare, un, hok', r', q⟩
    cases (q : v = .bl true)
    cases (r' : u = Value.bool true)
    have kept : ∀ (b : Addr) (o : Obj), b ∉ ts → s.heap.get? b = some o → s'.heap.get? b = some o := by
      intro b o m e
      by_cases n : b = a
      · rw [n] at e ⊢
        obtain ⟨e2, _⟩ := hok' a _ (un.frzs a _ _ Ha)
        rw [ha] at e
        cases e
        exact e2
      · exact un.keep b o e (Hn b n m) (fun z => nomatch (show b ∈ ([] : List Addr) from z)) (by simp)
    have more : ∀ b ∈ ts, ∃ ps : Array Value, s'.heap.get? b = some { cls := .none, data := .fields ps } := fun b hb => by
      obtain ⟨ps, z⟩ := un.tbls b #[] (Ht b hb)
      exact ⟨_, hok' b _ z⟩
    refine ⟨rfl, OldK.mk (fun b o e => ?_) (fun b o e => ?_), os, bare⟩
    · by_cases m : b ∈ ts
      · obtain ⟨ps, hps⟩ := more b m
        rw [getT b m] at e
        cases e
        obtain ⟨p, hp, z⟩ := ofT b m
        refine .inr (.inl ⟨?_, rfl, #[], ps, rfl, by rw [Array.empty_append]; exact hps⟩)
        rw [← z]
        exact ((tC p hp).tab (t0 p hp)).isCodeTable
      · exact .inl (kept b o m e)
    · by_cases m : b ∈ ts
      · obtain ⟨ps, hps⟩ := more b m
        exact ⟨_, hps⟩
      · exact ⟨o, kept b o m e⟩
end
omit [Tabl] in
/-- the law's walk -/
theorem walk_g {l : PySem.W.OpenLaw} {n k : Nat} {q : Program} {loose : List Str} {XP : (Str → Option Value) → Heap → Prop} {YP : World → Heap → Prop} {d : DefRec} {x : Str}
    (hn : l.most = some n) (hn2 : n ≤ sizeLine) (hdf : d.params.defaults = []) (fr : Free k callerA) (alone : PyProof.Rows.importsNone q = true) (tree : l.prog.given.tree = none)
    (F : ∀ (w : World) (mg : Str → Option Value) (fa : Addr) (h : Heap), YP w h →
      h.Ns mainGlobals mg → mg d.name = some (.ref fa) → ∃ (K : PySem.W.Frag) (fd : FuncData) (sp : Sp) (cs : List (Addr × Addr)), K.In h ∧ noLists K = true ∧ Binds K fd [x] [] ∧
        ((∀ p ∈ cs, h.get? p.2 = some { cls := .none, data := .fields #[] }) ∧ (∀ p ∈ cs, K.lookup p.2 = none) ∧ ∀ p ∈ cs, PySem.W.CodeHd h p.1 p.2) ∧
        (∀ (H : Hp) (a : Addr) (ns : List Int) (o : Obj), ns.length ≤ n → (∀ p ∈ cs, H p.2 = some (.tbl #[])) → H a = some (.frz o (.lst (ns.map V.int))) → sp [.ref a] H (fun v _ => v = .bl true) fun _ _ _ => False) ∧
        ∀ base : Heap, K.In base → base.Ns mainGlobals mg → (∀ p ∈ cs, LamX.TabB base mg p.1 p.2) → Sees l.prog base → FnG l.prog w K mg base k fa fd [x] sp) :
    PySem.W.WalkO q loose XP YP l.row.toRowW d [] (fun g us => PySem.call g us) := by
  apply Att.attach_call hn hdf
  intro w s₀ s₁ mg mb fa o pm cd doc a vs ns G Y ho hd hcd hmg hobj hints hlen hg
  obtain ⟨K, fd, sp, cs, KX, nl, hb, ⟨t1, t2, t3⟩, hsp, hF⟩ := F w mg fa _ Y G.T.g hmg
  exact call_locked KX nl G.T.g G.T.b G.T.builtins G.T.nolimit hg hobj hints t1 t2 t3 G.T.bmain (Nat.le_trans hlen hn2) fr hF (G.T.seer alone) tree hb fun H o h1 h2 => hsp H a ns o hlen h1 h2
omit [Tabl] in
theorem free_caller {k : Nat} (h : Room (4 * k + 34) callerA) : Free k callerA := ⟨h, rfl⟩
/-- the evaluator's word for the law -/
theorem sp_law {cv : Cv} {r : List RL.W → Hs → R RL.W} (hr : ∀ ns : List Int, ∃ h', r [.fr (ns.map .int)] [] = .ok (.bl true) h') {H : Hp} {a : Addr} {ns : List Int} {o : Obj} (ht : ∀ p ∈ Tabl.T, H p.1 = some (.tbl #[])) (h2 : H a = some (.frz o (.lst (ns.map V.int)))) :
    spF cv r [.ref a] H (fun v _ => v = .bl true) fun _ _ _ => False := by
  have reps : ∀ ns : List Int, Reps ⟨fun _ => False⟩ H [] (ns.map RL.W.int) (ns.map V.int) := by
    intro ns
    induction ns with
    | nil => exact .nil
    | cons n ns ih => exact .cons (.int n) ih
  obtain ⟨h', e⟩ := hr ns
  refine ⟨⟨fun _ => False⟩, [.fr (ns.map .int)], [], [], .cons (.fr h2 ⟨fun z => z, by simp⟩ (reps ns)) .nil, ⟨rfl, List.nodup_nil, fun _ z => z.elim, fun p hp => LamX.TabS.nil (ht p hp), fun _ z => (nomatch z), fun n ob q => by simp at q⟩, ?_⟩
  rw [e]
  exact fun α' H' c _ _ rc => rc.of_bl
end RL

/-! The head's facts, for any table of defs. -/
namespace RL
open PySem.Spec PySem PyProof.Rows L2
def glB : List (Str × RL.W) → Bool
  | [] => true
  | (_, .int _) :: r => glB r
  | (_, .str _) :: r => glB r
  | _ :: _ => false
theorem excB_ok {K : PySem.W.Frag} {C : Addr} (h : excB K C = true) : ExcC K C := by
  unfold excB at h
  simp only [decide_eq_true_eq, Bool.and_eq_true] at h
  obtain ⟨⟨⟨⟨⟨⟨⟨a, b⟩, c⟩, d⟩, e⟩, f⟩, g⟩, i⟩ := h
  exact ⟨He.eqO_ok a, He.eqO_ok b, c, d, He.eqO_ok e, He.eqO_ok f, g, i⟩
/-- the tables, of the defs that make lambdas -/
def tablOf (D : List Df) (K : PySem.W.Frag) : Tabl := ⟨(lams D).map fun d => ((He.cT K (d.x, none)).2, lamQ d), He.ga K⟩
def cvOf (K : PySem.W.Frag) : Cv := fun c => .ref (He.ga K c)
/-- how a def takes its arguments -/
def BindB (d : Df) : Prop := ∀ (kV doc pm : Value) (an : Option Addr) (cdv ct : Value) (us : List Value), us.length = d.ps.length →
  bindArgs (PySem.W.fnOf d.x d.q (defArgs d.st) (defBody d.st) (defScope d.st) .none kV doc pm an cdv ct) ⟨us, []⟩ = pure (d.ps.zip us)
/-- .. by name -/
def KwB (d : Df) (ns : List Str) (pm : List Nat) : Prop := ∀ (kV doc pm' : Value) (an : Option Addr) (cdv ct : Value) (us : List Value), us.length = ns.length →
  bindArgs (PySem.W.fnOf d.x d.q (defArgs d.st) (defBody d.st) (defScope d.st) .none kV doc pm' an cdv ct) ⟨[], ns.zip us⟩ = pure (d.ps.zip (permU pm us))
theorem kwf_of {K : PySem.W.Frag} {d : Df} {ns : List Str} {pm : List Nat} (h : KwB d ns pm) (fa : Addr) (fd : FuncData) (F : FunD K d.x d.q (defArgs d.st) (defBody d.st) (defScope d.st) [] [] fa fd) : KwF K fd d.ps ns pm := by
  intro s us hl
  obtain ⟨oc, od, dV, kV, doc, pm', an, cdv, ct, osl, rfl, lk, hcd, hD, hK⟩ := F.ex
  rcases hD with ⟨_, eD⟩ | ⟨ne, _⟩
  · subst eD; exact .of_eq (h kV doc pm' an cdv ct us hl)
  · exact absurd rfl ne
theorem gl_fact {K : PySem.W.Frag} {h : Heap} {mg : Str → Option Value} (X : K.In h) (G : h.Ns mainGlobals mg) : ∀ {l : List (Str × RL.W)}, glB l = true → (∀ f ∈ faGl l, f.ok K = true) →
    ∀ p ∈ l, ∃ v u, mg p.1 = some u ∧ RelV v u ∧ ∀ G H α, Rep G H α p.2 v
  | [], _, _, p, hp => nomatch hp
  | (x, w) :: r, hb, hf, p, hp => by
    cases w <;> first | exact absurd hb Bool.false_ne_true | skip
    · rename_i i
      obtain rfl | hp := List.mem_cons.mp hp
      · obtain ⟨t, e⟩ := He.int_ok X G (hf (.int x i) List.mem_cons_self)
        exact ⟨.int i, _, e, ⟨t, rfl⟩, fun _ _ _ => .int i⟩
      · exact gl_fact X G (l := r) hb (fun f m => hf f (List.mem_cons_of_mem _ m)) p hp
    · rename_i z
      obtain rfl | hp := List.mem_cons.mp hp
      · obtain ⟨t, e⟩ := He.str_ok X G (hf (.str x z) List.mem_cons_self)
        exact ⟨.str z, _, e, ⟨t, rfl⟩, fun _ _ _ => .str z⟩
      · exact gl_fact X G (l := r) hb (fun f m => hf f (List.mem_cons_of_mem _ m)) p hp
theorem head_facts [Tabl] {D : List Df} {T : Tb} {o : Option Sd} {K : PySem.W.Frag} {h : Heap} {mg : Str → Option Value} (X : K.In h) (G : h.Ns mainGlobals mg) (c : He.SaysD (faOf D T o) (fnOf D o) K) (hb : ∀ d ∈ D ++ sdDs o, BindB d) (hg : glB T.gl = true) (hC : ∀ c, Tabl.C c = He.ga K c) :
    (∀ d ∈ D ++ sdDs o, DFact K mg d) ∧ TFact K mg (cvOf K) T := by
  have f : ∀ f ∈ faOf D T o, f.ok K = true := fun f m => c.facts m
  have cl : ∀ z ∈ faCl T, z.ok K = true := fun z m => f z (List.mem_append_right _ (List.mem_append_right _ (List.mem_append_right _ (List.mem_append_right _ (List.mem_append_right _ (List.mem_append_right _ m))))))
  refine ⟨fun d hd => ?_, ⟨gl_fact X G hg fun y m => f y ?_, fun x hx => ?_, fun x hx => ?_, fun p hp => ?_, fun p hp => ?_, fun p hp => ?_⟩⟩
  · obtain ⟨fd, F⟩ := c.defs (d := dfOf d) (List.mem_map_of_mem hd)
    have g := f (.glo (d.cl.getD d.x)) (List.mem_append_left _ (List.mem_map_of_mem (f := fun d : Df => He.Fa.glo (d.cl.getD d.x)) hd))
    refine ⟨_, fd, F, fun nc => ?_, F.bindsN (hb d hd), rfl⟩
    have g2 := He.glo_ok X G g
    rw [nc] at g2
    show mg d.x = some (.ref (He.fAd K d.at_))
    rw [show d.at_ = (d.x, none) from by unfold Df.at_; rw [nc]]
    exact g2
  · exact List.mem_append_right _ (List.mem_append_right _ (List.mem_append_left _ m))
  · exact He.free_ok X G (f (.free x) (List.mem_append_right _ (List.mem_append_left _ (List.mem_map_of_mem hx))))
  · have e1 := f (.exc x) (List.mem_append_right _ (List.mem_append_right _ (List.mem_append_right _ (List.mem_append_left _ (List.mem_map_of_mem hx)))))
    have e2 := f (.glo x) (List.mem_append_right _ (List.mem_append_right _ (List.mem_append_right _ (List.mem_append_right _ (List.mem_append_left _ (List.mem_map_of_mem hx))))))
    obtain ⟨a1, a2, a3, a4⟩ := He.exc_ok e1
    exact ⟨_, He.glo_ok X G e2, a1, a2, a3, a4, rfl⟩
  · rw [hC]
    exact ⟨He.cls_ok (cl (.cls p.2.1) (List.mem_append_left _ (List.mem_map_of_mem (f := fun p : Nat × Str × Str => He.Fa.cls p.2.1) hp))), He.meth_ok (cl (.meth p.2.1 p.2.2) (List.mem_append_right _ (List.mem_append_left _ (List.mem_map_of_mem (f := fun p : Nat × Str × Str => He.Fa.meth p.2.1 p.2.2) hp))))⟩
  · rw [hC]
    exact ⟨He.mkr_ok (cl (.mkr p.2) (List.mem_append_right _ (List.mem_append_right _ (List.mem_append_left _ (List.mem_map_of_mem (f := fun p : Nat × Str => He.Fa.mkr p.2) hp))))), He.glo_ok X G (cl (.glo p.2) (List.mem_append_right _ (List.mem_append_right _ (List.mem_append_right _ (List.mem_append_left _ (List.mem_map_of_mem (f := fun p : Nat × Str => He.Fa.glo p.2) hp))))))⟩
  · rw [hC]
    exact ⟨He.cls_ok (cl (.cls p.1) (List.mem_append_right _ (List.mem_append_right _ (List.mem_append_right _ (List.mem_append_right _ (List.mem_append_left _ (List.mem_map_of_mem (f := fun p : Str × Str => He.Fa.cls p.1) hp))))))), He.noat_ok (cl (.noat p.1 p.2) (List.mem_append_right _ (List.mem_append_right _ (List.mem_append_right _ (List.mem_append_right _ (List.mem_append_right _ (List.mem_map_of_mem (f := fun p : Str × Str => He.Fa.noat p.1 p.2) hp)))))))⟩
theorem sd_facts [Tabl] {D : List Df} {T : Tb} {s : Sd} {K : PySem.W.Frag} {h : Heap} {mg : Str → Option Value} (X : K.In h) (G : h.Ns mainGlobals mg) (c : He.SaysD (faOf D T (some s)) (fnOf D (some s)) K) (hd : ∀ d ∈ D ++ sdDs (some s), DFact K mg d) (hx : sdX K = true) : SdFact K mg (cvOf K) s := by
  have f : ∀ f ∈ faSd (some s), f.ok K = true := fun f m => c.facts (List.mem_append_right _ (List.mem_append_right _ (List.mem_append_right _ (List.mem_append_right _ (List.mem_append_right _ (List.mem_append_left _ m))))))
  have fx : ∀ d ∈ sdDs (some s), DFact K mg d := fun d m => hd d (List.mem_append_right _ m)
  have x1 := fun e he => List.all_eq_true.mp hx e he
  refine ⟨fx _ List.mem_cons_self, fx _ (List.mem_cons_of_mem _ List.mem_cons_self), fx _ (List.mem_cons_of_mem _ (List.mem_cons_of_mem _ List.mem_cons_self)), He.free_ok X G (f (.free reprN) List.mem_cons_self), He.free_ok X G (f _ (List.mem_cons_of_mem _ List.mem_cons_self)),
    He.free_ok X G (f _ (List.mem_cons_of_mem _ (List.mem_cons_of_mem _ List.mem_cons_self))), He.glo_ok X G (f _ (List.mem_cons_of_mem _ (List.mem_cons_of_mem _ (List.mem_cons_of_mem _ List.mem_cons_self)))), ⟨fun e he => ?_, fun e he => ?_, fun e he d hd => ?_, fun e he => ?_⟩, fun e he => ?_, fun _ _ => rfl, He.glo_ok X G (f (.glo ringN) (List.mem_cons_of_mem _ (List.mem_cons_of_mem _ (List.mem_cons_of_mem _ (List.mem_cons_of_mem _ (List.mem_append_right _ (List.mem_append_right _ List.mem_cons_self))))))), fun e he => ?_⟩
  · exact He.glo_ok X G (f (.glo e) (List.mem_cons_of_mem _ (List.mem_cons_of_mem _ (List.mem_cons_of_mem _ (List.mem_cons_of_mem _ (List.mem_append_left _ (List.mem_map_of_mem he)))))))
  · have := x1 e he
    simp only [Bool.and_eq_true] at this
    exact excB_ok this.1.1.1
  · have := x1 e he
    simp only [Bool.and_eq_true] at this
    exact of_decide_eq_true (List.all_eq_true.mp this.1.1.2 d hd)
  · have := x1 e he
    simp only [Bool.and_eq_true, decide_eq_true_eq] at this
    exact this.1.2
  · exact of_decide_eq_true (f (.exm e s.r true) (List.mem_cons_of_mem _ (List.mem_cons_of_mem _ (List.mem_cons_of_mem _ (List.mem_cons_of_mem _ (List.mem_append_right _ (List.mem_append_left _ (List.mem_map_of_mem he))))))))
  · have := x1 e he
    simp only [Bool.and_eq_true, decide_eq_true_eq] at this
    exact this.2
/-- the law's word, from the head's facts -/
theorem law_word {P : Program} {w : World} {D : List Df} {T : Tb} {o : Option Sd} {fs : Nat → Option Fn} {K : PySem.W.Frag} {h : Heap} {mg : Str → Option Value} {fa : Addr} {k : Nat} {d : Df} {p : Str} (X : K.In h) (G : h.Ns mainGlobals mg) (c : He.SaysX (faOf D T o) (fnOf D o) [] (tfOf D) (exB D o) w h K) (hfa : mg d.x = some (.ref fa))
    (hb : ∀ d ∈ D ++ sdDs o, BindB d) (hg : glB T.gl = true) (hT : ∀ p ∈ T.fn, ∃ d ∈ D, d.id = p.1 ∧ d.x = p.2 ∧ d.cl = none) (hM : ∀ p ∈ T.ms, ∃ d ∈ D, d.id = p.1 ∧ d.cl = some p.2.1 ∧ d.x = p.2.2) (hI : ∀ p ∈ T.ci, ∃ d ∈ D, d.id = p.1 ∧ d.cl = some p.2 ∧ d.x = Str.ofString "__init__") (hlc : D.all (fun d => !d.lm || d.cl.isNone) = true) (hK : ∀ q ∈ T.kw, ∃ d ∈ D, d.id = q.1 ∧ d.x = q.2.1 ∧ d.cl = none ∧ KwB d q.2.2.1 q.2.2.2) (hok : D.all (okDf T fs) = true) (ho : (match o with | some s => sdB s | none => true) = true) (hl : D.all (fun d => !d.lm || o.isSome) = true) (hd : d ∈ D) (hdc : d.cl = none) (hp : d.ps = [p])
    (hr : ∀ ns : List Int, ∃ h', callF fs k d.id [.fr (ns.map .int)] [] = .ok (.bl true) h') (n : Nat) :
    ∃ (K : PySem.W.Frag) (fd : FuncData) (sp : Sp) (cs : List (Addr × Addr)), K.In h ∧ noLists K = true ∧ Binds K fd [p] [] ∧
      ((∀ p ∈ cs, h.get? p.2 = some { cls := .none, data := .fields #[] }) ∧ (∀ p ∈ cs, K.lookup p.2 = none) ∧ ∀ p ∈ cs, PySem.W.CodeHd h p.1 p.2) ∧
      (∀ (H : Hp) (a : Addr) (ns : List Int) (o : Obj), ns.length ≤ n → (∀ p ∈ cs, H p.2 = some (.tbl #[])) → H a = some (.frz o (.lst (ns.map V.int))) → sp [.ref a] H (fun v _ => v = .bl true) fun _ _ _ => False) ∧
      ∀ base : Heap, K.In base → base.Ns mainGlobals mg → (∀ p ∈ cs, LamX.TabB base mg p.1 p.2) → Sees P base → FnG P w K mg base k fa fd [p] sp := by
  letI : Tabl := tablOf D K
  obtain ⟨f1, f2⟩ := head_facts X G c.t.d hb hg (fun _ => rfl)
  have hd' : d ∈ D ++ sdDs o := List.mem_append_left _ hd
  obtain ⟨fd, F⟩ := c.t.d.defs (d := dfOf d) (List.mem_map_of_mem hd')
  have mem : He.Fa.glo (d.cl.getD d.x) ∈ faOf D T o := List.mem_append_left _ (List.mem_map_of_mem (f := fun d : Df => He.Fa.glo (d.cl.getD d.x)) hd')
  rw [hdc] at mem
  have g := He.glo_ok X G (c.t.d.facts (f := .glo d.x) mem)
  have fe : He.fAd K d.at_ = fa := by
    rw [show d.at_ = (d.x, none) from by unfold Df.at_; rw [hdc]]
    have : mg d.x = some (.ref (He.ga K d.x)) := g
    rw [hfa] at this
    cases this
    rfl
  have F : FunD K d.x d.q (defArgs d.st) (defBody d.st) (defScope d.st) [] [] fa fd := by rw [← fe]; exact F
  have bs := F.bindsN (hb d hd')
  rw [hp] at bs
  obtain ⟨m1, m3⟩ := and2 c.more
  obtain ⟨m1, m2⟩ := and2 m1
  have tfm : ∀ e ∈ lams D, (e.x, none) ∈ tfOf D := fun e he => List.mem_map_of_mem (f := fun d : Df => ((d.x, none) : He.Defn)) he
  refine ⟨K, fd, spF (cvOf K) (callF fs k d.id), (lams D).map fun d => He.cT K (d.x, none), X, m1, bs, ⟨fun p hp => ?_, fun p hp => ?_, fun p hp => ?_⟩, fun H a ns o _ ht h2 => sp_law hr (fun p hp => ?_) h2, fun base KB GB tb see => ?_⟩
  · obtain ⟨e, he, rfl⟩ := List.mem_map.mp hp
    exact c.empty _ (tfm e he)
  · obtain ⟨e, he, rfl⟩ := List.mem_map.mp hp
    exact c.out _ (tfm e he)
  · obtain ⟨e, he, rfl⟩ := List.mem_map.mp hp
    exact PySem.W.codeHd_of_K X (c.hd _ (tfm e he))
  · obtain ⟨e, he, rfl⟩ := List.mem_map.mp (show p ∈ (lams D).map fun d => ((He.cT K (d.x, none)).2, lamQ d) from hp)
    exact ht _ (List.mem_map_of_mem (f := fun d : Df => He.cT K (d.x, none)) he)
  have hsd : ∀ s, o = some s → sdB s = true ∧ SdFact K mg (cvOf K) s := fun s e => by
    subst e
    exact ⟨ho, sd_facts X G c.t.d f1 m2⟩
  have htab : ∀ e ∈ D, e.lm = true → TabFact K mg base e := fun e he hlm => by
    have hel : e ∈ lams D := List.mem_filter.mpr ⟨he, hlm⟩
    refine ⟨(He.cT K (e.x, none)).2, tb _ (List.mem_map_of_mem (f := fun d : Df => He.cT K (d.x, none)) hel), List.mem_map_of_mem (f := fun d : Df => ((He.cT K (d.x, none)).2, lamQ d)) hel, fun p hp z => ?_⟩
    obtain ⟨e', he', rfl⟩ := List.mem_map.mp (show p ∈ (lams D).map fun d => ((He.cT K (d.x, none)).2, lamQ d) from hp)
    have := List.all_eq_true.mp (List.all_eq_true.mp m3 e' he') e hel
    obtain q | q := Bool.or_eq_true_iff.mp this
    · rw [decide_eq_true z] at q; cases q
    · exact of_decide_eq_true q
  obtain ⟨fa', fd', F2, F', m', b', _⟩ := level_up (P := P) (w := w) (base := base) see (fun d hd => f1 d (List.mem_append_left _ hd)) f2 hT hM hI (fun q hq => let ⟨d, a, b, c, nc, e⟩ := hK q hq; ⟨d, a, b, c, nc, kwf_of e⟩) hok hsd hl hlc htab k d hd
  have m2 := m' hdc
  have e1 : fa' = fa := by rw [hfa] at m2; cases m2; rfl
  subst e1
  obtain ⟨_, _, _, _, _, _, _, _, _, _, _, l1, _⟩ := F.ex
  obtain ⟨_, _, _, _, _, _, _, _, _, _, _, l2, _⟩ := F2.ex
  rw [l1] at l2
  have e2 : fd = fd' := by injection l2 with z; injection z with _ _ z; injection z
  subst e2
  rw [hp] at F'
  exact F'
end RL

/-! What the laws' own helpers compute: the pen, its draws, a script's cells, sameness. -/
namespace RL
open PySem (Str)
def f_pen : Fn := ⟨1, 1, (.cons (.ret (.mls (.cons (.blt .max (.cons (.c (.int (0))) (.cons (.bin .sub (.v 0) (.bin .pow (.c (.int (10))) (.c (.int (18))))) .nil))) (.cons (.bin .add (.bin .mod (.v 0) (.c (.int (2147483629)))) (.c (.int (1)))) (.cons (.c (.int (0))) .nil))))) .nil)⟩
def f_cell : Fn := ⟨2, 2, (.cons (.ite (.cmp (.v 1) (.one .lt (.blt .len (.cons (.v 0) .nil)))) (.cons (.ret (.idx (.v 0) (.v 1))) .nil) .nil) (.cons (.ret (.c (.int (0)))) .nil))⟩
theorem listAt_set {h : Hs} {n : Nat} {ws us : List W} (q : listAt h n = some us) : listAt (h.set n (.lst ws)) n = some ws := by
  unfold listAt at q ⊢
  cases e : h[n]? with
  | none => rw [e] at q; cases q
  | some o =>
    rw [List.getElem?_set_self (List.getElem?_eq_some_iff.mp e).1]
/-- a pen in the store -/
def Pen (h : Hs) (n : Nat) (a b c : Int) : Prop := listAt h n = some [.int a, .int b, .int c] ∧ 0 ≤ a ∧ 0 ≤ b ∧ b < 2147483648
theorem small_of {a : Int} (h : -18446744073709551616 < a) (h2 : a < 18446744073709551616) : small a = true := by
  unfold small two64
  rw [decide_eq_true h, decide_eq_true h2]; rfl
theorem pen_new {cf : CF} {fs : Nat → Option Fn} {i : Nat} (hf : fs i = some f_pen) (k : Nat) (c : Int) (h : Hs) :
    ∃ a b, callF fs (k + 1) i [.int c] h = .ok (.loc h.length) (h ++ [.lst [.int a, .int b, .int 0]]) ∧ 0 ≤ a ∧ 0 ≤ b ∧ b < 2147483648 := by
  refine ⟨if c - 10 ^ 18 > 0 then c - 10 ^ 18 else 0, c % 2147483629 + 1, ?_, ?_, ?_, ?_⟩
  · simp [callF, hf, f_pen, evSs, evS, evE, evEs, R.bind, R.bindS, RS.bind, RS.out, R.of, bop, blt, small, two64]
  · split <;> omega
  · omega
  · omega
theorem cell_at {fs : Nat → Option Fn} {i : Nat} (hf : fs i = some f_cell) (k : Nat) (ns : List Int) (j : Nat) (h : Hs) :
    ∃ c, callF fs (k + 1) i [.fr (ns.map .int), .int j] h = .ok (.int c) h := by
  by_cases hj : j < ns.length
  · refine ⟨ns[j], ?_⟩
    have e1 : ((j : Int) < (ns.length : Int)) := by omega
    simp [callF, hf, f_cell, evSs, evS, evE, evEs, evCs, R.bind, R.bindS, RS.bind, RS.out, R.of, cop, blt, items, asBl, asInt, ixN, e1, hj]
  · refine ⟨0, ?_⟩
    have e1 : ¬ ((j : Int) < (ns.length : Int)) := by omega
    simp [callF, hf, f_cell, evSs, evS, evE, evEs, evCs, R.bind, R.bindS, RS.bind, RS.out, R.of, cop, blt, items, asBl, asInt, ixN, e1, hj]
end RL

namespace RL
open PySem (Str)
def f_draw : Fn := ⟨2, 4, (.cons (.ite (.cmp (.idx (.v 0) (.c (.int (0)))) (.one .gt (.c (.int (0))))) (.cons (.set 2 (.bin .mod (.idx (.v 0) (.c (.int (0)))) (.v 1))) (.cons (.sub (.v 0) (.c (.int (0))) (.bin .fdiv (.idx (.v 0) (.c (.int (0)))) (.v 1))) (.cons (.ret (.v 2)) .nil))) .nil) (.cons (.sub (.v 0) (.c (.int (2))) (.bin .add (.idx (.v 0) (.c (.int (2)))) (.c (.int (1))))) (.cons (.sub (.v 0) (.c (.int (1))) (.bin .mod (.bin .add (.bin .add (.bin .mul (.idx (.v 0) (.c (.int (1)))) (.c (.int (48271)))) (.bin .mul (.c (.int (1009))) (.idx (.v 0) (.c (.int (2)))))) (.c (.int (7)))) (.c (.int (2147483647))))) (.cons (.set 3 (.bin .mod (.bin .add (.bin .add (.bin .mul (.idx (.v 0) (.c (.int (1)))) (.idx (.v 0) (.c (.int (1))))) (.bin .mul (.c (.int (69621))) (.idx (.v 0) (.c (.int (1)))))) (.c (.int (11)))) (.c (.int (2147483629))))) (.cons (.set 3 (.bin .mod (.bin .add (.bin .mul (.v 3) (.v 3)) (.bin .mul (.c (.int (40014))) (.v 3))) (.c (.int (2147483587))))) (.cons (.ret (.bin .mod (.bin .fdiv (.v 3) (.c (.int (16)))) (.v 1))) .nil))))))⟩
theorem idx_int (a b c : Int) (h : Hs) (n : Nat) (q : listAt h n = some [.int a, .int b, .int c]) : items h (.loc n) = some [.int a, .int b, .int c] := q
theorem ix0 : ixN 3 0 = some 0 := by decide
theorem ix1 : ixN 3 1 = some 1 := by decide
theorem ix2 : ixN 3 2 = some 2 := by decide
theorem set0 {h : Hs} {n : Nat} {ws us : List W} : (h.set n (.lst ws)).set n (.lst us) = h.set n (.lst us) := List.set_set ..
theorem mul_sm {a b : Int} {h : Hs} (hs : small a = true ∨ small b = true) : bop .mul (.int a) (.int b) h = some (.int (a * b)) := by
  have : (small a || small b || (wlog a && wlog b)) = true := by
    rcases hs with h | h <;> simp [h]
  show (if (small a || small b || (wlog a && wlog b)) = true then _ else _) = _
  rw [if_pos this]
theorem mod_ps {a b : Int} {h : Hs} (hb : 0 < b) : bop .mod (.int a) (.int b) h = some (.int (a % b)) := by
  show (if 0 < b then _ else _) = _
  rw [if_pos hb]
theorem fdiv_w {a b : Int} {h : Hs} (hb : 0 < b) (hw : wide b = true) : bop .fdiv (.int a) (.int b) h = some (.int (a / b)) := by
  show (if 0 < b ∧ wide b = true then _ else _) = _
  rw [if_pos ⟨hb, hw⟩]
theorem fdiv_ps {a b : Int} {h : Hs} (hb : 0 < b) (hw : b < 1073741824) : bop .fdiv (.int a) (.int b) h = some (.int (a / b)) := by
  show (if 0 < b ∧ wide b = true then _ else _) = _
  rw [if_pos ⟨hb, rfl⟩]
theorem add_in {a b : Int} {h : Hs} : bop .add (.int a) (.int b) h = some (.int (a + b)) := rfl
theorem pen_drawW {fs : Nat → Option Fn} {i : Nat} (hf : fs i = some f_draw) (k : Nat) {h : Hs} {n : Nat} {a b c m : Int} (p : Pen h n a b c) (hm : 0 < m) (hm2 : wide m = true) :
    ∃ r a' b' c', callF fs (k + 1) i [.loc n, .int m] h = .ok (.int r) (h.set n (.lst [.int a', .int b', .int c'])) ∧ 0 ≤ r ∧ r < m ∧ 0 ≤ a' ∧ 0 ≤ b' ∧ b' < 2147483648 := by
  obtain ⟨q, ha, hb, hb2⟩ := p
  have q1 := idx_int a b c h n q
  by_cases h0 : 0 < a
  · refine ⟨a % m, a / m, b, c, ?_, Int.emod_nonneg _ (by omega), Int.emod_lt_of_pos _ hm, Int.ediv_nonneg ha (by omega), hb, hb2⟩
    simp [callF, hf, f_draw, evSs, evS, evE, evEs, evCs, R.bind, R.bindS, RS.bind, RS.out, R.of, cop, q1, q, asBl, asInt, ix0, h0, mod_ps hm, fdiv_w hm hm2]
  · have q3 : ∀ us, listAt (h.set n (.lst us)) n = some us := fun us => listAt_set q
    have i3 : ∀ us, items (h.set n (.lst us)) (.loc n) = some us := q3
    have sb : small b = true := small_of (by omega) (by omega)
    obtain ⟨b', hb'⟩ : ∃ b', b' = (b * 48271 + 1009 * (c + 1) + 7) % 2147483647 := ⟨_, rfl⟩
    have b1 : 0 ≤ b' := by rw [hb']; exact Int.emod_nonneg _ (by omega)
    have b2 : b' < 2147483647 := by rw [hb']; exact Int.emod_lt_of_pos _ (by omega)
    have sb' : small b' = true := small_of (by omega) (by omega)
    obtain ⟨x, hx⟩ : ∃ x, x = (b' * b' + 69621 * b' + 11) % 2147483629 := ⟨_, rfl⟩
    have x1 : 0 ≤ x := by rw [hx]; exact Int.emod_nonneg _ (by omega)
    have x2 : x < 2147483629 := by rw [hx]; exact Int.emod_lt_of_pos _ (by omega)
    have sx : small x = true := small_of (by omega) (by omega)
    have s1 : small 1009 = true := by decide
    have s2 : small 69621 = true := by decide
    have s3 : small 40014 = true := by decide
    obtain ⟨y, hy⟩ : ∃ y, y = (x * x + 40014 * x) % 2147483587 := ⟨_, rfl⟩
    refine ⟨y / 16 % m, a, b', c + 1, ?_, Int.emod_nonneg _ (by omega), Int.emod_lt_of_pos _ hm, ha, b1, by omega⟩
    simp [callF, hf, f_draw, evSs, evS, evE, evEs, evCs, R.bind, R.bindS, RS.bind, RS.out, R.of, cop, q1, q, asBl, asInt, ix0, ix1, ix2, h0, q3, i3, add_in, mul_sm (.inl sb), mul_sm (.inl sb'), mul_sm (.inl sx), mul_sm (.inl s1), mul_sm (.inl s2), mul_sm (.inl s3), mod_ps, fdiv_w hm hm2, fdiv_ps (show (0 : Int) < 16 by omega) (show (16 : Int) < 1073741824 by omega), mod_ps hm, set0, ← hb', ← hx, ← hy]
theorem pen_draw {fs : Nat → Option Fn} {i : Nat} (hf : fs i = some f_draw) (k : Nat) {h : Hs} {n : Nat} {a b c m : Int} (p : Pen h n a b c) (hm : 0 < m) (hm2 : m < 1073741824) :
    ∃ r a' b' c', callF fs (k + 1) i [.loc n, .int m] h = .ok (.int r) (h.set n (.lst [.int a', .int b', .int c'])) ∧ 0 ≤ r ∧ r < m ∧ 0 ≤ a' ∧ 0 ≤ b' ∧ b' < 2147483648 :=
  pen_drawW hf k p hm rfl
/-- nothing of the store names what is not in it -/
def Clean (h : Hs) : Prop := ∀ ob ∈ h, ∀ n, h.length ≤ n → Ob.lowr n ob = true
theorem clean_set {h : Hs} {n : Nat} {a b c : Int} (q : Clean h) : Clean (h.set n (.lst [.int a, .int b, .int c])) := by
  intro ob m k hk
  rw [List.length_set] at hk
  rcases List.mem_or_eq_of_mem_set m with m | m
  · exact q ob m k hk
  · rw [m]; rfl
theorem clean_app {h : Hs} {a b c : Int} (q : Clean h) : Clean (h ++ [.lst [.int a, .int b, .int c]]) := by
  intro ob m k hk
  rw [List.length_append] at hk
  rcases List.mem_append.mp m with m | m
  · exact q ob m k (by omega)
  · rw [List.mem_singleton.mp m]; rfl
theorem backG_int {r : Int} {h h' : Hs} (c : Clean h') (l : h'.length = h.length) : backG (.int r) h h' = .ok (.int r) h' := by
  unfold backG
  have t : h'.take h.length = h' := by rw [← l, List.take_length]
  rw [t]
  have a : h'.all (Ob.lowr h.length) = true := List.all_eq_true.mpr fun ob m => c ob m _ (Nat.le_of_eq l)
  rw [if_pos]
  rw [a, decide_eq_true (by omega)]
  rfl
theorem draw_g {fs : Nat → Option Fn} {i : Nat} (hf : fs i = some f_draw) (k : Nat) {h : Hs} {n : Nat} {a b c m : Int} (p : Pen h n a b c) (cl : Clean h) (hm : 0 < m) (hm2 : m < 1073741824) :
    ∃ r h' a' b' c', callG (callF fs (k + 1) i [.loc n, .int m] h) h = .ok (.int r) h' ∧ 0 ≤ r ∧ r < m ∧ Pen h' n a' b' c' ∧ Clean h' ∧ h'.length = h.length := by
  obtain ⟨r, a', b', c', e, r1, r2, h1, h2, h3⟩ := pen_draw hf k p hm hm2
  refine ⟨r, _, a', b', c', ?_, r1, r2, ⟨listAt_set p.1, h1, h2, h3⟩, clean_set cl, List.length_set ..⟩
  rw [e]
  exact backG_int (clean_set cl) (List.length_set ..)
theorem lowrs_ints {n : Nat} : ∀ ns : List Int, W.lowrs n (ns.map .int) = true
  | [] => rfl
  | x :: r => by simp only [List.map_cons, W.lowrs, W.lowr, lowrs_ints r, Bool.and_self]
end RL

namespace RL
open PySem (Str)
def f0_pen : Fn := ⟨1, 1, (.cons (.ret (.mls (.cons (.blt .max (.cons (.c (.int (0))) (.cons (.bin .sub (.v 0) (.bin .pow (.c (.int (10))) (.c (.int (18))))) .nil))) (.cons (.bin .add (.bin .mod (.v 0) (.c (.int (2147483629)))) (.c (.int (1)))) (.cons (.c (.int (0))) .nil))))) .nil)⟩
def f1_cell_at : Fn := ⟨2, 2, (.cons (.ite (.cmp (.v 1) (.one .lt (.blt .len (.cons (.v 0) .nil)))) (.cons (.ret (.idx (.v 0) (.v 1))) .nil) .nil) (.cons (.ret (.c (.int (0)))) .nil))⟩
def f2_draw : Fn := ⟨2, 4, (.cons (.ite (.cmp (.idx (.v 0) (.c (.int (0)))) (.one .gt (.c (.int (0))))) (.cons (.set 2 (.bin .mod (.idx (.v 0) (.c (.int (0)))) (.v 1))) (.cons (.sub (.v 0) (.c (.int (0))) (.bin .fdiv (.idx (.v 0) (.c (.int (0)))) (.v 1))) (.cons (.ret (.v 2)) .nil))) .nil) (.cons (.sub (.v 0) (.c (.int (2))) (.bin .add (.idx (.v 0) (.c (.int (2)))) (.c (.int (1))))) (.cons (.sub (.v 0) (.c (.int (1))) (.bin .mod (.bin .add (.bin .add (.bin .mul (.idx (.v 0) (.c (.int (1)))) (.c (.int (48271)))) (.bin .mul (.c (.int (1009))) (.idx (.v 0) (.c (.int (2)))))) (.c (.int (7)))) (.c (.int (2147483647))))) (.cons (.set 3 (.bin .mod (.bin .add (.bin .add (.bin .mul (.idx (.v 0) (.c (.int (1)))) (.idx (.v 0) (.c (.int (1))))) (.bin .mul (.c (.int (69621))) (.idx (.v 0) (.c (.int (1)))))) (.c (.int (11)))) (.c (.int (2147483629))))) (.cons (.set 3 (.bin .mod (.bin .add (.bin .mul (.v 3) (.v 3)) (.bin .mul (.c (.int (40014))) (.v 3))) (.c (.int (2147483587))))) (.cons (.ret (.bin .mod (.bin .fdiv (.v 3) (.c (.int (16)))) (.v 1))) .nil))))))⟩
def f13_is_whole : Fn := ⟨1, 1, (.cons (.ret (.and (.blt .isint (.cons (.v 0) .nil)) (.not (.blt .isbool (.cons (.v 0) .nil))))) .nil)⟩
def f14_is_among : Fn := ⟨3, 3, (.cons (.ret (.and (.call 13 (.cons (.v 0) .nil)) (.cmp (.v 1) (.cons .le (.v 0) (.one .le (.v 2)))))) .nil)⟩
def f15_is_lot : Fn := ⟨1, 2, (.cons (.ite (.or (.not (.blt .istup (.cons (.v 0) .nil))) (.not (.cmp (.c (.int (1))) (.cons .le (.blt .len (.cons (.v 0) .nil)) (.one .le (.g (Str.ofString "MOST_SEATS") (.int (8)))))))) (.cons (.ret (.c (.bl false))) .nil) .nil) (.cons (.ite (.not (.blt .all (.cons (.comp [1] (.seq (.v 0)) .none (.call 14 (.cons (.v 1) (.cons (.c (.int (0))) (.cons (.bin .sub (.g (Str.ofString "MOST_SEATS") (.int (8))) (.c (.int (1)))) .nil))))) .nil))) (.cons (.ret (.c (.bl false))) .nil) .nil) (.cons (.ret (.cmp (.blt .list (.cons (.v 0) .nil)) (.one .eq (.sset (.v 0))))) .nil)))⟩
def f16_is_deal : Fn := ⟨1, 4, (.cons (.ite (.or (.not (.blt .istup (.cons (.v 0) .nil))) (.not (.cmp (.c (.int (1))) (.cons .le (.blt .len (.cons (.v 0) .nil)) (.one .le (.g (Str.ofString "MOST_SEATS") (.int (8)))))))) (.cons (.ret (.c (.bl false))) .nil) .nil) (.cons (.ite (.not (.blt .all (.cons (.comp [1] (.seq (.v 0)) .none (.call 15 (.cons (.v 1) .nil))) .nil))) (.cons (.ret (.c (.bl false))) .nil) .nil) (.cons (.set 3 (.blt .suml (.cons (.comp [2] (.seq (.v 0)) .none (.blt .list (.cons (.v 2) .nil))) (.cons (.lst .nil) .nil)))) (.cons (.ret (.and (.cmp (.blt .sorted (.cons (.v 3) .nil)) (.one .eq (.lrng .none (.blt .len (.cons (.v 3) .nil))))) (.cmp (.blt .list (.cons (.v 0) .nil)) (.one .eq (.blt .sorted (.cons (.v 0) .nil)))))) .nil))))⟩
def f17_do_cross : Fn := ⟨2, 6, (.cons (.set 3 (.comp [2] (.seq (.blt .sorted (.cons (.bin .add (.v 0) (.v 1)) .nil))) .none (.cmp (.v 2) (.one .isin (.v 0))))) (.cons (.ret (.cmp (.blt .len (.cons (.comp [4, 5] (.zip (.v 3) (.sl (.v 3) (.some (.c (.int (1)))) .none)) (.some (.cmp (.v 4) (.one .ne (.v 5)))) (.c (.int (1)))) .nil)) (.one .gt (.c (.int (2)))))) .nil))⟩
def f18_b0 : Ss := (.cons (.ite (.blt .any (.cons (.comp [3] (.seq (.sl (.v 0) (.some (.bin .add (.v 1) (.c (.int (1))))) .none)) .none (.call 17 (.cons (.v 2) (.cons (.v 3) .nil)))) .nil)) (.cons (.ret (.c (.bl false))) .nil) .nil) .nil)
def f18_is_clear : Fn := ⟨1, 4, (.cons (.forr [1, 2] (.enum (.v 0)) f18_b0) (.cons (.ret (.c (.bl true))) .nil))⟩
def f19_is_parting : Fn := ⟨1, 1, (.cons (.ret (.and (.call 16 (.cons (.v 0) .nil)) (.call 18 (.cons (.v 0) .nil)))) .nil)⟩
def f101_b0 : Ss := (.cons (.set 1 (.bin .mul (.v 1) (.v 2))) .nil)
def f101_product : Fn := ⟨1, 3, (.cons (.set 1 (.c (.int (1)))) (.cons (.forr [2] (.seq (.v 0)) f101_b0) (.cons (.ret (.v 1)) .nil)))⟩
def f102_orders : Fn := ⟨1, 1, (.cons (.ret (.call 101 (.cons (.lrng (.some (.c (.int (1)))) (.bin .add (.v 0) (.c (.int (1))))) .nil))) .nil)⟩
def f103_halves : Fn := ⟨1, 1, (.cons (.ret (.bin .fdiv (.bin .fdiv (.call 102 (.cons (.bin .mul (.c (.int (2))) (.v 0)) .nil)) (.call 102 (.cons (.v 0) .nil))) (.call 102 (.cons (.bin .add (.v 0) (.c (.int (1)))) .nil)))) .nil)⟩
def f121_need_seats : Fn := ⟨1, 1, (.cons (.ite (.not (.call 14 (.cons (.v 0) (.cons (.c (.int (1))) (.cons (.g (Str.ofString "MOST") (.int (60))) .nil))))) (.cons (.raise (Str.ofString "NoNumber")) .nil) .nil) .nil)⟩
def f122_how_many : Fn := ⟨1, 1, (.cons (.exp (.call 121 (.cons (.v 0) .nil))) (.cons (.ret (.call 103 (.cons (.v 0) .nil))) .nil))⟩
def f123_whole_rows : Fn := ⟨1, 1, (.cons (.exp (.call 121 (.cons (.v 0) .nil))) (.cons (.ret (.call 101 (.cons (.bin .mul (.lst (.cons (.v 0) .nil)) (.bin .sub (.v 0) (.c (.int (2))))) .nil))) .nil))⟩
def f126_chosen : Fn := ⟨2, 2, (.cons (.ite (.not (.cmp (.c (.int (0))) (.cons .le (.v 1) (.one .le (.v 0))))) (.cons (.ret (.c (.int (0)))) .nil) .nil) (.cons (.ret (.bin .fdiv (.bin .fdiv (.call 102 (.cons (.v 0) .nil)) (.call 102 (.cons (.v 1) .nil))) (.call 102 (.cons (.bin .sub (.v 0) (.v 1)) .nil)))) .nil))⟩
def f127_with_lots : Fn := ⟨2, 2, (.cons (.exp (.call 121 (.cons (.v 0) .nil))) (.cons (.ite (.not (.call 14 (.cons (.v 1) (.cons (.c (.int (0))) (.cons (.bin .add (.g (Str.ofString "MOST") (.int (60))) (.c (.int (1)))) .nil))))) (.cons (.raise (Str.ofString "NoNumber")) .nil) .nil) (.cons (.ret (.bin .fdiv (.bin .mul (.call 126 (.cons (.v 0) (.cons (.v 1) .nil))) (.call 126 (.cons (.v 0) (.cons (.bin .sub (.v 1) (.c (.int (1)))) .nil)))) (.v 0))) .nil)))⟩
def f128_are_sizes : Fn := ⟨1, 2, (.cons (.ite (.or (.not (.blt .istup (.cons (.v 0) .nil))) (.not (.cmp (.c (.int (1))) (.cons .le (.blt .len (.cons (.v 0) .nil)) (.one .le (.g (Str.ofString "MOST") (.int (60)))))))) (.cons (.ret (.c (.bl false))) .nil) .nil) (.cons (.ret (.and (.blt .all (.cons (.comp [1] (.seq (.v 0)) .none (.call 14 (.cons (.v 1) (.cons (.c (.int (1))) (.cons (.g (Str.ofString "MOST") (.int (60))) .nil))))) .nil)) (.cmp (.blt .sum (.cons (.v 0) .nil)) (.one .le (.g (Str.ofString "MOST") (.int (60))))))) .nil))⟩
def f133_rising : Fn := ⟨2, 2, (.cons (.exp (.call 121 (.cons (.v 0) .nil))) (.cons (.ite (.not (.call 14 (.cons (.v 1) (.cons (.c (.int (1))) (.cons (.g (Str.ofString "MOST") (.int (60))) .nil))))) (.cons (.raise (Str.ofString "NoNumber")) .nil) .nil) (.cons (.ret (.bin .fdiv (.call 126 (.cons (.bin .mul (.bin .add (.v 1) (.c (.int (1)))) (.v 0)) (.cons (.v 0) .nil))) (.bin .add (.bin .mul (.v 1) (.v 0)) (.c (.int (1)))))) .nil)))⟩
def f137_b0 : Ss := (.cons (.par [0, 1] (.cons (.v 1) (.cons (.bin .mod (.v 0) (.v 1)) .nil))) .nil)
def f137_shared : Fn := ⟨2, 2, (.cons (.whil 100000 (.cmp (.v 1) (.one .ne (.c (.int (0))))) f137_b0) (.cons (.ret (.v 0)) .nil))⟩
def f138_stay : Fn := ⟨2, 3, (.cons (.exp (.call 121 (.cons (.v 0) .nil))) (.cons (.ite (.not (.call 14 (.cons (.v 1) (.cons (.c (.int (0))) (.cons (.bin .sub (.v 0) (.c (.int (1)))) .nil))))) (.cons (.raise (Str.ofString "NoNumber")) .nil) .nil) (.cons (.set 2 (.call 137 (.cons (.v 0) (.cons (.v 1) .nil)))) (.cons (.ret (.ite (.cmp (.v 1) (.one .eq (.c (.int (0))))) (.call 103 (.cons (.v 0) .nil)) (.call 126 (.cons (.bin .mul (.c (.int (2))) (.v 2)) (.cons (.v 2) .nil))))) .nil))))⟩
def f351_b0 : Ss := (.cons (.set 2 (.bin .fdiv (.v 2) (.call 102 (.cons (.meth .tcount (.v 0) (.cons (.v 3) .nil)) .nil)))) .nil)
def f351_with_sizes : Fn := ⟨1, 4, (.cons (.ite (.not (.call 128 (.cons (.v 0) .nil))) (.cons (.raise (Str.ofString "NoSizes")) .nil) .nil) (.cons (.set 1 (.blt .sum (.cons (.v 0) .nil))) (.cons (.set 2 (.bin .fdiv (.call 102 (.cons (.v 1) .nil)) (.call 102 (.cons (.bin .sub (.bin .add (.v 1) (.c (.int (1)))) (.blt .len (.cons (.v 0) .nil))) .nil)))) (.cons (.forr [3] (.seq (.sset (.v 0))) f351_b0) (.cons (.ret (.v 2)) .nil)))))⟩
def f352_hand_right : Fn := ⟨0, 6, (.cons (.ite (.cmp (.comp [0] (.rng2 (.c (.int (1))) (.c (.int (6)))) .none (.call 122 (.cons (.v 0) .nil))) (.one .ne (.lst (.cons (.c (.int (1))) (.cons (.c (.int (2))) (.cons (.c (.int (5))) (.cons (.c (.int (14))) (.cons (.c (.int (42))) .nil)))))))) (.cons (.ret (.c (.bl false))) .nil) .nil) (.cons (.ite (.cmp (.comp [0] (.rng2 (.c (.int (1))) (.c (.int (6)))) .none (.call 123 (.cons (.v 0) .nil))) (.one .ne (.lst (.cons (.c (.int (1))) (.cons (.c (.int (1))) (.cons (.c (.int (3))) (.cons (.c (.int (16))) (.cons (.c (.int (125))) .nil)))))))) (.cons (.ret (.c (.bl false))) .nil) .nil) (.cons (.ite (.cmp (.comp [1] (.rng (.c (.int (6)))) .none (.call 127 (.cons (.c (.int (4))) (.cons (.v 1) .nil)))) (.one .ne (.lst (.cons (.c (.int (0))) (.cons (.c (.int (1))) (.cons (.c (.int (6))) (.cons (.c (.int (6))) (.cons (.c (.int (1))) (.cons (.c (.int (0))) .nil))))))))) (.cons (.ret (.c (.bl false))) .nil) .nil) (.cons (.ite (.cmp (.comp [1] (.seq (.tup (.cons (.c (.int (0))) (.cons (.c (.int (1))) (.cons (.c (.int (61))) .nil))))) .none (.call 127 (.cons (.c (.int (1))) (.cons (.v 1) .nil)))) (.one .ne (.lst (.cons (.c (.int (0))) (.cons (.c (.int (1))) (.cons (.c (.int (0))) .nil)))))) (.cons (.ret (.c (.bl false))) .nil) .nil) (.cons (.set 2 (.lst (.cons (.tup (.cons (.c (.int (2))) (.cons (.c (.int (2))) .nil))) (.cons (.tup (.cons (.c (.int (1))) (.cons (.c (.int (1))) (.cons (.c (.int (2))) .nil)))) (.cons (.tup (.cons (.c (.int (2))) (.cons (.c (.int (1))) (.cons (.c (.int (1))) .nil)))) (.cons (.tup (.cons (.c (.int (3))) (.cons (.c (.int (1))) .nil))) (.cons (.tup (.cons (.c (.int (4))) .nil)) (.cons (.tup (.cons (.c (.int (1))) (.cons (.c (.int (1))) (.cons (.c (.int (1))) (.cons (.c (.int (1))) .nil))))) (.cons (.tup (.cons (.c (.int (2))) (.cons (.c (.int (2))) (.cons (.c (.int (2))) .nil)))) (.cons (.tup (.cons (.c (.int (1))) .nil)) (.cons (.tup (.cons (.c (.int (60))) .nil)) .nil))))))))))) (.cons (.ite (.cmp (.comp [3] (.seq (.v 2)) .none (.call 351 (.cons (.v 3) .nil))) (.one .ne (.lst (.cons (.c (.int (2))) (.cons (.c (.int (6))) (.cons (.c (.int (6))) (.cons (.c (.int (4))) (.cons (.c (.int (1))) (.cons (.c (.int (1))) (.cons (.c (.int (5))) (.cons (.c (.int (1))) (.cons (.c (.int (1))) .nil)))))))))))) (.cons (.ret (.c (.bl false))) .nil) .nil) (.cons (.ite (.cmp (.comp [4] (.seq (.tup (.cons (.c (.int (1))) (.cons (.c (.int (2))) (.cons (.c (.int (3))) (.cons (.c (.int (60))) .nil)))))) .none (.call 133 (.cons (.c (.int (2))) (.cons (.v 4) .nil)))) (.one .ne (.lst (.cons (.c (.int (2))) (.cons (.c (.int (3))) (.cons (.c (.int (4))) (.cons (.c (.int (61))) .nil))))))) (.cons (.ret (.c (.bl false))) .nil) .nil) (.cons (.ite (.cmp (.lst (.cons (.call 133 (.cons (.c (.int (3))) (.cons (.c (.int (1))) .nil))) (.cons (.call 133 (.cons (.c (.int (3))) (.cons (.c (.int (2))) .nil))) (.cons (.call 133 (.cons (.c (.int (1))) (.cons (.c (.int (60))) .nil))) .nil)))) (.one .ne (.lst (.cons (.c (.int (5))) (.cons (.c (.int (12))) (.cons (.c (.int (1))) .nil)))))) (.cons (.ret (.c (.bl false))) .nil) .nil) (.cons (.ite (.or (.cmp (.comp [5] (.rng (.c (.int (4)))) .none (.call 138 (.cons (.c (.int (4))) (.cons (.v 5) .nil)))) (.one .ne (.lst (.cons (.c (.int (14))) (.cons (.c (.int (2))) (.cons (.c (.int (6))) (.cons (.c (.int (2))) .nil))))))) (.cmp (.comp [5] (.rng (.c (.int (3)))) .none (.call 138 (.cons (.c (.int (3))) (.cons (.v 5) .nil)))) (.one .ne (.lst (.cons (.c (.int (5))) (.cons (.c (.int (2))) (.cons (.c (.int (2))) .nil))))))) (.cons (.ret (.c (.bl false))) .nil) .nil) (.cons (.ret (.cmp (.lst (.cons (.call 138 (.cons (.c (.int (1))) (.cons (.c (.int (0))) .nil))) (.cons (.call 138 (.cons (.c (.int (2))) (.cons (.c (.int (1))) .nil))) (.cons (.call 138 (.cons (.c (.int (6))) (.cons (.c (.int (2))) .nil))) (.cons (.call 138 (.cons (.c (.int (6))) (.cons (.c (.int (3))) .nil))) (.cons (.call 138 (.cons (.c (.int (6))) (.cons (.c (.int (4))) .nil))) .nil)))))) (.one .eq (.lst (.cons (.c (.int (1))) (.cons (.c (.int (2))) (.cons (.c (.int (6))) (.cons (.c (.int (20))) (.cons (.c (.int (6))) .nil))))))))) .nil))))))))))⟩
def f353_b0 : Ss := (.cons (.set 2 (.callh 0 (.cons (.call 1 (.cons (.v 0) (.cons (.v 1) .nil))) .nil))) (.cons (.set 3 (.bin .add (.c (.int (1))) (.callg 2 (.cons (.v 2) (.cons (.c (.int (60))) .nil))))) (.cons (.par [4, 5, 6] (.cons (.callg 2 (.cons (.v 2) (.cons (.c (.int (62))) .nil))) (.cons (.bin .add (.c (.int (1))) (.callg 2 (.cons (.v 2) (.cons (.c (.int (60))) .nil)))) (.cons (.callg 2 (.cons (.v 2) (.cons (.v 3) .nil))) .nil)))) (.cons (.set 8 (.blt .tuple (.cons (.comp [7] (.rng (.bin .add (.c (.int (1))) (.callg 2 (.cons (.v 2) (.cons (.c (.int (10))) .nil))))) .none (.bin .add (.c (.int (1))) (.callg 2 (.cons (.v 2) (.cons (.c (.int (6))) .nil))))) .nil))) (.cons (.ite (.or (.cmp (.kcall 122 [(Str.ofString "seats")] [0] (.cons (.v 3) .nil)) (.one .ne (.call 122 (.cons (.v 3) .nil)))) (.cmp (.kcall 123 [(Str.ofString "seats")] [0] (.cons (.v 3) .nil)) (.one .ne (.call 123 (.cons (.v 3) .nil))))) (.cons (.ret (.c (.bl false))) .nil) .nil) (.cons (.ite (.or (.cmp (.kcall 127 [(Str.ofString "lots"), (Str.ofString "seats")] [1, 0] (.cons (.v 4) (.cons (.v 3) .nil))) (.one .ne (.call 127 (.cons (.v 3) (.cons (.v 4) .nil))))) (.cmp (.kcall 351 [(Str.ofString "sizes")] [0] (.cons (.v 8) .nil)) (.one .ne (.call 351 (.cons (.v 8) .nil))))) (.cons (.ret (.c (.bl false))) .nil) .nil) (.cons (.ite (.or (.cmp (.kcall 133 [(Str.ofString "many"), (Str.ofString "seats")] [1, 0] (.cons (.v 5) (.cons (.v 3) .nil))) (.one .ne (.call 133 (.cons (.v 3) (.cons (.v 5) .nil))))) (.cmp (.kcall 138 [(Str.ofString "by"), (Str.ofString "seats")] [1, 0] (.cons (.v 6) (.cons (.v 3) .nil))) (.one .ne (.call 138 (.cons (.v 3) (.cons (.v 6) .nil)))))) (.cons (.ret (.c (.bl false))) .nil) .nil) .nil)))))))
def f353_law : Fn := ⟨1, 9, (.cons (.ite (.not (.call 352 .nil)) (.cons (.ret (.c (.bl false))) .nil) .nil) (.cons (.forr [1] (.rng (.blt .max (.cons (.c (.int (1))) (.cons (.blt .min (.cons (.blt .len (.cons (.v 0) .nil)) (.cons (.c (.int (3))) .nil))) .nil)))) f353_b0) (.cons (.ret (.c (.bl true))) .nil)))⟩
end RL

/-! Tools for what the evaluator says of a def, from the outside. -/
namespace RL
open PySem (Str)
/-- a call, its frame laid -/
theorem callF_body {fs : Nat → Option Fn} {k f : Nat} {fn : Fn} {ws : List W} {h : Hs} (hf : fs f = some fn) (hl : ws.length = fn.ar) :
    callF fs (k + 1) f ws h = (evSs (callF fs k) fn.body (ws.map some ++ List.replicate (fn.nl - fn.ar) none) h).out := by
  simp only [callF, hf, if_pos hl]
section
variable {α β : Type}
theorem rb_ok (a : α) (h : Hs) (f : α → Hs → R β) : (R.ok a h).bind f = f a h := rfl
theorem rb_ex (c : Str) (h : Hs) (f : α → Hs → R β) : (R.ex c h : R α).bind f = .ex c h := rfl
theorem rs_ok (ρ : Env) (a : α) (h : Hs) (f : α → Hs → RS) : (R.ok a h).bindS ρ f = f a h := rfl
theorem rs_ex (ρ : Env) (c : Str) (h : Hs) (f : α → Hs → RS) : (R.ex c h : R α).bindS ρ f = .ex c ρ h := rfl
theorem ro_some (a : α) (h : Hs) : R.of (some a) h = .ok a h := rfl
theorem ro_h (a : α) (h : Hs) : R.ofH (some (a, h)) = .ok a h := rfl
theorem rn_ok (a : α) (h : Hs) : (R.ok a h).noEx = .ok a h := rfl
end
theorem sb_nx (ρ : Env) (h : Hs) (f : Env → Hs → RS) : (RS.nx ρ h).bind f = f ρ h := rfl
theorem sb_rt (w : W) (h : Hs) (f : Env → Hs → RS) : (RS.rt w h).bind f = .rt w h := rfl
theorem sb_br (ρ : Env) (h : Hs) (f : Env → Hs → RS) : (RS.br ρ h).bind f = .br ρ h := rfl
theorem sb_ct (ρ : Env) (h : Hs) (f : Env → Hs → RS) : (RS.ct ρ h).bind f = .ct ρ h := rfl
theorem sb_ex (c : Str) (ρ : Env) (h : Hs) (f : Env → Hs → RS) : (RS.ex c ρ h).bind f = .ex c ρ h := rfl
theorem st_nx (ρ : Env) (h : Hs) (f : Env → Hs → RS) : (RS.nx ρ h).turn f = f ρ h := rfl
theorem st_ct (ρ : Env) (h : Hs) (f : Env → Hs → RS) : (RS.ct ρ h).turn f = f ρ h := rfl
theorem st_br (ρ : Env) (h : Hs) (f : Env → Hs → RS) : (RS.br ρ h).turn f = .nx ρ h := rfl
theorem st_rt (w : W) (h : Hs) (f : Env → Hs → RS) : (RS.rt w h).turn f = .rt w h := rfl
theorem st_ex (c : Str) (ρ : Env) (h : Hs) (f : Env → Hs → RS) : (RS.ex c ρ h).turn f = .ex c ρ h := rfl
theorem so_nx (ρ : Env) (h : Hs) : (RS.nx ρ h).out = .ok .non h := rfl
theorem so_rt (w : W) (h : Hs) : (RS.rt w h).out = .ok w h := rfl
theorem so_ex (c : Str) (ρ : Env) (h : Hs) : (RS.ex c ρ h).out = .ex c h := rfl
theorem tt (c : Bool) {α : Type} (a b : α) (h : c = true) : (if c = true then a else b) = a := if_pos h
/-! ### values of one kind -/
abbrev wi (n : Nat) : W := .int (n : Int)
def tJ (l : List Nat) : W := .tup (l.map wi)
def lI (l : List Nat) : W := .lst (l.map wi)
def tT (p : List (List Nat)) : W := .tup (p.map tJ)
def lT (p : List (List Nat)) : W := .lst (p.map tJ)
def lB (l : List Bool) : W := .lst (l.map .bl)
theorem lowrs_map {α : Type} {f : α → W} {n : Nat} (hf : ∀ a, W.lowr n (f a) = true) : ∀ l : List α, W.lowrs n (l.map f) = true
  | [] => rfl
  | x :: r => by simp only [List.map_cons, W.lowrs, hf x, lowrs_map hf r, Bool.and_self]
theorem low_tI (n : Nat) (l : List Nat) : W.lowr n (tJ l) = true := by simp only [tJ, W.lowr]; exact lowrs_map (fun _ => rfl) l
theorem low_lI (n : Nat) (l : List Nat) : W.lowr n (lI l) = true := by simp only [lI, W.lowr]; exact lowrs_map (fun _ => rfl) l
theorem low_tT (n : Nat) (p : List (List Nat)) : W.lowr n (tT p) = true := by simp only [tT, W.lowr]; exact lowrs_map (low_tI n) p
theorem goods_map {α : Type} {f : α → W} (hf : ∀ a, W.good (f a) = true) : ∀ l : List α, W.goods (l.map f) = true
  | [] => rfl
  | x :: r => by simp only [List.map_cons, W.goods, hf x, goods_map hf r, Bool.and_self]
theorem dps_map {α : Type} {f : α → W} {d : Nat} (hf : ∀ a, W.dp (f a) ≤ d) : ∀ l : List α, W.dps (l.map f) ≤ d
  | [] => Nat.zero_le _
  | x :: r => by
    have := hf x
    have := dps_map hf r
    simp only [List.map_cons, W.dps]
    omega
theorem datas_of {ws : List W} {d : Nat} (h1 : W.goods ws = true) (h2 : W.dps ws ≤ d) (h3 : d ≤ dep) : W.datas dep ws = true := by
  unfold W.datas
  rw [h1, decide_eq_true (Nat.le_trans h2 h3)]; rfl
theorem dp_wi (n : Nat) : W.dp (wi n) ≤ 0 := Nat.le_refl _
theorem low_lT (n : Nat) (p : List (List Nat)) : W.lowr n (lT p) = true := by simp only [lT, W.lowr]; exact lowrs_map (low_tI n) p
theorem low_lB (n : Nat) (p : List Bool) : W.lowr n (lB p) = true := by simp only [lB, W.lowr]; exact lowrs_map (fun _ => rfl) p
theorem datas_ints (l : List Nat) : W.datas dep (l.map wi) = true := datas_of (goods_map (fun _ => rfl) l) (dps_map dp_wi l) (by decide)
/-! ### primitives, each by its row -/
section
variable (a b : Int) (h : Hs) (x : W) (xs : List W)
theorem bA : bop .add (.int a) (.int b) h = some (.int (a + b)) := rfl
theorem bS : bop .sub (.int a) (.int b) h = some (.int (a - b)) := rfl
theorem bM (hs : small a = true ∨ small b = true) : bop .mul (.int a) (.int b) h = some (.int (a * b)) := by
  have : (small a || small b || (wlog a && wlog b)) = true := by
    rcases hs with h | h <;> simp [h]
  show (if (small a || small b || (wlog a && wlog b)) = true then _ else _) = _
  rw [if_pos this]
theorem cL : cop .lt (.int a) (.int b) h = some (.bl (decide (a < b))) := rfl
theorem cLe : cop .le (.int a) (.int b) h = some (.bl (decide (a ≤ b))) := rfl
theorem cG : cop .gt (.int a) (.int b) h = some (.bl (decide (b < a))) := rfl
theorem cGe : cop .ge (.int a) (.int b) h = some (.bl (decide (b ≤ a))) := rfl
theorem cEi : cop .eq (.int a) (.int b) h = some (.bl (a == b)) := rfl
theorem cNi : cop .ne (.int a) (.int b) h = some (.bl (!(a == b))) := rfl
theorem cEb (c d : Bool) : cop .eq (.bl c) (.bl d) h = some (.bl (c == d)) := rfl
theorem cNb (c d : Bool) : cop .ne (.bl c) (.bl d) h = some (.bl (!(c == d))) := rfl
theorem cEt (y : W) : cop .eq (.tup xs) y h = (eqW h (.tup xs) y).map .bl := rfl
theorem cEl (y : W) : cop .eq (.lst xs) y h = (eqW h (.lst xs) y).map .bl := rfl
theorem cEo (n : Nat) (y : W) : cop .eq (.loc n) y h = (eqW h (.loc n) y).map .bl := rfl
theorem cNt (y : W) : cop .ne (.tup xs) y h = (eqW h (.tup xs) y).map fun b => .bl (!b) := rfl
theorem cNl (y : W) : cop .ne (.lst xs) y h = (eqW h (.lst xs) y).map fun b => .bl (!b) := rfl
theorem cNo (n : Nat) (y : W) : cop .ne (.loc n) y h = (eqW h (.loc n) y).map fun b => .bl (!b) := rfl
theorem cIs (w : W) : cop .is w .non h = some (.bl (isNon w)) := rfl
theorem cIsn (w : W) : cop .isnot w .non h = some (.bl (!isNon w)) := rfl
theorem qLen : blt .len [x] h = (items h x).map fun xs => .int xs.length := rfl
theorem qSum : blt .sum [x] h = ((itemsT h x).bind sumI).map .int := rfl
theorem qSuml : blt .suml [x, .lst []] h = (itemsL h x).bind fun ys => match sumL h ys with
    | some xs => if xs.length ≤ lim then some (.lst xs) else none
    | none => none := rfl
theorem qSort : blt .sorted [x] h = (items h x).bind fun xs => if sortable xs = true then (srt xs).map .lst else none := rfl
theorem qAll : blt .all [x] h = ((itemsL h x).bind allB).map .bl := rfl
theorem qAny : blt .any [x] h = ((itemsL h x).bind anyB).map .bl := rfl
theorem qTup : blt .tuple [x] h = (items h x).map .tup := rfl
theorem qLst : blt .list [x] h = (items h x).map .lst := rfl
theorem qMaxl : blt .max [x] h = (((itemsT h x).bind asInts).bind maxI).map .int := rfl
theorem qMinl : blt .min [x] h = (((itemsT h x).bind asInts).bind minI).map .int := rfl
theorem qMax : blt .max [.int a, .int b] h = some (.int (if b > a then b else a)) := rfl
theorem qMin : blt .min [.int a, .int b] h = some (.int (if b < a then b else a)) := rfl
theorem qItI : blt .isint [.int a] h = some (.bl true) := rfl
theorem qItB : blt .isbool [.int a] h = some (.bl false) := rfl
theorem qItT : blt .istup [.tup xs] h = some (.bl true) := rfl
theorem qInI (i : Int) : blt .int [.int i] h = some (.int i) := rfl
theorem qInB (c : Bool) : blt .int [.bl c] h = some (.int (b2i c)) := rfl
theorem iT : items h (.tup xs) = some xs := rfl
theorem iL : items h (.lst xs) = some xs := rfl
theorem iF : items h (.fr xs) = some xs := rfl
theorem iO (n : Nat) : items h (.loc n) = listAt h n := rfl
theorem jL : itemsL h (.lst xs) = some xs := rfl
theorem jO (n : Nat) : itemsL h (.loc n) = listAt h n := rfl
theorem vT : itemsV h (.tup xs) = some (.ws xs) := rfl
theorem vL : itemsV h (.lst xs) = some (.ws xs) := rfl
theorem vF : itemsV h (.fr xs) = some (.ws xs) := rfl
theorem vO (n : Nat) : itemsV h (.loc n) = (listAt h n).map fun _ => .loc n := rfl
theorem zT : items0 (.tup xs) = some xs := rfl
theorem zL : items0 (.lst xs) = some xs := rfl
theorem aB (c : Bool) : asBl (.bl c) = some c := rfl
theorem aI : asInt (.int a) = some a := rfl
theorem qItTI (l : List Nat) : blt .istup [tJ l] h = some (.bl true) := rfl
theorem qItTT (p : List (List Nat)) : blt .istup [tT p] h = some (.bl true) := rfl
theorem iTI (l : List Nat) : items h (tJ l) = some (l.map wi) := rfl
theorem iTT (p : List (List Nat)) : items h (tT p) = some (p.map tJ) := rfl
theorem iLI (l : List Nat) : items h (lI l) = some (l.map wi) := rfl
theorem jLI (l : List Nat) : itemsL h (lI l) = some (l.map wi) := rfl
theorem vTI (l : List Nat) : itemsV h (tJ l) = some (.ws (l.map wi)) := rfl
theorem vTT (p : List (List Nat)) : itemsV h (tT p) = some (.ws (p.map tJ)) := rfl
theorem vLI (l : List Nat) : itemsV h (lI l) = some (.ws (l.map wi)) := rfl
theorem zTI (l : List Nat) : items0 (tJ l) = some (l.map wi) := rfl
theorem zTT (p : List (List Nat)) : items0 (tT p) = some (p.map tJ) := rfl
theorem fLI (l : List Nat) : W.lst (l.map wi) = lI l := rfl
theorem fTI (l : List Nat) : W.tup (l.map wi) = tJ l := rfl
theorem fTT (p : List (List Nat)) : W.tup (p.map tJ) = tT p := rfl
theorem cElI (l : List Nat) (y : W) : cop .eq (lI l) y h = (eqW h (lI l) y).map .bl := rfl
theorem cEtI (l : List Nat) (y : W) : cop .eq (tJ l) y h = (eqW h (tJ l) y).map .bl := rfl
theorem cEtT (l : List (List Nat)) (y : W) : cop .eq (tT l) y h = (eqW h (tT l) y).map .bl := rfl
theorem cNlI (l : List Nat) (y : W) : cop .ne (lI l) y h = (eqW h (lI l) y).map fun b => .bl (!b) := rfl
theorem cNtI (l : List Nat) (y : W) : cop .ne (tJ l) y h = (eqW h (tJ l) y).map fun b => .bl (!b) := rfl
theorem cNtT (l : List (List Nat)) (y : W) : cop .ne (tT l) y h = (eqW h (tT l) y).map fun b => .bl (!b) := rfl
theorem fLT (p : List (List Nat)) : W.lst (p.map tJ) = lT p := rfl
theorem fLB (l : List Bool) : W.lst (l.map .bl) = lB l := rfl
theorem iLT (p : List (List Nat)) : items h (lT p) = some (p.map tJ) := rfl
theorem jLT (p : List (List Nat)) : itemsL h (lT p) = some (p.map tJ) := rfl
theorem vLT (p : List (List Nat)) : itemsV h (lT p) = some (.ws (p.map tJ)) := rfl
theorem iLB (l : List Bool) : items h (lB l) = some (l.map .bl) := rfl
theorem jLB (l : List Bool) : itemsL h (lB l) = some (l.map .bl) := rfl
theorem ztT : itemsT h (.tup xs) = some xs := rfl
theorem ztL : itemsT h (.lst xs) = some xs := rfl
theorem ztO (n : Nat) : itemsT h (.loc n) = listAt h n := rfl
theorem ztTI (l : List Nat) : itemsT h (tJ l) = some (l.map wi) := rfl
theorem ztLI (l : List Nat) : itemsT h (lI l) = some (l.map wi) := rfl
theorem ztLB (l : List Bool) : itemsT h (lB l) = some (l.map .bl) := rfl
theorem ztLT (p : List (List Nat)) : itemsT h (lT p) = some (p.map tJ) := rfl
theorem vLB (l : List Bool) : itemsV h (lB l) = some (.ws (l.map .bl)) := rfl
theorem cElT (l : List (List Nat)) (y : W) : cop .eq (lT l) y h = (eqW h (lT l) y).map .bl := rfl
theorem cNlT (l : List (List Nat)) (y : W) : cop .ne (lT l) y h = (eqW h (lT l) y).map fun b => .bl (!b) := rfl
theorem fV (f : W → Env → Hs → RS) (ws : List W) (ρ : Env) : forV f (.ws ws) ρ h = forL f ws ρ h := rfl
theorem kV (f : W → Hs → R (Option W)) (ws : List W) : compV f (.ws ws) h = compL f ws h := rfl
end
/-! ### comprehensions, walks -/
theorem compL_map {α β : Type} {F : W → Hs → R (Option W)} (enc : α → W) (dec : β → W) (g : α → Option β) {h : Hs} : ∀ {l : List α}, (∀ a ∈ l, F (enc a) h = .ok ((g a).map dec) h) → compL F (l.map enc) h = .ok ((l.filterMap g).map dec) h
  | [], _ => rfl
  | a :: l, q => by
    have e := q a List.mem_cons_self
    have ih := compL_map enc dec g (l := l) fun b m => q b (List.mem_cons_of_mem _ m)
    simp only [List.map_cons, compL, e, R.bind, ih, List.filterMap_cons]
    cases g a <;> rfl
end RL

/-! Lists by their recursors, so that the kernel reckons fast. -/
namespace RL
open PySem (Str)
noncomputable section
universe u v
variable {α : Type} {β : Type}
def bo {γ : Type} (c : Bool) (t e : γ) : γ := Bool.rec (motive := fun _ => γ) e t c
def anyF (p : α → Bool) (l : List α) : Bool := List.rec (motive := fun _ => Bool) false (fun a _ ih => Bool.rec (motive := fun _ => Bool) ih true (p a)) l
def allF (p : α → Bool) (l : List α) : Bool := List.rec (motive := fun _ => Bool) true (fun a _ ih => Bool.rec (motive := fun _ => Bool) false ih (p a)) l
def filtF (p : α → Bool) (l : List α) : List α := List.rec (motive := fun _ => List α) [] (fun a _ ih => Bool.rec (motive := fun _ => List α) ih (a :: ih) (p a)) l
def mapF (f : α → β) (l : List α) : List β := List.rec (motive := fun _ => List β) [] (fun a _ ih => f a :: ih) l
def lenF (l : List α) : Nat := List.rec (motive := fun _ => Nat) 0 (fun _ _ ih => Nat.succ ih) l
def appF (l m : List α) : List α := List.rec (motive := fun _ => List α) m (fun a _ ih => a :: ih) l
def catsF (l : List (List α)) : List α := List.rec (motive := fun _ => List α) [] (fun a _ ih => appF a ih) l
def sumF (l : List Nat) : Nat := List.rec (motive := fun _ => Nat) 0 (fun a _ ih => Nat.add a ih) l
def rngF (n : Nat) : Nat → List Nat := Nat.rec (motive := fun _ => Nat → List Nat) (fun _ => []) (fun _ ih lo => lo :: ih (Nat.succ lo)) n
def memF (x : Nat) (l : List Nat) : Bool := List.rec (motive := fun _ => Bool) false (fun a _ ih => Bool.rec (motive := fun _ => Bool) ih true (Nat.beq a x)) l
def eq1F (l : List Nat) : List Nat → Bool := List.rec (motive := fun _ => List Nat → Bool) (fun m => List.rec (motive := fun _ => Bool) true (fun _ _ _ => false) m) (fun x _ ih m => List.rec (motive := fun _ => Bool) false (fun y ys _ => Bool.rec (motive := fun _ => Bool) false (ih ys) (Nat.beq x y)) m) l
def eq2F (l : List (List Nat)) : List (List Nat) → Bool := List.rec (motive := fun _ => List (List Nat) → Bool) (fun m => List.rec (motive := fun _ => Bool) true (fun _ _ _ => false) m) (fun x _ ih m => List.rec (motive := fun _ => Bool) false (fun y ys _ => Bool.rec (motive := fun _ => Bool) false (ih ys) (eq1F x y)) m) l
def lt1F (l : List Nat) : List Nat → Bool := List.rec (motive := fun _ => List Nat → Bool) (fun m => List.rec (motive := fun _ => Bool) false (fun _ _ _ => true) m) (fun x _ ih m => List.rec (motive := fun _ => Bool) false (fun y ys _ => Bool.rec (motive := fun _ => Bool) (Nat.blt x y) (ih ys) (Nat.beq x y)) m) l
def insF (lt : α → α → Bool) (x : α) (l : List α) : List α := List.rec (motive := fun _ => List α) [x] (fun y ys ih => Bool.rec (motive := fun _ => List α) (x :: y :: ys) (y :: ih) (lt y x)) l
def srtF (lt : α → α → Bool) (l : List α) : List α := List.rec (motive := fun _ => List α) [] (fun x _ ih => insF lt x ih) l
def hdF (d : α) (l : List α) : α := List.rec (motive := fun _ => α) d (fun x _ _ => x) l
def zipF (l : List α) : List β → List (α × β) := List.rec (motive := fun _ => List β → List (α × β)) (fun _ => []) (fun x _ ih m => List.rec (motive := fun _ => List (α × β)) [] (fun y ys _ => (x, y) :: ih ys) m) l
def dropF (n : Nat) : List α → List α := Nat.rec (motive := fun _ => List α → List α) (fun l => l) (fun _ ih l => List.rec (motive := fun _ => List α) [] (fun _ r _ => ih r) l) n
end
section
variable {α : Type} {β : Type}
theorem rngF_eq : ∀ (n lo : Nat), rngF n lo = List.range' lo n
  | 0, lo => rfl
  | n + 1, lo => by rw [List.range'_succ, ← rngF_eq n (lo + 1)]; rfl
theorem rngL_mapN : ∀ (n lo : Nat), rngL (lo : Int) n = (rngF n lo).map wi
  | 0, lo => rfl
  | n + 1, lo => by
    rw [rngL, show ((lo : Int) + 1) = ((lo + 1 : Nat) : Int) by omega, rngL_mapN n (lo + 1)]
    rfl
theorem rngV_nat {n : Nat} (h : n ≤ lim) : rngV 0 (n : Int) = some ((rngF n 0).map wi) := by
  unfold rngV
  have h1 : ((n : Int) - 0).toNat = n := by omega
  have hl : lim = 100000 := rfl
  have h2 : inRng (n : Int) = true := by
    unfold inRng two62
    rw [decide_eq_true (by omega), decide_eq_true (by omega)]; rfl
  have h3 : inRng 0 = true := by decide
  rw [h1, if_pos ⟨h, h3, h2⟩]
  exact congrArg some (rngL_mapN n 0)
theorem rngV_nat2 {a n : Nat} (h : n ≤ lim) (ha : a ≤ n) : rngV (a : Int) (n : Int) = some ((rngF (n - a) a).map wi) := by
  unfold rngV
  have h1 : ((n : Int) - (a : Int)).toNat = n - a := by omega
  have hl : lim = 100000 := rfl
  have h2 : inRng (n : Int) = true := by
    unfold inRng two62
    rw [decide_eq_true (by omega), decide_eq_true (by omega)]; rfl
  have h3 : inRng (a : Int) = true := by
    unfold inRng two62
    rw [decide_eq_true (by omega), decide_eq_true (by omega)]; rfl
  rw [h1, if_pos ⟨by omega, h3, h2⟩]
  exact congrArg some (rngL_mapN (n - a) a)
noncomputable def sort1 (l : List Nat) : List Nat := srtF Nat.blt l
noncomputable def sort2 (l : List (List Nat)) : List (List Nat) := srtF lt1F l
end
end RL

/-! Deals: what the program's defs compute, over lists of lists of numbers. -/
namespace RL
open PySem (Str)
theorem asInts_map : ∀ ns : List Nat, asInts (ns.map wi) = some (ns.map fun n : Nat => (n : Int))
  | [] => rfl
  | n :: ns => by simp only [List.map_cons, asInts, asInt, asInts_map ns, Option.bind_some, Option.map_some]
theorem filterMap_some {α β : Type} (f : α → β) : ∀ l : List α, l.filterMap (fun a => some (f a)) = l.map f
  | [] => rfl
  | a :: l => by simp only [List.filterMap_cons, List.map_cons, filterMap_some f l]
noncomputable def uinsN (x : Nat) (l : List Nat) : List Nat := List.rec (motive := fun _ => List Nat) [x] (fun y ys ih => Bool.rec (motive := fun _ => List Nat) (Bool.rec (motive := fun _ => List Nat) (y :: ih) (y :: ys) (Nat.beq x y)) (x :: y :: ys) (Nat.blt x y)) l
noncomputable def usortN (l : List Nat) : List Nat := List.rec (motive := fun _ => List Nat) [] (fun x _ ih => uinsN x ih) l
section
variable {fs : Nat → Option Fn}
theorem s_whole (h13 : fs 13 = some f13_is_whole) (k : Nat) (i : Int) (h : Hs) : callF fs (k + 1) 13 [.int i] h = .ok (.bl true) h := by
  rw [callF_body h13 rfl]
  simp [f13_is_whole, evSs, evS, evE, evEs, evCs, evIt, evT, evOe, rb_ok, rb_ex, rs_ok, rs_ex, ro_some, ro_h, rn_ok, sb_nx, sb_rt, sb_br, sb_ct, sb_ex, st_nx, st_ct, st_br, st_rt, st_ex, so_nx, so_rt, so_ex, List.map_cons, List.map_nil, List.replicate, List.cons_append, List.nil_append, List.getElem?_cons_zero, List.getElem?_cons_succ, bA, bS, cL, cLe, cG, cGe, cEi, cNi, cEb, cNb, cEt, cEl, cEo, cNt, cNl, cNo, cIs, cIsn, qLen, qSum, qSuml, qSort, qAll, qAny, qTup, qLst, qMaxl, qMinl, qMax, qMin, qItI, qItB, qItT, qInI, qInB, iT, iL, iF, iO, jL, jO, vT, vL, vF, vO, zT, zL, zTI, ztT, ztL, ztO, ztTI, ztLI, ztLB, ztLT, zTT, aB, aI, qItTI, qItTT, iTI, iTT, iLI, jLI, vTI, vTT, vLI, fLI, fTI, fTT, fLT, fLB, iLT, jLT, vLT, iLB, jLB, vLB, cElT, cNlT, cElI, cEtI, cEtT, cNlI, cNtI, cNtT, fV, kV, metAs, metTp, metAt, bindT, setsE, RL.kill, List.set_cons_zero, List.set_cons_succ, Option.map_some, Option.bind_some, Option.getD_none, Option.getD_some, if_true, if_false, Bool.false_eq_true, Bool.not_true, Bool.not_false]
theorem s_among (h13 : fs 13 = some f13_is_whole) (h14 : fs 14 = some f14_is_among) (k : Nat) (i lo hi : Int) (h : Hs) : callF fs (k + 2) 14 [.int i, .int lo, .int hi] h = .ok (.bl (decide (lo ≤ i) && decide (i ≤ hi))) h := by
  rw [callF_body h14 rfl]
  by_cases h1 : lo ≤ i
  · simp [f14_is_among, evSs, evS, evE, evEs, evCs, evIt, evT, evOe, rb_ok, rb_ex, rs_ok, rs_ex, ro_some, ro_h, rn_ok, sb_nx, sb_rt, sb_br, sb_ct, sb_ex, st_nx, st_ct, st_br, st_rt, st_ex, so_nx, so_rt, so_ex, List.map_cons, List.map_nil, List.replicate, List.cons_append, List.nil_append, List.getElem?_cons_zero, List.getElem?_cons_succ, bA, bS, cL, cLe, cG, cGe, cEi, cNi, cEb, cNb, cEt, cEl, cEo, cNt, cNl, cNo, cIs, cIsn, qLen, qSum, qSuml, qSort, qAll, qAny, qTup, qLst, qMaxl, qMinl, qMax, qMin, qItI, qItB, qItT, qInI, qInB, iT, iL, iF, iO, jL, jO, vT, vL, vF, vO, zT, zL, zTI, ztT, ztL, ztO, ztTI, ztLI, ztLB, ztLT, zTT, aB, aI, qItTI, qItTT, iTI, iTT, iLI, jLI, vTI, vTT, vLI, fLI, fTI, fTT, fLT, fLB, iLT, jLT, vLT, iLB, jLB, vLB, cElT, cNlT, cElI, cEtI, cEtT, cNlI, cNtI, cNtT, fV, kV, metAs, metTp, metAt, bindT, setsE, RL.kill, List.set_cons_zero, List.set_cons_succ, Option.map_some, Option.bind_some, Option.getD_none, Option.getD_some, if_true, if_false, Bool.false_eq_true, Bool.not_true, Bool.not_false, callP, backP, derefN, W.lowrs, W.lowr, low_tI, low_tT, low_lI, low_lT, low_lB, s_whole h13, h1]
  · simp [f14_is_among, evSs, evS, evE, evEs, evCs, evIt, evT, evOe, rb_ok, rb_ex, rs_ok, rs_ex, ro_some, ro_h, rn_ok, sb_nx, sb_rt, sb_br, sb_ct, sb_ex, st_nx, st_ct, st_br, st_rt, st_ex, so_nx, so_rt, so_ex, List.map_cons, List.map_nil, List.replicate, List.cons_append, List.nil_append, List.getElem?_cons_zero, List.getElem?_cons_succ, bA, bS, cL, cLe, cG, cGe, cEi, cNi, cEb, cNb, cEt, cEl, cEo, cNt, cNl, cNo, cIs, cIsn, qLen, qSum, qSuml, qSort, qAll, qAny, qTup, qLst, qMaxl, qMinl, qMax, qMin, qItI, qItB, qItT, qInI, qInB, iT, iL, iF, iO, jL, jO, vT, vL, vF, vO, zT, zL, zTI, ztT, ztL, ztO, ztTI, ztLI, ztLB, ztLT, zTT, aB, aI, qItTI, qItTT, iTI, iTT, iLI, jLI, vTI, vTT, vLI, fLI, fTI, fTT, fLT, fLB, iLT, jLT, vLT, iLB, jLB, vLB, cElT, cNlT, cElI, cEtI, cEtT, cNlI, cNtI, cNtT, fV, kV, metAs, metTp, metAt, bindT, setsE, RL.kill, List.set_cons_zero, List.set_cons_succ, Option.map_some, Option.bind_some, Option.getD_none, Option.getD_some, if_true, if_false, Bool.false_eq_true, Bool.not_true, Bool.not_false, callP, backP, derefN, W.lowrs, W.lowr, low_tI, low_tT, low_lI, low_lT, low_lB, s_whole h13, h1]
noncomputable def isLotN (l : List Nat) : Bool := bo (Nat.ble 1 (lenF l)) (bo (Nat.ble (lenF l) 8) (bo (allF (fun x => Nat.ble x 7) l) (eq1F l (usortN l)) false) false) false
noncomputable def isDealN (p : List (List Nat)) : Bool := bo (Nat.ble 1 (lenF p)) (bo (Nat.ble (lenF p) 8) (bo (allF isLotN p) (bo (eq1F (sort1 (catsF p)) (rngF (lenF (catsF p)) 0)) (eq2F p (sort2 p)) false) false) false) false
structure IsDeals (fs : Nat → Option Fn) : Prop where
  whole : fs 13 = some f13_is_whole
  among : fs 14 = some f14_is_among
  lot : fs 15 = some f15_is_lot
  deal : fs 16 = some f16_is_deal
structure Deals (fs : Nat → Option Fn) : Prop where
  whole : fs 13 = some f13_is_whole
  among : fs 14 = some f14_is_among
  lot : fs 15 = some f15_is_lot
  deal : fs 16 = some f16_is_deal
  cross : fs 17 = some f17_do_cross
  clear : fs 18 = some f18_is_clear
  parting : fs 19 = some f19_is_parting
theorem Deals.is (D : Deals fs) : IsDeals fs := ⟨D.whole, D.among, D.lot, D.deal⟩
noncomputable def chgF (l : List Bool) : Nat := lenF (filtF (fun q : Bool × Bool => Bool.rec (motive := fun _ => Bool) q.2 (Bool.rec (motive := fun _ => Bool) true false q.2) q.1) (zipF l (dropF 1 l)))
noncomputable def doCrossN (a b : List Nat) : Bool := Nat.blt 2 (chgF (mapF (fun s => memF s a) (sort1 (appF a b))))
noncomputable def isClearN (p : List (List Nat)) : Bool := List.rec (motive := fun _ => Bool) true (fun x r ih => bo (anyF (doCrossN x) r) false ih) p
end
end RL

/-! Second ones: what the program's defs compute. -/
namespace RL
open PySem (Str)
theorem filterMap_map {α β γ : Type} (f : α → β) (g : β → Option γ) (u : α → γ) : ∀ (l : List α), (∀ a ∈ l, g (f a) = some (u a)) → (l.map f).filterMap g = l.map u
  | [], _ => rfl
  | a :: l, q => by
    simp only [List.map_cons, List.filterMap_cons, q a List.mem_cons_self, filterMap_map f g u l fun b m => q b (List.mem_cons_of_mem _ m)]
section
variable {fs : Nat → Option Fn}
noncomputable def isPartN (p : List (List Nat)) : Bool := bo (isDealN p) (isClearN p) false
noncomputable def sizeN (p : List (List Nat)) : Nat := sumF (mapF lenF p)
end
end RL

/-! The laws' own look at the gaps of a parting. -/
namespace RL
open PySem (Str)
section
variable {fs : Nat → Option Fn} {cf : CF}
end
end RL

/-! Drawn partings: what the laws' own helpers draw, as one of what can be drawn. -/
namespace RL
open PySem (Str)
def PenOk (n L : Nat) (h : Hs) : Prop := (∃ a b c, Pen h n a b c) ∧ Clean h ∧ h.length = L
section
variable {fs : Nat → Option Fn} {n L : Nat}
theorem draw_ok (h2 : fs 2 = some f2_draw) (k : Nat) {h : Hs} (p : PenOk n L h) {m : Nat} (M : Int) (hM : M = (m : Int)) (hm : 0 < m) (hm2 : m < 1073741824) :
    ∃ (r : Nat) (h' : Hs), callG (callF fs (k + 1) 2 [.loc n, .int M] h) h = .ok (wi r) h' ∧ r < m ∧ PenOk n L h' := by
  subst hM
  obtain ⟨⟨a, b, c, p1⟩, p2, p3⟩ := p
  obtain ⟨r, h', a', b', c', e, r1, r2, q1, q2, q3⟩ := draw_g (fs := fs) (i := 2) h2 k p1 p2 (m := (m : Int)) (by omega) (by omega)
  obtain ⟨r, rfl⟩ := Int.eq_ofNat_of_zero_le r1
  exact ⟨r, h', e, by omega, ⟨a', b', c', q1⟩, q2, q3.trans p3⟩
end
abbrev Lots := List (List Nat)
/-- for the kernel: the open lots, from the left; what is left of the walk -/
noncomputable def joinsF (s : Nat) (shut : Lots) (l : Lots) : Lots → List (Lots × Lots) :=
  List.rec (motive := fun _ => Lots → List (Lots × Lots)) (fun pre => [(appF pre [[s]], shut)]) (fun x r ih pre => (appF pre [appF x [s]], appF shut r) :: ih (appF pre [x])) l
noncomputable def runsF (m : Nat) : List (Lots × Lots) := Nat.rec (motive := fun _ => List (Lots × Lots)) [([], [])] (fun j ih => catsF (mapF (fun st => joinsF j (Prod.rec (motive := fun _ => Lots) (fun _ b => b) st) (Prod.rec (motive := fun _ => Lots) (fun a _ => a) st) []) ih)) m
theorem forL_inv {α : Type} {f : W → Env → Hs → RS} (enc : α → W) (P : List α → Env → Hs → Prop) (q : ∀ a l ρ h, P (a :: l) ρ h → ∃ ρ' h', P l ρ' h' ∧ f (enc a) ρ h = .nx ρ' h') : ∀ {l : List α} {ρ h}, P l ρ h → ∃ ρ' h', P [] ρ' h' ∧ forL f (l.map enc) ρ h = .nx ρ' h'
  | [], ρ, h, p => ⟨ρ, h, p, rfl⟩
  | a :: l, ρ, h, p => by
    obtain ⟨ρ1, h1, p1, t1⟩ := q a l ρ h p
    obtain ⟨ρ2, h2, p2, t2⟩ := forL_inv enc P q p1
    exact ⟨ρ2, h2, p2, by simp only [List.map_cons, forL, t1, st_nx, t2]⟩
section
variable {fs : Nat → Option Fn} {n L : Nat}
noncomputable def partOf (st : Lots × Lots) : Lots := Prod.rec (motive := fun _ => Lots) (fun a b => sort2 (appF a b)) st
end
end RL

/-! A law that walks its script's first cells, draws some partings from each, and looks at each parting. -/
namespace RL
open PySem (Str)
/-- the head of a lap: a fresh pen -/
theorem new_pen {fs : Nat → Option Fn} (h0 : fs 0 = some f0_pen) (h1 : fs 1 = some f1_cell_at) (k : Nat) (ns : List Int) (j : Nat) (ts : Env) (x2 : Option W) {h : Hs} (cl : Clean h) :
    ∃ h', PenOk h.length (h.length + 1) h' ∧ evS (callF fs (k + 1)) (.set 2 (.callh 0 (.cons (.call 1 (.cons (.v 0) (.cons (.v 1) .nil))) .nil))) (some (.fr (ns.map .int)) :: some (.int j) :: x2 :: ts) h =
      .nx (some (.fr (ns.map .int)) :: some (.int j) :: some (.loc h.length) :: ts) h' := by
  obtain ⟨c, e1⟩ := cell_at (fs := fs) (i := 1) h1 k ns j []
  obtain ⟨a, b, e2, a1, b1, b2⟩ := pen_new (cf := callF fs (k + 1)) (fs := fs) (i := 0) h0 k c h
  have pn : Pen (h ++ [.lst [.int a, .int b, .int 0]]) h.length a b 0 := ⟨by unfold listAt; rw [List.getElem?_append_right (Nat.le_refl _)]; simp, a1, b1, b2⟩
  refine ⟨_, ⟨⟨a, b, 0, pn⟩, clean_app cl, by simp⟩, ?_⟩
  simp [evS, evE, evEs, R.bind, R.bindS, callP, backP, derefN, W.lowrs, W.lowr, lowrs_ints, e1, e2]
end RL

/-! Small partings can be shown; sameness of two pairs. -/
namespace RL
open PySem (Str)
noncomputable def smallL (l : List Nat) : Bool := bo (Nat.ble (lenF l) 100) (allF (fun s => Nat.ble s 1000) l) false
noncomputable def smallT (p : Lots) : Bool := bo (Nat.ble (lenF p) 100) (allF smallL p) false
theorem cp_non (ws : List W) (h h' : Hs) : callP (.ok .non h') ws h = if W.lowrs 0 ws = true then .ok .non h else .bad := rfl
theorem cp_int (i : Int) (ws : List W) (h h' : Hs) : callP (.ok (.int i) h') ws h = if W.lowrs 0 ws = true then .ok (.int i) h else .bad := rfl
end RL

namespace K37
open RL PySem.Spec PySem PyProof.Rows L2
def fs : Nat → Option Fn
  | 13 => some f13_is_whole
  | 14 => some f14_is_among
  | 121 => some f121_need_seats
  | 101 => some f101_product
  | 102 => some f102_orders
  | 103 => some f103_halves
  | 122 => some f122_how_many
  | 123 => some f123_whole_rows
  | 126 => some f126_chosen
  | 127 => some f127_with_lots
  | 128 => some f128_are_sizes
  | 351 => some f351_with_sizes
  | 133 => some f133_rising
  | 137 => some f137_shared
  | 138 => some f138_stay
  | 352 => some f352_hand_right
  | 0 => some f0_pen
  | 1 => some f1_cell_at
  | 2 => some f2_draw
  | 353 => some f353_law
  | _ => none
theorem ok : D.all (okDf T fs) = true := by decide +kernel
theorem b_is_whole : BindB d_is_whole := fun _ _ _ _ _ _ us hl => match us, hl with | [_], _ => rfl
theorem b_is_among : BindB d_is_among := fun _ _ _ _ _ _ us hl => match us, hl with | [_, _, _], _ => rfl
theorem b_need_seats : BindB d_need_seats := fun _ _ _ _ _ _ us hl => match us, hl with | [_], _ => rfl
theorem b_product : BindB d_product := fun _ _ _ _ _ _ us hl => match us, hl with | [_], _ => rfl
theorem b_orders : BindB d_orders := fun _ _ _ _ _ _ us hl => match us, hl with | [_], _ => rfl
theorem b_halves : BindB d_halves := fun _ _ _ _ _ _ us hl => match us, hl with | [_], _ => rfl
theorem b_how_many : BindB d_how_many := fun _ _ _ _ _ _ us hl => match us, hl with | [_], _ => rfl
theorem b_whole_rows : BindB d_whole_rows := fun _ _ _ _ _ _ us hl => match us, hl with | [_], _ => rfl
theorem b_chosen : BindB d_chosen := fun _ _ _ _ _ _ us hl => match us, hl with | [_, _], _ => rfl
theorem b_with_lots : BindB d_with_lots := fun _ _ _ _ _ _ us hl => match us, hl with | [_, _], _ => rfl
theorem b_are_sizes : BindB d_are_sizes := fun _ _ _ _ _ _ us hl => match us, hl with | [_], _ => rfl
theorem b_with_sizes : BindB d_with_sizes := fun _ _ _ _ _ _ us hl => match us, hl with | [_], _ => rfl
theorem b_rising : BindB d_rising := fun _ _ _ _ _ _ us hl => match us, hl with | [_, _], _ => rfl
theorem b_shared : BindB d_shared := fun _ _ _ _ _ _ us hl => match us, hl with | [_, _], _ => rfl
theorem b_stay : BindB d_stay := fun _ _ _ _ _ _ us hl => match us, hl with | [_, _], _ => rfl
theorem b__law_hand_right : BindB d__law_hand_right := fun _ _ _ _ _ _ us hl => match us, hl with | [], _ => rfl
theorem b__law_pen : BindB d__law_pen := fun _ _ _ _ _ _ us hl => match us, hl with | [_], _ => rfl
theorem b__law_cell_at : BindB d__law_cell_at := fun _ _ _ _ _ _ us hl => match us, hl with | [_, _], _ => rfl
theorem b__law_draw : BindB d__law_draw := fun _ _ _ _ _ _ us hl => match us, hl with | [_, _], _ => rfl
theorem b_law : BindB d_law := fun _ _ _ _ _ _ us hl => match us, hl with | [_], _ => rfl
theorem hs : (match so with | some s => sdB s | none => true) = true := rfl
theorem hl : D.all (fun d => !d.lm || so.isSome) = true := by decide +kernel
theorem hb : ∀ d ∈ D ++ sdDs so, BindB d := (List.forall_mem_cons.mpr ⟨b_is_whole, (List.forall_mem_cons.mpr ⟨b_is_among, (List.forall_mem_cons.mpr ⟨b_need_seats, (List.forall_mem_cons.mpr ⟨b_product, (List.forall_mem_cons.mpr ⟨b_orders, (List.forall_mem_cons.mpr ⟨b_halves, (List.forall_mem_cons.mpr ⟨b_how_many, (List.forall_mem_cons.mpr ⟨b_whole_rows, (List.forall_mem_cons.mpr ⟨b_chosen, (List.forall_mem_cons.mpr ⟨b_with_lots, (List.forall_mem_cons.mpr ⟨b_are_sizes, (List.forall_mem_cons.mpr ⟨b_with_sizes, (List.forall_mem_cons.mpr ⟨b_rising, (List.forall_mem_cons.mpr ⟨b_shared, (List.forall_mem_cons.mpr ⟨b_stay, (List.forall_mem_cons.mpr ⟨b__law_hand_right, (List.forall_mem_cons.mpr ⟨b__law_pen, (List.forall_mem_cons.mpr ⟨b__law_cell_at, (List.forall_mem_cons.mpr ⟨b__law_draw, (List.forall_mem_cons.mpr ⟨b_law, (fun _ h => nomatch h)⟩)⟩)⟩)⟩)⟩)⟩)⟩)⟩)⟩)⟩)⟩)⟩)⟩)⟩)⟩)⟩)⟩)⟩)⟩)⟩)
theorem hT : ∀ p ∈ T.fn, ∃ d ∈ D, d.id = p.1 ∧ d.x = p.2 ∧ d.cl = none := by decide +kernel
theorem hM : ∀ p ∈ T.ms, ∃ d ∈ D, d.id = p.1 ∧ d.cl = some p.2.1 ∧ d.x = p.2.2 := by decide +kernel
theorem hI : ∀ p ∈ T.ci, ∃ d ∈ D, d.id = p.1 ∧ d.cl = some p.2 ∧ d.x = Str.ofString "__init__" := by decide +kernel
theorem hlc : D.all (fun d => !d.lm || d.cl.isNone) = true := by decide +kernel
theorem kb0 : KwB d_how_many [(Str.ofString "seats")] [0] := fun _ _ _ _ _ _ us hl => match us, hl with | [_], _ => rfl
theorem kb1 : KwB d_whole_rows [(Str.ofString "seats")] [0] := fun _ _ _ _ _ _ us hl => match us, hl with | [_], _ => rfl
theorem kb2 : KwB d_with_lots [(Str.ofString "lots"), (Str.ofString "seats")] [1, 0] := fun _ _ _ _ _ _ us hl => match us, hl with | [_, _], _ => rfl
theorem kb3 : KwB d_with_sizes [(Str.ofString "sizes")] [0] := fun _ _ _ _ _ _ us hl => match us, hl with | [_], _ => rfl
theorem kb4 : KwB d_rising [(Str.ofString "many"), (Str.ofString "seats")] [1, 0] := fun _ _ _ _ _ _ us hl => match us, hl with | [_, _], _ => rfl
theorem kb5 : KwB d_stay [(Str.ofString "by"), (Str.ofString "seats")] [1, 0] := fun _ _ _ _ _ _ us hl => match us, hl with | [_, _], _ => rfl
theorem hK : ∀ q ∈ T.kw, ∃ d ∈ D, d.id = q.1 ∧ d.x = q.2.1 ∧ d.cl = none ∧ KwB d q.2.2.1 q.2.2.2 := (List.forall_mem_cons.mpr ⟨⟨d_how_many, by simp [D], rfl, rfl, rfl, kb0⟩, (List.forall_mem_cons.mpr ⟨⟨d_whole_rows, by simp [D], rfl, rfl, rfl, kb1⟩, (List.forall_mem_cons.mpr ⟨⟨d_with_lots, by simp [D], rfl, rfl, rfl, kb2⟩, (List.forall_mem_cons.mpr ⟨⟨d_with_sizes, by simp [D], rfl, rfl, rfl, kb3⟩, (List.forall_mem_cons.mpr ⟨⟨d_rising, by simp [D], rfl, rfl, rfl, kb4⟩, (List.forall_mem_cons.mpr ⟨⟨d_stay, by simp [D], rfl, rfl, rfl, kb5⟩, (fun _ h => nomatch h)⟩)⟩)⟩)⟩)⟩)⟩)
end K37


/-! What is asked by hand: closed calls, looked at by the evaluator itself. -/
namespace RL
open PySem (Str)
/-- told: this truth -/
def toldB (r : R W) (b : Bool) : Bool := match r with
  | .ok (.bl c) _ => c == b
  | _ => false
theorem toldB_ok {r : R W} {b : Bool} (h : toldB r b = true) : ∃ h', r = .ok (.bl b) h' := by
  unfold toldB at h
  split at h
  · exact ⟨_, by rw [eq_of_beq h]⟩
  · cases h
end RL

/-! Things whose texts are told: how deep, how long. -/
namespace RL
open PySem (Str)
/-! ### texts of things -/
structure Q (d n : Nat) (x : W) : Prop where
  low : W.lowr 0 x = true
  good : W.good x = true
  dp : W.dp x ≤ d
  sm : W.sm (2 ^ lg) x = true
  wt : W.wt x ≤ n
end RL

/-! Deals known, of any things: the program's look. -/
namespace RL
open PySem (Str)
section
variable {fs : Nat → Option Fn}
theorem cp_b (b : Bool) (ws : List W) (h h' : Hs) : callP (.ok (.bl b) h') ws h = if W.lowrs 0 ws = true then .ok (.bl b) h else .bad := rfl
end
end RL

/-! Refusals: what is said of a call, lists of words. -/
namespace RL
open PySem (Str)
theorem ev_cons {cf : CF} (s : S) (ss : Ss) (ρ : Env) (h : Hs) : evSs cf (.cons s ss) ρ h = (evS cf s ρ h).bind fun ρ h => evSs cf ss ρ h := rfl
/-! ### laps over a script's first cells -/
def cellsI (c : Nat) : It := .rng (.blt .max (.cons (.c (.int (1))) (.cons (.blt .min (.cons (.blt .len (.cons (.v 0) .nil)) (.cons (.c (.int (c : Int))) .nil))) .nil)))
theorem laps_at {cf : CF} (t c : Nat) (hc : c ≤ 100) (b : Ss) (ns : List Int) (I : Env → Hs → Prop) (hI : ∀ ρ h, I ρ h → ρ[0]? = some (some (.fr (ns.map .int))))
    (lap : ∀ (j : Nat) (ρ : Env) (h : Hs), I ρ h → ∃ ρ' h', I ρ' h' ∧ evSs cf b (ρ.set t (some (wi j))) h = .nx ρ' h') {ρ : Env} {h : Hs} (i0 : I ρ h) :
    ∃ ρ' h', I ρ' h' ∧ evS cf (.forr [t] (cellsI c) b) ρ h = .nx ρ' h' := by
  obtain ⟨n, hn, hn3⟩ : ∃ n : Nat, (n : Int) = (if (if (c : Int) < ns.length then (c : Int) else ns.length) > 1 then (if (c : Int) < ns.length then (c : Int) else ns.length) else 1) ∧ n ≤ 100 := by
    refine ⟨(if (if (c : Int) < ns.length then (c : Int) else ns.length) > 1 then (if (c : Int) < ns.length then (c : Int) else ns.length) else 1).toNat, ?_, ?_⟩ <;> split <;> split <;> omega
  have lim0 : lim = 100000 := rfl
  obtain ⟨ρ', h', i', e'⟩ := forL_inv (f := bodyF (fun ρ h => evSs cf b ρ h) [t]) wi (fun _ ρ h => I ρ h)
    (fun j l ρ h i => lap j ρ h i) (l := rngF n 0) (ρ := ρ) (h := h) i0
  refine ⟨ρ', h', i', ?_⟩
  have b1 : ∀ h, blt .len [.fr (ns.map .int)] h = some (.int ns.length) := fun h => by simp [blt, items]
  have hq : ((if (if (c : Int) < ns.length then (c : Int) else ns.length) > 1 then (if (c : Int) < ns.length then (c : Int) else ns.length) else 1)) = ((n : Nat) : Int) := hn.symm
  have it : evIt cf (cellsI c) ρ h = .ok (.ws ((rngF n 0).map wi)) h := by
    unfold cellsI
    simp only [evIt, evE, evEs, R.bind, R.of, hI ρ h i0, b1, qMin, qMax, asInt, Option.bind_some, hq, rngV_nat (show n ≤ lim by omega)]
    rfl
  simp only [evS, it, R.bindS, forV]
  exact e'
end RL

/-! The looks at all that can be drawn, in parts: one look alone may ask for too much memory. -/
namespace RL
noncomputable def joinAll (m : Nat) (l : List (Lots × Lots)) : List (Lots × Lots) := catsF (mapF (fun st => joinsF m (Prod.rec (motive := fun _ => Lots) (fun _ b => b) st) (Prod.rec (motive := fun _ => Lots) (fun a _ => a) st) []) l)
/-- a part of the partings of eight seats -/
noncomputable def part8 (ok : Lots → Bool) (i : Nat) : Bool := allF (fun st => ok (partOf st)) (joinAll 7 ((dropF (Nat.mul 72 i) (runsF 7)).take 72))
theorem six {ok : Lots → Bool} (h0 : part8 ok 0 = true) (h1 : part8 ok 1 = true) (h2 : part8 ok 2 = true) (h3 : part8 ok 3 = true) (h4 : part8 ok 4 = true) (h5 : part8 ok 5 = true) : ∀ i, i < 6 → part8 ok i = true := by
  intro i hi
  have : i = 0 ∨ i = 1 ∨ i = 2 ∨ i = 3 ∨ i = 4 ∨ i = 5 := by omega
  obtain rfl | rfl | rfl | rfl | rfl | rfl := this <;> assumption
end RL

/-! First ones: a parting gone on by some seats. -/
namespace RL
open PySem (Str)
section
variable {fs : Nat → Option Fn}
end
end RL

/-! How deep the seats of a parting lie. -/
namespace RL
open PySem (Str)
section
variable {fs : Nat → Option Fn} {cf : CF}
end
end RL

/-! Fours of seats by which lots cross: the program's side. -/
namespace RL
open PySem (Str)
noncomputable def lotN (p : Lots) (s : Nat) : List Nat := hdF [] (filtF (fun l => memF s l) p)
section
variable {fs : Nat → Option Fn} {cf : CF}
end
end RL

/-! Sorted, whatever the order in which it came. -/
namespace RL
structure Tot {α : Type} (lt : α → α → Bool) : Prop where
  asym : ∀ a b, lt a b = true → lt b a = false
  anti : ∀ a b, lt a b = false → lt b a = false → a = b
  tr : ∀ a b c, lt a b = true → lt b c = true → lt a c = true
theorem Tot.up {α : Type} {lt : α → α → Bool} (T : Tot lt) {x y z : α} (h1 : lt z y = false) (h2 : lt z x = true) : lt y x = true := by
  cases h3 : lt y z with
  | true => exact T.tr _ _ _ h3 h2
  | false => rw [T.anti _ _ h3 h1]; exact h2
section
variable {α : Type} {eq lt : α → α → Bool} (T : Tot lt) (he : ∀ a b, eq a b = true ↔ a = b)
include he
end
end RL

/-! All partings: the program's, the laws' own. -/
namespace RL
open PySem (Str)
section
variable {fs : Nat → Option Fn}
end
end RL

/-! All partings, told. -/
namespace RL
open PySem (Str)
/-- a value that has these items, written or in the store -/
def Has {α : Type} (enc : α → W) (w : W) (h : Hs) (l : List α) : Prop := w = .lst (l.map enc) ∨ ∃ n, w = .loc n ∧ listAt h n = some (l.map enc)
theorem Has.items {α : Type} {enc : α → W} {w : W} {h : Hs} {l : List α} (q : Has enc w h l) : items h w = some (l.map enc) := by
  obtain rfl | ⟨n, rfl, hn⟩ := q
  · rfl
  · exact hn
section
variable {fs : Nat → Option Fn}
end
end RL

/-! Fours of seats by which lots cross: the laws' own look, by nested walks. -/
namespace RL
open PySem (Str)
section
variable {fs : Nat → Option Fn} {cf : CF}
end
end RL

/-! Two lots put together. -/
namespace RL
open PySem (Str)
section
variable {fs : Nat → Option Fn} {cf : CF}
end
end RL

/-! Drawn deals. -/
namespace RL
open PySem (Str)
section
variable {fs : Nat → Option Fn} {n L : Nat}
end
end RL

/-! What is looked at of a deal: its crossing, told and by all fours. -/
namespace RL
end RL

/-! Drawn rows of joinings: what comes of a joining can be drawn, too. -/
namespace RL
open PySem (Str)
section
variable {fs : Nat → Option Fn}
end
end RL

/-! Which of two partings is finer: the program's look, the laws' own, and that they say the same. -/
namespace RL
open PySem (Str)
/-- a parting whose lots are what they should be -/
structure LotsAt (m : Nat) (p : Lots) : Prop where
  part : isPartN p = true
  size : sizeN p = m
  small : smallT p = true
  ne : ∀ l ∈ p, l ≠ []
  own : ∀ l ∈ p, ∀ s ∈ l, lotN p s = l
  rise : ∀ l ∈ p, l.Pairwise (· < ·)
  below : ∀ l ∈ p, ∀ s ∈ l, s < m
  cover : ∀ s, s < m → p.any (fun l => memF s l) = true
section
variable {fs : Nat → Option Fn}
end
end RL

/-! Coins, and what partings are worth by them. -/
namespace RL
open PySem (Str)
def rT (r : List Int) : W := .tup (r.map .int)
def cT (C : List (List Int)) : W := .tup (C.map rT)
/-- a parting of as many seats as there are coins -/
structure FitsC (n : Nat) (p : Lots) : Prop where
  rise : ∀ l ∈ p, l.Pairwise (· < ·)
  below : ∀ l ∈ p, ∀ s ∈ l, s < n
theorem LotsAt.fits {m : Nat} {p : Lots} (o : LotsAt m p) : FitsC m p := ⟨o.rise, o.below⟩
section
variable {fs : Nat → Option Fn}
end
end RL

/-! All that can be drawn, looked at: lots. -/
namespace RL
end RL

/-! Coins: the worth of a parting, the greatest of all. -/
namespace RL
open PySem (Str)
inductive Two {α β : Type} (R : α → β → Prop) : List α → List β → Prop where
  | nil : Two R [] []
  | cons {a : α} {b : β} {l : List α} {m : List β} : R a b → Two R l m → Two R (a :: l) (b :: m)
theorem Two.len {α β : Type} {R : α → β → Prop} {l : List α} {m : List β} (t : Two R l m) : m.length = l.length := by
  induction t with
  | nil => rfl
  | cons _ _ ih => exact congrArg Nat.succ ih
theorem Two.get {α β : Type} {R : α → β → Prop} {l : List α} {m : List β} (t : Two R l m) : ∀ (i : Nat) (y : β), m[i]? = some y → ∃ a, l[i]? = some a ∧ R a y := by
  induction t with
  | nil => intro i y e; simp at e
  | cons r _ ih =>
    intro i y e
    cases i with
    | zero =>
      rw [List.getElem?_cons_zero] at e
      cases e
      exact ⟨_, rfl, r⟩
    | succ i =>
      rw [List.getElem?_cons_succ] at e
      obtain ⟨a, e1, e2⟩ := ih i y e
      exact ⟨a, by rw [List.getElem?_cons_succ]; exact e1, e2⟩
theorem compL_two {α β : Type} {F : W → Hs → R (Option W)} (enc : α → W) (dec : β → W) (P : Hs → Prop) (Q : α → β → Prop) : ∀ {l : List α} {h : Hs}, P h → (∀ a ∈ l, ∀ h, P h → ∃ y h', F (enc a) h = .ok (some (dec y)) h' ∧ Q a y ∧ P h') →
    ∃ (ys : List β) (h' : Hs), compL F (l.map enc) h = .ok (ys.map dec) h' ∧ Two Q l ys ∧ P h'
  | [], h, p, _ => ⟨[], h, rfl, .nil, p⟩
  | a :: l, h, p, q => by
    obtain ⟨y, h1, e1, q1, p1⟩ := q a List.mem_cons_self h p
    obtain ⟨ys, h2, e2, q2, p2⟩ := compL_two enc dec P Q p1 fun b m => q b (List.mem_cons_of_mem _ m)
    refine ⟨y :: ys, h2, ?_, .cons q1 q2, p2⟩
    simp only [List.map_cons, compL, e1, rb_ok, e2]
section
variable {fs : Nat → Option Fn}
end
end RL

namespace K37
open RL
/-! ### products -/
def Lo (x : Nat) : Prop := x < 100000
def prodZ (l : List Nat) (acc : Int) : Int := l.foldl (fun (a : Int) (x : Nat) => a * (x : Int)) acc
def prodN (l : List Nat) (acc : Nat) : Nat := l.foldl (fun a x => a * x) acc
theorem prod_cast : ∀ (l : List Nat) (acc : Nat), prodZ l (acc : Int) = ((prodN l acc : Nat) : Int)
  | [], _ => rfl
  | x :: l, acc => by
    show prodZ l ((acc : Int) * (x : Int)) = _
    rw [← Int.natCast_mul, prod_cast l (acc * x)]
    rfl
theorem lo_small {b : Nat} (hb : Lo b) : small (b : Int) = true := by
  unfold Lo at hb
  unfold small two64
  rw [decide_eq_true (by omega), decide_eq_true (by omega)]; rfl
theorem mul_lo (a : Int) {b : Nat} (hb : Lo b) (h : Hs) : bop .mul (.int a) (wi b) h = some (.int (a * (b : Int))) := mul_sm (.inr (lo_small hb))
theorem mul_wi {a b : Nat} (hb : Lo b) (h : Hs) : bop .mul (wi a) (wi b) h = some (wi (a * b)) := mul_lo (a : Int) hb h
theorem fdiv_wi {a b : Nat} (hb : 0 < b) (h : Hs) : bop .fdiv (wi a) (wi b) h = some (wi (a / b)) := by
  show (if 0 < (b : Int) ∧ wide (b : Int) = true then some (RL.W.int ((a : Int) / (b : Int))) else none) = _
  rw [if_pos ⟨by omega, rfl⟩]
  rfl
theorem prod_b0 (cf : CF) (h : Hs) (acc : Int) {x : Nat} (hx : Lo x) (x0 x2 : Option RL.W) : bodyF (fun ρ h => evSs cf f101_b0 ρ h) [2] (wi x) [x0, some (.int acc), x2] h = .nx [x0, some (.int (acc * (x : Int))), some (wi x)] h := by
  have m := mul_lo acc hx
  simp only [bodyF, f101_b0, evSs, evS, evE, evEs, evCs, evIt, evT, evOe, rb_ok, rb_ex, rs_ok, rs_ex, ro_some, ro_h, rn_ok, sb_nx, sb_rt, sb_br, sb_ct, sb_ex, st_nx, st_ct, st_br, st_rt, st_ex, so_nx, so_rt, so_ex, List.map_cons, List.map_nil, List.replicate, List.cons_append, List.nil_append, List.getElem?_cons_zero, List.getElem?_cons_succ, bA, bS, cL, cLe, cG, cGe, cEi, cNi, cEb, cNb, cEt, cEl, cEo, cNt, cNl, cNo, cIs, cIsn, qLen, qSum, qSuml, qSort, qAll, qAny, qTup, qLst, qMaxl, qMinl, qMax, qMin, qItI, qItB, qItT, qInI, qInB, iT, iL, iF, iO, jL, jO, vT, vL, vF, vO, zT, zL, zTI, ztT, ztL, ztO, ztTI, ztLI, ztLB, ztLT, zTT, aB, aI, qItTI, qItTT, iTI, iTT, iLI, jLI, vTI, vTT, vLI, fLI, fTI, fTT, fLT, fLB, iLT, jLT, vLT, iLB, jLB, vLB, cElT, cNlT, cElI, cEtI, cEtT, cNlI, cNtI, cNtT, fV, kV, metAs, metAt, bindT, setsE, RL.kill, List.set_cons_zero, List.set_cons_succ, Option.map_some, Option.bind_some, Option.getD_none, Option.getD_some, if_true, if_false, Bool.false_eq_true, Bool.not_true, Bool.not_false, m]
theorem prod_walk (cf : CF) (h : Hs) : ∀ (l : List Nat) (acc : Int) (x0 x2 : Option RL.W), (∀ x ∈ l, Lo x) → ∃ y2, forL (bodyF (fun ρ h => evSs cf f101_b0 ρ h) [2]) (l.map wi) [x0, some (.int acc), x2] h = .nx [x0, some (.int (prodZ l acc)), y2] h
  | [], acc, x0, x2, _ => ⟨x2, rfl⟩
  | x :: l, acc, x0, x2, hl => by
    obtain ⟨y2, e⟩ := prod_walk cf h l (acc * (x : Int)) x0 (some (wi x)) fun y hy => hl y (List.mem_cons_of_mem _ hy)
    refine ⟨y2, ?_⟩
    rw [List.map_cons, forL, prod_b0 cf h acc (hl x List.mem_cons_self), st_nx, e]
    rfl
theorem s_product (k : Nat) {l : List Nat} (hl : ∀ x ∈ l, Lo x) (h : Hs) : callF fs (k + 1) 101 [lI l] h = .ok (wi (prodN l 1)) h := by
  obtain ⟨y2, e⟩ := prod_walk (callF fs k) h l 1 (some (lI l)) none hl
  rw [show (1 : Int) = ((1 : Nat) : Int) from rfl, prod_cast] at e
  rw [callF_body (fs := fs) (fn := f101_product) rfl rfl]
  have e : forL (bodyF (fun ρ h => evSs (callF fs k) f101_b0 ρ h) [2]) (l.map wi) [some (lI l), some (.int 1), none] h = .nx [some (lI l), some (wi (prodN l 1)), y2] h := e
  have iv : itemsV h (lI l) = some (.ws (l.map wi)) := rfl
  simp only [f101_product, evSs, evS, evE, evEs, evCs, evIt, evT, evOe, rb_ok, rb_ex, rs_ok, rs_ex, ro_some, ro_h, rn_ok, sb_nx, sb_rt, sb_br, sb_ct, sb_ex, st_nx, st_ct, st_br, st_rt, st_ex, so_nx, so_rt, so_ex, List.map_cons, List.map_nil, List.replicate, List.cons_append, List.nil_append, List.getElem?_cons_zero, List.getElem?_cons_succ, bA, bS, cL, cLe, cG, cGe, cEi, cNi, cEb, cNb, cEt, cEl, cEo, cNt, cNl, cNo, cIs, cIsn, qLen, qSum, qSuml, qSort, qAll, qAny, qTup, qLst, qMaxl, qMinl, qMax, qMin, qItI, qItB, qItT, qInI, qInB, iT, iL, iF, iO, jL, jO, vT, vL, vF, vO, zT, zL, zTI, ztT, ztL, ztO, ztTI, ztLI, ztLB, ztLT, zTT, aB, aI, qItTI, qItTT, iTI, iTT, iLI, jLI, vTI, vTT, vLI, fLI, fTI, fTT, fLT, fLB, iLT, jLT, vLT, iLB, jLB, vLB, cElT, cNlT, cElI, cEtI, cEtT, cNlI, cNtI, cNtT, fV, kV, metAs, metAt, bindT, setsE, RL.kill, List.set_cons_zero, List.set_cons_succ, Option.map_some, Option.bind_some, Option.getD_none, Option.getD_some, if_true, if_false, Bool.false_eq_true, Bool.not_true, Bool.not_false, iv]
  rw [e]
  simp only [evSs, evS, evE, evEs, evCs, evIt, evT, evOe, rb_ok, rb_ex, rs_ok, rs_ex, ro_some, ro_h, rn_ok, sb_nx, sb_rt, sb_br, sb_ct, sb_ex, st_nx, st_ct, st_br, st_rt, st_ex, so_nx, so_rt, so_ex, List.map_cons, List.map_nil, List.replicate, List.cons_append, List.nil_append, List.getElem?_cons_zero, List.getElem?_cons_succ, bA, bS, cL, cLe, cG, cGe, cEi, cNi, cEb, cNb, cEt, cEl, cEo, cNt, cNl, cNo, cIs, cIsn, qLen, qSum, qSuml, qSort, qAll, qAny, qTup, qLst, qMaxl, qMinl, qMax, qMin, qItI, qItB, qItT, qInI, qInB, iT, iL, iF, iO, jL, jO, vT, vL, vF, vO, zT, zL, zTI, ztT, ztL, ztO, ztTI, ztLI, ztLB, ztLT, zTT, aB, aI, qItTI, qItTT, iTI, iTT, iLI, jLI, vTI, vTT, vLI, fLI, fTI, fTT, fLT, fLB, iLT, jLT, vLT, iLB, jLB, vLB, cElT, cNlT, cElI, cEtI, cEtT, cNlI, cNtI, cNtT, fV, kV, metAs, metAt, bindT, setsE, RL.kill, List.set_cons_zero, List.set_cons_succ, Option.map_some, Option.bind_some, Option.getD_none, Option.getD_some, if_true, if_false, Bool.false_eq_true, Bool.not_true, Bool.not_false]
def facN (n : Nat) : Nat := prodN (rngF n 1) 1
theorem prod_pos : ∀ (l : List Nat) (acc : Nat), 0 < acc → (∀ x ∈ l, 0 < x) → 0 < prodN l acc
  | [], acc, h, _ => h
  | x :: l, acc, h, hl => prod_pos l (acc * x) (Nat.mul_pos h (hl x List.mem_cons_self)) fun y hy => hl y (List.mem_cons_of_mem _ hy)
theorem in_rng {n lo x : Nat} (h : x ∈ rngF n lo) : lo ≤ x ∧ x < lo + n := by
  rw [rngF_eq, List.mem_range'_1] at h
  exact h
theorem fac_pos (n : Nat) : 0 < facN n := prod_pos _ 1 (by omega) fun x hx => by have := in_rng hx; omega
theorem s_orders (k : Nat) {n : Nat} (hn : n ≤ 4000) (h : Hs) : callF fs (k + 2) 102 [wi n] h = .ok (wi (facN n)) h := by
  have lim0 : lim = 100000 := rfl
  have rv : rngV 1 ((n : Int) + 1) = some ((rngF n 1).map wi) := by
    have := rngV_nat2 (a := 1) (n := n + 1) (by omega) (by omega)
    exact this
  have p : ∀ h, callF fs (k + 1) 101 [lI (rngF n 1)] h = .ok (wi (facN n)) h := s_product k fun x hx => by unfold Lo; have := in_rng hx; omega
  have p : ∀ h, callF fs (k + 1) 101 [.lst ((rngF n 1).map wi)] h = .ok (wi (facN n)) h := p
  rw [callF_body (fs := fs) (fn := f102_orders) rfl rfl]
  have lw : RL.W.lowrs 0 ((rngF n 1).map wi) = true := lowrs_map (fun _ => rfl) _
  simp only [f102_orders, evSs, evS, evE, evEs, evCs, evIt, evT, evOe, rb_ok, rb_ex, rs_ok, rs_ex, ro_some, ro_h, rn_ok, sb_nx, sb_rt, sb_br, sb_ct, sb_ex, st_nx, st_ct, st_br, st_rt, st_ex, so_nx, so_rt, so_ex, List.map_cons, List.map_nil, List.replicate, List.cons_append, List.nil_append, List.getElem?_cons_zero, List.getElem?_cons_succ, bA, bS, cL, cLe, cG, cGe, cEi, cNi, cEb, cNb, cEt, cEl, cEo, cNt, cNl, cNo, cIs, cIsn, qLen, qSum, qSuml, qSort, qAll, qAny, qTup, qLst, qMaxl, qMinl, qMax, qMin, qItI, qItB, qItT, qInI, qInB, iT, iL, iF, iO, jL, jO, vT, vL, vF, vO, zT, zL, zTI, ztT, ztL, ztO, ztTI, ztLI, ztLB, ztLT, zTT, aB, aI, qItTI, qItTT, iTI, iTT, iLI, jLI, vTI, vTT, vLI, fTT, fLT, fLB, iLT, jLT, vLT, iLB, jLB, vLB, cElT, cNlT, cElI, cEtI, cEtT, cNlI, cNtI, cNtT, fV, kV, metAs, metAt, bindT, setsE, RL.kill, List.set_cons_zero, List.set_cons_succ, Option.map_some, Option.bind_some, Option.getD_none, Option.getD_some, if_true, if_false, Bool.false_eq_true, Bool.not_true, Bool.not_false, rv, p, cp_int, lw, RL.W.lowrs, RL.W.lowr, Bool.and_self]
def halfN (n : Nat) : Nat := facN (2 * n) / facN n / facN (n + 1)
theorem s_halves (k : Nat) {n : Nat} (hn : n ≤ 60) (h : Hs) : callF fs (k + 3) 103 [wi n] h = .ok (wi (halfN n)) h := by
  have m : bop .mul (.int 2) (wi n) = fun _ => some (wi (2 * n)) := funext fun h => mul_wi (a := 2) (b := n) (by unfold Lo; omega) h
  have o1 : ∀ h, callF fs (k + 2) 102 [wi (2 * n)] h = .ok (wi (facN (2 * n))) h := s_orders k (by omega)
  have o2 : ∀ h, callF fs (k + 2) 102 [wi n] h = .ok (wi (facN n)) h := s_orders k (by omega)
  have o3 : ∀ h, callF fs (k + 2) 102 [.int ((n : Int) + 1)] h = .ok (wi (facN (n + 1))) h := s_orders k (n := n + 1) (by omega)
  have d1 := fun h => fdiv_wi (a := facN (2 * n)) (fac_pos n) h
  have d2 := fun h => fdiv_wi (a := facN (2 * n) / facN n) (fac_pos (n + 1)) h
  rw [callF_body (fs := fs) (fn := f103_halves) rfl rfl]
  simp only [f103_halves, evSs, evS, evE, evEs, evCs, evIt, evT, evOe, rb_ok, rb_ex, rs_ok, rs_ex, ro_some, ro_h, rn_ok, sb_nx, sb_rt, sb_br, sb_ct, sb_ex, st_nx, st_ct, st_br, st_rt, st_ex, so_nx, so_rt, so_ex, List.map_cons, List.map_nil, List.replicate, List.cons_append, List.nil_append, List.getElem?_cons_zero, List.getElem?_cons_succ, bA, bS, cL, cLe, cG, cGe, cEi, cNi, cEb, cNb, cEt, cEl, cEo, cNt, cNl, cNo, cIs, cIsn, qLen, qSum, qSuml, qSort, qAll, qAny, qTup, qLst, qMaxl, qMinl, qMax, qMin, qItI, qItB, qItT, qInI, qInB, iT, iL, iF, iO, jL, jO, vT, vL, vF, vO, zT, zL, zTI, ztT, ztL, ztO, ztTI, ztLI, ztLB, ztLT, zTT, aB, aI, qItTI, qItTT, iTI, iTT, iLI, jLI, vTI, vTT, vLI, fLI, fTI, fTT, fLT, fLB, iLT, jLT, vLT, iLB, jLB, vLB, cElT, cNlT, cElI, cEtI, cEtT, cNlI, cNtI, cNtT, fV, kV, metAs, metAt, bindT, setsE, RL.kill, List.set_cons_zero, List.set_cons_succ, Option.map_some, Option.bind_some, Option.getD_none, Option.getD_some, if_true, if_false, Bool.false_eq_true, Bool.not_true, Bool.not_false, m, o1, o2, o3, d1, d2, cp_int, RL.W.lowrs, RL.W.lowr, Bool.and_self]
  rfl
/-! ### chosen -/
def choN (n : Nat) (f : Int) : Nat := if 0 ≤ f ∧ f ≤ n then facN n / facN f.toNat / facN (n - f.toNat) else 0
theorem s_chosen (k : Nat) {n : Nat} (hn : n ≤ 4000) (f : Int) (h : Hs) : callF fs (k + 3) 126 [wi n, .int f] h = .ok (wi (choN n f)) h := by
  rw [callF_body (fs := fs) (fn := f126_chosen) rfl rfl]
  by_cases c : 0 ≤ f ∧ f ≤ n
  · obtain ⟨c1, c2⟩ := c
    obtain ⟨m, rfl⟩ : ∃ m : Nat, f = (m : Int) := ⟨f.toNat, by omega⟩
    have o1 : ∀ h, callF fs (k + 2) 102 [wi n] h = .ok (wi (facN n)) h := s_orders k (by omega)
    have o2 : ∀ h, callF fs (k + 2) 102 [wi m] h = .ok (wi (facN m)) h := s_orders k (by omega)
    have o3 : ∀ h, callF fs (k + 2) 102 [.int ((n : Int) - (m : Int))] h = .ok (wi (facN (n - m))) h := fun h => by
      have := s_orders k (n := n - m) (by omega) h
      rw [show ((n : Int) - (m : Int)) = ((n - m : Nat) : Int) by omega]
      exact this
    have d1 := fun h => fdiv_wi (a := facN n) (fac_pos m) h
    have d2 := fun h => fdiv_wi (a := facN n / facN m) (fac_pos (n - m)) h
    have e : choN n (m : Int) = facN n / facN m / facN (n - m) := by
      unfold choN
      rw [if_pos ⟨c1, c2⟩, Int.toNat_natCast]
    rw [e]
    simp only [f126_chosen, evSs, evS, evE, evEs, evCs, evIt, evT, evOe, rb_ok, rb_ex, rs_ok, rs_ex, ro_some, ro_h, rn_ok, sb_nx, sb_rt, sb_br, sb_ct, sb_ex, st_nx, st_ct, st_br, st_rt, st_ex, so_nx, so_rt, so_ex, List.map_cons, List.map_nil, List.replicate, List.cons_append, List.nil_append, List.getElem?_cons_zero, List.getElem?_cons_succ, bA, bS, cL, cLe, cG, cGe, cEi, cNi, cEb, cNb, cEt, cEl, cEo, cNt, cNl, cNo, cIs, cIsn, qLen, qSum, qSuml, qSort, qAll, qAny, qTup, qLst, qMaxl, qMinl, qMax, qMin, qItI, qItB, qItT, qInI, qInB, iT, iL, iF, iO, jL, jO, vT, vL, vF, vO, zT, zL, zTI, ztT, ztL, ztO, ztTI, ztLI, ztLB, ztLT, zTT, aB, aI, qItTI, qItTT, iTI, iTT, iLI, jLI, vTI, vTT, vLI, fLI, fTI, fTT, fLT, fLB, iLT, jLT, vLT, iLB, jLB, vLB, cElT, cNlT, cElI, cEtI, cEtT, cNlI, cNtI, cNtT, fV, kV, metAs, metAt, bindT, setsE, RL.kill, List.set_cons_zero, List.set_cons_succ, Option.map_some, Option.bind_some, Option.getD_none, Option.getD_some, if_true, if_false, Bool.false_eq_true, Bool.not_true, Bool.not_false, decide_eq_true c1, decide_eq_true c2, o1, o2, o3, d1, d2, cp_int, RL.W.lowrs, RL.W.lowr, Bool.and_self]
  · have e : choN n f = 0 := by unfold choN; rw [if_neg c]
    rw [e]
    by_cases c1 : 0 ≤ f
    · have c2 : ¬ f ≤ (n : Int) := fun z => c ⟨c1, z⟩
      simp only [f126_chosen, evSs, evS, evE, evEs, evCs, evIt, evT, evOe, rb_ok, rb_ex, rs_ok, rs_ex, ro_some, ro_h, rn_ok, sb_nx, sb_rt, sb_br, sb_ct, sb_ex, st_nx, st_ct, st_br, st_rt, st_ex, so_nx, so_rt, so_ex, List.map_cons, List.map_nil, List.replicate, List.cons_append, List.nil_append, List.getElem?_cons_zero, List.getElem?_cons_succ, bA, bS, cL, cLe, cG, cGe, cEi, cNi, cEb, cNb, cEt, cEl, cEo, cNt, cNl, cNo, cIs, cIsn, qLen, qSum, qSuml, qSort, qAll, qAny, qTup, qLst, qMaxl, qMinl, qMax, qMin, qItI, qItB, qItT, qInI, qInB, iT, iL, iF, iO, jL, jO, vT, vL, vF, vO, zT, zL, zTI, ztT, ztL, ztO, ztTI, ztLI, ztLB, ztLT, zTT, aB, aI, qItTI, qItTT, iTI, iTT, iLI, jLI, vTI, vTT, vLI, fLI, fTI, fTT, fLT, fLB, iLT, jLT, vLT, iLB, jLB, vLB, cElT, cNlT, cElI, cEtI, cEtT, cNlI, cNtI, cNtT, fV, kV, metAs, metAt, bindT, setsE, RL.kill, List.set_cons_zero, List.set_cons_succ, Option.map_some, Option.bind_some, Option.getD_none, Option.getD_some, if_true, if_false, Bool.false_eq_true, Bool.not_true, Bool.not_false, decide_eq_true c1, decide_eq_false c2]
      rfl
    · simp only [f126_chosen, evSs, evS, evE, evEs, evCs, evIt, evT, evOe, rb_ok, rb_ex, rs_ok, rs_ex, ro_some, ro_h, rn_ok, sb_nx, sb_rt, sb_br, sb_ct, sb_ex, st_nx, st_ct, st_br, st_rt, st_ex, so_nx, so_rt, so_ex, List.map_cons, List.map_nil, List.replicate, List.cons_append, List.nil_append, List.getElem?_cons_zero, List.getElem?_cons_succ, bA, bS, cL, cLe, cG, cGe, cEi, cNi, cEb, cNb, cEt, cEl, cEo, cNt, cNl, cNo, cIs, cIsn, qLen, qSum, qSuml, qSort, qAll, qAny, qTup, qLst, qMaxl, qMinl, qMax, qMin, qItI, qItB, qItT, qInI, qInB, iT, iL, iF, iO, jL, jO, vT, vL, vF, vO, zT, zL, zTI, ztT, ztL, ztO, ztTI, ztLI, ztLB, ztLT, zTT, aB, aI, qItTI, qItTT, iTI, iTT, iLI, jLI, vTI, vTT, vLI, fLI, fTI, fTT, fLT, fLB, iLT, jLT, vLT, iLB, jLB, vLB, cElT, cNlT, cElI, cEtI, cEtT, cNlI, cNtI, cNtT, fV, kV, metAs, metAt, bindT, setsE, RL.kill, List.set_cons_zero, List.set_cons_succ, Option.map_some, Option.bind_some, Option.getD_none, Option.getD_some, if_true, if_false, Bool.false_eq_true, Bool.not_true, Bool.not_false, decide_eq_false c1]
      rfl
theorem s_need (k : Nat) {n : Nat} (h1 : 1 ≤ n) (h2 : n ≤ 60) (h : Hs) : callF fs (k + 3) 121 [wi n] h = .ok .non h := by
  have a : ∀ h, callF fs (k + 2) 14 [wi n, .int 1, .int 60] h = .ok (.bl true) h := fun h => by
    have := s_among (fs := fs) rfl rfl k (n : Int) 1 60 h
    rw [decide_eq_true (by omega), decide_eq_true (by omega)] at this
    exact this
  rw [callF_body (fs := fs) (fn := f121_need_seats) rfl rfl]
  simp only [f121_need_seats, evSs, evS, evE, evEs, evCs, evIt, evT, evOe, rb_ok, rb_ex, rs_ok, rs_ex, ro_some, ro_h, rn_ok, sb_nx, sb_rt, sb_br, sb_ct, sb_ex, st_nx, st_ct, st_br, st_rt, st_ex, so_nx, so_rt, so_ex, List.map_cons, List.map_nil, List.replicate, List.cons_append, List.nil_append, List.getElem?_cons_zero, List.getElem?_cons_succ, bA, bS, cL, cLe, cG, cGe, cEi, cNi, cEb, cNb, cEt, cEl, cEo, cNt, cNl, cNo, cIs, cIsn, qLen, qSum, qSuml, qSort, qAll, qAny, qTup, qLst, qMaxl, qMinl, qMax, qMin, qItI, qItB, qItT, qInI, qInB, iT, iL, iF, iO, jL, jO, vT, vL, vF, vO, zT, zL, zTI, ztT, ztL, ztO, ztTI, ztLI, ztLB, ztLT, zTT, aB, aI, qItTI, qItTT, iTI, iTT, iLI, jLI, vTI, vTT, vLI, fLI, fTI, fTT, fLT, fLB, iLT, jLT, vLT, iLB, jLB, vLB, cElT, cNlT, cElI, cEtI, cEtT, cNlI, cNtI, cNtT, fV, kV, metAs, metAt, bindT, setsE, RL.kill, List.set_cons_zero, List.set_cons_succ, Option.map_some, Option.bind_some, Option.getD_none, Option.getD_some, if_true, if_false, Bool.false_eq_true, Bool.not_true, Bool.not_false, a, cp_b, RL.W.lowrs, RL.W.lowr, Bool.and_self]
theorem s_how_many (k : Nat) {n : Nat} (h1 : 1 ≤ n) (h2 : n ≤ 60) (h : Hs) : callF fs (k + 4) 122 [wi n] h = .ok (wi (halfN n)) h := by
  have a : ∀ h, callF fs (k + 3) 121 [wi n] h = .ok .non h := s_need k h1 h2
  have b : ∀ h, callF fs (k + 3) 103 [wi n] h = .ok (wi (halfN n)) h := s_halves k h2
  rw [callF_body (fs := fs) (fn := f122_how_many) rfl rfl]
  simp only [f122_how_many, evSs, evS, evE, evEs, evCs, evIt, evT, evOe, rb_ok, rb_ex, rs_ok, rs_ex, ro_some, ro_h, rn_ok, sb_nx, sb_rt, sb_br, sb_ct, sb_ex, st_nx, st_ct, st_br, st_rt, st_ex, so_nx, so_rt, so_ex, List.map_cons, List.map_nil, List.replicate, List.cons_append, List.nil_append, List.getElem?_cons_zero, List.getElem?_cons_succ, bA, bS, cL, cLe, cG, cGe, cEi, cNi, cEb, cNb, cEt, cEl, cEo, cNt, cNl, cNo, cIs, cIsn, qLen, qSum, qSuml, qSort, qAll, qAny, qTup, qLst, qMaxl, qMinl, qMax, qMin, qItI, qItB, qItT, qInI, qInB, iT, iL, iF, iO, jL, jO, vT, vL, vF, vO, zT, zL, zTI, ztT, ztL, ztO, ztTI, ztLI, ztLB, ztLT, zTT, aB, aI, qItTI, qItTT, iTI, iTT, iLI, jLI, vTI, vTT, vLI, fLI, fTI, fTT, fLT, fLB, iLT, jLT, vLT, iLB, jLB, vLB, cElT, cNlT, cElI, cEtI, cEtT, cNlI, cNtI, cNtT, fV, kV, metAs, metAt, bindT, setsE, RL.kill, List.set_cons_zero, List.set_cons_succ, Option.map_some, Option.bind_some, Option.getD_none, Option.getD_some, if_true, if_false, Bool.false_eq_true, Bool.not_true, Bool.not_false, a, b, cp_non, cp_int, RL.W.lowrs, RL.W.lowr, Bool.and_self]
theorem rept_wi (n : Nat) : ∀ m : Nat, rept m [wi n] = (List.replicate m n).map wi
  | 0 => rfl
  | m + 1 => by
    show [wi n] ++ rept m [wi n] = _
    rw [rept_wi n m]
    rfl
theorem s_whole_rows (k : Nat) {n : Nat} (h1 : 1 ≤ n) (h2 : n ≤ 60) (h : Hs) : callF fs (k + 4) 123 [wi n] h = .ok (wi (prodN (List.replicate (n - 2) n) 1)) h := by
  have lim0 : lim = 100000 := rfl
  have a : ∀ h, callF fs (k + 3) 121 [wi n] h = .ok .non h := s_need k h1 h2
  have b : ∀ h, callF fs (k + 3) 101 [lI (List.replicate (n - 2) n)] h = .ok (wi (prodN (List.replicate (n - 2) n) 1)) h := s_product (k + 2) fun x hx => by unfold Lo; rw [List.eq_of_mem_replicate hx]; omega
  have b : ∀ h, callF fs (k + 3) 101 [.lst ((List.replicate (n - 2) n).map wi)] h = .ok (wi (prodN (List.replicate (n - 2) n) 1)) h := b
  have t2 : ((n : Int) - 2).toNat = n - 2 := by omega
  have ir : inRng ((n : Int) - 2) = true := by
    unfold inRng two62
    rw [decide_eq_true (by omega), decide_eq_true (by omega)]; rfl
  have m : ∀ h, bop .mul (.lst [wi n]) (.int ((n : Int) - 2)) h = some (.lst ((List.replicate (n - 2) n).map wi)) := fun h => by
    show (if 1 * ((n : Int) - 2).toNat ≤ lim ∧ inRng ((n : Int) - 2) = true then some (RL.W.lst (rept ((n : Int) - 2).toNat [wi n])) else none) = _
    rw [if_pos ⟨by omega, ir⟩, t2, rept_wi]
  have lw : RL.W.lowrs 0 ((List.replicate (n - 2) n).map wi) = true := lowrs_map (fun _ => rfl) _
  rw [callF_body (fs := fs) (fn := f123_whole_rows) rfl rfl]
  simp only [f123_whole_rows, evSs, evS, evE, evEs, evCs, evIt, evT, evOe, rb_ok, rb_ex, rs_ok, rs_ex, ro_some, ro_h, rn_ok, sb_nx, sb_rt, sb_br, sb_ct, sb_ex, st_nx, st_ct, st_br, st_rt, st_ex, so_nx, so_rt, so_ex, List.map_cons, List.map_nil, List.replicate, List.cons_append, List.nil_append, List.getElem?_cons_zero, List.getElem?_cons_succ, bA, bS, cL, cLe, cG, cGe, cEi, cNi, cEb, cNb, cEt, cEl, cEo, cNt, cNl, cNo, cIs, cIsn, qLen, qSum, qSuml, qSort, qAll, qAny, qTup, qLst, qMaxl, qMinl, qMax, qMin, qItI, qItB, qItT, qInI, qInB, iT, iL, iF, iO, jL, jO, vT, vL, vF, vO, zT, zL, zTI, ztT, ztL, ztO, ztTI, ztLI, ztLB, ztLT, zTT, aB, aI, qItTI, qItTT, iTI, iTT, iLI, jLI, vTI, vTT, vLI, fTT, fLT, fLB, iLT, jLT, vLT, iLB, jLB, vLB, cElT, cNlT, cElI, cEtI, cEtT, cNlI, cNtI, cNtT, fV, kV, metAs, metAt, bindT, setsE, RL.kill, List.set_cons_zero, List.set_cons_succ, Option.map_some, Option.bind_some, Option.getD_none, Option.getD_some, if_true, if_false, Bool.false_eq_true, Bool.not_true, Bool.not_false, a, m, b, cp_non, cp_int, lw, RL.W.lowrs, RL.W.lowr, Bool.and_self]
def top : Nat := facN 60 + 1
theorem fac_few : ((rngF 61 0).all fun n => Nat.blt (facN n) top) = true := by decide +kernel
theorem top_log : Nat.log2 top < 9000 := by decide +kernel
theorem log_mono {a b : Nat} (h : a ≤ b) : Nat.log2 a ≤ Nat.log2 b := by
  by_cases z : a = 0
  · rw [z]; exact Nat.zero_le _
  · exact (Nat.le_log2 (by omega)).mpr (Nat.le_trans (Nat.log2_self_le z) h)
theorem cho_few {n : Nat} (hn : n ≤ 60) (f : Int) : choN n f < top := by
  have a : facN n < top := Nat.blt_eq.mp (List.all_eq_true.mp fac_few n (by rw [rngF_eq, List.mem_range'_1]; omega))
  unfold choN
  split
  · exact Nat.lt_of_le_of_lt (Nat.le_trans (Nat.div_le_self _ _) (Nat.div_le_self _ _)) a
  · exact Nat.lt_of_le_of_lt (Nat.zero_le _) a
theorem log_few {a : Nat} (h : a < top) : wlog (a : Int) = true := by
  unfold wlog
  rw [Int.natAbs_natCast]
  exact decide_eq_true (Nat.lt_of_le_of_lt (log_mono (Nat.le_of_lt h)) top_log)
theorem s_with_lots (k : Nat) {n : Nat} (h1 : 1 ≤ n) (h2 : n ≤ 60) {f : Nat} (hf : f ≤ 61) (h : Hs) : callF fs (k + 4) 127 [wi n, wi f] h = .ok (wi (choN n f * choN n ((f : Int) - 1) / n)) h := by
  have a : ∀ h, callF fs (k + 3) 121 [wi n] h = .ok .non h := s_need k h1 h2
  have b : ∀ h, callF fs (k + 3) 14 [wi f, .int 0, .int (60 + 1)] h = .ok (.bl true) h := fun h => by
    have := s_among (fs := fs) rfl rfl (k + 1) (f : Int) 0 (60 + 1) h
    rw [decide_eq_true (by omega), decide_eq_true (by omega)] at this
    exact this
  have c1 : ∀ h, callF fs (k + 3) 126 [wi n, wi f] h = .ok (wi (choN n f)) h := s_chosen k (by omega) f
  have c2 : ∀ h, callF fs (k + 3) 126 [wi n, .int ((f : Int) - 1)] h = .ok (wi (choN n ((f : Int) - 1))) h := s_chosen k (by omega) _
  obtain ⟨A, hA⟩ : ∃ A : Int, A = (choN n f : Int) := ⟨_, rfl⟩
  obtain ⟨B, hB⟩ : ∃ B : Int, B = (choN n ((f : Int) - 1) : Int) := ⟨_, rfl⟩
  have wA : wlog A = true := by rw [hA]; exact log_few (cho_few h2 _)
  have wB : wlog B = true := by rw [hB]; exact log_few (cho_few h2 _)
  have d : ∀ h, bop .fdiv (.int (A * B)) (wi n) h = some (wi (choN n f * choN n ((f : Int) - 1) / n)) := fun h => by
    rw [hA, hB, ← Int.natCast_mul]
    exact fdiv_wi (by omega) h
  have c1 : ∀ h, callF fs (k + 3) 126 [wi n, wi f] h = .ok (.int A) h := by rw [hA]; exact c1
  have c2 : ∀ h, callF fs (k + 3) 126 [wi n, .int ((f : Int) - 1)] h = .ok (.int B) h := by rw [hB]; exact c2
  have m : ∀ h, bop .mul (.int A) (.int B) h = some (.int (A * B)) := fun h => by
    show (if (small A || small B || (wlog A && wlog B)) = true then some (RL.W.int (A * B)) else none) = _
    rw [wA, wB, Bool.and_self, Bool.or_true, if_pos rfl]
  obtain ⟨r, hr⟩ : ∃ r : RL.W, r = wi (choN n f * choN n ((f : Int) - 1) / n) := ⟨_, rfl⟩
  rw [← hr] at d ⊢
  rw [callF_body (fs := fs) (fn := f127_with_lots) rfl rfl]
  simp only [f127_with_lots, evSs, evS, evE, evEs, evCs, evIt, evT, evOe, rb_ok, rb_ex, rs_ok, rs_ex, ro_some, ro_h, rn_ok, sb_nx, sb_rt, sb_br, sb_ct, sb_ex, st_nx, st_ct, st_br, st_rt, st_ex, so_nx, so_rt, so_ex, List.map_cons, List.map_nil, List.replicate, List.cons_append, List.nil_append, List.getElem?_cons_zero, List.getElem?_cons_succ, bA, bS, cL, cLe, cG, cGe, cEi, cNi, cEb, cNb, cEt, cEl, cEo, cNt, cNl, cNo, cIs, cIsn, qLen, qSum, qSuml, qSort, qAll, qAny, qTup, qLst, qMaxl, qMinl, qMax, qMin, qItI, qItB, qItT, qInI, qInB, iT, iL, iF, iO, jL, jO, vT, vL, vF, vO, zT, zL, zTI, ztT, ztL, ztO, ztTI, ztLI, ztLB, ztLT, zTT, aB, aI, qItTI, qItTT, iTI, iTT, iLI, jLI, vTI, vTT, vLI, fLI, fTI, fTT, fLT, fLB, iLT, jLT, vLT, iLB, jLB, vLB, cElT, cNlT, cElI, cEtI, cEtT, cNlI, cNtI, cNtT, fV, kV, metAs, metAt, bindT, setsE, RL.kill, List.set_cons_zero, List.set_cons_succ, Option.map_some, Option.bind_some, Option.getD_none, Option.getD_some, if_true, if_false, Bool.false_eq_true, Bool.not_true, Bool.not_false, a, b, c1, c2, m, d, cp_non, cp_b, cp_int, RL.W.lowrs, RL.W.lowr, Bool.and_self]
theorem s_rising (k : Nat) {n m : Nat} (h1 : 1 ≤ n) (h2 : n ≤ 60) (m1 : 1 ≤ m) (m2 : m ≤ 60) (h : Hs) : callF fs (k + 4) 133 [wi n, wi m] h = .ok (wi (choN ((m + 1) * n) n / (m * n + 1))) h := by
  have a : ∀ h, callF fs (k + 3) 121 [wi n] h = .ok .non h := s_need k h1 h2
  have b : ∀ h, callF fs (k + 3) 14 [wi m, .int 1, .int 60] h = .ok (.bl true) h := fun h => by
    have := s_among (fs := fs) rfl rfl (k + 1) (m : Int) 1 60 h
    rw [decide_eq_true (by omega), decide_eq_true (by omega)] at this
    exact this
  have few : (m + 1) * n ≤ 4000 := Nat.le_trans (Nat.mul_le_mul (show m + 1 ≤ 61 by omega) h2) (by decide)
  have q1 : ∀ h, bop .mul (.int ((m : Int) + 1)) (wi n) h = some (wi ((m + 1) * n)) := fun h => mul_wi (a := m + 1) (b := n) (by unfold Lo; omega) h
  have q2 : ∀ h, bop .mul (wi m) (wi n) h = some (wi (m * n)) := fun h => mul_wi (a := m) (b := n) (by unfold Lo; omega) h
  have c1 : ∀ h, callF fs (k + 3) 126 [wi ((m + 1) * n), wi n] h = .ok (wi (choN ((m + 1) * n) n)) h := s_chosen k few n
  have d : ∀ h, bop .fdiv (wi (choN ((m + 1) * n) n)) (.int (((m * n : Nat) : Int) + 1)) h = some (wi (choN ((m + 1) * n) n / (m * n + 1))) := fun h => fdiv_wi (b := m * n + 1) (by omega) h
  obtain ⟨r, hr⟩ : ∃ r : RL.W, r = wi (choN ((m + 1) * n) n / (m * n + 1)) := ⟨_, rfl⟩
  rw [← hr] at d ⊢
  obtain ⟨P, hP⟩ : ∃ P : Int, P = (((m + 1) * n : Nat) : Int) := ⟨_, rfl⟩
  have q1 : ∀ h, bop .mul (.int ((m : Int) + 1)) (wi n) h = some (.int P) := by rw [hP]; exact q1
  obtain ⟨C, hC⟩ : ∃ C : Int, C = ((choN ((m + 1) * n) n : Nat) : Int) := ⟨_, rfl⟩
  have c1 : ∀ h, callF fs (k + 3) 126 [.int P, wi n] h = .ok (.int C) h := by rw [hP, hC]; exact c1
  obtain ⟨Q, hQ⟩ : ∃ Q : Int, Q = ((m * n : Nat) : Int) := ⟨_, rfl⟩
  have q2 : ∀ h, bop .mul (wi m) (wi n) h = some (.int Q) := by rw [hQ]; exact q2
  have d : ∀ h, bop .fdiv (.int C) (.int (Q + 1)) h = some r := by rw [hC, hQ]; exact d
  clear hC hP hQ
  obtain ⟨N, hN⟩ : ∃ N : Int, N = (n : Int) := ⟨_, rfl⟩
  obtain ⟨M, hM⟩ : ∃ M : Int, M = (m : Int) := ⟨_, rfl⟩
  show callF fs (k + 4) 133 [.int (n : Int), .int (m : Int)] h = _
  have a : ∀ h, callF fs (k + 3) 121 [.int N] h = .ok .non h := by rw [hN]; exact a
  have b : ∀ h, callF fs (k + 3) 14 [.int M, .int 1, .int 60] h = .ok (.bl true) h := by rw [hM]; exact b
  have q1 : ∀ h, bop .mul (.int (M + 1)) (.int N) h = some (.int P) := by rw [hN, hM]; exact q1
  have q2 : ∀ h, bop .mul (.int M) (.int N) h = some (.int Q) := by rw [hN, hM]; exact q2
  have c1 : ∀ h, callF fs (k + 3) 126 [.int P, .int N] h = .ok (.int C) h := by rw [hN]; exact c1
  rw [← hN, ← hM]
  clear hr
  rw [callF_body (fs := fs) (fn := f133_rising) rfl rfl]
  simp only [f133_rising, evSs, evS, evE, evEs, evCs, evIt, evT, evOe, rb_ok, rb_ex, rs_ok, rs_ex, ro_some, ro_h, rn_ok, sb_nx, sb_rt, sb_br, sb_ct, sb_ex, st_nx, st_ct, st_br, st_rt, st_ex, so_nx, so_rt, so_ex, List.map_cons, List.map_nil, List.replicate, List.cons_append, List.nil_append, List.getElem?_cons_zero, List.getElem?_cons_succ, bA, bS, cL, cLe, cG, cGe, cEi, cNi, cEb, cNb, cEt, cEl, cEo, cNt, cNl, cNo, cIs, cIsn, qLen, qSum, qSuml, qSort, qAll, qAny, qTup, qLst, qMaxl, qMinl, qMax, qMin, qItI, qItB, qItT, qInI, qInB, iT, iL, iF, iO, jL, jO, vT, vL, vF, vO, zT, zL, zTI, ztT, ztL, ztO, ztTI, ztLI, ztLB, ztLT, zTT, aB, aI, qItTI, qItTT, iTI, iTT, iLI, jLI, vTI, vTT, vLI, fLI, fTI, fTT, fLT, fLB, iLT, jLT, vLT, iLB, jLB, vLB, cElT, cNlT, cElI, cEtI, cEtT, cNlI, cNtI, cNtT, fV, kV, metAs, metAt, bindT, setsE, RL.kill, List.set_cons_zero, List.set_cons_succ, Option.map_some, Option.bind_some, Option.getD_none, Option.getD_some, if_true, if_false, Bool.false_eq_true, Bool.not_true, Bool.not_false, a, b, q1, q2, c1, d, cp_non, cp_b, cp_int, RL.W.lowrs, RL.W.lowr, Bool.and_self]
/-! ### what stays -/
theorem shared_loop (cf : CF) (h : Hs) : ∀ (c b a : Nat), a ≤ 60 → b ≤ 60 → b < c → Nat.gcd b a ≤ 60 ∧
    whileF (fun ρ h => (evE cf (.cmp (.v 1) (.one .ne (.c (.int (0))))) ρ h).bind fun x h => R.of (asBl x) h) (fun ρ h => evSs cf f137_b0 ρ h) c [some (wi a), some (wi b)] h = .nx [some (wi (Nat.gcd b a)), some (wi 0)] h
  | 0, b, a, _, _, hc => absurd hc (Nat.not_lt_zero _)
  | c + 1, b, a, ha, hb, hc => by
    by_cases z : b = 0
    · subst z
      rw [Nat.gcd_zero_left]
      refine ⟨ha, ?_⟩
      have q : (((0 : Nat) : Int) == 0) = true := rfl
      simp only [whileF, evSs, evS, evE, evEs, evCs, evIt, evT, evOe, rb_ok, rb_ex, rs_ok, rs_ex, ro_some, ro_h, rn_ok, sb_nx, sb_rt, sb_br, sb_ct, sb_ex, st_nx, st_ct, st_br, st_rt, st_ex, so_nx, so_rt, so_ex, List.map_cons, List.map_nil, List.replicate, List.cons_append, List.nil_append, List.getElem?_cons_zero, List.getElem?_cons_succ, bA, bS, cL, cLe, cG, cGe, cEi, cNi, cEb, cNb, cEt, cEl, cEo, cNt, cNl, cNo, cIs, cIsn, qLen, qSum, qSuml, qSort, qAll, qAny, qTup, qLst, qMaxl, qMinl, qMax, qMin, qItI, qItB, qItT, qInI, qInB, iT, iL, iF, iO, jL, jO, vT, vL, vF, vO, zT, zL, zTI, ztT, ztL, ztO, ztTI, ztLI, ztLB, ztLT, zTT, aB, aI, qItTI, qItTT, iTI, iTT, iLI, jLI, vTI, vTT, vLI, fLI, fTI, fTT, fLT, fLB, iLT, jLT, vLT, iLB, jLB, vLB, cElT, cNlT, cElI, cEtI, cEtT, cNlI, cNtI, cNtT, fV, kV, metAs, metAt, bindT, setsE, RL.kill, List.set_cons_zero, List.set_cons_succ, Option.map_some, Option.bind_some, Option.getD_none, Option.getD_some, if_true, if_false, Bool.false_eq_true, Bool.not_true, Bool.not_false, q]
    · have q : (((b : Nat) : Int) == 0) = false := beq_eq_false_iff_ne.mpr (by omega)
      have md : ∀ h, bop .mod (wi a) (wi b) h = some (wi (a % b)) := fun h => by
        show (if 0 < (b : Int) then some (RL.W.int ((a : Int) % (b : Int))) else none) = _
        rw [if_pos (by omega)]
        rfl
      have lt := Nat.mod_lt a (show b > 0 by omega)
      obtain ⟨hg, e⟩ := shared_loop cf h c (a % b) b hb (by omega) (by omega)
      rw [Nat.gcd_rec b a]
      refine ⟨hg, ?_⟩
      rw [← e]
      simp only [whileF, f137_b0, evSs, evS, evE, evEs, evCs, evIt, evT, evOe, rb_ok, rb_ex, rs_ok, rs_ex, ro_some, ro_h, rn_ok, sb_nx, sb_rt, sb_br, sb_ct, sb_ex, st_nx, st_ct, st_br, st_rt, st_ex, so_nx, so_rt, so_ex, List.map_cons, List.map_nil, List.replicate, List.cons_append, List.nil_append, List.getElem?_cons_zero, List.getElem?_cons_succ, bA, bS, cL, cLe, cG, cGe, cEi, cNi, cEb, cNb, cEt, cEl, cEo, cNt, cNl, cNo, cIs, cIsn, qLen, qSum, qSuml, qSort, qAll, qAny, qTup, qLst, qMaxl, qMinl, qMax, qMin, qItI, qItB, qItT, qInI, qInB, iT, iL, iF, iO, jL, jO, vT, vL, vF, vO, zT, zL, zTI, ztT, ztL, ztO, ztTI, ztLI, ztLB, ztLT, zTT, aB, aI, qItTI, qItTT, iTI, iTT, iLI, jLI, vTI, vTT, vLI, fLI, fTI, fTT, fLT, fLB, iLT, jLT, vLT, iLB, jLB, vLB, cElT, cNlT, cElI, cEtI, cEtT, cNlI, cNtI, cNtT, fV, kV, metAs, metAt, bindT, setsE, RL.kill, List.set_cons_zero, List.set_cons_succ, Option.map_some, Option.bind_some, Option.getD_none, Option.getD_some, if_true, if_false, Bool.false_eq_true, Bool.not_true, Bool.not_false, q, md, RS.turn]
theorem s_shared (k : Nat) {a b : Nat} (ha : a ≤ 60) (hb : b ≤ 60) : Nat.gcd b a ≤ 60 ∧ ∀ h, callF fs (k + 1) 137 [wi a, wi b] h = .ok (wi (Nat.gcd b a)) h := by
  refine ⟨(shared_loop (callF fs k) [] 100000 b a ha hb (by omega)).1, fun h => ?_⟩
  obtain ⟨_, e⟩ := shared_loop (callF fs k) h 100000 b a ha hb (by omega)
  have q : evS (callF fs k) (.whil 100000 (.cmp (.v 1) (.one .ne (.c (.int (0))))) f137_b0) [some (wi a), some (wi b)] h = .nx [some (wi (Nat.gcd b a)), some (wi 0)] h := e
  rw [callF_body (fs := fs) (fn := f137_shared) rfl rfl]
  show (evSs (callF fs k) (.cons (.whil 100000 (.cmp (.v 1) (.one .ne (.c (.int (0))))) f137_b0) (.cons (.ret (.v 0)) .nil)) [some (wi a), some (wi b)] h).out = _
  rw [ev_cons, q]
  rfl
def stayN (n b : Nat) : Nat := if b = 0 then halfN n else choN (2 * Nat.gcd b n) (Nat.gcd b n)
theorem s_stay (k : Nat) {n b : Nat} (h1 : 1 ≤ n) (h2 : n ≤ 60) (hb : b < n) (h : Hs) : callF fs (k + 4) 138 [wi n, wi b] h = .ok (wi (stayN n b)) h := by
  have a : ∀ h, callF fs (k + 3) 121 [wi n] h = .ok .non h := s_need k h1 h2
  have am : ∀ h, callF fs (k + 3) 14 [wi b, .int 0, .int ((n : Int) - 1)] h = .ok (.bl true) h := fun h => by
    have := s_among (fs := fs) rfl rfl (k + 1) (b : Int) 0 ((n : Int) - 1) h
    rw [decide_eq_true (by omega), decide_eq_true (by omega)] at this
    exact this
  obtain ⟨g6, sh⟩ := s_shared (k + 2) (a := n) (b := b) h2 (by omega)
  obtain ⟨g, hg⟩ : ∃ g, g = Nat.gcd b n := ⟨_, rfl⟩
  rw [← hg] at g6 sh
  have hv : ∀ h, callF fs (k + 3) 103 [wi n] h = .ok (wi (halfN n)) h := s_halves k h2
  have m : ∀ h, bop .mul (.int 2) (wi g) h = some (wi (2 * g)) := fun h => mul_wi (a := 2) (b := g) (by unfold Lo; omega) h
  have c1 : ∀ h, callF fs (k + 3) 126 [wi (2 * g), wi g] h = .ok (wi (choN (2 * g) g)) h := s_chosen k (by omega) g
  rw [callF_body (fs := fs) (fn := f138_stay) rfl rfl]
  unfold stayN
  rw [← hg]
  by_cases z : b = 0
  · have q : (((b : Nat) : Int) == 0) = true := by rw [z]; rfl
    rw [if_pos z]
    simp only [f138_stay, evSs, evS, evE, evEs, evCs, evIt, evT, evOe, rb_ok, rb_ex, rs_ok, rs_ex, ro_some, ro_h, rn_ok, sb_nx, sb_rt, sb_br, sb_ct, sb_ex, st_nx, st_ct, st_br, st_rt, st_ex, so_nx, so_rt, so_ex, List.map_cons, List.map_nil, List.replicate, List.cons_append, List.nil_append, List.getElem?_cons_zero, List.getElem?_cons_succ, bA, bS, cL, cLe, cG, cGe, cEi, cNi, cEb, cNb, cEt, cEl, cEo, cNt, cNl, cNo, cIs, cIsn, qLen, qSum, qSuml, qSort, qAll, qAny, qTup, qLst, qMaxl, qMinl, qMax, qMin, qItI, qItB, qItT, qInI, qInB, iT, iL, iF, iO, jL, jO, vT, vL, vF, vO, zT, zL, zTI, ztT, ztL, ztO, ztTI, ztLI, ztLB, ztLT, zTT, aB, aI, qItTI, qItTT, iTI, iTT, iLI, jLI, vTI, vTT, vLI, fLI, fTI, fTT, fLT, fLB, iLT, jLT, vLT, iLB, jLB, vLB, cElT, cNlT, cElI, cEtI, cEtT, cNlI, cNtI, cNtT, fV, kV, metAs, metAt, bindT, setsE, RL.kill, List.set_cons_zero, List.set_cons_succ, Option.map_some, Option.bind_some, Option.getD_none, Option.getD_some, if_true, if_false, Bool.false_eq_true, Bool.not_true, Bool.not_false, a, am, sh, hv, q, cp_non, cp_b, cp_int, RL.W.lowrs, RL.W.lowr, Bool.and_self]
  · have q : (((b : Nat) : Int) == 0) = false := beq_eq_false_iff_ne.mpr (by omega)
    rw [if_neg z]
    simp only [f138_stay, evSs, evS, evE, evEs, evCs, evIt, evT, evOe, rb_ok, rb_ex, rs_ok, rs_ex, ro_some, ro_h, rn_ok, sb_nx, sb_rt, sb_br, sb_ct, sb_ex, st_nx, st_ct, st_br, st_rt, st_ex, so_nx, so_rt, so_ex, List.map_cons, List.map_nil, List.replicate, List.cons_append, List.nil_append, List.getElem?_cons_zero, List.getElem?_cons_succ, bA, bS, cL, cLe, cG, cGe, cEi, cNi, cEb, cNb, cEt, cEl, cEo, cNt, cNl, cNo, cIs, cIsn, qLen, qSum, qSuml, qSort, qAll, qAny, qTup, qLst, qMaxl, qMinl, qMax, qMin, qItI, qItB, qItT, qInI, qInB, iT, iL, iF, iO, jL, jO, vT, vL, vF, vO, zT, zL, zTI, ztT, ztL, ztO, ztTI, ztLI, ztLB, ztLT, zTT, aB, aI, qItTI, qItTT, iTI, iTT, iLI, jLI, vTI, vTT, vLI, fLI, fTI, fTT, fLT, fLB, iLT, jLT, vLT, iLB, jLB, vLB, cElT, cNlT, cElI, cEtI, cEtT, cNlI, cNtI, cNtT, fV, kV, metAs, metAt, bindT, setsE, RL.kill, List.set_cons_zero, List.set_cons_succ, Option.map_some, Option.bind_some, Option.getD_none, Option.getD_some, if_true, if_false, Bool.false_eq_true, Bool.not_true, Bool.not_false, a, am, sh, m, c1, q, cp_non, cp_b, cp_int, RL.W.lowrs, RL.W.lowr, Bool.and_self]
/-! ### lots of given sizes -/
theorem count_few (u : RL.W) : ∀ ws : List RL.W, ∃ c : Nat, c ≤ ws.length ∧ countIn u ws = (c : Int)
  | [] => ⟨0, Nat.le_refl _, rfl⟩
  | x :: ws => by
    obtain ⟨c, h1, h2⟩ := count_few u ws
    have e : countIn u (x :: ws) = b2i (RL.W.eqv x u) + countIn u ws := rfl
    cases z : RL.W.eqv x u with
    | true => exact ⟨c + 1, Nat.succ_le_succ h1, by rw [e, z, h2]; show (1 : Int) + c = _; omega⟩
    | false => exact ⟨c, Nat.le_succ_of_le h1, by rw [e, z, h2]; show (0 : Int) + c = _; omega⟩
def Sizes (ws : List Nat) : Prop := 1 ≤ ws.length ∧ ws.length ≤ 10 ∧ ∀ w ∈ ws, 1 ≤ w ∧ w ≤ 6
theorem sum_wi : ∀ l : List Nat, sumI (l.map wi) = some ((l.sum : Nat) : Int)
  | [] => rfl
  | x :: l => by
    show ((asInt (wi x)).bind fun i => (sumI (l.map wi)).map fun s => i + s) = _
    rw [sum_wi l, List.sum_cons]
    show some ((x : Int) + ((l.sum : Nat) : Int)) = _
    rw [Int.natCast_add]
theorem sum_le : ∀ {l : List Nat}, (∀ w ∈ l, 1 ≤ w ∧ w ≤ 6) → l.length ≤ l.sum ∧ l.sum ≤ 6 * l.length
  | [], _ => ⟨Nat.le_refl 0, Nat.zero_le (6 * 0)⟩
  | x :: l, h => by
    have ih := sum_le (l := l) fun w hw => h w (List.mem_cons_of_mem _ hw)
    have := h x List.mem_cons_self
    rw [List.sum_cons, (List.length_cons)]
    omega
theorem all_yes {α : Type} : ∀ l : List α, allB ((l.map fun _ => true).map RL.W.bl) = some true
  | [] => rfl
  | w :: l => by
    rw [List.map_cons, List.map_cons, allB, all_yes l]
    rfl
theorem s_are_sizes (k : Nat) {ws : List Nat} (o : Sizes ws) (h : Hs) : callF fs (k + 3) 128 [tJ ws] h = .ok (.bl true) h := by
  obtain ⟨l1, l2, all⟩ := o
  have sl := sum_le all
  have tu : ∀ h, blt .istup [tJ ws] h = some (.bl true) := fun _ => rfl
  have le : ∀ h, blt .len [tJ ws] h = some (wi ws.length) := fun h => by
    show some (RL.W.int (((ws.map wi).length : Nat) : Int)) = _
    rw [List.length_map]
  have su : ∀ h, blt .sum [tJ ws] h = some (wi ws.sum) := fun h => by
    show (((some (ws.map wi)).bind sumI).map RL.W.int) = _
    rw [Option.bind_some, sum_wi]
    rfl
  have g1 : decide ((1 : Int) ≤ (ws.length : Int)) = true := decide_eq_true (by omega)
  have g2 : decide ((ws.length : Int) ≤ 60) = true := decide_eq_true (by omega)
  have g3 : decide (((ws.sum : Nat) : Int) ≤ 60) = true := decide_eq_true (by omega)
  rw [callF_body (fs := fs) (fn := f128_are_sizes) rfl rfl]
  simp only [f128_are_sizes, evSs, evS, evE, evEs, evCs, evIt, evT, evOe, rb_ok, rb_ex, rs_ok, rs_ex, ro_some, ro_h, rn_ok, sb_nx, sb_rt, sb_br, sb_ct, sb_ex, st_nx, st_ct, st_br, st_rt, st_ex, so_nx, so_rt, so_ex, List.map_cons, List.map_nil, List.replicate, List.cons_append, List.nil_append, List.getElem?_cons_zero, List.getElem?_cons_succ, bA, bS, cL, cLe, cG, cGe, cEi, cNi, cEb, cNb, cEt, cEl, cEo, cNt, cNl, cNo, cIs, cIsn, qLen, qSum, qSuml, qSort, qAll, qAny, qTup, qLst, qMaxl, qMinl, qMax, qMin, qItI, qItB, qItT, qInI, qInB, iT, iL, iF, iO, jL, jO, vT, vL, vF, vO, zT, zL, zTI, ztT, ztL, ztO, ztTI, ztLI, ztLB, ztLT, zTT, aB, aI, qItTI, qItTT, iTI, iTT, iLI, jLI, vTI, vTT, vLI, fLI, fTI, fTT, fLT, fLB, iLT, jLT, vLT, iLB, jLB, vLB, cElT, cNlT, cElI, cEtI, cEtT, cNlI, cNtI, cNtT, fV, kV, metAs, metAt, bindT, setsE, RL.kill, List.set_cons_zero, List.set_cons_succ, Option.map_some, Option.bind_some, Option.getD_none, Option.getD_some, if_true, if_false, Bool.false_eq_true, Bool.not_true, Bool.not_false, tu, le, g1, g2]
  rw [compL_map wi RL.W.bl (fun _ => some true)]
  · rw [filterMap_some]
    have at_ := all_yes ws
    have imT : ∀ h, itemsT h (tJ ws) = some (ws.map wi) := fun _ => rfl
    have sw := sum_wi ws
    simp only [evSs, evS, evE, evEs, evCs, evIt, evT, evOe, rb_ok, rb_ex, rs_ok, rs_ex, ro_some, ro_h, rn_ok, sb_nx, sb_rt, sb_br, sb_ct, sb_ex, st_nx, st_ct, st_br, st_rt, st_ex, so_nx, so_rt, so_ex, List.map_cons, List.map_nil, List.replicate, List.cons_append, List.nil_append, List.getElem?_cons_zero, List.getElem?_cons_succ, bA, bS, cL, cLe, cG, cGe, cEi, cNi, cEb, cNb, cEt, cEl, cEo, cNt, cNl, cNo, cIs, cIsn, qLen, qSum, qSuml, qSort, qAll, qAny, qTup, qLst, qMaxl, qMinl, qMax, qMin, qItI, qItB, qItT, qInI, qInB, iT, iL, iF, iO, jL, jO, vT, vL, vF, vO, zT, zL, zTI, ztT, ztL, ztO, ztTI, ztLI, ztLB, ztLT, zTT, aB, aI, qItTI, qItTT, iTI, iTT, iLI, jLI, vTI, vTT, vLI, fLI, fTI, fTT, fLT, fLB, iLT, jLT, vLT, iLB, jLB, vLB, cElT, cNlT, cElI, cEtI, cEtT, cNlI, cNtI, cNtT, fV, kV, metAs, metAt, bindT, setsE, RL.kill, List.set_cons_zero, List.set_cons_succ, Option.map_some, Option.bind_some, Option.getD_none, Option.getD_some, if_true, if_false, Bool.false_eq_true, Bool.not_true, Bool.not_false, at_, imT, sw, g3]
  · intro w hw
    have b := all w hw
    have a : ∀ h, callF fs (k + 2) 14 [wi w, .int 1, .int 60] h = .ok (.bl true) h := fun h => by
      have := s_among (fs := fs) rfl rfl k (w : Int) 1 60 h
      rw [decide_eq_true (by omega), decide_eq_true (by omega)] at this
      exact this
    simp only [turnF, evSs, evS, evE, evEs, evCs, evIt, evT, evOe, rb_ok, rb_ex, rs_ok, rs_ex, ro_some, ro_h, rn_ok, sb_nx, sb_rt, sb_br, sb_ct, sb_ex, st_nx, st_ct, st_br, st_rt, st_ex, so_nx, so_rt, so_ex, List.map_cons, List.map_nil, List.replicate, List.cons_append, List.nil_append, List.getElem?_cons_zero, List.getElem?_cons_succ, bA, bS, cL, cLe, cG, cGe, cEi, cNi, cEb, cNb, cEt, cEl, cEo, cNt, cNl, cNo, cIs, cIsn, qLen, qSum, qSuml, qSort, qAll, qAny, qTup, qLst, qMaxl, qMinl, qMax, qMin, qItI, qItB, qItT, qInI, qInB, iT, iL, iF, iO, jL, jO, vT, vL, vF, vO, zT, zL, zTI, ztT, ztL, ztO, ztTI, ztLI, ztLB, ztLT, zTT, aB, aI, qItTI, qItTT, iTI, iTT, iLI, jLI, vTI, vTT, vLI, fLI, fTI, fTT, fLT, fLB, iLT, jLT, vLT, iLB, jLB, vLB, cElT, cNlT, cElI, cEtI, cEtT, cNlI, cNtI, cNtT, fV, kV, metAs, metAt, bindT, setsE, RL.kill, List.set_cons_zero, List.set_cons_succ, Option.map_some, Option.bind_some, Option.getD_none, Option.getD_some, if_true, if_false, Bool.false_eq_true, Bool.not_true, Bool.not_false, a, cp_b, RL.W.lowrs, RL.W.lowr, Bool.and_self]
theorem sizes_walk (k : Nat) {ws : List Nat} (o : Sizes ws) (x1 : Option RL.W) (h : Hs) : ∀ (l : List Int) (f : Nat) (x3 : Option RL.W), ∃ (g : Nat) (y3 : Option RL.W), ∀ h, forL (bodyF (fun ρ h => evSs (callF fs (k + 2)) f351_b0 ρ h) [3]) (l.map .int) [some (tJ ws), x1, some (wi f), x3] h = .nx [some (tJ ws), x1, some (wi g), y3] h
  | [], f, x3 => ⟨f, x3, fun _ => rfl⟩
  | x :: l, f, x3 => by
    obtain ⟨c, c1, c2⟩ := count_few (.int x) (ws.map wi)
    rw [List.length_map] at c1
    have c10 : c ≤ 10 := Nat.le_trans c1 o.2.1
    obtain ⟨g, y3, e⟩ := sizes_walk k o x1 h l (f / facN c) (some (.int x))
    refine ⟨g, y3, fun h => ?_⟩
    have mc : ∀ h, meth .tcount (tJ ws) [.int x] h = some (wi c, h) := fun h => by
      show (if (RL.W.data dep (.int x) && RL.W.datas dep (ws.map wi)) = true then some (RL.W.int (countIn (.int x) (ws.map wi)), h) else none) = _
      rw [datas_ints, show RL.W.data dep (.int x) = true from rfl, Bool.and_self, if_pos rfl, c2]
    have mt : metTp (tJ ws) = some () := rfl
    have od : ∀ h, callF fs (k + 2) 102 [wi c] h = .ok (wi (facN c)) h := s_orders k (by omega)
    have d := fun h => fdiv_wi (a := f) (fac_pos c) h
    have b : bodyF (fun ρ h => evSs (callF fs (k + 2)) f351_b0 ρ h) [3] (.int x) [some (tJ ws), x1, some (wi f), x3] h = .nx [some (tJ ws), x1, some (wi (f / facN c)), some (.int x)] h := by
      simp only [bodyF, f351_b0, evSs, evS, evE, evEs, evCs, evIt, evT, evOe, rb_ok, rb_ex, rs_ok, rs_ex, ro_some, ro_h, rn_ok, sb_nx, sb_rt, sb_br, sb_ct, sb_ex, st_nx, st_ct, st_br, st_rt, st_ex, so_nx, so_rt, so_ex, List.map_cons, List.map_nil, List.replicate, List.cons_append, List.nil_append, List.getElem?_cons_zero, List.getElem?_cons_succ, bA, bS, cL, cLe, cG, cGe, cEi, cNi, cEb, cNb, cEt, cEl, cEo, cNt, cNl, cNo, cIs, cIsn, qLen, qSum, qSuml, qSort, qAll, qAny, qTup, qLst, qMaxl, qMinl, qMax, qMin, qItI, qItB, qItT, qInI, qInB, iT, iL, iF, iO, jL, jO, vT, vL, vF, vO, zT, zL, zTI, ztT, ztL, ztO, ztTI, ztLI, ztLB, ztLT, zTT, aB, aI, qItTI, qItTT, iTI, iTT, iLI, jLI, vTI, vTT, vLI, fLI, fTI, fTT, fLT, fLB, iLT, jLT, vLT, iLB, jLB, vLB, cElT, cNlT, cElI, cEtI, cEtT, cNlI, cNtI, cNtT, fV, kV, metAs, metAt, bindT, setsE, RL.kill, List.set_cons_zero, List.set_cons_succ, Option.map_some, Option.bind_some, Option.getD_none, Option.getD_some, if_true, if_false, Bool.false_eq_true, Bool.not_true, Bool.not_false, mc, mt, od, d, cp_int, RL.W.lowrs, RL.W.lowr, Bool.and_self]
    rw [List.map_cons, forL, b, st_nx, e]
theorem s_with_sizes (k : Nat) {ws : List Nat} (o : Sizes ws) : ∃ g : Nat, ∀ h, callF fs (k + 4) 351 [tJ ws] h = .ok (wi g) h := by
  obtain ⟨l1, l2, all⟩ := id o
  have sl := sum_le all
  have ar : ∀ h, callF fs (k + 3) 128 [tJ ws] h = .ok (.bl true) h := s_are_sizes k o
  have le : ∀ h, blt .len [tJ ws] h = some (wi ws.length) := fun h => by
    show some (RL.W.int (((ws.map wi).length : Nat) : Int)) = _
    rw [List.length_map]
  have su : ∀ h, blt .sum [tJ ws] h = some (wi ws.sum) := fun h => by
    show (((some (ws.map wi)).bind sumI).map RL.W.int) = _
    rw [Option.bind_some, sum_wi]
    rfl
  have o1 : ∀ h, callF fs (k + 3) 102 [wi ws.sum] h = .ok (wi (facN ws.sum)) h := s_orders (k + 1) (by omega)
  have o2 : ∀ h, callF fs (k + 3) 102 [.int (((ws.sum : Nat) : Int) + 1 - (ws.length : Int))] h = .ok (wi (facN (ws.sum + 1 - ws.length))) h := fun h => by
    have := s_orders (k + 1) (n := ws.sum + 1 - ws.length) (by omega) h
    rw [show (((ws.sum : Nat) : Int) + 1 - (ws.length : Int)) = ((ws.sum + 1 - ws.length : Nat) : Int) by omega]
    exact this
  have d := fun h => fdiv_wi (a := facN ws.sum) (fac_pos (ws.sum + 1 - ws.length)) h
  have ss : ssetW (tJ ws) = some (.lst ((usort (ws.map fun n : Nat => (n : Int))).map .int)) := by
    show (asInts (ws.map wi)).bind _ = _
    rw [asInts_map, Option.bind_some, if_pos (by rw [List.length_map]; omega)]
  obtain ⟨g, y3, e⟩ := sizes_walk (k + 1) o (some (wi ws.sum)) [] (usort (ws.map fun n : Nat => (n : Int))) (facN ws.sum / facN (ws.sum + 1 - ws.length)) none
  refine ⟨g, fun h => ?_⟩
  have e : forL (bodyF (fun ρ h => evSs (callF fs (k + 3)) f351_b0 ρ h) [3]) ((usort (ws.map fun n : Nat => (n : Int))).map .int) [some (tJ ws), some (wi ws.sum), some (wi (facN ws.sum / facN (ws.sum + 1 - ws.length))), none] h = .nx [some (tJ ws), some (wi ws.sum), some (wi g), y3] h := e h
  rw [callF_body (fs := fs) (fn := f351_with_sizes) rfl rfl]
  simp only [f351_with_sizes, evSs, evS, evE, evEs, evCs, evIt, evT, evOe, rb_ok, rb_ex, rs_ok, rs_ex, ro_some, ro_h, rn_ok, sb_nx, sb_rt, sb_br, sb_ct, sb_ex, st_nx, st_ct, st_br, st_rt, st_ex, so_nx, so_rt, so_ex, List.map_cons, List.map_nil, List.replicate, List.cons_append, List.nil_append, List.getElem?_cons_zero, List.getElem?_cons_succ, bA, bS, cL, cLe, cG, cGe, cEi, cNi, cEb, cNb, cEt, cEl, cEo, cNt, cNl, cNo, cIs, cIsn, qLen, qSum, qSuml, qSort, qAll, qAny, qTup, qLst, qMaxl, qMinl, qMax, qMin, qItI, qItB, qItT, qInI, qInB, iT, iL, iF, iO, jL, jO, vT, vL, vF, vO, zT, zL, zTI, ztT, ztL, ztO, ztTI, ztLI, ztLB, ztLT, zTT, aB, aI, qItTI, qItTT, iTI, iTT, iLI, jLI, vTI, vTT, vLI, fLI, fTI, fTT, fLT, fLB, iLT, jLT, vLT, iLB, jLB, vLB, cElT, cNlT, cElI, cEtI, cEtT, cNlI, cNtI, cNtT, fV, kV, metAs, metAt, bindT, setsE, RL.kill, List.set_cons_zero, List.set_cons_succ, Option.map_some, Option.bind_some, Option.getD_none, Option.getD_some, if_true, if_false, Bool.false_eq_true, Bool.not_true, Bool.not_false, ar, le, su, o1, o2, d, ss, cp_b, cp_int, RL.W.lowrs, RL.W.lowr, low_tI, Bool.and_self]
  rw [e]
  simp only [evSs, evS, evE, evEs, evCs, evIt, evT, evOe, rb_ok, rb_ex, rs_ok, rs_ex, ro_some, ro_h, rn_ok, sb_nx, sb_rt, sb_br, sb_ct, sb_ex, st_nx, st_ct, st_br, st_rt, st_ex, so_nx, so_rt, so_ex, List.map_cons, List.map_nil, List.replicate, List.cons_append, List.nil_append, List.getElem?_cons_zero, List.getElem?_cons_succ, bA, bS, cL, cLe, cG, cGe, cEi, cNi, cEb, cNb, cEt, cEl, cEo, cNt, cNl, cNo, cIs, cIsn, qLen, qSum, qSuml, qSort, qAll, qAny, qTup, qLst, qMaxl, qMinl, qMax, qMin, qItI, qItB, qItT, qInI, qInB, iT, iL, iF, iO, jL, jO, vT, vL, vF, vO, zT, zL, zTI, ztT, ztL, ztO, ztTI, ztLI, ztLB, ztLT, zTT, aB, aI, qItTI, qItTT, iTI, iTT, iLI, jLI, vTI, vTT, vLI, fLI, fTI, fTT, fLT, fLB, iLT, jLT, vLT, iLB, jLB, vLB, cElT, cNlT, cElI, cEtI, cEtT, cNlI, cNtI, cNtT, fV, kV, metAs, metAt, bindT, setsE, RL.kill, List.set_cons_zero, List.set_cons_succ, Option.map_some, Option.bind_some, Option.getD_none, Option.getD_some, if_true, if_false, Bool.false_eq_true, Bool.not_true, Bool.not_false]
theorem hand37 : toldB (callF fs 19 352 [] []) true = true := by decide +kernel
/-! ### all -/
section
variable {n L : Nat}
theorem draw_one {h : Hs} (p : PenOk n L h) {m : Nat} (hm : 0 < m) (hm2 : m ≤ 100) : ∃ (d : Nat) (h' : Hs), d < m ∧ PenOk n L h' ∧ callG (callF fs 19 2 [.loc n, wi m] h) h = .ok (wi d) h' := by
  obtain ⟨d, h', e, l, p'⟩ := draw_ok (fs := fs) rfl 18 p (m := m) (m : Int) rfl hm (by omega)
  exact ⟨d, h', l, p', e⟩
end
theorem lap37 (ns : List Int) (j : Nat) (x2 x3 x4 x5 x6 x7 x8 : Option RL.W) {h : Hs} (cl : Clean h) : ∃ y2 y3 y4 y5 y6 y7 y8 h', Clean h' ∧
    evSs (callF fs 19) f353_b0 [some (.fr (ns.map .int)), some (wi j), x2, x3, x4, x5, x6, x7, x8] h = .nx [some (.fr (ns.map .int)), some (wi j), y2, y3, y4, y5, y6, y7, y8] h' := by
  have lim0 : lim = 100000 := rfl
  obtain ⟨h1, p1, e1⟩ := new_pen (fs := fs) rfl rfl 18 ns j [x3, x4, x5, x6, x7, x8] x2 cl
  obtain ⟨n, hn⟩ : ∃ n, n = h.length := ⟨_, rfl⟩
  rw [← hn] at p1 e1
  obtain ⟨d1, h2, l2, p2, e2⟩ := draw_one p1 (m := 60) (by omega) (by omega)
  obtain ⟨f, h3, l3, p3, e3⟩ := draw_one p2 (m := 62) (by omega) (by omega)
  obtain ⟨d3, h4, l4, p4, e4⟩ := draw_one p3 (m := 60) (by omega) (by omega)
  obtain ⟨b, h5, l5, p5, e5⟩ := draw_one p4 (m := 1 + d1) (by omega) (by omega)
  obtain ⟨d5, h6, l6, p6, e6⟩ := draw_one p5 (m := 10) (by omega) (by omega)
  obtain ⟨ws, h7, ec, tw, p7⟩ := compL_two (F := turnF (fun ρ h => evT (callF fs 19) .none ρ h) (fun ρ h => evE (callF fs 19) (.bin .add (.c (.int (1))) (.callg 2 (.cons (.v 2) (.cons (.c (.int (6))) .nil)))) ρ h) [7] [some (.fr (ns.map .int)), some (wi j), some (.loc n), some (wi (1 + d1)), some (wi f), some (wi (1 + d3)), some (wi b), x7, x8]) wi wi (PenOk n (n + 1)) (fun _ x => 1 ≤ x ∧ x ≤ 6) (l := rngF (1 + d5) 0) p6 (fun a _ h p => by
    obtain ⟨d, h', l, p', e⟩ := draw_one p (m := 6) (by omega) (by omega)
    have e : callG (callF fs 19 2 [.loc n, .int 6] h) h = .ok (wi d) h' := e
    refine ⟨1 + d, h', ?_, by omega, p'⟩
    have ad : ∀ h, bop .add (.int 1) (wi d) h = some (wi (1 + d)) := fun _ => congrArg (fun i => some (RL.W.int i)) (by push_cast; rfl)
    simp only [turnF, evSs, evS, evE, evEs, evCs, evIt, evT, evOe, rb_ok, rb_ex, rs_ok, rs_ex, ro_some, ro_h, rn_ok, sb_nx, sb_rt, sb_br, sb_ct, sb_ex, st_nx, st_ct, st_br, st_rt, st_ex, so_nx, so_rt, so_ex, List.map_cons, List.map_nil, List.replicate, List.cons_append, List.nil_append, List.getElem?_cons_zero, List.getElem?_cons_succ, bA, bS, cL, cLe, cG, cGe, cEi, cNi, cEb, cNb, cEt, cEl, cEo, cNt, cNl, cNo, cIs, cIsn, qLen, qSum, qSuml, qSort, qAll, qAny, qTup, qLst, qMaxl, qMinl, qMax, qMin, qItI, qItB, qItT, qInI, qInB, iT, iL, iF, iO, jL, jO, vT, vL, vF, vO, zT, zL, zTI, ztT, ztL, ztO, ztTI, ztLI, ztLB, ztLT, zTT, aB, aI, qItTI, qItTT, iTI, iTT, iLI, jLI, vTI, vTT, vLI, fLI, fTI, fTT, fLT, fLB, iLT, jLT, vLT, iLB, jLB, vLB, cElT, cNlT, cElI, cEtI, cEtT, cNlI, cNtI, cNtT, fV, kV, metAs, metAt, bindT, setsE, RL.kill, List.set_cons_zero, List.set_cons_succ, Option.map_some, Option.bind_some, Option.getD_none, Option.getD_some, if_true, if_false, Bool.false_eq_true, Bool.not_true, Bool.not_false, e]
    rfl)
  have wl : ws.length = 1 + d5 := by rw [tw.len, rngF_eq, List.length_range']
  have o : Sizes ws := ⟨by omega, by omega, fun w hw => by
    obtain ⟨i, hi, rfl⟩ := List.mem_iff_getElem.mp hw
    obtain ⟨_, _, r⟩ := tw.get i ws[i] (List.getElem?_eq_getElem hi)
    exact r⟩
  obtain ⟨g, wz⟩ := s_with_sizes 15 o
  have e2 : callG (callF fs 19 2 [.loc n, .int 60] h1) h1 = .ok (wi d1) h2 := e2
  have e3 : callG (callF fs 19 2 [.loc n, .int 62] h2) h2 = .ok (wi f) h3 := e3
  have e4 : callG (callF fs 19 2 [.loc n, .int 60] h3) h3 = .ok (wi d3) h4 := e4
  have e6 : callG (callF fs 19 2 [.loc n, .int 10] h5) h5 = .ok (wi d5) h6 := e6
  have c1 : (1 : Int) + (d1 : Int) = ((1 + d1 : Nat) : Int) := by push_cast; rfl
  have c3 : (1 : Int) + (d3 : Int) = ((1 + d3 : Nat) : Int) := by push_cast; rfl
  have c5 : (1 : Int) + (d5 : Int) = ((1 + d5 : Nat) : Int) := by push_cast; rfl
  obtain ⟨w, hw⟩ : ∃ w, w = 1 + d1 := ⟨_, rfl⟩
  obtain ⟨m, hm⟩ : ∃ m, m = 1 + d3 := ⟨_, rfl⟩
  rw [← hw] at c1 e5 ec l5
  rw [← hm] at c3 ec
  have rv : rngV 0 ((1 + d5 : Nat) : Int) = some ((rngF (1 + d5) 0).map wi) := rngV_nat (by omega)
  have r1 : ∀ h, callF fs 19 122 [wi w] h = .ok (wi (halfN w)) h := s_how_many 15 (by omega) (by omega)
  have r2 : ∀ h, callF fs 19 123 [wi w] h = .ok (wi (prodN (List.replicate (w - 2) w) 1)) h := s_whole_rows 15 (by omega) (by omega)
  have r3 : ∀ h, callF fs 19 127 [wi w, wi f] h = .ok (wi (choN w f * choN w ((f : Int) - 1) / w)) h := s_with_lots 15 (by omega) (by omega) (by omega)
  have r4 : ∀ h, callF fs 19 133 [wi w, wi m] h = .ok (wi (choN ((m + 1) * w) w / (m * w + 1))) h := s_rising 15 (by omega) (by omega) (by omega) (by omega)
  have r5 : ∀ h, callF fs 19 138 [wi w, wi b] h = .ok (wi (stayN w b)) h := s_stay 15 (by omega) (by omega) (by omega)
  have wz : ∀ h, callF fs 19 351 [tJ ws] h = .ok (wi g) h := wz
  have pw : ∀ a b : RL.W, permW [1, 0] [a, b] = [b, a] := fun _ _ => rfl
  have p0 : ∀ a : RL.W, permW [0] [a] = [a] := fun _ => rfl
  simp only [evSs, evS, evE, evEs, evCs, evIt, evT, evOe, rb_ok, rb_ex, rs_ok, rs_ex, ro_some, ro_h, rn_ok, sb_nx, sb_rt, sb_br, sb_ct, sb_ex, st_nx, st_ct, st_br, st_rt, st_ex, so_nx, so_rt, so_ex, List.map_cons, List.map_nil, List.replicate, List.cons_append, List.nil_append, List.getElem?_cons_zero, List.getElem?_cons_succ, bA, bS, cL, cLe, cG, cGe, cEi, cNi, cEb, cNb, cEt, cEl, cEo, cNt, cNl, cNo, cIs, cIsn, qLen, qSum, qSuml, qSort, qAll, qAny, qTup, qLst, qMaxl, qMinl, qMax, qMin, qItI, qItB, qItT, qInI, qInB, iT, iL, iF, iO, jL, jO, vT, vL, vF, vO, zT, zL, zTI, ztT, ztL, ztO, ztTI, ztLI, ztLB, ztLT, zTT, aB, aI, qItTI, qItTT, iTI, iTT, iLI, jLI, vTI, vTT, vLI, fLI, fTI, fTT, fLT, fLB, iLT, jLT, vLT, iLB, jLB, vLB, cElT, cNlT, cElI, cEtI, cEtT, cNlI, cNtI, cNtT, fV, kV, metAs, metAt, bindT, setsE, RL.kill, List.set_cons_zero, List.set_cons_succ, Option.map_some, Option.bind_some, Option.getD_none, Option.getD_some, if_true, if_false, Bool.false_eq_true, Bool.not_true, Bool.not_false] at ec
  refine ⟨some (.loc n), some (wi w), some (wi f), some (wi m), some (wi b), x7, some (tJ ws), h7, p7.2.1, ?_⟩
  rw [f353_b0, ev_cons, e1, sb_nx]
  simp only [evSs, evS, evE, evEs, evCs, evIt, evT, evOe, rb_ok, rb_ex, rs_ok, rs_ex, ro_some, ro_h, rn_ok, sb_nx, sb_rt, sb_br, sb_ct, sb_ex, st_nx, st_ct, st_br, st_rt, st_ex, so_nx, so_rt, so_ex, List.map_cons, List.map_nil, List.replicate, List.cons_append, List.nil_append, List.getElem?_cons_zero, List.getElem?_cons_succ, bA, bS, cL, cLe, cG, cGe, cEi, cNi, cEb, cNb, cEt, cEl, cEo, cNt, cNl, cNo, cIs, cIsn, qLen, qSum, qSuml, qSort, qAll, qAny, qTup, qLst, qMaxl, qMinl, qMax, qMin, qItI, qItB, qItT, qInI, qInB, iT, iL, iF, iO, jL, jO, vT, vL, vF, vO, zT, zL, zTI, ztT, ztL, ztO, ztTI, ztLI, ztLB, ztLT, zTT, aB, aI, qItTI, qItTT, iTI, iTT, iLI, jLI, vTI, vTT, vLI, fLI, fTI, fTT, fLT, fLB, iLT, jLT, vLT, iLB, jLB, vLB, cElT, cNlT, cElI, cEtI, cEtT, cNlI, cNtI, cNtT, fV, kV, metAs, metAt, bindT, setsE, RL.kill, List.set_cons_zero, List.set_cons_succ, Option.map_some, Option.bind_some, Option.getD_none, Option.getD_some, if_true, if_false, Bool.false_eq_true, Bool.not_true, Bool.not_false, e2, e3, e4, e5, e6, c1, c3, c5, rv, ec, r1, r2, r3, r4, r5, wz, pw, p0, cp_int, RL.W.lowrs, RL.W.lowr, low_tI, Bool.and_self, beq_self_eq_true, List.length_cons, List.length_nil]
theorem word : ∀ ns : List Int, ∃ h', callF fs 20 d_law.id [.fr (ns.map .int)] [] = .ok (.bl true) h' := by
  intro ns
  obtain ⟨hh, e0⟩ := toldB_ok hand37
  obtain ⟨ρ', h', ⟨⟨x1, x2, x3, x4, x5, x6, x7, x8, rfl⟩, c⟩, t⟩ := laps_at (cf := callF fs 19) 1 3 (by omega) f353_b0 ns
    (fun ρ h => (∃ x1 x2 x3 x4 x5 x6 x7 x8, ρ = [some (.fr (ns.map .int)), x1, x2, x3, x4, x5, x6, x7, x8]) ∧ Clean h)
    (fun ρ h ⟨⟨x1, x2, x3, x4, x5, x6, x7, x8, e⟩, _⟩ => by subst e; rfl)
    (fun j ρ h ⟨⟨x1, x2, x3, x4, x5, x6, x7, x8, e⟩, cl⟩ => by
      subst e
      obtain ⟨y2, y3, y4, y5, y6, y7, y8, h', c', t⟩ := lap37 ns j x2 x3 x4 x5 x6 x7 x8 cl
      exact ⟨_, h', ⟨⟨some (wi j), y2, y3, y4, y5, y6, y7, y8, rfl⟩, c'⟩, t⟩)
    (ρ := [some (.fr (ns.map .int)), none, none, none, none, none, none, none, none]) (h := []) ⟨⟨_, _, _, _, _, _, _, _, rfl⟩, fun _ m => nomatch m⟩
  refine ⟨h', ?_⟩
  show callF fs 20 353 _ _ = _
  rw [callF_body (fs := fs) (fn := f353_law) rfl rfl]
  have t : evS (callF fs 19) (.forr [1] (.rng (.blt .max (.cons (.c (.int (1))) (.cons (.blt .min (.cons (.blt .len (.cons (.v 0) .nil)) (.cons (.c (.int (3))) .nil))) .nil)))) f353_b0) [some (.fr (ns.map .int)), none, none, none, none, none, none, none, none] [] = .nx [some (.fr (ns.map .int)), x1, x2, x3, x4, x5, x6, x7, x8] h' := t
  have e1 : callP (callF fs 19 352 [] []) [] [] = .ok (.bl true) [] := by rw [e0]; rfl
  have i0 : evS (callF fs 19) (.ite (.not (.call 352 .nil)) (.cons (.ret (.c (.bl false))) .nil) .nil) [some (.fr (ns.map .int)), none, none, none, none, none, none, none, none] [] = .nx [some (.fr (ns.map .int)), none, none, none, none, none, none, none, none] [] := by
    simp only [evSs, evS, evE, evEs, evCs, evIt, evT, evOe, rb_ok, rb_ex, rs_ok, rs_ex, ro_some, ro_h, rn_ok, sb_nx, sb_rt, sb_br, sb_ct, sb_ex, st_nx, st_ct, st_br, st_rt, st_ex, so_nx, so_rt, so_ex, List.map_cons, List.map_nil, List.replicate, List.cons_append, List.nil_append, List.getElem?_cons_zero, List.getElem?_cons_succ, bA, bS, cL, cLe, cG, cGe, cEi, cNi, cEb, cNb, cEt, cEl, cEo, cNt, cNl, cNo, cIs, cIsn, qLen, qSum, qSuml, qSort, qAll, qAny, qTup, qLst, qMaxl, qMinl, qMax, qMin, qItI, qItB, qItT, qInI, qInB, iT, iL, iF, iO, jL, jO, vT, vL, vF, vO, zT, zL, zTI, ztT, ztL, ztO, ztTI, ztLI, ztLB, ztLT, zTT, aB, aI, qItTI, qItTT, iTI, iTT, iLI, jLI, vTI, vTT, vLI, fLI, fTI, fTT, fLT, fLB, iLT, jLT, vLT, iLB, jLB, vLB, cElT, cNlT, cElI, cEtI, cEtT, cNlI, cNtI, cNtT, fV, kV, metAs, metAt, bindT, setsE, RL.kill, List.set_cons_zero, List.set_cons_succ, Option.map_some, Option.bind_some, Option.getD_none, Option.getD_some, if_true, if_false, Bool.false_eq_true, Bool.not_true, Bool.not_false, e1]
  show (evSs (callF fs 19) (.cons (.ite (.not (.call 352 .nil)) (.cons (.ret (.c (.bl false))) .nil) .nil) (.cons (.forr [1] (.rng (.blt .max (.cons (.c (.int (1))) (.cons (.blt .min (.cons (.blt .len (.cons (.v 0) .nil)) (.cons (.c (.int (3))) .nil))) .nil)))) f353_b0) (.cons (.ret (.c (.bl true))) .nil))) [some (.fr (ns.map .int)), none, none, none, none, none, none, none, none] []).out = _
  rw [ev_cons, i0, sb_nx, ev_cons, t]
  rfl
end K37

open PySem.W PySem.Calls PySem PyProof.Rows
theorem PySem.Challenge.cw_ringlots_k37_counts_by_hand_and_by_names_holds : PySem.Challenge.rw_ringlots_k37_counts_by_hand_and_by_names.Holds := by
  w_on; o_law
  refine HandSHeadRun.head_any (r := OpenLaw.row PySem.Challenge.rw_ringlots_k37_counts_by_hand_and_by_names) (q := view (OpenLaw.row PySem.Challenge.rw_ringlots_k37_counts_by_hand_and_by_names).prog [28]) (H := K37.hk) (ob := K37.ob) (M := 20000) (loose := K37.loose) (d := HandSHeadRun.topDef (OpenLaw.row PySem.Challenge.rw_ringlots_k37_counts_by_hand_and_by_names).prog 28) (kwd := []) K37.ob_eq
    (by kernel_rfl) (fun s => by kernel_rfl) K37.run (by kernel_rfl) (by kernel_rfl) (by kernel_rfl) (by rfl) (by first | assumption | decide +kernel) (by decide +kernel) ⟨rfl, rfl, rfl, rfl, rfl, by decide +kernel⟩ ?hw ?hc
  case hw => w_witness2
  case hc =>
    refine RL.walk_g (l := PySem.Challenge.rw_ringlots_k37_counts_by_hand_and_by_names) (n := 63) (k := 20) (x := "_law_script") rfl (by decide) (by kernel_rfl) (RL.free_caller ⟨rfl, by decide, by decide⟩) (by kernel_rfl) (by rfl) ?F
    intro w mg fa h Y G hmg0
    obtain ⟨K, KX, c⟩ := Y
    have hmg : mg ("law" : PySem.Str) = some (Value.ref fa) := by
      have e : (HandSHeadRun.topDef (OpenLaw.row PySem.Challenge.rw_ringlots_k37_counts_by_hand_and_by_names).prog 28).name = ("law" : PySem.Str) := by kernel_rfl
      rw [← e]
      exact hmg0
    exact RL.law_word (d := K37.d_law) (fs := K37.fs) KX G c hmg K37.hb rfl K37.hT K37.hM K37.hI K37.hlc K37.hK K37.ok K37.hs K37.hl (by simp [K37.D]) rfl rfl K37.word 63

