import PyProof.Rows.All
import PySem.Str
import Wide.All
import OpenK.AllK
import Wide.FinOn
import HandS.ForMost
import HandS.Wide
import HandS.Flow
import HandS.IsInst
import HandS.TupAny
import HandS.TupMul
import HandS.Walk
import HandS.More
import HandS.Deep
import HandS.Conv
import HandS.Style
import HandS.Rev
import HandS.Zip
import HandS.SortInts
import KE.GoesEnum
import HandS.Call
import HandS.SetFor
import HandS.Strs
import HandS.Codes
import HandS.Defaults
import HandS.Base
import HandS.Ends
import HandS.Words
import HandS.WordsExc
import HandS.Head0
import HandS.Head1
import HandS.Head2
import HandS.HeadEnd
import HandS.HeadHook1
import HandS.HeadHook2
import HandS.HeadHook3
import HandS.HeadHook4
import KE.KStateDown
import PySem.Challenge.RW_taxbands_k94_whole_shares_of_a_tax
set_option Elab.async false
set_option autoImplicit false
set_option linter.all false
/-! PL1: plain data, the small language, its meaning. -/
namespace PL
abbrev St := PySem.Str

/-- plain data; box: the drawing box; fn: a function of the module -/
inductive D where
  | non | bl (b : Bool) | int (i : Int) | str (s : PySem.Str) | tup (xs : List D) | lst (xs : List D) | box | fn (x : String)
  deriving Inhabited

/-! ### results -/
inductive R (β α : Type) where
  | ok (a : α) (b : β)
  | exc (c : String) (p : List D) (b : β)
  | stuck
def M (β α : Type) := β → R β α
def ret {β α : Type} (a : α) : M β α := fun b => .ok a b
def stk {β α : Type} : M β α := fun _ => .stuck
def rai {β α : Type} (c : String) (p : List D) : M β α := fun b => .exc c p b
def bnd {β α γ : Type} (m : M β α) (f : α → M β γ) : M β γ := fun b => match m b with
  | .ok a b' => f a b'
  | .exc c p b' => .exc c p b'
  | .stuck => .stuck
def lft {β α : Type} : Option α → M β α
  | some a => ret a
  | none => stk
section
variable {β α γ δ : Type}
@[simp] theorem bnd_ret (a : α) (f : α → M β γ) : bnd (ret a) f = f a := rfl
@[simp] theorem bnd_stk (f : α → M β γ) : bnd (stk : M β α) f = stk := rfl
@[simp] theorem bnd_rai (c : String) (p : List D) (f : α → M β γ) : bnd (rai c p : M β α) f = rai c p := rfl
@[simp] theorem lft_some (a : α) : (lft (some a) : M β α) = ret a := rfl
@[simp] theorem lft_none : (lft none : M β α) = stk := rfl
theorem bnd_assoc (m : M β α) (f : α → M β γ) (g : γ → M β δ) : bnd (bnd m f) g = bnd m fun a => bnd (f a) g := by
  funext b; unfold bnd; cases m b <;> rfl
theorem bnd_ret_right (m : M β α) : bnd m ret = m := by
  funext b; unfold bnd; cases m b <;> rfl
theorem bnd_congr (m : M β α) {f g : α → M β γ} (h : ∀ a, f a = g a) : bnd m f = bnd m g := by
  have e : f = g := funext h
  rw [e]
end

/-! ### operations on data -/
def lim : Nat := 4000
/-- as an int among ints -/
def b2i (b : Bool) : Int := if b = true then 1 else 0
mutual
def deq : D → D → Bool
  | .non, .non => true
  | .bl a, .bl b => a == b
  | .bl a, .int j => b2i a == j
  | .int i, .bl b => i == b2i b
  | .int i, .int j => i == j
  | .str a, .str b => a == b
  | .tup a, .tup b => deqL a b
  | .lst a, .lst b => deqL a b
  | _, _ => false
def deqL : List D → List D → Bool
  | [], [] => true
  | a :: as, b :: bs => deq a b && deqL as bs
  | _, _ => false
end
mutual
/-- data that == may look at: at most n deep -/
def pln : Nat → D → Bool
  | _, .non => true
  | _, .bl _ => true
  | _, .int _ => true
  | _, .str s => s.cps.all (· < 0x110000)
  | n, .tup xs => plnT n xs
  | n, .lst xs => plnT n xs
  | _, .box => false
  | _, .fn _ => false
def plnT : Nat → List D → Bool
  | 0, _ => false
  | n + 1, xs => plnL n xs
def plnL : Nat → List D → Bool
  | _, [] => true
  | n, x :: xs => pln n x && plnL n xs
end
def isInts : List D → Option (List Int)
  | [] => some []
  | .int i :: r => (isInts r).map (i :: ·)
  | _ :: _ => none
def isBls : List D → Option (List Bool)
  | [] => some []
  | .bl i :: r => (isBls r).map (i :: ·)
  | _ :: _ => none
def lexLt : List Int → List Int → Bool
  | [], [] => false
  | [], _ :: _ => true
  | _ :: _, [] => false
  | a :: as, b :: bs => if a = b then lexLt as bs else decide (a < b)
def mulOk (i j : Int) : Bool := decide (i.natAbs.log2 + j.natAbs.log2 < 1000000)
def divOk (j : Int) : Bool := decide (0 < j) && decide (j.natAbs.log2 < 9000)
inductive Bop where
  | add | sub | mul | fdiv | mod | pow
  deriving DecidableEq
def bop : Bop → D → D → Option D
  | .add, .int i, .int j => some (.int (i + j))
  | .add, .tup a, .tup b => if a.length + b.length ≤ lim then some (.tup (a ++ b)) else none
  | .add, .lst a, .lst b => if a.length + b.length ≤ lim then some (.lst (a ++ b)) else none
  | .add, .str a, .str b => if a.cps.size + b.cps.size ≤ lim then some (.str (a ++ b)) else none
  | .sub, .int i, .int j => some (.int (i - j))
  | .mul, .int i, .int j => if mulOk i j = true then some (.int (i * j)) else none
  | .mul, .lst a, .int k => if 0 ≤ k ∧ k ≤ 1000 ∧ a.length ≤ 4 then some (.lst (List.replicate k.toNat a).flatten) else none
  | .mul, .tup a, .int k => if a ≠ [] ∧ 1 ≤ k ∧ k ≤ 1000 ∧ a.length ≤ 4 then some (.tup (List.replicate k.toNat a).flatten) else none
  | .fdiv, .int i, .int j => if divOk j = true then some (.int (i / j)) else none
  | .mod, .int i, .int j => if 0 < j then some (.int (i % j)) else none
  | .pow, .int i, .int j => if 0 ≤ j ∧ j ≤ 1000 ∧ i.natAbs < 2 ^ 64 then some (.int (i ^ j.toNat)) else none
  | _, _, _ => none
inductive Cop where
  | eq | ne | lt | le | gt | ge | isin | notin | iss | isnot
  deriving DecidableEq
def tupInts : D → Option (List Int)
  | .tup a => isInts a
  | _ => none
def items : D → Option (List D)
  | .tup xs => some xs
  | .lst xs => some xs
  | _ => none
def isSame : D → D → Option Bool
  | .non, .non => some true
  | _, .non => some false
  | .bl a, .bl b => some (decide (a = b))
  | _, _ => none
def cop : Cop → D → D → Option Bool
  | .eq, a, b => if pln 60 a && pln 60 b then some (deq a b) else none
  | .ne, a, b => if pln 60 a && pln 60 b then some (!deq a b) else none
  | .lt, .int i, .int j => some (decide (i < j))
  | .lt, .tup a, .tup b => (isInts a).bind fun x => (isInts b).map fun y => lexLt x y
  | .le, .int i, .int j => some (decide (i ≤ j))
  | .gt, .int i, .int j => some (decide (j < i))
  | .ge, .int i, .int j => some (decide (j ≤ i))
  | .isin, a, .lst xs => if pln 60 a && plnL 60 xs then some (xs.any fun z => deq z a) else none
  | .notin, a, .lst xs => if pln 60 a && plnL 60 xs then some (!xs.any fun z => deq z a) else none
  | .iss, a, b => isSame a b
  | .isnot, a, b => (isSame a b).map (!·)
  | _, _, _ => none
def truth : D → Option Bool
  | .non => some false
  | .bl b => some b
  | .int i => some (i != 0)
  | .str s => if s.cps.size ≤ lim then some (s.cps.size != 0) else none
  | .tup xs => some (!xs.isEmpty)
  | .lst xs => some (!xs.isEmpty)
  | _ => none
def pyIx (xs : List D) (i : Int) : Option D :=
  if 0 ≤ i then xs[i.toNat]? else if -(xs.length : Int) ≤ i then xs[(i + xs.length).toNat]? else none
def idx : D → D → Option D
  | .tup xs, .int i => pyIx xs i
  | .lst xs, .int i => pyIx xs i
  | _, _ => none
/-- a slice's bound as a place among n -/
def clip (n d : Nat) : Option Int → Nat
  | none => d
  | some v => if v < 0 then (v + (n : Int)).toNat else min v.toNat n
def cutD (xs : List D) (lo hi : Option Int) : List D := (xs.drop (clip xs.length 0 lo)).take (clip xs.length xs.length hi - clip xs.length 0 lo)
def sli (lo hi : Option Int) : D → Option D
  | .tup xs => some (.tup (cutD xs lo hi))
  | .lst xs => some (.lst (cutD xs lo hi))
  | _ => none
def revD : D → Option D
  | .tup xs => some (.tup xs.reverse)
  | .lst xs => some (.lst xs.reverse)
  | _ => none
def toI : D → Option Int
  | .int i => some i
  | _ => none
inductive Ty where
  | tuple | list | int | bool | str
  deriving DecidableEq
def isi : D → Ty → Option Bool
  | .tup _, t => some (t == .tuple)
  | .lst _, t => some (t == .list)
  | .int _, t => some (t == .int)
  | .bl _, t => some (t == .bool || t == .int)
  | .str _, t => some (t == .str)
  | .non, _ => some false
  | _, _ => none
inductive Bi where
  | len | abs | int | list | tuple | all | any | max | min | sum | sorted | lrange | trange | ssort
  deriving DecidableEq
def intsFrom (a : Int) (n : Nat) : List D := (List.range n).map fun i => .int (a + (i : Nat))
/-- an int among rising ints -/
def insU (a : Int) : List Int → List Int
  | [] => [a]
  | b :: r => if a < b then a :: b :: r else if a = b then b :: r else b :: insU a r
/-- the ints of a list, each once, rising -/
def setL (ns : List Int) : List Int := ns.foldr insU []
def bfn : Bi → List D → Option D
  | .len, [.tup xs] => some (.int xs.length)
  | .len, [.lst xs] => some (.int xs.length)
  | .len, [.str s] => if s.cps.size ≤ lim then some (.int s.cps.size) else none
  | .abs, [.int i] => some (.int (if i < 0 then -i else i))
  | .int, [.int i] => some (.int i)
  | .int, [.bl b] => some (.int (b2i b))
  | .list, [.tup xs] => some (.lst xs)
  | .list, [.lst xs] => some (.lst xs)
  | .tuple, [.tup xs] => some (.tup xs)
  | .tuple, [.lst xs] => some (.tup xs)
  | .all, [.lst xs] => (isBls xs).map fun bs => .bl (bs.all id)
  | .any, [.lst xs] => (isBls xs).map fun bs => .bl (bs.any id)
  | .max, [.lst xs] => (isInts xs).bind fun ns => ns.max?.map .int
  | .min, [.lst xs] => (isInts xs).bind fun ns => ns.min?.map .int
  | .max, [.int i, .int j] => some (.int (if j > i then j else i))
  | .min, [.int i, .int j] => some (.int (if j < i then j else i))
  | .sum, [.lst xs] => (isInts xs).map fun ns => .int ns.sum
  | .sorted, [.lst xs] => (isInts xs).map fun ns => .lst ((ns.mergeSort (fun a b => decide (a ≤ b))).map .int)
  | .ssort, [.lst xs] => if xs.length ≤ 60 then (isInts xs).map fun ns => .lst ((setL ns).map .int) else none
  | .lrange, [.int n] => if n ≤ lim ∧ -lim ≤ n then some (.lst (intsFrom 0 n.toNat)) else none
  | .trange, [.int n] => if n ≤ lim ∧ -lim ≤ n then some (.tup (intsFrom 0 n.toNat)) else none
  | _, _ => none
/-- what a for walks -/
inductive Ik where
  | seq | ran | enu | zip | rvs
  deriving DecidableEq
def small (a : Int) : Bool := decide (-100000000 ≤ a) && decide (a ≤ 100000000)
def zipD : List D → List D → List D
  | a :: as, b :: bs => .tup [a, b] :: zipD as bs
  | _, _ => []
def enuD : Nat → List D → List D
  | _, [] => []
  | k, a :: as => .tup [.int k, a] :: enuD (k + 1) as
def stepsD (a c : Int) (n : Nat) : List D := (List.range n).map fun i => .int (a + (i : Nat) * c)
def iter : Ik → List D → Option (List D)
  | .seq, [d] => items d
  | .ran, [.int n] => if small n = true then some (intsFrom 0 n.toNat) else none
  | .ran, [.int a, .int b] => if small a && small b then some (intsFrom a (b - a).toNat) else none
  | .ran, [.int a, .int b, .int c] => if small a && small b && (c == -1) then some (stepsD a (-1) (a - b).toNat) else none
  | .enu, [d] => (items d).map (enuD 0)
  | .zip, [.tup xs, .tup ys] => some (zipD xs ys)
  | .zip, [.lst xs, .lst ys] => some (zipD xs ys)
  | .rvs, [d] => (items d).map List.reverse
  | _, _ => none

/-! ### the language -/
inductive Tg where
  | nm (i : Nat)
  | tu (ts : List Tg)
inductive E where
  | var (i : Nat) | bvar (i : Nat) | glob (x : String) | lit (d : D)
  | bin (o : Bop) (a b : E) | neg (a : E) | no (a : E) | and (es : List E) | or (es : List E)
  | cmp (o : Cop) (a b : E) | chn (o p : Cop) (a b c : E) | isi (a : E) (t : Ty)
  | ite (c a b : E) | idx (a i : E) | sl1 (a lo : E) | sl2 (a hi : E) | sl3 (a lo hi : E) | rev (a : E)
  | tup (es : List E) | lst (es : List E) | comp (e : E) (t : Tg) (k : Ik) (es : List E) (cs : List E) (own : List Nat)
  | bi (f : Bi) (es : List E) | call (f : String) (es : List E)
inductive S where
  | asg (t : Tg) (e : E) | own (i : Nat) (e : E) | par (i j : Nat) (oi oj : Bool) (a b : E) | par3 (i j l : Nat) (oi oj ol : Bool) (a b c : E)
  | sto (i : Nat) (k e : E) | sto2 (i j : Nat) (k l a b : E)
  | app (i : Nat) (e : E) | ins (i : Nat) (k e : E) | ext (i : Nat) (e : E) | aug (i : Nat) (o : Bop) (e : E) | agl (i : Nat) (e : E) | pop (t : Tg) (i : Nat)
  | frz (i : Nat) | iff (c : E) (a b : List S) | whl (c : E) (a : List S) | fr (t : Tg) (k : Ik) (es : List E) (a : List S)
  | ret (e : E) | retN | brk | cnt | pas | bad
/-- a slot -/
inductive Cell where
  | un | im (d : D) | ow (xs : List D)
abbrev Env := List Cell
def getV {β : Type} (ρ : Env) (i : Nat) : M β D := match ρ[i]? with
  | some (.im d) => ret d
  | _ => stk
def getB {β : Type} (ρ : Env) (i : Nat) : M β D := match ρ[i]? with
  | some (.im d) => ret d
  | some (.ow xs) => ret (.lst xs)
  | _ => stk
mutual
def bindT : Tg → D → Env → Option Env
  | .nm i, d, ρ => some (ρ.set i (.im d))
  | .tu ts, .tup ds, ρ => bindTs ts ds ρ
  | .tu _, _, _ => none
def bindTs : List Tg → List D → Env → Option Env
  | [], [], ρ => some ρ
  | t :: ts, d :: ds, ρ => (bindT t d ρ).bind fun ρ' => bindTs ts ds ρ'
  | _, _, _ => none
end
def wipeE : Env → List Nat → Env
  | ρ, [] => ρ
  | ρ, i :: r => (wipeE ρ r).set i .un
def compM {β : Type} (f : D → M β (Option D)) : List D → M β (List D)
  | [] => ret []
  | d :: ds => bnd (f d) fun o => bnd (compM f ds) fun r => ret (match o with
    | some v => v :: r
    | none => r)

section
variable {β : Type} (gl : String → Option D) (F : String → List D → M β D)
mutual
def ev : E → Env → M β D
  | .var i, ρ => getV ρ i
  | .bvar i, ρ => getB ρ i
  | .glob x, _ => lft (gl x)
  | .lit d, _ => ret d
  | .bin o a b, ρ => bnd (ev a ρ) fun x => bnd (ev b ρ) fun y => lft (bop o x y)
  | .neg a, ρ => bnd (ev a ρ) fun x => bnd (lft (toI x)) fun i => ret (.int (-i))
  | .no a, ρ => bnd (ev a ρ) fun x => bnd (lft (truth x)) fun t => ret (.bl (!t))
  | .and es, ρ => evA es ρ
  | .or es, ρ => evO es ρ
  | .cmp o a b, ρ => bnd (ev a ρ) fun x => bnd (ev b ρ) fun y => bnd (lft (cop o x y)) fun t => ret (.bl t)
  | .chn o p a b c, ρ => bnd (ev a ρ) fun x => bnd (ev b ρ) fun y => bnd (lft (cop o x y)) fun t =>
      if t = true then bnd (ev c ρ) fun z => bnd (lft (cop p y z)) fun u => ret (.bl u) else ret (.bl false)
  | .isi a t, ρ => bnd (ev a ρ) fun x => bnd (lft (isi x t)) fun t => ret (.bl t)
  | .ite c a b, ρ => bnd (ev c ρ) fun x => bnd (lft (truth x)) fun t => if t = true then ev a ρ else ev b ρ
  | .idx a i, ρ => bnd (ev a ρ) fun x => bnd (ev i ρ) fun y => lft (idx x y)
  | .sl1 a lo, ρ => bnd (ev a ρ) fun x => bnd (ev lo ρ) fun l => bnd (lft (toI l)) fun l => lft (sli (some l) none x)
  | .sl2 a hi, ρ => bnd (ev a ρ) fun x => bnd (ev hi ρ) fun u => bnd (lft (toI u)) fun u => lft (sli none (some u) x)
  | .sl3 a lo hi, ρ => bnd (ev a ρ) fun x => bnd (ev lo ρ) fun l => bnd (lft (toI l)) fun l => bnd (ev hi ρ) fun u => bnd (lft (toI u)) fun u => lft (sli (some l) (some u) x)
  | .rev a, ρ => bnd (ev a ρ) fun x => lft (revD x)
  | .tup es, ρ => bnd (evL es ρ) fun ds => if ds.length ≤ lim then ret (.tup ds) else stk
  | .lst es, ρ => bnd (evL es ρ) fun ds => if ds.length ≤ lim then ret (.lst ds) else stk
  | .comp e t k es cs own, ρ => bnd (evL es ρ) fun ds => bnd (lft (iter k ds)) fun xs => if xs.length ≤ lim then bnd (compM (fun d => bnd (lft (bindT t d (wipeE ρ own))) fun ρ' =>
      bnd (evC cs ρ') fun b => if b = true then bnd (ev e ρ') fun v => ret (some v) else ret none) xs) fun vs => ret (.lst vs) else stk
  | .bi f es, ρ => bnd (evL es ρ) fun ds => lft (bfn f ds)
  | .call f es, ρ => bnd (evL es ρ) fun ds => F f ds
def evL : List E → Env → M β (List D)
  | [], _ => ret []
  | e :: es, ρ => bnd (ev e ρ) fun d => bnd (evL es ρ) fun ds => ret (d :: ds)
def evA : List E → Env → M β D
  | [], _ => stk
  | [e], ρ => ev e ρ
  | e :: es, ρ => bnd (ev e ρ) fun d => bnd (lft (truth d)) fun t => if t = true then evA es ρ else ret d
def evO : List E → Env → M β D
  | [], _ => stk
  | [e], ρ => ev e ρ
  | e :: es, ρ => bnd (ev e ρ) fun d => bnd (lft (truth d)) fun t => if t = true then ret d else evO es ρ
def evC : List E → Env → M β Bool
  | [], _ => ret true
  | e :: es, ρ => bnd (ev e ρ) fun d => bnd (lft (truth d)) fun t => if t = true then evC es ρ else ret false
end
end
/-- how a block ends -/
inductive Fl where
  | nx | bk | ct | rt (d : D)
section
variable {β : Type}
/-- n turns at most -/
def whlN (c : Env → M β Bool) (f : Env → M β (Fl × Env)) : Nat → Env → M β (Fl × Env)
  | 0, _ => stk
  | n + 1, ρ => bnd (c ρ) fun t => if t = true then bnd (f ρ) fun r => (match r.1 with
      | .nx => whlN c f n r.2
      | .ct => whlN c f n r.2
      | .bk => ret (.nx, r.2)
      | .rt d => ret (.rt d, r.2)) else ret (.nx, ρ)
open Classical in
noncomputable def whlM (c : Env → M β Bool) (f : Env → M β (Fl × Env)) : Env → M β (Fl × Env) := fun ρ b =>
  if h : ∃ n, whlN c f n ρ b ≠ .stuck then whlN c f h.choose ρ b else .stuck
def forM (f : D → Env → M β (Fl × Env)) : List D → Env → M β (Fl × Env)
  | [], ρ => ret (.nx, ρ)
  | d :: ds, ρ => bnd (f d ρ) fun r => match r.1 with
    | .nx => forM f ds r.2
    | .ct => forM f ds r.2
    | .bk => ret (.nx, r.2)
    | .rt d => ret (.rt d, r.2)
def getO (ρ : Env) (i : Nat) : M β (List D) := match ρ[i]? with
  | some (.ow xs) => ret xs
  | _ => stk
def setIx (xs : List D) (i : D) (v : D) : Option (List D) := match i with
  | .int k => if 0 ≤ k then (if k < xs.length then some (xs.set k.toNat v) else none) else if -(xs.length : Int) ≤ k then some (xs.set (k + xs.length).toNat v) else none
  | _ => none
def asL : D → Option (List D)
  | .lst xs => some xs
  | _ => none
/-- a value for a slot: as it is, or as a list of one's own -/
def cellOf (o : Bool) (d : D) : Option Cell := if o = true then (asL d).map Cell.ow else some (.im d)
variable (gl : String → Option D) (F : String → List D → M β D)
def nxt (ρ : Env) : M β (Fl × Env) := ret (.nx, ρ)
def tst (e : E) (ρ : Env) : M β Bool := bnd (ev gl F e ρ) fun x => lft (truth x)
mutual
noncomputable def ex : S → Env → M β (Fl × Env)
  | .asg t e, ρ => bnd (ev gl F e ρ) fun v => bnd (lft (bindT t v ρ)) nxt
  | .own i e, ρ => bnd (ev gl F e ρ) fun v => bnd (lft (asL v)) fun xs => nxt (ρ.set i (.ow xs))
  | .par i j oi oj a b, ρ => bnd (ev gl F a ρ) fun v => bnd (ev gl F b ρ) fun w => bnd (lft (cellOf oi v)) fun c => bnd (lft (cellOf oj w)) fun d => nxt ((ρ.set i c).set j d)
  | .par3 i j l oi oj ol a b e, ρ => bnd (ev gl F a ρ) fun v => bnd (ev gl F b ρ) fun w => bnd (ev gl F e ρ) fun u => bnd (lft (cellOf oi v)) fun c => bnd (lft (cellOf oj w)) fun d => bnd (lft (cellOf ol u)) fun g => nxt (((ρ.set i c).set j d).set l g)
  | .sto i k e, ρ => bnd (ev gl F e ρ) fun v => bnd (getO ρ i) fun xs => bnd (ev gl F k ρ) fun z => bnd (lft (setIx xs z v)) fun ys => nxt (ρ.set i (.ow ys))
  | .sto2 i j k l a b, ρ => bnd (ev gl F a ρ) fun v => bnd (ev gl F b ρ) fun w => bnd (getO ρ i) fun xs => bnd (ev gl F k ρ) fun z => bnd (lft (setIx xs z v)) fun ys =>
      bnd (getO (ρ.set i (.ow ys)) j) fun xs' => bnd (ev gl F l (ρ.set i (.ow ys))) fun z' => bnd (lft (setIx xs' z' w)) fun ys' => nxt ((ρ.set i (.ow ys)).set j (.ow ys'))
  | .app i e, ρ => bnd (getO ρ i) fun xs => bnd (ev gl F e ρ) fun v => if xs.length < lim then nxt (ρ.set i (.ow (xs ++ [v]))) else stk
  | .ins i k e, ρ => bnd (getO ρ i) fun xs => bnd (ev gl F k ρ) fun z => bnd (lft (toI z)) fun k => bnd (ev gl F e ρ) fun v =>
      if xs.length < lim ∧ 0 ≤ k ∧ k ≤ 100000000 then nxt (ρ.set i (.ow (xs.take k.toNat ++ [v] ++ xs.drop k.toNat))) else stk
  | .ext i e, ρ => bnd (getO ρ i) fun xs => bnd (ev gl F e ρ) fun v => bnd (lft (asL v)) fun ys => if xs.length + ys.length ≤ lim then nxt (ρ.set i (.ow (xs ++ ys))) else stk
  | .aug i o e, ρ => bnd (getV ρ i) fun x => bnd (ev gl F e ρ) fun y => bnd (lft ((toI x).bind fun _ => (toI y).bind fun _ => if o = .add ∨ o = .sub then bop o x y else none)) fun z => nxt (ρ.set i (.im z))
  | .agl i e, ρ => bnd (getO ρ i) fun xs => bnd (ev gl F e ρ) fun v => bnd (lft (asL v)) fun ys => if xs.length + ys.length ≤ lim then nxt (ρ.set i (.ow (xs ++ ys))) else stk
  | .pop t i, ρ => bnd (getO ρ i) fun xs => match xs.getLast? with
    | some v => bnd (lft (bindT t v (ρ.set i (.ow xs.dropLast)))) nxt
    | none => stk
  | .frz i, ρ => match ρ[i]? with
    | some (.ow xs) => nxt (ρ.set i (.im (.lst xs)))
    | _ => nxt ρ
  | .iff c a b, ρ => bnd (tst gl F c ρ) fun t => if t = true then exs a ρ else exs b ρ
  | .whl c a, ρ => whlM (tst gl F c) (exs a) ρ
  | .fr t k es a, ρ => bnd (evL gl F es ρ) fun ds => bnd (lft (iter k ds)) fun xs => forM (fun d ρ' => bnd (lft (bindT t d ρ')) fun ρ'' => exs a ρ'') xs ρ
  | .ret e, ρ => bnd (ev gl F e ρ) fun v => ret (.rt v, ρ)
  | .retN, ρ => ret (.rt .non, ρ)
  | .brk, ρ => ret (.bk, ρ)
  | .cnt, ρ => ret (.ct, ρ)
  | .pas, ρ => nxt ρ
  | .bad, _ => stk
noncomputable def exs : List S → Env → M β (Fl × Env)
  | [], ρ => nxt ρ
  | s :: r, ρ => bnd (ex s ρ) fun x => match x.1 with
    | .nx => exs r x.2
    | .bk => ret (.bk, x.2)
    | .ct => ret (.ct, x.2)
    | .rt d => ret (.rt d, x.2)
end
end
/-- a function: its names (parameters first), how many parameters, its body -/
structure Fn where
  names : List String
  np : Nat
  body : List S
structure Prog (β : Type) where
  fns : String → Option Fn
  gl : String → Option D
  prim : String → Option (List D → M β D)
def endF {β : Type} (m : M β (Fl × Env)) : M β D := bnd m fun r => match r.1 with
  | .rt d => ret d
  | .nx => ret .non
  | _ => stk
noncomputable def call {β : Type} (P : Prog β) : Nat → String → List D → M β D
  | 0, _, _ => stk
  | k + 1, x, args => match P.prim x with
    | some p => if 3 ≤ k then p args else stk
    | none => match P.fns x with
      | some f => if args.length = f.np then endF (exs P.gl (call P k) f.body (args.map Cell.im ++ List.replicate (f.names.length - f.np) Cell.un)) else stk
      | none => stk
end PL

set_option autoImplicit false
set_option linter.all false
set_option maxRecDepth 100000
set_option maxHeartbeats 4000000
/-! PL2: data over the heap; operations by values. -/
namespace PL
open PySem PySem.Spec PyProof.Rows L2

section
variable (K : PySem.W.Frag) (mg : PySem.Str → Option Value) (bp : Addr) (B : Hp)
mutual
/-- v is d, all of it within B -/
def Rep : D → V → Prop
  | .non, v => v = .non
  | .bl b, v => v = .bl b
  | .int i, v => v = .int i
  | .str s, v => v = .str s
  | .tup ds, v => ∃ a vs, v = .ref a ∧ SqT K B a vs ∧ RepL ds vs
  | .lst ds, v => ∃ a vs, v = .ref a ∧ B a = some (.lst vs) ∧ RepL ds vs
  | .box, v => v = .ref bp
  | .fn x, v => ∃ f, v = .ref f ∧ mg (PySem.Str.ofString x) = some (.ref f)
def RepL : List D → List V → Prop
  | [], vs => vs = []
  | d :: ds, vs => ∃ v r, vs = v :: r ∧ Rep d v ∧ RepL ds r
end
/-- .. or d is a list at a place of its own -/
def RepT (H : Hp) (bq : Addr) (d : D) (v : V) : Prop := Rep K mg bp B d v ∨ ∃ p vs xs, v = .ref p ∧ d = .lst xs ∧ H p = some (.lst vs) ∧ RepL K mg bp B xs vs ∧ p ≠ bp ∧ p ≠ bq
def RepTL (H : Hp) (bq : Addr) : List D → List V → Prop
  | [], vs => vs = []
  | d :: ds, vs => ∃ v r, vs = v :: r ∧ RepT K mg bp B H bq d v ∧ RepTL H bq ds r
end

theorem sqT_mono {K : PySem.W.Frag} {H H' : Hp} {a : Addr} {xs : List V} (e : Same H H') (h : SqT K H a xs) : SqT K H' a xs := by
  rcases h with (h | ⟨o, h⟩) | h
  · exact .inl (.inl (e _ _ h))
  · exact .inl (.inr ⟨o, e _ _ h⟩)
  · exact .inr h
section
variable {K : PySem.W.Frag} {mg : PySem.Str → Option Value} {bp bq : Addr} {B B' H H' : Hp}
mutual
theorem Rep.mono (e : Same B B') : ∀ (d : D) (v : V), Rep K mg bp B d v → Rep K mg bp B' d v
  | .non, _, h => by simpa only [Rep] using h
  | .bl _, _, h => by simpa only [Rep] using h
  | .int _, _, h => by simpa only [Rep] using h
  | .str _, _, h => by simpa only [Rep] using h
  | .tup ds, v, h => by
    simp only [Rep] at h ⊢
    obtain ⟨a, vs, r, q, l⟩ := h
    exact ⟨a, vs, r, sqT_mono e q, RepL.mono e ds vs l⟩
  | .lst ds, v, h => by
    simp only [Rep] at h ⊢
    obtain ⟨a, vs, r, q, l⟩ := h
    exact ⟨a, vs, r, e _ _ q, RepL.mono e ds vs l⟩
  | .box, _, h => by simpa only [Rep] using h
  | .fn _, _, h => by simpa only [Rep] using h
theorem RepL.mono (e : Same B B') : ∀ (ds : List D) (vs : List V), RepL K mg bp B ds vs → RepL K mg bp B' ds vs
  | [], _, h => by simpa only [RepL] using h
  | d :: ds, vs, h => by
    simp only [RepL] at h ⊢
    obtain ⟨v, r, q, h1, h2⟩ := h
    exact ⟨v, r, q, Rep.mono e d v h1, RepL.mono e ds r h2⟩
end
theorem RepL.nil : RepL K mg bp B [] [] := by simp only [RepL]
theorem RepL.cons {d : D} {v : V} {ds : List D} {vs : List V} (h : Rep K mg bp B d v) (r : RepL K mg bp B ds vs) : RepL K mg bp B (d :: ds) (v :: vs) := by
  simp only [RepL]; exact ⟨v, vs, rfl, h, r⟩
theorem RepL.inv {d : D} {ds : List D} {vs : List V} (h : RepL K mg bp B (d :: ds) vs) : ∃ v r, vs = v :: r ∧ Rep K mg bp B d v ∧ RepL K mg bp B ds r := by
  simpa only [RepL] using h
theorem RepL.nil_inv {vs : List V} (h : RepL K mg bp B [] vs) : vs = [] := by simpa only [RepL] using h
theorem RepL.length : ∀ {ds : List D} {vs : List V}, RepL K mg bp B ds vs → ds.length = vs.length
  | [], vs, h => by rw [h.nil_inv]; rfl
  | d :: ds, vs, h => by
    obtain ⟨v, r, rfl, _, h2⟩ := h.inv
    rw [List.length_cons, List.length_cons, RepL.length h2]
theorem RepL.get : ∀ {ds : List D} {vs : List V} {i : Nat} {d : D}, RepL K mg bp B ds vs → ds[i]? = some d → ∃ v, vs[i]? = some v ∧ Rep K mg bp B d v
  | [], _, _, _, _, e => by simp at e
  | _ :: ds, vs, 0, d, h, e => by
    obtain ⟨v, r, rfl, h1, h2⟩ := h.inv
    simp at e; subst e
    exact ⟨v, rfl, h1⟩
  | _ :: ds, vs, i + 1, d, h, e => by
    obtain ⟨v, r, rfl, h1, h2⟩ := h.inv
    obtain ⟨u, e1, h3⟩ := RepL.get h2 (by simpa using e)
    exact ⟨u, by simpa using e1, h3⟩
theorem RepL.append : ∀ {as bs : List D} {us vs : List V}, RepL K mg bp B as us → RepL K mg bp B bs vs → RepL K mg bp B (as ++ bs) (us ++ vs)
  | [], _, _, _, h, k => by rw [h.nil_inv]; exact k
  | a :: as, bs, us, vs, h, k => by
    obtain ⟨v, r, rfl, h1, h2⟩ := h.inv
    exact RepL.cons h1 (RepL.append h2 k)
theorem RepL.take : ∀ (n : Nat) {as : List D} {us : List V}, RepL K mg bp B as us → RepL K mg bp B (as.take n) (us.take n)
  | 0, _, _, _ => by simpa using RepL.nil
  | n + 1, [], _, h => by rw [h.nil_inv]; simpa using RepL.nil
  | n + 1, a :: as, us, h => by
    obtain ⟨v, r, rfl, h1, h2⟩ := h.inv
    exact RepL.cons h1 (RepL.take n h2)
theorem RepL.drop : ∀ (n : Nat) {as : List D} {us : List V}, RepL K mg bp B as us → RepL K mg bp B (as.drop n) (us.drop n)
  | 0, _, _, h => h
  | n + 1, [], _, h => by rw [h.nil_inv]; simpa using RepL.nil
  | n + 1, a :: as, us, h => by
    obtain ⟨v, r, rfl, h1, h2⟩ := h.inv
    exact RepL.drop n h2
theorem RepL.reverse {as : List D} {us : List V} (h : RepL K mg bp B as us) : RepL K mg bp B as.reverse us.reverse := by
  induction as generalizing us with
  | nil => rw [h.nil_inv]; simpa using RepL.nil
  | cons a as ih =>
    obtain ⟨v, r, rfl, h1, h2⟩ := h.inv
    rw [List.reverse_cons, List.reverse_cons]
    exact RepL.append (ih h2) (RepL.cons h1 RepL.nil)
theorem RepL.set {d : D} {v : V} (h : Rep K mg bp B d v) : ∀ (n : Nat) {as : List D} {us : List V}, RepL K mg bp B as us → RepL K mg bp B (as.set n d) (us.set n v)
  | _, [], us, h2 => by rw [h2.nil_inv]; simpa using RepL.nil
  | 0, a :: as, us, h2 => by
    obtain ⟨v', r, rfl, _, h3⟩ := h2.inv
    exact RepL.cons h h3
  | n + 1, a :: as, us, h2 => by
    obtain ⟨v', r, rfl, h4, h3⟩ := h2.inv
    exact RepL.cons h4 (RepL.set h n h3)
theorem RepL.rep {as : List D} {us : List V} (h : RepL K mg bp B as us) : ∀ n : Nat, RepL K mg bp B (List.replicate n as).flatten (List.replicate n us).flatten
  | 0 => by simpa using RepL.nil
  | n + 1 => by
    rw [List.replicate_succ, List.replicate_succ, List.flatten_cons, List.flatten_cons]
    exact RepL.append h (RepL.rep h n)
theorem RepL.dropLast {as : List D} {us : List V} (h : RepL K mg bp B as us) : RepL K mg bp B as.dropLast us.dropLast := by
  rw [List.dropLast_eq_take, List.dropLast_eq_take, ← h.length]; exact h.take _
theorem RepL.ints : ∀ {ds : List D} {vs : List V} {ns : List Int}, isInts ds = some ns → RepL K mg bp B ds vs → vs = ns.map V.int
  | [], vs, ns, e, h => by
    simp only [isInts, Option.some.injEq] at e; subst e
    rw [h.nil_inv]; rfl
  | d :: ds, vs, ns, e, h => by
    obtain ⟨v, r, rfl, h1, h2⟩ := h.inv
    cases d with
    | int i =>
      simp only [isInts, Option.map_eq_some_iff] at e
      obtain ⟨ms, e1, rfl⟩ := e
      have h1 : v = .int i := by simpa only [Rep] using h1
      rw [h1, RepL.ints e1 h2]; rfl
    | _ => simp [isInts] at e
theorem RepL.bls : ∀ {ds : List D} {vs : List V} {ns : List Bool}, isBls ds = some ns → RepL K mg bp B ds vs → vs = ns.map V.bl
  | [], vs, ns, e, h => by
    simp only [isBls, Option.some.injEq] at e; subst e
    rw [h.nil_inv]; rfl
  | d :: ds, vs, ns, e, h => by
    obtain ⟨v, r, rfl, h1, h2⟩ := h.inv
    cases d with
    | bl i =>
      simp only [isBls, Option.map_eq_some_iff] at e
      obtain ⟨ms, e1, rfl⟩ := e
      have h1 : v = .bl i := by simpa only [Rep] using h1
      rw [h1, RepL.bls e1 h2]; rfl
    | _ => simp [isBls] at e
theorem RepL.of_ints : ∀ ns : List Int, RepL K mg bp B (ns.map D.int) (ns.map V.int)
  | [] => RepL.nil
  | n :: ns => RepL.cons (by simp only [Rep]) (RepL.of_ints ns)
theorem RepL.of_list : ∀ {ds : List D} {vs : List V}, ds.length = vs.length → (∀ (i : Nat) (d : D) (v : V), ds[i]? = some d → vs[i]? = some v → Rep K mg bp B d v) → RepL K mg bp B ds vs
  | [], [], _, _ => RepL.nil
  | [], _ :: _, e, _ => by simp at e
  | _ :: _, [], e, _ => by simp at e
  | d :: ds, v :: vs, e, h => RepL.cons (h 0 d v rfl rfl) (RepL.of_list (by simpa using e) fun i d' v' h1 h2 => h (i + 1) d' v' (by simpa using h1) (by simpa using h2))
theorem RepT.mono (e : Same B B') (k : ∀ a, a ≠ bp → a ≠ bq → H a ≠ none → H' a = H a) {d : D} {v : V} (h : RepT K mg bp B H bq d v) : RepT K mg bp B' H' bq d v := by
  rcases h with h | ⟨p, vs, xs, rfl, rfl, h1, h2, h3, h4⟩
  · exact .inl (Rep.mono e d v h)
  · exact .inr ⟨p, vs, xs, rfl, rfl, by rw [k p h3 h4 (by rw [h1]; exact Option.some_ne_none _)]; exact h1, RepL.mono e _ _ h2, h3, h4⟩
/-- who works here: B is part of H, the box apart -/
structure Gd (bp bq : Addr) (B H : Hp) : Prop where
  sub : Same B H
  b1 : B bp = none
  b2 : B bq = none
  n1 : H bp ≠ none
  n2 : H bq ≠ none
/-- new things alone -/
structure Ex0 (B B' H H' : Hp) : Prop where
  bs : Same B B'
  sub : Same B' H'
  fr : ∀ a, B' a ≠ none → B a = none → H a = none
  kp : ∀ a, H a ≠ none → H' a = H a
theorem Ex0.refl (s : Same B H) : Ex0 B B H H := ⟨Same.refl B, s, fun a h k => absurd k h, fun _ _ => rfl⟩
theorem Ex0.gd (e : Ex0 B B' H H') (g : Gd bp bq B H) : Gd bp bq B' H' where
  sub := e.sub
  b1 := Classical.byContradiction fun h => g.n1 (e.fr bp h g.b1)
  b2 := Classical.byContradiction fun h => g.n2 (e.fr bq h g.b2)
  n1 := by rw [e.kp bp g.n1]; exact g.n1
  n2 := by rw [e.kp bq g.n2]; exact g.n2
theorem same_upd {p : Addr} {o : HO} (h : H p = none) : Same H (upd H p o) := fun b o' e => by rw [upd_ne (ne_of_none e h)]; exact e
theorem Ex0.new {p : Addr} {o : HO} (s : Same B H) (h : H p = none) : Ex0 B (upd B p o) H (upd H p o) where
  bs := same_upd (s.free h)
  sub := fun b o' e => by
    by_cases hb : b = p
    · subst hb; rw [upd_same] at e ⊢; exact e
    · rw [upd_ne hb] at e ⊢; exact s _ _ e
  fr := fun a h1 h2 => by
    by_cases hb : a = p
    · subst hb; exact h
    · rw [upd_ne hb] at h1; exact absurd h2 h1
  kp := fun a ha => upd_ne fun e => ha (by rw [e]; exact h)
theorem Ex0.own {p : Addr} {o : HO} (s : Same B H) (h : H p = none) : Ex0 B B H (upd H p o) where
  bs := Same.refl B
  sub := s.trans (same_upd h)
  fr := fun a h1 h2 => absurd h2 h1
  kp := fun a ha => upd_ne fun e => ha (by rw [e]; exact h)
theorem Ex0.trans {B'' H'' : Hp} (a : Ex0 B B' H H') (b : Ex0 B' B'' H' H'') : Ex0 B B'' H H'' where
  bs := a.bs.trans b.bs
  sub := b.sub
  fr := fun c h1 h2 => by
    cases q : B' c with
    | some o => exact a.fr c (by rw [q]; exact Option.some_ne_none _) h2
    | none =>
      have h3 := b.fr c h1 q
      exact Classical.byContradiction fun h => by rw [a.kp c h] at h3; exact h h3
  kp := fun c h => by rw [b.kp c (by rw [a.kp c h]; exact h), a.kp c h]
/-- how a value is asked for: as a value; to be looked at; as a new list -/
inductive Md where
  | val | bor | own
  deriving DecidableEq
def RepM (K : PySem.W.Frag) (mg : PySem.Str → Option Value) (bp bq : Addr) (m : Md) (H B' H' : Hp) (d : D) (v : V) : Prop := match m with
  | .val => Rep K mg bp B' d v
  | .bor => RepT K mg bp B' H' bq d v
  | .own => ∀ xs, d = .lst xs → ∃ p vs, v = .ref p ∧ H p = none ∧ H' p = some (.lst vs) ∧ B' p = none ∧ RepL K mg bp B' xs vs
def ResM (K : PySem.W.Frag) (mg : PySem.Str → Option Value) (bp bq : Addr) (m : Md) (B H : Hp) (d : D) (Q : VK) : Prop :=
  ∀ B' H' v, Ex0 B B' H H' → RepM K mg bp bq m H B' H' d v → Q v H'
theorem ResM.lst {m : Md} {xs : List D} {vs : List V} {Q : VK} {p : Addr} (g : Gd bp bq B H) (h : ResM K mg bp bq m B H (.lst xs) Q) (r : RepL K mg bp B xs vs) (hp : H p = none) : Q (.ref p) (upd H p (.lst vs)) := by
  have hr : Rep K mg bp (upd B p (.lst vs)) (.lst xs) (.ref p) := by
    simp only [Rep]
    exact ⟨p, vs, rfl, upd_same, RepL.mono (same_upd (g.sub.free hp)) _ _ r⟩
  cases m with
  | val => exact h _ _ _ (Ex0.new g.sub hp) hr
  | bor => exact h _ _ _ (Ex0.new g.sub hp) (.inl hr)
  | own =>
    refine h _ _ _ (Ex0.own g.sub hp) fun ys e => ?_
    cases e
    exact ⟨p, vs, rfl, hp, upd_same, g.sub.free hp, r⟩
theorem ResM.tup {m : Md} {xs : List D} {vs : List V} {Q : VK} {p : Addr} (g : Gd bp bq B H) (h : ResM K mg bp bq m B H (.tup xs) Q) (r : RepL K mg bp B xs vs) (hp : H p = none) : Q (.ref p) (upd H p (.tup vs)) := by
  have hr : Rep K mg bp (upd B p (.tup vs)) (.tup xs) (.ref p) := by
    simp only [Rep]
    exact ⟨p, vs, rfl, .inl (.inl upd_same), RepL.mono (same_upd (g.sub.free hp)) _ _ r⟩
  cases m with
  | val => exact h _ _ _ (Ex0.new g.sub hp) hr
  | bor => exact h _ _ _ (Ex0.new g.sub hp) (.inl hr)
  | own => exact h _ _ _ (Ex0.new g.sub hp) fun ys e => by cases e
theorem ResM.same {m : Md} {d : D} {v : V} {Q : VK} (g : Gd bp bq B H) (h : ResM K mg bp bq m B H d Q) (r : Rep K mg bp B d v) (nl : ∀ xs, d ≠ .lst xs) : Q v H := by
  cases m with
  | val => exact h _ _ _ (Ex0.refl g.sub) r
  | bor => exact h _ _ _ (Ex0.refl g.sub) (.inl r)
  | own => exact h _ _ _ (Ex0.refl g.sub) fun ys e => absurd e (nl ys)
theorem ResM.int {m : Md} {i : Int} {Q : VK} (g : Gd bp bq B H) (h : ResM K mg bp bq m B H (.int i) Q) : Q (.int i) H := h.same g (by simp only [Rep]) (by intro xs e; cases e)
theorem ResM.bl {m : Md} {i : Bool} {Q : VK} (g : Gd bp bq B H) (h : ResM K mg bp bq m B H (.bl i) Q) : Q (.bl i) H := h.same g (by simp only [Rep]) (by intro xs e; cases e)
theorem ResM.str {m : Md} {i : PySem.Str} {Q : VK} (g : Gd bp bq B H) (h : ResM K mg bp bq m B H (.str i) Q) : Q (.str i) H := h.same g (by simp only [Rep]) (by intro xs e; cases e)
/-! ### what stands there, by the datum -/
theorem RepT.int {i : Int} {v : V} (h : RepT K mg bp B H bq (.int i) v) : v = .int i := by
  rcases h with h | ⟨p, vs, xs, _, e, _⟩
  · simpa only [Rep] using h
  · cases e
theorem RepT.bl {i : Bool} {v : V} (h : RepT K mg bp B H bq (.bl i) v) : v = .bl i := by
  rcases h with h | ⟨p, vs, xs, _, e, _⟩
  · simpa only [Rep] using h
  · cases e
theorem RepT.str {i : PySem.Str} {v : V} (h : RepT K mg bp B H bq (.str i) v) : v = .str i := by
  rcases h with h | ⟨p, vs, xs, _, e, _⟩
  · simpa only [Rep] using h
  · cases e
theorem RepT.non {v : V} (h : RepT K mg bp B H bq .non v) : v = .non := by
  rcases h with h | ⟨p, vs, xs, _, e, _⟩
  · simpa only [Rep] using h
  · cases e
theorem RepT.tup {xs : List D} {v : V} (s : Same B H) (h : RepT K mg bp B H bq (.tup xs) v) : ∃ a vs, v = .ref a ∧ SqT K H a vs ∧ RepL K mg bp B xs vs := by
  rcases h with h | ⟨p, vs, xs, _, e, _⟩
  · simp only [Rep] at h
    obtain ⟨a, vs, r, q, l⟩ := h
    exact ⟨a, vs, r, sqT_mono s q, l⟩
  · cases e
theorem RepT.lst {xs : List D} {v : V} (s : Same B H) (h : RepT K mg bp B H bq (.lst xs) v) : ∃ a vs, v = .ref a ∧ H a = some (.lst vs) ∧ RepL K mg bp B xs vs := by
  rcases h with h | ⟨p, vs, ys, r, e, h1, h2, _⟩
  · simp only [Rep] at h
    obtain ⟨a, vs, r, q, l⟩ := h
    exact ⟨a, vs, r, s _ _ q, l⟩
  · cases e
    exact ⟨p, vs, r, h1, h2⟩
/-- a flat datum's value is what it is -/
theorem RepT.flat {d : D} {v : V} (h : RepT K mg bp B H bq d v) (nl : ∀ xs, d ≠ .lst xs) : Rep K mg bp B d v := by
  rcases h with h | ⟨p, vs, ys, r, e, _⟩
  · exact h
  · exact absurd e (nl ys)

/-! ### data as the library's data -/
mutual
def py : D → PyData
  | .non => .none
  | .bl b => .bool b
  | .int i => .int i
  | .str s => .str s
  | .tup xs => .tuple (pyL xs)
  | .lst xs => .list (pyL xs)
  | .box => .none
  | .fn _ => .none
def pyL : List D → List PyData
  | [] => []
  | x :: xs => py x :: pyL xs
end
mutual
theorem dp_of (s : Same B H) : ∀ (n : Nat) (d : D) (v : V), pln n d = true → Rep K mg bp B d v → Dp K H v (py d)
  | _, .non, v, _, h => by simp only [Rep] at h; subst h; simp only [py]; exact .non
  | _, .bl _, v, _, h => by simp only [Rep] at h; subst h; simp only [py]; exact .bl _
  | _, .int _, v, _, h => by simp only [Rep] at h; subst h; simp only [py]; exact .int _
  | _, .str _, v, _, h => by simp only [Rep] at h; subst h; simp only [py]; exact .str _
  | 0, .tup xs, v, e, h => by simp [pln, plnT] at e
  | 0, .lst xs, v, e, h => by simp [pln, plnT] at e
  | n + 1, .tup xs, v, e, h => by
    simp only [Rep] at h
    obtain ⟨a, vs, rfl, q, l⟩ := h
    simp only [py]
    exact .tup (sqT_mono s q) (dpAll_of s n xs vs (by simpa only [pln, plnT] using e) l)
  | n + 1, .lst xs, v, e, h => by
    simp only [Rep] at h
    obtain ⟨a, vs, rfl, q, l⟩ := h
    simp only [py]
    exact .lst (SqL.of (s _ _ q)) (dpAll_of s n xs vs (by simpa only [pln, plnT] using e) l)
  | _, .box, _, e, _ => by simp [pln] at e
  | _, .fn _, _, e, _ => by simp [pln] at e
theorem dpAll_of (s : Same B H) : ∀ (n : Nat) (ds : List D) (vs : List V), plnL n ds = true → RepL K mg bp B ds vs → DpAll K H vs (pyL ds)
  | _, [], vs, _, h => by rw [h.nil_inv]; simp only [pyL]; exact .nil
  | n, d :: ds, vs, e, h => by
    obtain ⟨v, r, rfl, h1, h2⟩ := h.inv
    simp only [plnL, Bool.and_eq_true] at e
    simp only [pyL]
    exact .cons (dp_of s n d v e.1 h1) (dpAll_of s n ds r e.2 h2)
end
theorem dpT_of {d : D} {v : V} {n : Nat} (s : Same B H) (e : pln n d = true) (h : RepT K mg bp B H bq d v) : Dp K H v (py d) := by
  rcases h with h | ⟨p, vs, xs, rfl, rfl, h1, h2, _⟩
  · exact dp_of s n d v e h
  · cases n with
    | zero => simp [pln, plnT] at e
    | succ n =>
      simp only [py]
      exact .lst (SqL.of h1) (dpAll_of s n xs vs (by simpa only [pln, plnT] using e) h2)
mutual
theorem lay_of : ∀ (n : Nat) (d : D), pln n d = true → (py d).canLay0 = true ∧ (py d).depth ≤ n
  | n, .non, _ => by simp [py, PyData.canLay0, PyData.depth]
  | n, .bl _, _ => by simp [py, PyData.canLay0, PyData.depth]
  | n, .int _, _ => by simp [py, PyData.canLay0, PyData.depth]
  | n, .str s, e => by
    simp only [pln] at e
    simp only [py, PyData.canLay0, PyData.depth]
    exact ⟨e, Nat.zero_le _⟩
  | 0, .tup xs, e => by simp [pln, plnT] at e
  | 0, .lst xs, e => by simp [pln, plnT] at e
  | n + 1, .tup xs, e => by
    have h := layL_of n xs (by simpa only [pln, plnT] using e)
    simp only [py, PyData.canLay0, PyData.depth]
    exact ⟨h.1, by omega⟩
  | n + 1, .lst xs, e => by
    have h := layL_of n xs (by simpa only [pln, plnT] using e)
    simp only [py, PyData.canLay0, PyData.depth]
    exact ⟨h.1, by omega⟩
  | _, .box, e => by simp [pln] at e
  | _, .fn _, e => by simp [pln] at e
theorem layL_of : ∀ (n : Nat) (ds : List D), plnL n ds = true → PyData.canLayAll0 (pyL ds) = true ∧ PyData.depthAll (pyL ds) ≤ n
  | n, [], _ => by simp [pyL, PyData.canLayAll0, PyData.depthAll]
  | n, d :: ds, e => by
    simp only [plnL, Bool.and_eq_true] at e
    have h1 := lay_of n d e.1
    have h2 := layL_of n ds e.2
    simp only [pyL, PyData.canLayAll0, PyData.depthAll, Bool.and_eq_true]
    exact ⟨⟨h1.1, h2.1⟩, by omega⟩
end
theorem shaped_of {d : D} (e : pln 60 d = true) : SeqAt.shaped (py d) = true := by
  have h := lay_of 60 d e
  unfold SeqAt.shaped
  rw [h.1, decide_eq_true (show (py d).depth ≤ 64 by omega)]
  rfl
theorem shapedL_of {ds : List D} (e : plnL 60 ds = true) : SeqAt.shaped (.list (pyL ds)) = true := by
  have h := layL_of 60 ds e
  unfold SeqAt.shaped
  have h2 : (PyData.list (pyL ds)).depth ≤ 64 := by simp only [PyData.depth]; omega
  rw [decide_eq_true h2]
  simp only [PyData.canLay0, h.1, Bool.and_self]
mutual
theorem eqv_of : ∀ (n m : Nat) (a b : D), pln n a = true → pln m b = true → PyData.eqv (py a) (py b) = deq a b
  | n, m, a, b, ea, eb => by
    cases a <;> cases b <;> first
      | (simp [pln] at ea; done)
      | (simp [pln] at eb; done)
      | (simp only [py, PyData.eqv, deq, b2i]; done)
      | (cases n with
         | zero => simp [pln, plnT] at ea
         | succ n =>
           cases m with
           | zero => simp [pln, plnT] at eb
           | succ m =>
             simp only [py, PyData.eqv, deq]
             exact eqvL_of n m _ _ (by simpa only [pln, plnT] using ea) (by simpa only [pln, plnT] using eb))
theorem eqvL_of : ∀ (n m : Nat) (a b : List D), plnL n a = true → plnL m b = true → PyData.eqvAll (pyL a) (pyL b) = deqL a b
  | _, _, [], [], _, _ => by simp only [pyL, PyData.eqvAll, deqL]
  | _, _, [], _ :: _, _, _ => by simp only [pyL, PyData.eqvAll, deqL]
  | _, _, _ :: _, [], _, _ => by simp only [pyL, PyData.eqvAll, deqL]
  | n, m, a :: as, b :: bs, ea, eb => by
    simp only [plnL, Bool.and_eq_true] at ea eb
    simp only [pyL, PyData.eqvAll, deqL]
    rw [eqv_of n m a b ea.1 eb.1, eqvL_of n m as bs ea.2 eb.2]
end
theorem any_eqv {a : D} (ea : pln 60 a = true) : ∀ {ds : List D}, plnL 60 ds = true → ((pyL ds).any fun z => PyData.eqv z (py a)) = ds.any fun z => deq z a
  | [], _ => by simp [pyL]
  | d :: ds, e => by
    simp only [plnL, Bool.and_eq_true] at e
    simp only [pyL, List.any_cons]
    rw [eqv_of 60 60 d a e.1 ea, any_eqv ea e.2]
end
end PL

set_option autoImplicit false
set_option linter.all false
set_option maxRecDepth 100000
set_option maxHeartbeats 4000000
/-! PL3: operations by values. -/
namespace HT
open PySem PySem.Spec PyProof.Rows
section
variable {prog : Program} {w : World} {A : Around} {E : Value → Shared → Prop} {s : Shared}
theorem sliceApplied_rev {sl : Addr} {t : Tok} {n : Nat} {Q : Int × Int × Nat → Shared → Prop} (hs : s.heap.IsSliceOf sl .none .none (.int (-1) t))
    (h : Q ((n : Int) - 1, -1, n) s) : wpAny (model prog w) A (Builtin.Slice.sliceApplied (.ref sl) (pure (n : Int))) Q E s := by
  obtain ⟨os, hos, hcs, hds⟩ := id hs
  unfold Builtin.Slice.sliceApplied Builtin.Slice.sliceFields
  refine wpAny_bind (wpAny_bind (wpAny_field hos hds (x := .none) rfl (wpAny_bind (wpAny_field hos hds (x := .none) rfl (wpAny_bind (wpAny_field hos hds (x := .int (-1) t) rfl (wpAny_pure ?_)))))))
  refine wpAny_bind (slicePart_int ?_)
  show wpAny _ _ (if ((-1 : Int) == 0) = true then _ else _) _ _ s
  rw [if_neg (by decide)]
  refine wpAny_bind (slicePart_none (wpAny_bind (slicePart_none (wpAny_bind (wpAny_pure ?_)))))
  show wpAny _ _ (pure ((n : Int) - 1, (-1 : Int), Builtin.Slice.slicePlaces ((n : Int) - 1) (-1) (-1))) _ _ s
  have e : Builtin.Slice.slicePlaces ((n : Int) - 1) (-1) (-1) = n := by
    unfold Builtin.Slice.slicePlaces
    rw [if_neg (by decide)]
    cases n with
    | zero => simp
    | succ n =>
      rw [if_pos (by omega)]
      have e1 : (((n + 1 : Nat) : Int) - 1 - -1 - 1) = (n : Int) := by omega
      rw [e1]
      simp
  rw [e]
  exact wpAny_pure h
theorem pick_rev (xs : Array Value) : ((List.range xs.size).filterMap fun (m : Nat) => xs[(((xs.size : Nat) : Int) - 1 + (m : Int) * (-1)).toNat]?).toArray = xs.toList.reverse.toArray := by
  have key : ((List.range xs.size).filterMap fun (m : Nat) => xs[(((xs.size : Nat) : Int) - 1 + (m : Int) * (-1)).toNat]?) = xs.toList.reverse := by
    have h2 : ∀ m, m < xs.size → xs[(((xs.size : Nat) : Int) - 1 + (m : Int) * (-1)).toNat]? = some (xs.toList.reverse.getD m default) := fun m hm => by
      have e : (((xs.size : Nat) : Int) - 1 + (m : Int) * (-1)).toNat = xs.size - 1 - m := by omega
      rw [e, ← Array.getElem?_toList, List.getD_eq_getElem?_getD, List.getElem?_reverse (by simpa using hm), Array.length_toList]
      have hl : xs.size - 1 - m < xs.toList.length := by rw [Array.length_toList]; omega
      rw [List.getElem?_eq_getElem hl]
      rfl
    have h3 : ∀ l : List Nat, (∀ m ∈ l, m < xs.size) → (l.filterMap fun (m : Nat) => xs[(((xs.size : Nat) : Int) - 1 + (m : Int) * (-1)).toNat]?) = l.map fun m => xs.toList.reverse.getD m default := fun l => by
      induction l with
      | nil => intro _; rfl
      | cons a l ih =>
        intro hl
        rw [List.filterMap_cons, h2 a (hl a List.mem_cons_self), List.map_cons, ih fun m hm => hl m (List.mem_cons_of_mem _ hm)]
    rw [h3 _ fun m hm => List.mem_range.mp hm]
    apply List.ext_getElem?
    intro i
    rw [List.getElem?_map]
    by_cases hi : i < xs.size
    · have hl : i < xs.toList.reverse.length := by rw [List.length_reverse, Array.length_toList]; exact hi
      rw [List.getElem?_range hi, List.getElem?_eq_getElem hl, Option.map_some, List.getD_eq_getElem?_getD, List.getElem?_eq_getElem hl]
      rfl
    · rw [List.getElem?_eq_none (by rw [List.length_range]; omega), List.getElem?_eq_none (by rw [List.length_reverse, Array.length_toList]; omega)]
      rfl
  rw [key]
theorem getItem_tuple_rev {t sl : Addr} {items : Array Value} {u : Tok} {Q : Value → Shared → Prop} (ht : IsTup s.heap t items) (hs : s.heap.IsSliceOf sl .none .none (.int (-1) u))
    (h : Q (.ref s.heap.objs.size) { s with heap := s.heap.push { cls := .type "tuple", data := .seq items.toList.reverse.toArray } })
    (hsz : items.size ≤ sizeLine) : wpAny (model prog w) A (getItem (.ref t) (.ref sl)) Q E s := by
  have htake : sizeOk (.seq items.toList.reverse.toArray) := by
    show items.toList.reverse.toArray.size ≤ sizeLine
    rw [List.size_toArray, List.length_reverse, Array.length_toList]
    exact hsz
  obtain ⟨os, hos, hcs, hds⟩ := id hs
  have hTs : s.TypeIs (.ref sl) "slice" := ⟨os, hos, hcs⟩
  unfold getItem
  try with_reducible refine wpAny_holding ?_
  first | refine wpAny_bind (wpAny_pure ?_) | skip
  refine wpAny_bind (wpAny_sequenceKey ht.typeIs (by decide) ?_)
  refine wpAny_bind (wpAny_callSpecial?_slot (name := Str.ofString "__getitem__") ht.typeIs PyProof.Rows.slot_tuple_getitem
    (wpAny_call_entry PyProof.Rows.slot_tuple_getitem ht.typeIs entry_tuple_getitem ?_ (args_tuple_getitem _ _)))
  show wpAny _ _ (Builtin.Tuple.tupleItemsOf (.ref t) >>= _) _ _ s
  refine wpAny_bind (tupleItemsOf_ ht ?_)
  refine wpAny_bind (wpAny_typeOf hTs ?_)
  rw [if_pos (by decide)]
  refine wpAny_bind (sliceApplied_rev hs ?_)
  have hno : ¬ (((((items.size : Nat) : Int) - 1) == 0 && (-1 : Int) == 1 && items.size == items.size) = true) := by
    intro q
    rw [Bool.and_eq_true, Bool.and_eq_true] at q
    exact absurd q.1.2 (by decide)
  show wpAny _ _ (if ((((items.size : Nat) : Int) - 1) == 0 && (-1 : Int) == 1 && items.size == items.size) = true then _ else _) _ _ s
  rw [if_neg hno, pick_rev]
  first
    | exact wpAny_bind (m := Builtin.Tuple.tupleExact _) (wpAny_newObj_type (wpAny_pure ⟨_, rfl, wpAny_pure h⟩) htake)
    | exact wpAny_bind (m := Builtin.Tuple.tupleExact _) (wpAny_newObj_type (wpAny_bind (wpAny_pure (wpAny_pure ⟨_, rfl, wpAny_pure h⟩))) htake)
    | exact wpAny_bind (wpAny_bind (m := Builtin.Tuple.tupleExact _) (wpAny_newObj_type (wpAny_pure (wpAny_pure ⟨_, rfl, wpAny_pure h⟩)) htake))
    | exact wpAny_bind (wpAny_bind (m := Builtin.Tuple.tupleExact _) (wpAny_newObj_type (wpAny_pure ⟨_, rfl, wpAny_pure h⟩) htake))
end
end HT
namespace L2
open PySem PySem.Spec PyProof.Rows
section
variable {X : Cx}
/-- t[::-1] of a list, of a tuple -/
def tRevA (K : PySem.W.Frag) (te : TE) : TE := fun σ H Q => te σ H fun x H1 => ∃ a xs, x = .ref a ∧ ((SqL K H1 a xs ∧ ∀ p, H1 p = none → Q (.ref p) (upd H1 p (.lst xs.reverse))) ∨ (SqT K H1 a xs ∧ ∀ p, H1 p = none → Q (.ref p) (upd H1 p (.tup xs.reverse))))
theorem pe_revA {e : Expr} {te : TE} {k : Nat} {p1 p2 p3 pos : Pos} (he : PE X e te) : PE X (.Subscript e (.Slice none none (some (.UnaryOp .USub (.Constant (.int 1) k p1) p2)) p3) pos) (tRevA X.K te) := by
  refine ⟨fun pins s σ H Q I h => ?_⟩
  refine Subscript_ (thn (he.run pins s σ H _ I h) fun v s1 ⟨x, H1, I1, r1, q1⟩ => ?_)
  obtain ⟨a, xs, ex, q1⟩ := q1
  subst ex
  cases r1
  have hst : PO X (some (.UnaryOp .USub (.Constant (.int 1) k p1) p2)) (tPart (tUn (rU fun i => .int (-i)) (tC (.int 1)))) := po_some (pe_un un_neg pe_int)
  refine wpAny_Slice (thn (po_none.run pins s1 σ H1 (fun o H2 => o = none ∧ H2 = H1) I1 ⟨rfl, rfl⟩) fun vl s2 ⟨l, H2, I2, pl, el, e2⟩ => ?_)
  subst el e2
  refine thn (po_none.run pins s2 σ H2 (fun o H3 => o = none ∧ H3 = H2) I2 ⟨rfl, rfl⟩) fun vu s3 ⟨u, H3, I3, pu, eu, e3⟩ => ?_
  subst eu e3
  refine thn (hst.run pins s3 σ H3 (fun o H4 => o = some (-1) ∧ H4 = H3) I3 ⟨1, rfl, -1, rfl, rfl, rfl⟩) fun vs s4 ⟨o, H4, I4, ps, eo, e4⟩ => ?_
  subst eo e4
  have I5 : Inv X pins σ H4 { s4 with heap := s4.heap.push { cls := .type "slice", data := .fields #[vl, vu, vs] } } := I4.kept (t' := s4.toks) fun b ob q => Heap.get?_push_of_some _ q
  show wpAny (model X.prog X.w) X.A (subscriptTail e (.Slice none none (some (.UnaryOp .USub (.Constant (.int 1) k p1) p2)) p3) (.ref a) (.ref s4.heap.objs.size)) (EP X pins σ Q) X.xe { s4 with heap := s4.heap.push { cls := .type "slice", data := .fields #[vl, vu, vs] } }
  rcases q1 with ⟨hx, q⟩ | ⟨hx, q⟩
  · obtain ⟨its, r, ht, hz⟩ := I5.list hx
    have hlen := r.length
    refine tail_any (ops := [.ref a, .ref s4.heap.objs.size]) ht.isList.typeIs (PySem.slot_list_getitem.lookup) ?_ (by with_unfolding_all rfl)
    refine wpAny_getItem_list_slice ht.isList (Heap.IsSliceOf.new _ vl vu vs) pl pu ps (by decide) ?_ (by rw [List.size_toArray]; omega)
    rw [PySem.W.krv_pick]
    refine ⟨.ref _, _, I5.laid (t' := s4.toks) (o := .lst xs.reverse) (fun b ob q => Heap.get?_push_of_some _ q) (Nat.le_refl _) ?_, rfl, q _ (I5.hok.fresh (Nat.le_refl _))⟩
    exact ⟨by rw [List.length_reverse]; exact hz, _, 0, r.reverse, Heap.get?_push_size _ rfl⟩
  · obtain ⟨its, r, ht, hz⟩ := I5.tuple hx
    have hlen := r.length
    cases pl
    cases pu
    cases ps
    refine tail_any (ops := [.ref a, .ref s4.heap.objs.size]) ht.typeIs (PyProof.Rows.slot_tuple_getitem.lookup) ?_ (by with_unfolding_all rfl)
    refine HT.getItem_tuple_rev ht (Heap.IsSliceOf.new _ _ _ _) ?_ (by rw [List.size_toArray]; omega)
    refine ⟨.ref _, _, I5.laid (t' := s4.toks) (o := .tup xs.reverse) (fun b ob q => Heap.get?_push_of_some _ q) (Nat.le_refl _) ?_, rfl, q _ (I5.hok.fresh (Nat.le_refl _))⟩
    exact ⟨by rw [List.length_reverse]; exact hz, _, r.reverse, ⟨_, Heap.get?_push_size _ rfl, rfl, 0, by simp⟩⟩
end
end L2

namespace PL
open PySem PySem.Spec PyProof.Rows L2
theorem lim_le : lim ≤ sizeLine := by rw [sizeLine_eq]; decide
section
variable {X : Cx} {mg : PySem.Str → Option Value} {m : Md}
/-! ### two-place operations -/
def pyB : Bop → Operator
  | .add => .Add | .sub => .Sub | .mul => .Mult | .fdiv => .FloorDiv | .mod => .Mod | .pow => .Pow
theorem tuple_mul1 (l : Addr) (items : Array Value) (n : Nat) (dd : Option Addr) (sl : Array (Option Value)) (u : Tok) :
    Meets (Builtin.«tuple.__mul__» ⟨[.ref l, .int 1 u], []⟩) (fun _ R s => s.heap.get? l = some { cls := .type "tuple", dict := dd, data := .seq items n, slots := sl } ∧ R (.ok (.ret (Value.ref l))) s) :=
  .of_wp fun prog w A R s h => by
    obtain ⟨hp, g, d, tk, os⟩ := s
    obtain ⟨hl, h⟩ := h
    have f1 := AutoSeq1.idx_int
    have c1 : (items.isEmpty || (1 : Int) == 1) = true := by simp
    have c0 : (decide ((1 : Int) < -(2 ^ 63)) || decide ((1 : Int) ≥ 2 ^ 63)) = false := by decide
    wp_walk using wpAny_loadPart' hl
    repeat (first
      | (refine wpAny_ite_false (decide_eq_false (by rw [c0]; exact Bool.false_ne_true)) ?_; wp_walk using wpAny_loadPart' hl)
      | (refine wpAny_ite_true (decide_eq_true (by rw [c1])) ?_; wp_walk using wpAny_loadPart' hl))
    exact ⟨_, rfl, h⟩
def rRepT1 (K : PySem.W.Frag) : R2 := fun x y H Q => ∃ l xs, x = .ref l ∧ y = .int 1 ∧ SqT K H l xs ∧ Q (.ref l) H
theorem op_repT1 : OpR X (binaryOp .Mult) (rRepT1 X.K) := by
  intro pins s σ H x y v u Q I rx ry h
  obtain ⟨l, xs, rfl, rfl, hT, q⟩ := h
  cases rx
  obtain ⟨t, rfl⟩ := ry
  obtain ⟨its, r, ⟨⟨cls, dd, data, sl⟩, ho, hc, n, hd⟩, hs⟩ := I.tuple hT
  simp only at hc hd
  subst hc hd
  exact wpAny_binaryOp_repeat_ref (T := "tuple") (U := "int") (by decide) ⟨_, ho, rfl⟩ (fun s' => typeIs_int s' 1 t) noFill_tuple_mul PySem.F.fills_int_mul PySem.F.slot_int_rmul repeat_tuple PySem.F.slot_int_index.lookup
    (call_meets PySem.F.slot_int_rmul (typeIs_int s 1 t) PySem.F.entry_int_rmul (PySem.F.args_int_rmul_2 _ _) (int_rmul_tuple 1 t l its.toArray n dd sl)
      ⟨ho, rfl, ⟨_, ho, rfl⟩, call_meets PySem.F.slot_tuple_mul ⟨_, ho, rfl⟩ PySem.F.entry_tuple_mul (PySem.F.args_tuple_mul_2 _ _) (tuple_mul1 l its.toArray n dd sl t) ⟨ho, .ref l, H, I, rfl, q⟩⟩)
def rB (K : PySem.W.Frag) (mg : PySem.Str → Option Value) (m : Md) (o : Bop) : R2 := fun x y H Q => ∃ bp bq B a b d,
  Gd bp bq B H ∧ RepT K mg bp B H bq a x ∧ RepT K mg bp B H bq b y ∧ bop o a b = some d ∧ ResM K mg bp bq m B H d Q
theorem op_B (o : Bop) : OpR X (binaryOp (pyB o)) (rB X.K mg m o) := by
  intro pins s σ H x y v u Q I rx ry h
  obtain ⟨bp, bq, B, a, b, d, g, ha, hb, e, q⟩ := h
  have hl := lim_le
  cases o with
  | add =>
    cases a with
    | int i =>
      cases b with
      | int j =>
        simp only [bop, Option.some.injEq] at e; subst e
        exact op_add pins s σ H x y v u Q I rx ry ⟨i, j, ha.int, hb.int, q.int g⟩
      | _ => simp [bop] at e
    | tup xs =>
      cases b with
      | tup ys =>
        simp only [bop, Option.ite_none_right_eq_some, Option.some.injEq] at e
        obtain ⟨hle, e⟩ := e; subst e
        obtain ⟨p, vs, rfl, h1, r1⟩ := ha.tup g.sub
        obtain ⟨p2, ws, rfl, h2, r2⟩ := hb.tup g.sub
        refine op_catA pins s σ H _ _ v u Q I rx ry ⟨p, p2, vs, ws, rfl, rfl, h1, h2, by rw [← r1.length, ← r2.length]; omega, fun z => ?_, fun z z2 => ?_, fun _ _ p' hp' => q.tup g (r1.append r2) hp'⟩
        · subst z
          have e0 : xs = [] := List.eq_nil_of_length_eq_zero (by rw [r1.length]; rfl)
          subst e0
          exact q.same g (hb.flat (by intro xs e; cases e)) (by intro xs e; cases e)
        · subst z2
          have e0 : ys = [] := List.eq_nil_of_length_eq_zero (by rw [r2.length]; rfl)
          subst e0
          rw [List.append_nil] at q
          exact q.same g (ha.flat (by intro xs e; cases e)) (by intro xs e; cases e)
      | _ => simp [bop] at e
    | lst xs =>
      cases b with
      | lst ys =>
        simp only [bop, Option.ite_none_right_eq_some, Option.some.injEq] at e
        obtain ⟨hle, e⟩ := e; subst e
        obtain ⟨p, vs, rfl, h1, r1⟩ := ha.lst g.sub
        obtain ⟨p2, ws, rfl, h2, r2⟩ := hb.lst g.sub
        exact op_cat pins s σ H _ _ v u Q I rx ry ⟨p, p2, vs, ws, rfl, rfl, h1, h2, by rw [← r1.length, ← r2.length]; omega, fun p' hp' => q.lst g (r1.append r2) hp'⟩
      | _ => simp [bop] at e
    | str i =>
      cases b with
      | str j =>
        simp only [bop, Option.ite_none_right_eq_some, Option.some.injEq] at e
        obtain ⟨hle, e⟩ := e; subst e
        exact op_add_str pins s σ H x y v u Q I rx ry ⟨i, j, ha.str, hb.str, by show i.cps.size + j.cps.size ≤ sizeLine; omega, q.str g⟩
      | _ => simp [bop] at e
    | _ => cases b <;> simp [bop] at e
  | sub =>
    cases a with
    | int i =>
      cases b with
      | int j =>
        simp only [bop, Option.some.injEq] at e; subst e
        exact op_sub pins s σ H x y v u Q I rx ry ⟨i, j, ha.int, hb.int, q.int g⟩
      | _ => simp [bop] at e
    | _ => cases b <;> simp [bop] at e
  | mul =>
    cases a with
    | int i =>
      cases b with
      | int j =>
        simp only [bop, Option.ite_none_right_eq_some, Option.some.injEq] at e
        obtain ⟨hle, e⟩ := e; subst e
        exact op_mulW pins s σ H x y v u Q I rx ry ⟨i, j, ha.int, hb.int, (by simpa only [mulOk, decide_eq_true_eq] using hle : i.natAbs.log2 + j.natAbs.log2 < 1000000), q.int g⟩
      | _ => simp [bop] at e
    | lst xs =>
      cases b with
      | int k =>
        simp only [bop, Option.ite_none_right_eq_some, Option.some.injEq] at e
        obtain ⟨⟨k0, k1, k2⟩, e⟩ := e; subst e
        obtain ⟨p, vs, rfl, h1, r1⟩ := ha.lst g.sub
        have hz : vs.length * k.toNat ≤ 4 * 1000 := Nat.mul_le_mul (by rw [← r1.length]; exact k2) (by omega)
        have hz2 : vs.length * k.toNat ≤ sizeLine := Nat.le_trans hz (by rw [sizeLine_eq]; decide)
        exact op_rep pins s σ H _ _ v u Q I rx ry ⟨p, k, vs, rfl, hb.int, h1, by omega, by omega, hz2, fun p' hp' => q.lst g (r1.rep _) hp'⟩
      | _ => simp [bop] at e
    | tup xs =>
      cases b with
      | int k =>
        simp only [bop, Option.ite_none_right_eq_some, Option.some.injEq] at e
        obtain ⟨⟨k3, k0, k1, k2⟩, e⟩ := e; subst e
        obtain ⟨p, vs, rfl, h1, r1⟩ := ha.tup g.sub
        have hne : vs ≠ [] := fun z => k3 (List.eq_nil_of_length_eq_zero (by rw [r1.length, z]; rfl))
        by_cases hk1 : k = 1
        · subst hk1
          have e1 : (List.replicate (1 : Int).toNat xs).flatten = xs := by simp [List.replicate]
          rw [e1] at q
          exact op_repT1 pins s σ H _ _ v u Q I rx ry ⟨p, vs, rfl, hb.int, h1, q.same g (ha.flat (by intro xs e; cases e)) (by intro xs e; cases e)⟩
        have k0 : 2 ≤ k := by omega
        exact op_repT pins s σ H _ _ v u Q I rx ry ⟨p, k, vs, rfl, hb.int, h1, hne, k0, k1, by rw [← r1.length]; omega, fun p' hp' => q.tup g (r1.rep _) hp'⟩
      | _ => simp [bop] at e
    | _ => cases b <;> simp [bop] at e
  | fdiv =>
    cases a with
    | int i =>
      cases b with
      | int j =>
        simp only [bop, Option.ite_none_right_eq_some, Option.some.injEq] at e
        obtain ⟨hle, e⟩ := e; subst e
        simp only [divOk, Bool.and_eq_true, decide_eq_true_eq] at hle
        exact op_fdivW pins s σ H x y v u Q I rx ry ⟨i, j, ha.int, hb.int, hle, q.int g⟩
      | _ => simp [bop] at e
    | _ => cases b <;> simp [bop] at e
  | mod =>
    cases a with
    | int i =>
      cases b with
      | int j =>
        simp only [bop, Option.ite_none_right_eq_some, Option.some.injEq] at e
        obtain ⟨hle, e⟩ := e; subst e
        exact op_mod pins s σ H x y v u Q I rx ry ⟨i, j, ha.int, hb.int, hle, q.int g⟩
      | _ => simp [bop] at e
    | _ => cases b <;> simp [bop] at e
  | pow =>
    cases a with
    | int i =>
      cases b with
      | int j =>
        simp only [bop, Option.ite_none_right_eq_some, Option.some.injEq] at e
        obtain ⟨⟨h0, h1, h2⟩, e⟩ := e; subst e
        exact op_pow pins s σ H x y v u Q I rx ry ⟨i, j, ha.int, hb.int, ⟨h0, by omega, h2⟩, q.int g⟩
      | _ => simp [bop] at e
    | _ => cases b <;> simp [bop] at e
/-! ### comparisons -/
def pyC : Cop → CmpOp
  | .eq => .Eq | .ne => .NotEq | .lt => .Lt | .le => .LtE | .gt => .Gt | .ge => .GtE | .isin => .In | .notin => .NotIn | .iss => .Is | .isnot => .IsNot
def rC (K : PySem.W.Frag) (mg : PySem.Str → Option Value) (o : Cop) : R2 := fun x y H Q => ∃ bp bq B a b t,
  Gd bp bq B H ∧ RepT K mg bp B H bq a x ∧ RepT K mg bp B H bq b y ∧ cop o a b = some t ∧ Q (.bl t) H
theorem lexLt_eq : ∀ ns ms : List Int, HT.lexLt ns ms = lexLt ns ms
  | [], [] => rfl
  | [], _ :: _ => rfl
  | _ :: _, [] => rfl
  | a :: as, b :: bs => by
    rw [HT.lexLt_cons]
    simp only [lexLt]
    rw [lexLt_eq as bs]
theorem nonrep {K : PySem.W.Frag} {bp bq : Addr} {B H : Hp} {a : D} {v : V} (h : RepT K mg bp B H bq a v) (n : a ≠ .non) : v ≠ .non := by
  rcases h with h | ⟨p, vs, xs, e, _⟩
  · cases a with
    | non => exact absurd rfl n
    | bl b => simp only [Rep] at h; rw [h]; intro z; cases z
    | int b => simp only [Rep] at h; rw [h]; intro z; cases z
    | str b => simp only [Rep] at h; rw [h]; intro z; cases z
    | tup b => simp only [Rep] at h; obtain ⟨a, vs, e, _⟩ := h; rw [e]; intro z; cases z
    | lst b => simp only [Rep] at h; obtain ⟨a, vs, e, _⟩ := h; rw [e]; intro z; cases z
    | box => simp only [Rep] at h; rw [h]; intro z; cases z
    | fn b => simp only [Rep] at h; obtain ⟨f, e, _⟩ := h; rw [e]; intro z; cases z
  · rw [e]; intro z; cases z
theorem isSame_non {a : D} : isSame a .non = some true ∧ a = .non ∨ isSame a .non = some false ∧ a ≠ .non := by
  cases a <;> simp [isSame]
theorem op_C (hu : X.A.units + 65 < cLine) (o : Cop) : OpR X (compareOp (pyC o)) (rC X.K mg o) := by
  intro pins s σ H x y v u Q I rx ry h
  obtain ⟨bp, bq, B, a, b, t, g, ha, hb, e, q⟩ := h
  cases o with
  | eq =>
    simp only [cop, Option.ite_none_right_eq_some, Option.some.injEq, Bool.and_eq_true] at e
    obtain ⟨⟨e1, e2⟩, rfl⟩ := e
    rw [← eqv_of 60 60 a b e1 e2] at q
    exact op_eqD (by omega) pins s σ H x y v u Q I rx ry ⟨py a, py b, dpT_of g.sub e1 ha, dpT_of g.sub e2 hb, shaped_of e1, shaped_of e2, q⟩
  | ne =>
    simp only [cop, Option.ite_none_right_eq_some, Option.some.injEq, Bool.and_eq_true] at e
    obtain ⟨⟨e1, e2⟩, rfl⟩ := e
    rw [← eqv_of 60 60 a b e1 e2] at q
    exact op_neD (by omega) pins s σ H x y v u Q I rx ry ⟨py a, py b, dpT_of g.sub e1 ha, dpT_of g.sub e2 hb, shaped_of e1, shaped_of e2, q⟩
  | lt =>
    cases a with
    | int i =>
      cases b with
      | int j =>
        simp only [cop, Option.some.injEq] at e; subst e
        exact op_lt pins s σ H x y v u Q I rx ry ⟨i, j, ha.int, hb.int, q⟩
      | _ => simp [cop] at e
    | tup xs =>
      cases b with
      | tup ys =>
        simp only [cop, Option.bind_eq_some_iff, Option.map_eq_some_iff] at e
        obtain ⟨ns, e1, ms, e2, rfl⟩ := e
        obtain ⟨p, vs, rfl, h1, r1⟩ := ha.tup g.sub
        obtain ⟨p2, ws, rfl, h2, r2⟩ := hb.tup g.sub
        have z1 := RepL.ints e1 r1
        have z2 := RepL.ints e2 r2
        subst z1 z2
        rw [← lexLt_eq] at q
        exact op_ltT (by omega) pins s σ H _ _ v u Q I rx ry ⟨p, p2, ns, ms, rfl, rfl, h1, h2, q⟩
      | _ => simp [cop] at e
    | _ => cases b <;> simp [cop] at e
  | le =>
    cases a with
    | int i =>
      cases b with
      | int j =>
        simp only [cop, Option.some.injEq] at e; subst e
        exact op_le pins s σ H x y v u Q I rx ry ⟨i, j, ha.int, hb.int, q⟩
      | _ => simp [cop] at e
    | _ => cases b <;> simp [cop] at e
  | gt =>
    cases a with
    | int i =>
      cases b with
      | int j =>
        simp only [cop, Option.some.injEq] at e; subst e
        exact op_gt pins s σ H x y v u Q I rx ry ⟨i, j, ha.int, hb.int, q⟩
      | _ => simp [cop] at e
    | _ => cases b <;> simp [cop] at e
  | ge =>
    cases a with
    | int i =>
      cases b with
      | int j =>
        simp only [cop, Option.some.injEq] at e; subst e
        exact op_ge pins s σ H x y v u Q I rx ry ⟨i, j, ha.int, hb.int, q⟩
      | _ => simp [cop] at e
    | _ => cases b <;> simp [cop] at e
  | isin =>
    cases b with
    | lst ys =>
      simp only [cop, Option.ite_none_right_eq_some, Option.some.injEq, Bool.and_eq_true] at e
      obtain ⟨⟨e1, e2⟩, rfl⟩ := e
      rw [← any_eqv e1 e2] at q
      obtain ⟨p, vs, rfl, h1, r1⟩ := hb.lst g.sub
      exact op_inD hu pins s σ H _ _ v u Q I rx ry ⟨py a, pyL ys, dpT_of g.sub e1 ha, .lst (SqL.of h1) (dpAll_of g.sub 60 ys vs e2 r1), shaped_of e1, shapedL_of e2, q⟩
    | _ => cases a <;> simp [cop] at e
  | notin =>
    cases b with
    | lst ys =>
      simp only [cop, Option.ite_none_right_eq_some, Option.some.injEq, Bool.and_eq_true] at e
      obtain ⟨⟨e1, e2⟩, rfl⟩ := e
      rw [← any_eqv e1 e2] at q
      obtain ⟨p, vs, rfl, h1, r1⟩ := hb.lst g.sub
      exact op_notInD hu pins s σ H _ _ v u Q I rx ry ⟨py a, pyL ys, dpT_of g.sub e1 ha, .lst (SqL.of h1) (dpAll_of g.sub 60 ys vs e2 r1), shaped_of e1, shapedL_of e2, q⟩
    | _ => cases a <;> simp [cop] at e
  | iss =>
    have e : isSame a b = some t := e
    cases b with
    | non =>
      have hy := hb.non
      rcases isSame_non (a := a) with ⟨e1, e2⟩ | ⟨e1, e2⟩
      · rw [e1] at e; cases e
        subst e2
        have hx := ha.non
        refine op_isN pins s σ H x y v u Q I rx ry ⟨hy, ?_⟩
        rw [decide_eq_true hx]; exact q
      · rw [e1] at e; cases e
        refine op_isN pins s σ H x y v u Q I rx ry ⟨hy, ?_⟩
        rw [decide_eq_false (nonrep ha e2)]; exact q
    | bl j =>
      cases a with
      | bl i =>
        simp only [isSame, Option.some.injEq] at e; subst e
        exact op_isBl pins s σ H x y v u Q I rx ry ⟨i, j, ha.bl, hb.bl, q⟩
      | _ => simp [isSame] at e
    | _ => cases a <;> simp [isSame] at e
  | isnot =>
    have e2 : (isSame a b).map (!·) = some t := e
    clear e
    rw [Option.map_eq_some_iff] at e2
    obtain ⟨t', e, rfl⟩ := e2
    cases b with
    | non =>
      have hy := hb.non
      rcases isSame_non (a := a) with ⟨e1, e2⟩ | ⟨e1, e2⟩
      · rw [e1] at e; cases e
        subst e2
        have hx := ha.non
        refine op_notN pins s σ H x y v u Q I rx ry ⟨hy, ?_⟩
        rw [decide_eq_true hx]; exact q
      · rw [e1] at e; cases e
        refine op_notN pins s σ H x y v u Q I rx ry ⟨hy, ?_⟩
        rw [decide_eq_false (nonrep ha e2)]; exact q
    | bl j =>
      cases a with
      | bl i =>
        simp only [isSame, Option.some.injEq] at e; subst e
        exact op_notBl pins s σ H x y v u Q I rx ry ⟨i, j, ha.bl, hb.bl, q⟩
      | _ => simp [isSame] at e
    | _ => cases a <;> simp [isSame] at e
/-! ### truth -/
theorem tru_of {K : PySem.W.Frag} {bp bq : Addr} {B H : Hp} {a : D} {v : V} {t : Bool} (g : Gd bp bq B H) (h : RepT K mg bp B H bq a v) (e : truth a = some t) : TruV K v H t := by
  have hl := lim_le
  cases a with
  | non => rw [h.non]; simp only [truth, Option.some.injEq] at e; exact e.symm
  | bl b => rw [h.bl]; simp only [truth, Option.some.injEq] at e; exact e.symm
  | int i => rw [h.int]; simp only [truth, Option.some.injEq] at e; exact e.symm
  | str s =>
    rw [h.str]
    simp only [truth, Option.ite_none_right_eq_some, Option.some.injEq] at e
    obtain ⟨h1, rfl⟩ := e
    refine ⟨by show s.cps.size ≤ sizeLine; omega, ?_⟩
    show (s.cps.size != 0) = (((s.cps.size : Nat) : Int) != 0)
    by_cases z : s.cps.size = 0
    · rw [z]; rfl
    · rw [bne_iff_ne.mpr z, eq_comm, bne_iff_ne]; omega
  | tup xs =>
    obtain ⟨p, vs, rfl, h1, r1⟩ := h.tup g.sub
    simp only [truth, Option.some.injEq] at e; subst e
    refine .inr (.inl ⟨vs, h1, ?_⟩)
    have := r1.length
    cases xs <;> cases vs <;> simp at this ⊢
  | lst xs =>
    obtain ⟨p, vs, rfl, h1, r1⟩ := h.lst g.sub
    simp only [truth, Option.some.injEq] at e; subst e
    refine .inl ⟨vs, SqL.of h1, ?_⟩
    have := r1.length
    cases xs <;> cases vs <;> simp at this ⊢
  | box => simp [truth] at e
  | fn _ => simp [truth] at e
/-! ### items, slices -/
theorem pyIx_at {K : PySem.W.Frag} {bp : Addr} {B : Hp} {xs : List D} {vs : List V} {i : Int} {d : D} (r : RepL K mg bp B xs vs) (e : pyIx xs i = some d) : ∃ v, atI vs i = some v ∧ Rep K mg bp B d v := by
  have hl := r.length
  unfold pyIx at e
  unfold atI ixN
  by_cases h : 0 ≤ i
  · rw [if_pos h] at e
    obtain ⟨v, h1, h2⟩ := r.get e
    have hlt : i.toNat < vs.length := (List.getElem?_eq_some_iff.mp h1).1
    exact ⟨v, by rw [if_pos h, if_pos (by omega)]; exact h1, h2⟩
  · rw [if_neg h] at e
    by_cases h3 : -(xs.length : Int) ≤ i
    · rw [if_pos h3, hl] at e
      obtain ⟨v, h1, h2⟩ := r.get e
      exact ⟨v, by rw [if_neg h, if_pos (by omega)]; exact h1, h2⟩
    · rw [if_neg h3] at e; cases e
def rIxD (K : PySem.W.Frag) (mg : PySem.Str → Option Value) : R2 := fun x y H Q => ∃ bp bq B a b d,
  Gd bp bq B H ∧ RepT K mg bp B H bq a x ∧ RepT K mg bp B H bq b y ∧ idx a b = some d ∧ ∀ v, Rep K mg bp B d v → Q v H
theorem ix_D : IxR X (rIxD X.K mg) := by
  intro value slice pins s σ H x y v u Q I rx ry h hs
  obtain ⟨bp, bq, B, a, b, d, g, ha, hb, e, q⟩ := h
  cases b with
  | int i =>
    cases a with
    | tup xs =>
      obtain ⟨p, vs, rfl, h1, r1⟩ := ha.tup g.sub
      obtain ⟨v', h2, h3⟩ := pyIx_at r1 (show pyIx xs i = some d from e)
      exact ix_tup value slice pins s σ H _ _ v u Q I rx ry ⟨p, vs, i, v', rfl, hb.int, h1, h2, q v' h3⟩ hs
    | lst xs =>
      obtain ⟨p, vs, rfl, h1, r1⟩ := ha.lst g.sub
      obtain ⟨v', h2, h3⟩ := pyIx_at r1 (show pyIx xs i = some d from e)
      exact ix_list value slice pins s σ H _ _ v u Q I rx ry ⟨p, vs, i, v', rfl, hb.int, SqL.of h1, h2, q v' h3⟩ hs
    | _ => simp [idx] at e
  | _ => cases a <;> simp [idx] at e
theorem clip_eq (n d : Nat) : ∀ o : Option Int, HT.sIx n d o = clip n d o
  | none => rfl
  | some _ => rfl
theorem cut_rep {K : PySem.W.Frag} {bp : Addr} {B : Hp} {xs : List D} {vs : List V} (r : RepL K mg bp B xs vs) (lo hi : Option Int) : RepL K mg bp B (cutD xs lo hi) (cutV vs lo hi) := by
  unfold cutD cutV
  rw [clip_eq, clip_eq, ← r.length]
  exact (r.drop _).take _
def rSlD (K : PySem.W.Frag) (mg : PySem.Str → Option Value) (m : Md) : V → Option Int → Option Int → Hp → VK → Prop := fun x lo hi H Q => ∃ bp bq B a d,
  Gd bp bq B H ∧ RepT K mg bp B H bq a x ∧ sli lo hi a = some d ∧ ResM K mg bp bq m B H d Q
theorem sl_D : SlR X (rSlD X.K mg m) := by
  intro pins s σ H x v vl vu lo hi sl Q I rx hs pl pu h
  obtain ⟨bp, bq, B, a, d, g, ha, e, q⟩ := h
  cases a with
  | tup xs =>
    simp only [sli, Option.some.injEq] at e; subst e
    obtain ⟨p, vs, rfl, h1, r1⟩ := ha.tup g.sub
    refine sl_tupA pins s σ H _ v vl vu lo hi sl Q I rx hs pl pu ⟨p, vs, rfl, h1, fun hw => ?_, fun _ p' hp' => q.tup g (cut_rep r1 lo hi) hp'⟩
    have e0 : cutD xs lo hi = xs := by
      unfold cutD
      rw [← clip_eq, ← clip_eq, r1.length, hw.1, hw.2, List.drop_zero, Nat.sub_zero, ← r1.length, List.take_length]
    rw [e0] at q
    exact q.same g (ha.flat (by intro xs e; cases e)) (by intro xs e; cases e)
  | lst xs =>
    simp only [sli, Option.some.injEq] at e; subst e
    obtain ⟨p, vs, rfl, h1, r1⟩ := ha.lst g.sub
    exact sl_list pins s σ H _ v vl vu lo hi sl Q I rx hs pl pu ⟨p, vs, rfl, SqL.of h1, fun p' hp' => q.lst g (cut_rep r1 lo hi) hp'⟩
  | _ => simp [sli] at e
end
end PL

set_option autoImplicit false
set_option linter.all false
set_option maxRecDepth 100000
set_option maxHeartbeats 4000000
/-! PL4: enumerate over a tuple; built-ins and iterators by data. -/
namespace PySem
open Sem (wp)
open AutoSeq1 (wpAny_loadPart')
theorem meets_enumerate_new1B {v : Value} {o : Obj} {H : Heap → Prop} (B : Begins v o H) :
    Meets (Builtin.«enumerate.__new__» ⟨[.type "enumerate", v], []⟩) (fun _ R s => H s.heap ∧
      R (.ok (.ret (.ref (s.heap.push o).objs.size))) { s with heap := (s.heap.push o).push { cls := .type "enumerate", data := .fields #[.none, .bool false, .ref s.heap.objs.size, rawInt 0, .none, .none] } }) :=
  .of_wp fun prog w A R s h => by
    obtain ⟨hp, g, d, tk, os⟩ := s; obtain ⟨h1, h⟩ := h
    have hsub := sub_enumerate
    have q1 : ∀ {A' : Around} {E : Value → Shared → Prop} {Q : Value → Shared → Prop}, Q (.ref hp.objs.size) ⟨hp.push o, g, d, tk, os⟩ → wpAny (model prog w) A' (pyIter v) Q E ⟨hp, g, d, tk, os⟩ :=
      fun q => B.iter prog w _ _ ⟨hp, g, d, tk, os⟩ _ h1 q
    wp_walk using q1
    refine wpAny_stack_any fun st => wpAny_pure ?_
    split
    · rename_i c _ _ _ _ _
      cases (c == Value.type "enumerate")
      · wp_walk using q1
        exact ⟨_, rfl, h⟩
      · wp_walk using q1
        exact ⟨_, rfl, h⟩
    · wp_walk using q1
      exact ⟨_, rfl, h⟩
section
variable {prog : Program} {w : World} {A : Around} {E : Value → Shared → Prop} {s : Shared}
theorem enum_begins1 {v : Value} {o : Obj} {H : Heap → Prop} {Q : Value → Shared → Prop} (B : Begins v o H) (h1 : H s.heap)
    (h : ∀ h', IsEnum h' (s.heap.objs.size + 1) s.heap.objs.size 0 .none → h'.get? s.heap.objs.size = some o → h'.objs.size = s.heap.objs.size + 2 →
      (∀ b o, s.heap.get? b = some o → h'.get? b = some o) → Q (.ref (s.heap.objs.size + 1)) { s with heap := h' }) :
    wpAny (model prog w) A (call (.type "enumerate") [v]) Q E s := by
  refine callType_new F.called_enumerate (by decide) (F.typeCall_enumerate_1 _) (F.newCall_enumerate_1 _) (fun obj => F.args_object_init_2 obj _) F.entry_enumerate_new
    (meets_enumerate_new1B B) ⟨h1, ?_⟩
  have hz : (s.heap.push o).objs.size = s.heap.objs.size + 1 := Heap.size_push ..
  show _ ∧ _
  rw [hz]
  have he : IsEnum ((s.heap.push o).push { cls := .type "enumerate", data := .fields #[.none, .bool false, .ref s.heap.objs.size, rawInt 0, .none, .none] }) (s.heap.objs.size + 1) s.heap.objs.size 0 .none := by
    have := Heap.get?_push_size (s.heap.push o) (o := { cls := .type "enumerate", data := .fields #[.none, .bool false, .ref s.heap.objs.size, rawInt 0, .none, .none] }) rfl
    rw [hz] at this; exact this
  refine ⟨⟨_, he, rfl⟩, h _ he (Heap.get?_push_of_some _ (Heap.get?_push_size _ B.free)) (by rw [Heap.size_push, hz]) fun b o x => Heap.get?_push_of_some _ (Heap.get?_push_of_some _ x)⟩
end
end PySem
namespace L2
open PySem PySem.Spec PyProof.Rows
def IteT (K : PySem.W.Frag) (a : Addr) : It :=
  ⟨fun i H => ∃ (xs : List V) (x : V), SqT K H a xs ∧ xs[i]? = some x, fun i H v H' => ∃ T x, v = .ref T ∧ H T = none ∧ H' = upd H T (.tup [.int (i : Nat), x]) ∧ ∀ xs, SqT K H a xs → xs[i]? = some x, fun i H => ∃ xs : List V, SqT K H a xs ∧ xs.length ≤ i⟩
theorem turn_enumT {P : Program} {w : World} {K : PySem.W.Frag} {elts : List Expr} {kk : Nat} {tpos : Pos} (a e it : Addr) (hat : a ≠ it) :
    Turn P w K (.Tuple elts kk tpos) (IteT K a) [e, it] e (fun i h => (∃ old, IsEnum h e it ((i : Nat) : Int) old) ∧ h.IsTupleIter it a i ∧ e ≠ it) where
  mem := by simp
  obj := fun i h st b hb => by
    obtain ⟨⟨old, he⟩, ⟨o, ho, hc, hd⟩, _⟩ := st
    have e' : b = e ∨ b = it := by simpa using hb
    rcases e' with z | z
    · rw [z]; exact ⟨_, he, fun v q => nomatch q⟩
    · rw [z]; exact ⟨o, ho, fun v q => by rw [hd] at q; cases q⟩
  keep := fun i h h' st k => let ⟨⟨old, he⟩, hi, hne⟩ := st; ⟨⟨old, k e (by simp) _ he⟩, hi.at fun o q => k it (by simp) o q, hne⟩
  item := by
    intro X hP hw hK hc i pins s σ H E I hf st hg
    subst hP hw hK
    obtain ⟨⟨old, he⟩, hit, hne⟩ := st
    obtain ⟨xs, x, hq, hx⟩ := hg
    obtain ⟨its, rv, p, hz⟩ := I.tuple hq
    obtain ⟨u, hu, ru⟩ := rv.get hx
    have hel : e < s.heap.objs.size := Heap.lt_size he
    have hil : it < s.heap.objs.size := by obtain ⟨_, q, _⟩ := hit; exact Heap.lt_size q
    have hlt : i < its.toArray.size := by
      have := (List.getElem?_eq_some_iff.mp hu).1
      rw [List.size_toArray]; exact this
    have hae : e ∉ [it, a] := fun z => by
      rcases List.mem_cons.mp z with q | q
      · exact hne q
      · have q : e = a := List.mem_singleton.mp q
        obtain ⟨o1, ho1, hc1, _⟩ := p
        have he' : s.heap.get? e = some { cls := .type "enumerate", dict := none, data := .fields #[.none, .bool false, .ref it, rawInt i, .none, old], slots := #[] } := he
        rw [q, ho1] at he'
        have z2 := Option.some.inj he'
        rw [z2] at hc1
        simp at hc1
    refine wpAny_pyNext_enum_itemD (Draws.tuple (prog := X.prog) (w := X.w) (A := X.A.in1) (I.ok.hd hc) it a hat its.toArray) he ⟨hit, p⟩ hlt hne hae fun y h' tk hy ho ⟨hit', _⟩ hT hsz hk => ?_
    have ey : y = u := by
      have z : its.toArray[i]? = some u := by simpa using hu
      rw [z] at hy; exact (Option.some.inj hy).symm
    subst ey
    refine ⟨_, rfl, wpAny_letOwnedTupleGo_enum (s := { s with heap := h', toks := tk + 1 }) ho fun h'' he' sb => ?_⟩
    have hT2 : h''.get? s.heap.objs.size = some { cls := .type "tuple", data := .seq #[.int i tk, y] } := (sb.2 _ (Nat.ne_of_gt hel)).trans hT
    have new : ObjOk X.prog X.w (upd H s.heap.objs.size (.tup [.int (i : Nat), x])) h'' s.heap.objs.size (.tup [.int (i : Nat), x]) :=
      ⟨by show 2 ≤ sizeLine; decide, [.int i tk, y], .cons ⟨_, rfl⟩ (.cons ru .nil), ⟨_, hT2, rfl, _, rfl⟩⟩
    have I1 : Inv X pins σ (upd H s.heap.objs.size (.tup [.int (i : Nat), x])) { s with heap := h'', toks := tk + 1 } :=
      I.turnedNew (ch := [e, it]) (fun b ob hb q => (sb.2 b (fun z => hb (by simp [z]))).trans (hk b ob (fun z => hb (by simp [z])) (fun z => hb (by simp [z])) q)) hf (Nat.le_refl _) new
    refine ⟨.ref s.heap.objs.size, _, I1, rfl, ⟨_, x, rfl, I.hok.fresh (Nat.le_refl _), rfl, fun ys hy => by rw [I.tuple_inj hy hq]; exact hx⟩, ⟨⟨y, ?_⟩, hit'.at fun o q => (sb.2 it (Ne.symm hne)).trans q, hne⟩, fun b hb => ?_⟩
    · have e1 : ((i + 1 : Nat) : Int) = (i : Int) + 1 := by omega
      rw [e1]; exact he'
    · have hb' : b < s.heap.objs.size := by
        have e' : b = e ∨ b = it := by simpa using hb
        rcases e' with z | z
        · rw [z]; exact hel
        · rw [z]; exact hil
      rw [upd_ne (Nat.ne_of_lt hb')]
      exact (hf b hb).1
  done := by
    intro X hP hw hK hc i pins s σ H E I hf st hg
    subst hP hw hK
    obtain ⟨⟨old, he⟩, hit, hne⟩ := st
    obtain ⟨xs, hq, hx⟩ := hg
    obtain ⟨its, rv, p, hz⟩ := I.tuple hq
    obtain ⟨f0, f1, f2, f3, f4, f5⟩ := hf it (by simp)
    have hl := rv.length
    have D : Draws X.prog X.w X.A.in1 it [it, a] i (fun _ _ => False) (fun j h => j = i ∧ h.IsTupleIter it a i ∧ h.IsTuple a its.toArray) := {
      live := fun _ _ st => let ⟨o, ho, _⟩ := st.2.1; ⟨o, ho⟩
      frame := fun _ _ _ st hk => ⟨st.1, st.2.1.at fun o e => hk it (by simp) o e, st.2.2.at fun o e => hk a (by simp) o e⟩
      item := fun j s Q E hj st _ => absurd st.1 (Nat.ne_of_lt hj)
      done := fun s Q E st hE => wpAny_nextOf_tuple_end (I.ok.hd hc) st.2.1 st.2.2 (by simp; omega) hE }
    exact wpAny_pyNext_enum_endD D he ⟨rfl, hit, p⟩ fun h' eb => ⟨rfl, I.turned (t' := s.toks) (fun b o hb q => eb b o hb q) f0 f1 f3 f4 f5⟩
  self := fun A i s Q E st h => let ⟨⟨_, he⟩, _⟩ := st; wpAny_pyIter_enum he h
/-- enumerate over a list, over a tuple -/
def iEnumA (K : PySem.W.Frag) (ta : TA) : TI := fun σ H R => ta σ H fun vs H1 => ∃ a xs, vs = [.ref a] ∧ ((SqL K H1 a xs ∧ R (Ite K a) H1) ∨ (SqT K H1 a xs ∧ R (IteT K a) H1))
theorem pi_enumA {X : Cx} {e : Expr} {ta : TA} {p pos tpos : Pos} {elts : List Expr} {kk : Nat} (hg : Gl X "enumerate") (hm : X.mg "enumerate" = none) (ha : PA X [e] ta) (hs : starEach [e] X.env = [(false, eval e X.env)]) :
    PI X (.Tuple elts kk tpos) (.Call (.Name "enumerate" p) [e] [] pos) (iEnumA X.K ta) := by
  refine ⟨fun pins s σ H R I h => ?_⟩
  refine Call_ (ld_blt I hg hm boot_enumerate (PyProof.Rows.callWith_type1 (thn (ha.run pos pins s σ H _ I h) fun us s1 ⟨vs, H1, I1, r1, q1⟩ => ?_) hs rfl))
  obtain ⟨a, xs, ex, q⟩ := q1
  subst ex
  cases r1 with
  | cons r rr =>
    cases rr
    cases r
    have fin : ∀ b ∈ [s1.heap.objs.size + 1, s1.heap.objs.size], FpOk X pins H1 b := fun b hb => by
      have e' : b = s1.heap.objs.size + 1 ∨ b = s1.heap.objs.size := by simpa using hb
      have hle : s1.heap.objs.size ≤ b := by
        rcases e' with z | z
        · rw [z]; exact Nat.le_add_right _ _
        · rw [z]; exact Nat.le_refl _
      exact I1.fpOk hle (I1.hok.fresh hle)
    rcases q with ⟨hq, q⟩ | ⟨hq, q⟩
    · obtain ⟨its, rv, p', hz⟩ := I1.list hq
      refine call_enumerate_list p'.isList fun h' he hit hsz hk => wpAny_pyIter_enum he ?_
      have I2 : Inv X pins σ H1 { s1 with heap := h' } := I1.kept (t' := s1.toks) hk
      exact ⟨s1.heap.objs.size + 1, [s1.heap.objs.size + 1, s1.heap.objs.size], _, _, H1, rfl, I2, turn_enum a (s1.heap.objs.size + 1) s1.heap.objs.size, ⟨⟨.none, he⟩, hit, Nat.succ_ne_self _⟩, fin, q⟩
    · obtain ⟨its, rv, p', hz⟩ := I1.tuple hq
      have hlt : a < s1.heap.objs.size := p'.lt
      refine enum_begins1 (begins_tuple a its.toArray) p' fun h' he hit hsz hk => wpAny_pyIter_enum he ?_
      have I2 : Inv X pins σ H1 { s1 with heap := h' } := I1.kept (t' := s1.toks) hk
      exact ⟨s1.heap.objs.size + 1, [s1.heap.objs.size + 1, s1.heap.objs.size], _, _, H1, rfl, I2, turn_enumT a (s1.heap.objs.size + 1) s1.heap.objs.size (Nat.ne_of_lt hlt), ⟨⟨.none, he⟩, ⟨_, hit, rfl, rfl⟩, Nat.succ_ne_self _⟩, fin, q⟩
theorem walk_enumT {K : PySem.W.Frag} {a : Addr} {xs : List V} : Walk (IteT K a) xs.length (fun H => SqT K H a xs) (YPair (fun i => some (.int (i : Nat))) (fun i => xs[i]?)) where
  goes := fun i H hi h => ⟨xs, xs[i], h, by simp [hi]⟩
  stops := fun H h => ⟨xs, h, Nat.le_refl _⟩
  yields := fun i H x H' hi h ⟨T, y, e, n, e2, hy⟩ => ⟨T, _, y, e, n, e2, rfl, hy xs h⟩
/-- over a list or a tuple -/
def iSeq (K : PySem.W.Frag) (tl : TE) : TI := fun σ H R => tl σ H fun x H1 => ∃ a xs, x = .ref a ∧ ((SqL K H1 a xs ∧ R (Itl K a) H1) ∨ (SqT K H1 a xs ∧ R (Itt K a) H1))
theorem pi_seq {X : Cx} {tg l : Expr} {tl : TE} (hl : PE X l tl) : PI X tg l (iSeq X.K tl) := by
  refine ⟨fun pins s σ H R I h => ?_⟩
  refine thn (hl.run pins s σ H _ I h) fun v s1 ⟨x, H1, I1, r1, q1⟩ => ?_
  obtain ⟨a, xs, e, q⟩ := q1
  subst e
  cases r1
  have fin : ∀ b ∈ [s1.heap.objs.size], FpOk X pins H1 b := fun b hb => by
    have e : b = s1.heap.objs.size := by simpa using hb
    subst e
    exact I1.fpOk (Nat.le_refl _) (I1.hok.fresh (Nat.le_refl _))
  rcases q with ⟨hq, q⟩ | ⟨hq, q⟩
  · obtain ⟨its, rv, p, hz⟩ := I1.list hq
    refine wpAny_pyIter_list p.isList ?_
    exact ⟨s1.heap.objs.size, [s1.heap.objs.size], _, _, H1, rfl, I1.kept (t' := s1.toks) fun b o e => Heap.get?_push_of_some _ e, turn_list a _, ⟨_, Heap.get?_push_size _ rfl, rfl, rfl⟩, fin, q⟩
  · obtain ⟨its, rv, p, hz⟩ := I1.tuple hq
    refine wpAny_pyIter_tuple (show s1.heap.IsTuple a its.toArray from p) ?_
    exact ⟨s1.heap.objs.size, [s1.heap.objs.size], _, _, H1, rfl, I1.kept (t' := s1.toks) fun b o e => Heap.get?_push_of_some _ e, turn_tuple a _, ⟨_, Heap.get?_push_size _ rfl, rfl, rfl⟩, fin, q⟩
end L2

set_option autoImplicit false
set_option linter.all false
set_option maxRecDepth 100000
set_option maxHeartbeats 4000000
/-! PL5: built-ins and iterators by data. -/
namespace PL
open PySem PySem.Spec PyProof.Rows L2
section
variable {X : Cx} {mg : PySem.Str → Option Value} {m : Md}
theorem RepTL.inv {K : PySem.W.Frag} {bp bq : Addr} {B H : Hp} {d : D} {ds : List D} {vs : List V} (h : RepTL K mg bp B H bq (d :: ds) vs) : ∃ v r, vs = v :: r ∧ RepT K mg bp B H bq d v ∧ RepTL K mg bp B H bq ds r := by
  simpa only [RepTL] using h
theorem RepTL.nil_inv {K : PySem.W.Frag} {bp bq : Addr} {B H : Hp} {vs : List V} (h : RepTL K mg bp B H bq [] vs) : vs = [] := by simpa only [RepTL] using h
theorem RepTL.one {K : PySem.W.Frag} {bp bq : Addr} {B H : Hp} {d : D} {vs : List V} (h : RepTL K mg bp B H bq [d] vs) : ∃ v, vs = [v] ∧ RepT K mg bp B H bq d v := by
  obtain ⟨v, r, rfl, h1, h2⟩ := h.inv
  rw [h2.nil_inv]
  exact ⟨v, rfl, h1⟩
theorem RepTL.two {K : PySem.W.Frag} {bp bq : Addr} {B H : Hp} {d e : D} {vs : List V} (h : RepTL K mg bp B H bq [d, e] vs) : ∃ v w, vs = [v, w] ∧ RepT K mg bp B H bq d v ∧ RepT K mg bp B H bq e w := by
  obtain ⟨v, r, rfl, h1, h2⟩ := h.inv
  obtain ⟨w, rfl, h3⟩ := h2.one
  exact ⟨v, w, rfl, h1, h3⟩
theorem RepTL.three {K : PySem.W.Frag} {bp bq : Addr} {B H : Hp} {d e f : D} {vs : List V} (h : RepTL K mg bp B H bq [d, e, f] vs) : ∃ v w u, vs = [v, w, u] ∧ RepT K mg bp B H bq d v ∧ RepT K mg bp B H bq e w ∧ RepT K mg bp B H bq f u := by
  obtain ⟨v, r, rfl, h1, h2⟩ := h.inv
  obtain ⟨w, u, rfl, h3, h4⟩ := h2.two
  exact ⟨v, w, u, rfl, h1, h3, h4⟩
/-- the name, the value of a built-in -/
def biName : Bi → String
  | .len => "len" | .abs => "abs" | .int => "int" | .list => "list" | .tuple => "tuple" | .all => "all" | .any => "any" | .max => "max" | .min => "min" | .sum => "sum" | .sorted => "sorted" | .lrange => "list" | .trange => "tuple" | .ssort => "sorted"
def biTy : Bi → Bool
  | .int => true | .list => true | .tuple => true | .lrange => true | .trange => true | _ => false
def biVal (f : Bi) : Value := if biTy f = true then .type (biName f) else .builtin (biName f)
def rBi (K : PySem.W.Frag) (mg : PySem.Str → Option Value) (m : Md) (f : Bi) : List V → Hp → VK → Prop := fun vs H Q => ∃ bp bq B ds d,
  Gd bp bq B H ∧ RepTL K mg bp B H bq ds vs ∧ bfn f ds = some d ∧ ResM K mg bp bq m B H d Q
def isRg : Bi → Bool
  | .lrange => true | .trange => true | .ssort => true | _ => false
/-- the inner name -/
def rgIn : Bi → String
  | .ssort => "set" | _ => "range"
theorem bfn_one {f : Bi} {ds : List D} {d : D} (e : bfn f ds = some d) : (∃ a, ds = [a]) ∨ ∃ a b, ds = [a, b] := by
  match ds, e with
  | [], e => cases f <;> simp [bfn] at e
  | [a], _ => exact .inl ⟨a, rfl⟩
  | [a, b], _ => exact .inr ⟨a, b, rfl⟩
  | a :: b :: c :: r, e => cases f <;> simp [bfn] at e
theorem call_bi (hc : X.calm = true) (f : Bi) (nf : isRg f = false) : CallR X (biVal f) (rBi X.K mg m f) := by
  intro pins s σ H vs us Q I r h
  obtain ⟨bp, bq, B, ds, d, g, hr, e, q⟩ := h
  have hl := lim_le
  rcases bfn_one e with ⟨a, rfl⟩ | ⟨a, b, rfl⟩
  · obtain ⟨v, rfl, ha⟩ := hr.one
    cases f with
    | len =>
      cases a with
      | tup xs =>
        obtain ⟨p, ws, rfl, h1, r1⟩ := ha.tup g.sub
        simp only [bfn, Option.some.injEq] at e; subst e
        refine call_len pins s σ H _ us Q I r ⟨_, _, rfl, .inr ⟨ws, h1, rfl⟩, ?_⟩
        rw [← r1.length]; exact q.int g
      | lst xs =>
        obtain ⟨p, ws, rfl, h1, r1⟩ := ha.lst g.sub
        simp only [bfn, Option.some.injEq] at e; subst e
        refine call_len pins s σ H _ us Q I r ⟨_, _, rfl, .inl ⟨ws, SqL.of h1, rfl⟩, ?_⟩
        rw [← r1.length]; exact q.int g
      | str x =>
        simp only [bfn, Option.ite_none_right_eq_some, Option.some.injEq] at e
        obtain ⟨hz, rfl⟩ := e
        rw [ha.str] at r
        exact call_len pins s σ H _ us Q I r ⟨_, _, rfl, ⟨by show x.cps.size ≤ sizeLine; omega, rfl⟩, q.int g⟩
      | _ => simp [bfn] at e
    | abs =>
      cases a with
      | int i =>
        simp only [bfn, Option.some.injEq] at e; subst e
        rw [ha.int] at r
        exact call_abs pins s σ H _ us Q I r ⟨i, rfl, q.int g⟩
      | _ => simp [bfn] at e
    | int =>
      cases a with
      | int i =>
        simp only [bfn, Option.some.injEq] at e; subst e
        rw [ha.int] at r
        exact call_int1 pins s σ H _ us Q I r (.inl ⟨i, rfl, q.int g⟩)
      | bl b =>
        simp only [bfn, Option.some.injEq] at e; subst e
        rw [ha.bl] at r
        exact call_int1 pins s σ H _ us Q I r (.inr ⟨b, rfl, q.int g⟩)
      | _ => simp [bfn] at e
    | list =>
      cases a with
      | tup xs =>
        obtain ⟨p, ws, rfl, h1, r1⟩ := ha.tup g.sub
        simp only [bfn, Option.some.injEq] at e; subst e
        exact call_list_of pins s σ H _ us Q I r ⟨p, ws, rfl, .inr h1, fun l hl => q.lst g r1 hl⟩
      | lst xs =>
        obtain ⟨p, ws, rfl, h1, r1⟩ := ha.lst g.sub
        simp only [bfn, Option.some.injEq] at e; subst e
        exact call_list_of pins s σ H _ us Q I r ⟨p, ws, rfl, .inl (SqL.of h1), fun l hl => q.lst g r1 hl⟩
      | _ => simp [bfn] at e
    | tuple =>
      cases a with
      | tup xs =>
        have hr := ha.flat (by intro xs e; cases e)
        obtain ⟨p, ws, rfl, h1, r1⟩ := ha.tup g.sub
        simp only [bfn, Option.some.injEq] at e; subst e
        exact call_tuple_of pins s σ H _ us Q I r ⟨p, ws, rfl, .inr ⟨h1, q.same g hr (by intro xs e; cases e)⟩⟩
      | lst xs =>
        obtain ⟨p, ws, rfl, h1, r1⟩ := ha.lst g.sub
        simp only [bfn, Option.some.injEq] at e; subst e
        exact call_tuple_of pins s σ H _ us Q I r ⟨p, ws, rfl, .inl ⟨SqL.of h1, fun l hl => q.tup g r1 hl⟩⟩
      | _ => simp [bfn] at e
    | all =>
      cases a with
      | lst xs =>
        obtain ⟨p, ws, rfl, h1, r1⟩ := ha.lst g.sub
        simp only [bfn, Option.map_eq_some_iff] at e
        obtain ⟨bs, e1, rfl⟩ := e
        have z := RepL.bls e1 r1
        subst z
        exact cr_all hc pins s σ H _ us Q I r ⟨p, bs, rfl, SqL.of h1, q.bl g⟩
      | _ => simp [bfn] at e
    | any =>
      cases a with
      | lst xs =>
        obtain ⟨p, ws, rfl, h1, r1⟩ := ha.lst g.sub
        simp only [bfn, Option.map_eq_some_iff] at e
        obtain ⟨bs, e1, rfl⟩ := e
        have z := RepL.bls e1 r1
        subst z
        exact cr_any hc pins s σ H _ us Q I r ⟨p, bs, rfl, SqL.of h1, q.bl g⟩
      | _ => simp [bfn] at e
    | max =>
      cases a with
      | lst xs =>
        obtain ⟨p, ws, rfl, h1, r1⟩ := ha.lst g.sub
        simp only [bfn, Option.bind_eq_some_iff, Option.map_eq_some_iff] at e
        obtain ⟨ns, e1, mx, e2, rfl⟩ := e
        have z := RepL.ints e1 r1
        subst z
        have e3 := List.max?_eq_some_iff.mp e2
        refine cr_max hc pins s σ H _ us Q I r ⟨p, ns, rfl, SqL.of h1, ?_, fun k hk hle => ?_⟩
        · exact List.length_pos_of_mem e3.1
        · have z : k = mx := Int.le_antisymm (e3.2 k hk) (hle mx e3.1)
          rw [z]; exact q.int g
      | _ => simp [bfn] at e
    | min =>
      cases a with
      | lst xs =>
        obtain ⟨p, ws, rfl, h1, r1⟩ := ha.lst g.sub
        simp only [bfn, Option.bind_eq_some_iff, Option.map_eq_some_iff] at e
        obtain ⟨ns, e1, mx, e2, rfl⟩ := e
        have z := RepL.ints e1 r1
        subst z
        have e3 := List.min?_eq_some_iff.mp e2
        refine cr_min hc pins s σ H _ us Q I r ⟨p, ns, rfl, SqL.of h1, ?_, fun k hk hle => ?_⟩
        · exact List.length_pos_of_mem e3.1
        · have z : k = mx := Int.le_antisymm (hle mx e3.1) (e3.2 k hk)
          rw [z]; exact q.int g
      | _ => simp [bfn] at e
    | sum =>
      cases a with
      | lst xs =>
        obtain ⟨p, ws, rfl, h1, r1⟩ := ha.lst g.sub
        simp only [bfn, Option.map_eq_some_iff] at e
        obtain ⟨ns, e1, rfl⟩ := e
        have z := RepL.ints e1 r1
        subst z
        exact cr_sum hc pins s σ H _ us Q I r ⟨p, ns, rfl, SqL.of h1, q.int g⟩
      | _ => simp [bfn] at e
    | sorted =>
      cases a with
      | lst xs =>
        obtain ⟨p, ws, rfl, h1, r1⟩ := ha.lst g.sub
        simp only [bfn, Option.map_eq_some_iff] at e
        obtain ⟨ns, e1, rfl⟩ := e
        have z := RepL.ints e1 r1
        subst z
        refine cr_sortedI pins s σ H _ us Q I r ⟨p, ns, rfl, SqL.of h1, fun ns' p' hp hs hn => ?_⟩
        have e3 : ns' = ns.mergeSort (fun a b => decide (a ≤ b)) := by
          refine List.Perm.eq_of_pairwise (le := fun a b : Int => a ≤ b) (fun a b _ _ h1 h2 => Int.le_antisymm h1 h2) hs ?_ (hp.trans (List.mergeSort_perm _ _).symm)
          have := List.pairwise_mergeSort (le := fun a b : Int => decide (a ≤ b)) (fun a b c h1 h2 => by simp only [decide_eq_true_eq] at *; omega) (fun a b => by simp only [Bool.or_eq_true, decide_eq_true_eq]; omega) ns
          exact this.imp fun h => of_decide_eq_true h
        rw [e3]
        exact q.lst g (RepL.of_ints _) hn
      | _ => simp [bfn] at e
    | lrange => cases nf
    | trange => cases nf
    | ssort => cases nf
  · obtain ⟨v, w, rfl, ha, hb⟩ := hr.two
    cases f with
    | max =>
      cases a with
      | int i =>
        cases b with
        | int j =>
          simp only [bfn, Option.some.injEq] at e; subst e
          rw [ha.int, hb.int] at r
          exact call_max2 hc pins s σ H _ us Q I r ⟨i, j, rfl, q.int g⟩
        | _ => simp [bfn] at e
      | _ => cases b <;> simp [bfn] at e
    | min =>
      cases a with
      | int i =>
        cases b with
        | int j =>
          simp only [bfn, Option.some.injEq] at e; subst e
          rw [ha.int, hb.int] at r
          exact call_min2 hc pins s σ H _ us Q I r ⟨i, j, rfl, q.int g⟩
        | _ => simp [bfn] at e
      | _ => cases b <;> simp [bfn] at e
    | _ => simp [bfn] at e
/-! ### isinstance -/
def tyName : Ty → String
  | .tuple => "tuple" | .list => "list" | .int => "int" | .bool => "bool" | .str => "str"
theorem kit1 : ∀ t : Ty, kitB "tuple" (tyName t) = some (t == .tuple) := by intro t; cases t <;> decide +kernel
theorem kit2 : ∀ t : Ty, kitB "list" (tyName t) = some (t == .list) := by intro t; cases t <;> decide +kernel
theorem kit3 : ∀ t : Ty, kitB "int" (tyName t) = some (t == .int) := by intro t; cases t <;> decide +kernel
theorem kit4 : ∀ t : Ty, kitB "bool" (tyName t) = some (t == .bool || t == .int) := by intro t; cases t <;> decide +kernel
theorem kit5 : ∀ t : Ty, kitB "str" (tyName t) = some (t == .str) := by intro t; cases t <;> decide +kernel
theorem kit6 : ∀ t : Ty, kitB "NoneType" (tyName t) = some false := by intro t; cases t <;> decide +kernel
def rIsD (K : PySem.W.Frag) (mg : PySem.Str → Option Value) (t : Ty) : List V → Hp → VK → Prop := fun vs H Q => ∃ bp bq B a v b,
  vs = [v, .ty (tyName t)] ∧ Gd bp bq B H ∧ RepT K mg bp B H bq a v ∧ isi a t = some b ∧ Q (.bl b) H
theorem call_isD (t : Ty) : CallR X (.builtin "isinstance") (rIsD X.K mg t) := by
  intro pins s σ H vs us Q I r h
  obtain ⟨bp, bq, B, a, v, b, rfl, g, ha, e, q⟩ := h
  have fin : ∀ {tn : String}, TyX X.K H v (.type tn) → kitB tn (tyName t) = some b → wpAny (model X.prog X.w) X.A (PySem.call (.builtin "isinstance") us) (EP X pins σ Q) X.xe s := fun {tn} h1 h2 =>
    call_isi pins s σ H _ us Q I r ⟨v, _, _, _, b, rfl, .ty _, h1, kit_ty h2, q⟩
  cases a with
  | non =>
    simp only [isi, Option.some.injEq] at e; subst e
    have hv := ha.non
    exact fin (by rw [hv]; exact .base .non) (kit6 t)
  | bl i =>
    simp only [isi, Option.some.injEq] at e; subst e
    have hv := ha.bl
    exact fin (by rw [hv]; exact .base (.bl _)) (kit4 t)
  | int i =>
    simp only [isi, Option.some.injEq] at e; subst e
    have hv := ha.int
    exact fin (by rw [hv]; exact .base (.int _)) (kit3 t)
  | str i =>
    simp only [isi, Option.some.injEq] at e; subst e
    have hv := ha.str
    exact fin (by rw [hv]; exact .base (.str _)) (kit5 t)
  | tup xs =>
    simp only [isi, Option.some.injEq] at e; subst e
    obtain ⟨p, ws, hv, h1, r1⟩ := ha.tup g.sub
    refine fin (tn := "tuple") ?_ (kit1 t)
    rw [hv]
    rcases h1 with (h1 | ⟨o, h1⟩) | ⟨o, its, n, h1, h2, _⟩
    · exact .base (.tup h1)
    · exact .fTuple h1
    · exact .kTuple h1 h2
  | lst xs =>
    simp only [isi, Option.some.injEq] at e; subst e
    obtain ⟨p, ws, hv, h1, r1⟩ := ha.lst g.sub
    refine fin (tn := "list") ?_ (kit2 t)
    rw [hv]
    exact .base (.lst h1)
  | box => simp [isi] at e
  | fn _ => simp [isi] at e
/-! ### what is walked -/
/-- what stays while one walks -/
def Stb (md : Md) (bp bq : Addr) (B H : Hp) : Hp → Prop := fun H' => Same B H' ∧ (md = .val ∨ ∀ a, a ≠ bp → a ≠ bq → H a ≠ none → H' a = H a)
/-- the i-th thing -/
def YD (K : PySem.W.Frag) (mg : PySem.Str → Option Value) (bp : Addr) (B : Hp) (xs : List D) : Nat → Hp → V → Hp → Prop := fun i H v H' => ∃ d, xs[i]? = some d ∧
  ((H' = H ∧ Rep K mg bp B d v) ∨ ∃ T us ds, v = .ref T ∧ H T = none ∧ H' = upd H T (.tup us) ∧ d = .tup ds ∧ RepL K mg bp B ds us)
/-- a sequence to be walked -/
def Src (K : PySem.W.Frag) (mg : PySem.Str → Option Value) (bp : Addr) (B : Hp) (S : Hp → Prop) (d : D) (v : V) : Prop := ∀ xs, items d = some xs → ∃ a us, v = .ref a ∧ RepL K mg bp B xs us ∧
  ((d = .tup xs ∧ ∀ H, S H → SqT K H a us) ∨ (d = .lst xs ∧ ∀ H, S H → H a = some (.lst us)))
def RepX (K : PySem.W.Frag) (mg : PySem.Str → Option Value) (bp bq : Addr) (md : Md) (B H : Hp) (d : D) (v : V) : Prop := match md with
  | .val => Rep K mg bp B d v
  | _ => RepT K mg bp B H bq d v
theorem RepX.t {K : PySem.W.Frag} {bp bq : Addr} {md : Md} {B H : Hp} {d : D} {v : V} (h : RepX K mg bp bq md B H d v) : RepT K mg bp B H bq d v := by
  cases md with
  | val => exact .inl h
  | bor => exact h
  | own => exact h
theorem src_of {K : PySem.W.Frag} {bp bq : Addr} {md : Md} {B H : Hp} {d : D} {v : V} (h : RepX K mg bp bq md B H d v) : Src K mg bp B (Stb md bp bq B H) d v := by
  intro xs e
  have viaR : Rep K mg bp B d v → ∃ a us, v = .ref a ∧ RepL K mg bp B xs us ∧ ((d = .tup xs ∧ ∀ H', Stb md bp bq B H H' → SqT K H' a us) ∨ (d = .lst xs ∧ ∀ H', Stb md bp bq B H H' → H' a = some (.lst us))) := fun h => by
    cases d with
    | tup ys =>
      simp only [items, Option.some.injEq] at e; subst e
      simp only [Rep] at h
      obtain ⟨a, us, rfl, h1, h2⟩ := h
      exact ⟨a, us, rfl, h2, .inl ⟨rfl, fun H' s => sqT_mono s.1 h1⟩⟩
    | lst ys =>
      simp only [items, Option.some.injEq] at e; subst e
      simp only [Rep] at h
      obtain ⟨a, us, rfl, h1, h2⟩ := h
      exact ⟨a, us, rfl, h2, .inr ⟨rfl, fun H' s => s.1 _ _ h1⟩⟩
    | _ => simp [items] at e
  have viaT : md ≠ .val → RepT K mg bp B H bq d v → ∃ a us, v = .ref a ∧ RepL K mg bp B xs us ∧ ((d = .tup xs ∧ ∀ H', Stb md bp bq B H H' → SqT K H' a us) ∨ (d = .lst xs ∧ ∀ H', Stb md bp bq B H H' → H' a = some (.lst us))) := fun nm h => by
    rcases h with h | ⟨p, us, ys, rfl, rfl, h1, h2, h3, h4⟩
    · exact viaR h
    · simp only [items, Option.some.injEq] at e; subst e
      refine ⟨p, us, rfl, h2, .inr ⟨rfl, fun H' s => ?_⟩⟩
      rcases s.2 with z | z
      · exact absurd z nm
      · rw [z p h3 h4 (by rw [h1]; exact Option.some_ne_none _)]; exact h1
  cases md with
  | val => exact viaR h
  | bor => exact viaT (by decide) h
  | own => exact viaT (by decide) h
section
variable {K : PySem.W.Frag} {bp : Addr} {B : Hp} {S : Hp → Prop}
theorem enuD_get : ∀ (k : Nat) (xs : List D) (i : Nat), (enuD k xs)[i]? = (xs[i]?).map fun d => D.tup [.int ((k + i : Nat) : Int), d]
  | _, [], _ => by simp [enuD]
  | k, x :: xs, 0 => by simp [enuD]
  | k, x :: xs, i + 1 => by
    simp only [enuD, List.getElem?_cons_succ]
    rw [enuD_get (k + 1) xs i]
    have e : k + 1 + i = k + (i + 1) := by omega
    rw [e]
theorem enuD_len : ∀ (k : Nat) (xs : List D), (enuD k xs).length = xs.length
  | _, [] => rfl
  | k, x :: xs => by simp only [enuD, List.length_cons]; rw [enuD_len (k + 1) xs]
theorem zipD_get : ∀ (xs ys : List D) (i : Nat), (zipD xs ys)[i]? = (xs[i]?).bind fun d => (ys[i]?).map fun e => D.tup [d, e]
  | [], ys, i => by simp [zipD]
  | x :: xs, [], i => by simp [zipD]
  | x :: xs, y :: ys, 0 => by simp [zipD]
  | x :: xs, y :: ys, i + 1 => by simp only [zipD, List.getElem?_cons_succ]; exact zipD_get xs ys i
theorem zipD_len : ∀ (xs ys : List D), (zipD xs ys).length = min xs.length ys.length
  | [], ys => by simp [zipD]
  | x :: xs, [] => by simp [zipD]
  | x :: xs, y :: ys => by simp only [zipD, List.length_cons]; rw [zipD_len xs ys]; omega
theorem y_at {xs : List D} {us : List V} (r : RepL K mg bp B xs us) (i : Nat) (H H' : Hp) (v : V) (hi : i < xs.length) (h : YAt us i H v H') : YD K mg bp B xs i H v H' := by
  obtain ⟨rfl, e⟩ := h
  obtain ⟨v', h1, h2⟩ := r.get (List.getElem?_eq_getElem hi)
  rw [h1] at e; cases e
  exact ⟨_, List.getElem?_eq_getElem hi, .inl ⟨rfl, h2⟩⟩
theorem w_list {xs : List D} {us : List V} {a : Addr} (r : RepL K mg bp B xs us) (h : ∀ H, S H → H a = some (.lst us)) : Walk (Itl K a) xs.length S (YD K mg bp B xs) := by
  have w := walk_list (K := K) (a := a) (xs := us)
  rw [← r.length] at w
  exact w.mono (fun H s => SqL.of (h H s)) fun i H x H' hi _ y => y_at r i H H' x hi y
theorem w_tup {xs : List D} {us : List V} {a : Addr} (r : RepL K mg bp B xs us) (h : ∀ H, S H → SqT K H a us) : Walk (Itt K a) xs.length S (YD K mg bp B xs) := by
  have w := walk_tup (K := K) (a := a) (xs := us)
  rw [← r.length] at w
  exact w.mono (fun H s => h H s) fun i H x H' hi _ y => y_at r i H H' x hi y
theorem intsFrom_get (a : Int) (n i : Nat) (h : i < n) : (intsFrom a n)[i]? = some (.int (a + (i : Nat))) := by
  unfold intsFrom
  rw [List.getElem?_map, List.getElem?_range h]; rfl
theorem intsFrom_len (a : Int) (n : Nat) : (intsFrom a n).length = n := by unfold intsFrom; simp
theorem stepsD_get (a c : Int) (n i : Nat) (h : i < n) : (stepsD a c n)[i]? = some (.int (a + (i : Nat) * c)) := by
  unfold stepsD
  rw [List.getElem?_map, List.getElem?_range h]; rfl
theorem stepsD_len (a c : Int) (n : Nat) : (stepsD a c n).length = n := by unfold stepsD; simp
theorem w_range (a : Int) (n : Nat) : Walk (Itr a n) (intsFrom a n).length S (YD K mg bp B (intsFrom a n)) := by
  have w := walk_range (lo := a) (n := n)
  rw [← intsFrom_len a n] at w
  rw [intsFrom_len a n] at w
  rw [intsFrom_len]
  exact w.mono (fun _ _ => trivial) fun i H x H' hi _ ⟨e1, e2⟩ => ⟨_, intsFrom_get a n i hi, .inl ⟨e1, by rw [e2]; simp only [Rep]⟩⟩
theorem w_rangeC (a c : Int) (n : Nat) : Walk (Itc a c n) (stepsD a c n).length S (YD K mg bp B (stepsD a c n)) := by
  have w := walk_rangeC (lo := a) (c := c) (n := n)
  rw [stepsD_len]
  exact w.mono (fun _ _ => trivial) fun i H x H' hi _ ⟨e1, e2⟩ => ⟨_, stepsD_get a c n i hi, .inl ⟨e1, by rw [e2]; simp only [Rep]⟩⟩
theorem y_enu {xs : List D} {us : List V} (r : RepL K mg bp B xs us) (i : Nat) (H H' : Hp) (v : V) (hi : i < xs.length) (h : YPair (fun i => some (.int (i : Nat))) (fun i => us[i]?) i H v H') : YD K mg bp B (enuD 0 xs) i H v H' := by
  obtain ⟨T, x, y, rfl, hT, rfl, e1, e2⟩ := h
  obtain ⟨v', h1, h2⟩ := r.get (List.getElem?_eq_getElem hi)
  have e2 : us[i]? = some y := e2
  rw [h1] at e2; cases e2
  have e1 : some (V.int (i : Nat)) = some x := e1
  cases e1
  refine ⟨.tup [.int i, xs[i]], ?_, .inr ⟨T, _, _, rfl, hT, rfl, rfl, RepL.cons (by simp only [Rep]) (RepL.cons h2 RepL.nil)⟩⟩
  rw [enuD_get, List.getElem?_eq_getElem hi]
  simp
theorem w_enuL {xs : List D} {us : List V} {a : Addr} (r : RepL K mg bp B xs us) (h : ∀ H, S H → H a = some (.lst us)) : Walk (Ite K a) (enuD 0 xs).length S (YD K mg bp B (enuD 0 xs)) := by
  have w := walk_enum (K := K) (a := a) (xs := us)
  rw [← r.length] at w
  rw [enuD_len]
  exact w.mono (fun H s => SqL.of (h H s)) fun i H x H' hi _ y => y_enu r i H H' x hi y
theorem w_enuT {xs : List D} {us : List V} {a : Addr} (r : RepL K mg bp B xs us) (h : ∀ H, S H → SqT K H a us) : Walk (IteT K a) (enuD 0 xs).length S (YD K mg bp B (enuD 0 xs)) := by
  have w := walk_enumT (K := K) (a := a) (xs := us)
  rw [← r.length] at w
  rw [enuD_len]
  exact w.mono (fun H s => h H s) fun i H x H' hi _ y => y_enu r i H H' x hi y
theorem y_zip {xs ys : List D} {us ws : List V} (r : RepL K mg bp B xs us) (r' : RepL K mg bp B ys ws) (i : Nat) (H H' : Hp) (v : V) (hi : i < min xs.length ys.length) (h : YPair (fun i => us[i]?) (fun i => ws[i]?) i H v H') : YD K mg bp B (zipD xs ys) i H v H' := by
  obtain ⟨T, x, y, rfl, hT, rfl, e1, e2⟩ := h
  have hi1 : i < xs.length := by omega
  have hi2 : i < ys.length := by omega
  obtain ⟨v1, h1, h2⟩ := r.get (List.getElem?_eq_getElem hi1)
  obtain ⟨v2, h3, h4⟩ := r'.get (List.getElem?_eq_getElem hi2)
  have e1 : us[i]? = some x := e1
  have e2 : ws[i]? = some y := e2
  rw [h1] at e1; cases e1
  rw [h3] at e2; cases e2
  refine ⟨.tup [xs[i], ys[i]], ?_, .inr ⟨T, _, _, rfl, hT, rfl, rfl, RepL.cons h2 (RepL.cons h4 RepL.nil)⟩⟩
  rw [zipD_get, List.getElem?_eq_getElem hi1, List.getElem?_eq_getElem hi2]
  rfl
theorem w_zipL {xs ys : List D} {us ws : List V} {a b : Addr} (r : RepL K mg bp B xs us) (r' : RepL K mg bp B ys ws) (h : ∀ H, S H → H a = some (.lst us)) (h' : ∀ H, S H → H b = some (.lst ws)) : Walk (Itz K a b) (zipD xs ys).length S (YD K mg bp B (zipD xs ys)) := by
  have w := walk_zip (K := K) (a := a) (b := b) (xs := us) (ys := ws) rfl
  rw [← r.length, ← r'.length] at w
  rw [zipD_len]
  exact w.mono (fun H s => ⟨SqL.of (h H s), SqL.of (h' H s)⟩) fun i H x H' hi _ y => y_zip r r' i H H' x hi y
theorem walk_zipT {xs ys : List V} {a b : Addr} : Walk (RZ.ItzT K a b) (min xs.length ys.length) (fun H => SqT K H a xs ∧ SqT K H b ys) (YPair (fun i => xs[i]?) (fun i => ys[i]?)) where
  goes := fun i H hi h => ⟨xs, ys, xs[i]'(by omega), ys[i]'(by omega), h.1, h.2, by simp, by simp⟩
  stops := fun H h => ⟨xs, ys, h.1, h.2, by omega⟩
  yields := fun i H x H' hi h ⟨T, y, z, e, n, e2, h1, h2⟩ => ⟨T, y, z, e, n, e2, h1 xs h.1, h2 ys h.2⟩
theorem w_zipT {xs ys : List D} {us ws : List V} {a b : Addr} (r : RepL K mg bp B xs us) (r' : RepL K mg bp B ys ws) (h : ∀ H, S H → SqT K H a us) (h' : ∀ H, S H → SqT K H b ws) : Walk (RZ.ItzT K a b) (zipD xs ys).length S (YD K mg bp B (zipD xs ys)) := by
  have w := walk_zipT (K := K) (a := a) (b := b) (xs := us) (ys := ws)
  rw [← r.length, ← r'.length] at w
  rw [zipD_len]
  exact w.mono (fun H s => ⟨h H s, h' H s⟩) fun i H x H' hi _ y => y_zip r r' i H H' x hi y
end
theorem small_b {a : Int} (h : small a = true) : -(2 ^ 62) ≤ a ∧ a < 2 ^ 62 := by
  simp only [small, Bool.and_eq_true, decide_eq_true_eq] at h
  omega
end
end PL

set_option autoImplicit false
set_option linter.all false
set_option maxRecDepth 100000
set_option maxHeartbeats 4000000
/-! PL6: where one stands; the check of a term against the text. -/
namespace PL
open PySem PySem.Spec PyProof.Rows L2
abbrev sx (x : String) : PySem.Str := PySem.Str.ofString x
structure Sys (β : Type) where
  P : Program
  w : World
  K : PySem.W.Frag
  mg : PySem.Str → Option Value
  base : Heap
  pr : Prog β
  bo : Addr → β → HO × HO
  ar : String → Option Nat
  fr : String → Bool
section
variable {β : Type} (Y : Sys β)
structure Good (bp bq : Addr) (B H : Hp) (b : β) : Prop where
  sub : Same B H
  b1 : B bp = none
  b2 : B bq = none
  h1 : H bp = some (Y.bo bq b).1
  h2 : H bq = some (Y.bo bq b).2
/-- a later heap -/
structure Ext (bp bq : Addr) (B B' H H' : Hp) : Prop where
  bs : Same B B'
  fr : ∀ a, B' a ≠ none → B a = none → H a = none
  kp : ∀ a, a ≠ bp → a ≠ bq → H a ≠ none → H' a = H a
abbrev RepY (bp : Addr) (B : Hp) (d : D) (v : V) : Prop := Rep Y.K Y.mg bp B d v
/-- the slots -/
structure RepE (bp bq : Addr) (B H : Hp) (ρ : Env) (σ : L2.St) : Prop where
  len : σ.length = ρ.length
  im : ∀ (i : Nat) d, ρ[i]? = some (.im d) → ∃ v, σ[i]? = some (some v) ∧ Rep Y.K Y.mg bp B d v
  ow : ∀ (i : Nat) xs, ρ[i]? = some (.ow xs) → ∃ p vs, σ[i]? = some (some (.ref p)) ∧ H p = some (.lst vs) ∧ B p = none ∧ p ≠ bp ∧ p ≠ bq ∧ RepL Y.K Y.mg bp B xs vs
  dj : ∀ (i j : Nat) xs ys p, i ≠ j → ρ[i]? = some (.ow xs) → ρ[j]? = some (.ow ys) → σ[i]? = some (some (.ref p)) → σ[j]? ≠ some (some (.ref p))
end
section
variable {β : Type} {Y : Sys β} {bp bq : Addr} {B B' B'' H H' H'' : Hp} {b b' : β}
theorem Good.gd (g : Good Y bp bq B H b) : Gd bp bq B H := ⟨g.sub, g.b1, g.b2, by rw [g.h1]; exact Option.some_ne_none _, by rw [g.h2]; exact Option.some_ne_none _⟩
theorem Ext.refl : Ext bp bq B B H H := ⟨Same.refl B, fun a h k => absurd k h, fun _ _ _ _ => rfl⟩
theorem Ext.trans (a : Ext bp bq B B' H H') (c : Ext bp bq B' B'' H' H'') (g : Good Y bp bq B'' H'' b) : Ext bp bq B B'' H H'' where
  bs := a.bs.trans c.bs
  fr := fun x h1 h2 => by
    cases q : B' x with
    | some o => exact a.fr x (by rw [q]; exact Option.some_ne_none _) h2
    | none =>
      have h3 := c.fr x h1 q
      refine Classical.byContradiction fun h => ?_
      have n1 : x ≠ bp := fun e => h1 (by rw [e]; exact g.b1)
      have n2 : x ≠ bq := fun e => h1 (by rw [e]; exact g.b2)
      rw [a.kp x n1 n2 h] at h3
      exact h h3
  kp := fun x n1 n2 h => by rw [c.kp x n1 n2 (by rw [a.kp x n1 n2 h]; exact h), a.kp x n1 n2 h]
theorem Ex0.ext (e : Ex0 B B' H H') : Ext bp bq B B' H H' := ⟨e.bs, e.fr, fun a _ _ h => e.kp a h⟩
theorem Ex0.good (e : Ex0 B B' H H') (g : Good Y bp bq B H b) : Good Y bp bq B' H' b where
  sub := e.sub
  b1 := (e.gd g.gd).b1
  b2 := (e.gd g.gd).b2
  h1 := by rw [e.kp bp g.gd.n1]; exact g.h1
  h2 := by rw [e.kp bq g.gd.n2]; exact g.h2
/-- what was free is free before -/
theorem Ext.back (e : Ext bp bq B B' H H') (g : Good Y bp bq B' H' b) {p : Addr} (h : H' p = none) : H p = none := by
  refine Classical.byContradiction fun n => ?_
  have n1 : p ≠ bp := fun z => by rw [z, g.h1] at h; cases h
  have n2 : p ≠ bq := fun z => by rw [z, g.h2] at h; cases h
  rw [e.kp p n1 n2 n] at h
  exact n h
theorem RepM.back {md : Md} (e : Ext bp bq B B' H H') (g : Good Y bp bq B' H' b) {d : D} {v : V} (h : RepM Y.K Y.mg bp bq md H' B'' H'' d v) : RepM Y.K Y.mg bp bq md H B'' H'' d v := by
  cases md with
  | val => exact h
  | bor => exact h
  | own =>
    intro xs ed
    obtain ⟨p, vs, h1, h2, h3⟩ := h xs ed
    exact ⟨p, vs, h1, e.back g h2, h3⟩
/-- what is wished of a value from here on -/
def Wish (Y : Sys β) (bp bq : Addr) (md : Md) (B H : Hp) (d : D) (b' : β) (Q : VK) : Prop :=
  ∀ B' H' v, Ext bp bq B B' H H' → Good Y bp bq B' H' b' → RepM Y.K Y.mg bp bq md H B' H' d v → Q v H'
theorem Wish.later {md : Md} {d : D} {Q : VK} (w : Wish Y bp bq md B H d b' Q) (e : Ext bp bq B B' H H') (g : Good Y bp bq B' H' b) : Wish Y bp bq md B' H' d b' Q :=
  fun B2 H2 v e2 g2 r => w B2 H2 v (e.trans e2 g2) g2 (r.back e g)
theorem Wish.res {md : Md} {d : D} {Q : VK} (w : Wish Y bp bq md B H d b Q) (g : Good Y bp bq B H b) : ResM Y.K Y.mg bp bq md B H d Q :=
  fun B2 H2 v e r => w B2 H2 v e.ext (e.good g) r
theorem RepE.ext {ρ : Env} {σ : L2.St} (r : RepE Y bp bq B H ρ σ) (e : Ext bp bq B B' H H') (g : Good Y bp bq B' H' b) : RepE Y bp bq B' H' ρ σ where
  len := r.len
  im := fun i d h => let ⟨v, h1, h2⟩ := r.im i d h; ⟨v, h1, Rep.mono e.bs d v h2⟩
  ow := fun i xs h => by
    obtain ⟨p, vs, h1, h2, h3, h4, h5, h6⟩ := r.ow i xs h
    refine ⟨p, vs, h1, by rw [e.kp p h4 h5 (by rw [h2]; exact Option.some_ne_none _)]; exact h2, ?_, h4, h5, RepL.mono e.bs _ _ h6⟩
    refine Classical.byContradiction fun n => ?_
    rw [e.fr p n h3] at h2; cases h2
  dj := r.dj
theorem RepT.ext {d : D} {v : V} (h : RepT Y.K Y.mg bp B H bq d v) (e : Ext bp bq B B' H H') : RepT Y.K Y.mg bp B' H' bq d v := h.mono e.bs e.kp
end
/-! ### inversions -/
section
variable {β α γ : Type}
theorem bnd_ok {m : M β α} {f : α → M β γ} {b b' : β} {c : γ} (h : bnd m f b = .ok c b') : ∃ a b1, m b = .ok a b1 ∧ f a b1 = .ok c b' := by
  unfold bnd at h
  cases q : m b with
  | ok a b1 => rw [q] at h; exact ⟨a, b1, rfl, h⟩
  | exc _ _ _ => rw [q] at h; cases h
  | stuck => rw [q] at h; cases h
theorem lft_ok {o : Option α} {b b' : β} {a : α} (h : lft o b = .ok a b') : o = some a ∧ b' = b := by
  cases o with
  | none => cases h
  | some c =>
    have h : R.ok c b = R.ok a b' := h
    cases h
    exact ⟨rfl, rfl⟩
theorem ret_ok {a c : α} {b b' : β} (h : ret a b = .ok c b') : c = a ∧ b' = b := by
  have h : R.ok a b = R.ok c b' := h
  cases h
  exact ⟨rfl, rfl⟩
theorem stk_ok {c : α} {b b' : β} (h : stk b = .ok c b') : False := by cases h
end
/-! ### the check -/
def nmOk (x : PySem.Str) : Bool := !(x == sx "__debug__") && !(x == sx "__classdict__") && !(x == sx "__name__")
def visB (sc : Scope) (x : PySem.Str) : Bool := match sc.names.lookup x with
  | some .local => true
  | some .cell => true
  | some .free => true
  | _ => false
def locB (sc : Scope) (x : PySem.Str) : Bool := match sc.names.lookup x with
  | some .local => true
  | some .cell => true
  | _ => false
def loclB (sc : Scope) (x : PySem.Str) : Bool := match sc.names.lookup x with
  | some .local => true
  | _ => false
def glbB (sc : Scope) (x : PySem.Str) : Bool := match sc.names.lookup x with
  | some .globalImplicit => true
  | _ => false
def opB : Bop → Operator → Bool
  | .add, .Add => true | .sub, .Sub => true | .mul, .Mult => true | .fdiv, .FloorDiv => true | .mod, .Mod => true | .pow, .Pow => true
  | _, _ => false
def opC : Cop → CmpOp → Bool
  | .eq, .Eq => true | .ne, .NotEq => true | .lt, .Lt => true | .le, .LtE => true | .gt, .Gt => true | .ge, .GtE => true
  | .isin, .In => true | .notin, .NotIn => true | .iss, .Is => true | .isnot, .IsNot => true
  | _, _ => false
theorem opB_eq {o : Bop} {p : Operator} (h : opB o p = true) : p = pyB o := by cases o <;> cases p <;> simp [opB] at h <;> rfl
theorem opC_eq {o : Cop} {p : CmpOp} (h : opC o p = true) : p = pyC o := by cases o <;> cases p <;> simp [opC] at h <;> rfl
def litB : D → Const → Bool
  | .non, .none => true
  | .bl a, .bool c => a == c
  | .int i, .int j => decide (i = j)
  | .str s, .str t => decide (s = t)
  | _, _ => false
def strT (x : Expr) : Bool := match x with
  | .Starred _ _ => true
  | _ => false
section
variable (ar : String → Option Nat) (fr : String → Bool) (N : List PySem.Str)
/-- a built-in's name that stands for it -/
def bltB (sc : Scope) (x : PySem.Str) (n : String) : Bool := decide (x = sx n) && glbB sc x && fr n
mutual
def slotsT : Tg → List Nat
  | .nm i => [i]
  | .tu ts => slotsTs ts
def slotsTs : List Tg → List Nat
  | [] => []
  | t :: ts => slotsT t ++ slotsTs ts
end
section
variable (fb : PySem.Str → Bool)
mutual
def chkT : Tg → Scope → Expr → Bool
  | .nm i, sc, .Name x _ => decide (N[i]? = some x) && (locB sc x && fb x)
  | .tu ts, sc, .Tuple xs _ _ => chkTs ts sc xs
  | _, _, _ => false
def chkTs : List Tg → Scope → List Expr → Bool
  | [], _, [] => true
  | t :: ts, sc, x :: xs => chkT t sc x && chkTs ts sc xs
  | _, _, _ => false
end
end
/-- which names a comprehension's block may store -/
def fbC (scope sc : Scope) (x : PySem.Str) : Bool := (match scope.names.lookup x with
  | some .cell => true
  | _ => false) || loclB (L2.relS scope sc) x
def isTup : Tg → Bool
  | .tu _ => true
  | _ => false
def ownS (own : List Nat) : List (PySem.Str × Nat) := own.map fun i => ((N[i]?).getD (sx ""), i)
mutual
def chkE : E → Md → Scope → Expr → Bool
  | .var i, md, sc, x => decide (md ≠ .own) && (match x with
    | .Name x _ => decide (N[i]? = some x) && visB sc x && nmOk x
    | _ => false)
  | .bvar i, md, sc, x => decide (md = .bor) && (match x with
    | .Name x _ => decide (N[i]? = some x) && visB sc x && nmOk x
    | _ => false)
  | .glob g, md, sc, x => decide (md ≠ .own) && (match x with
    | .Name x _ => decide (x = sx g) && glbB sc x && nmOk x
    | _ => false)
  | .lit d, _, _, x => (match x with
    | .Constant c _ _ => litB d c
    | _ => false)
  | .bin o a b, _, sc, x => (match x with
    | .BinOp l p r _ => opB o p && (chkE a .bor sc l && chkE b .bor sc r)
    | _ => false)
  | .neg a, _, sc, x => (match x with
    | .UnaryOp .USub y _ => chkE a .bor sc y
    | _ => false)
  | .no a, _, sc, x => (match x with
    | .UnaryOp .Not y _ => chkE a .bor sc y
    | _ => false)
  | .and es, md, sc, x => decide (md ≠ .own) && (match x with
    | .BoolOp .And xs _ => !es.isEmpty && chkL es md sc xs
    | _ => false)
  | .or es, md, sc, x => decide (md ≠ .own) && (match x with
    | .BoolOp .Or xs _ => !es.isEmpty && chkL es md sc xs
    | _ => false)
  | .cmp o a b, _, sc, x => (match x with
    | .Compare l [p] [r] _ => opC o p && (chkE a .bor sc l && chkE b .bor sc r)
    | _ => false)
  | .chn o p a b c, _, sc, x => (match x with
    | .Compare l [o', p'] [r, t] _ => opC o o' && (opC p p' && (chkE a .bor sc l && (chkE b .bor sc r && chkE c .bor sc t)))
    | _ => false)
  | .isi a t, _, sc, x => (match x with
    | .Call (.Name f _) [y, .Name n _] [] _ => bltB fr sc f "isinstance" && (bltB fr sc n (tyName t) && chkE a .bor sc y)
    | _ => false)
  | .ite c a b, md, sc, x => (match x with
    | .IfExp t y z _ => chkE c .bor sc t && (chkE a md sc y && chkE b md sc z)
    | _ => false)
  | .idx a i, md, sc, x => decide (md ≠ .own) && (match x with
    | .Subscript y z _ => chkE a .bor sc y && chkE i .bor sc z
    | _ => false)
  | .sl1 a l, _, sc, x => (match x with
    | .Subscript y (.Slice (some z) none none _) _ => chkE a .bor sc y && chkE l .bor sc z
    | _ => false)
  | .sl2 a u, _, sc, x => (match x with
    | .Subscript y (.Slice none (some z) none _) _ => chkE a .bor sc y && chkE u .bor sc z
    | _ => false)
  | .sl3 a l u, _, sc, x => (match x with
    | .Subscript y (.Slice (some z) (some t) none _) _ => chkE a .bor sc y && (chkE l .bor sc z && chkE u .bor sc t)
    | _ => false)
  | .rev a, _, sc, x => (match x with
    | .Subscript y (.Slice none none (some (.UnaryOp .USub (.Constant (.int 1) _ _) _)) _) _ => chkE a .bor sc y
    | _ => false)
  | .tup es, _, sc, x => (match x with
    | .Tuple xs _ _ => chkL es .val sc xs
    | _ => false)
  | .lst es, _, sc, x => (match x with
    | .List xs _ => chkL es .val sc xs
    | _ => false)
  | .comp e t k es cs own, _, sc, x => (match x with
    | .ListComp elt [⟨tg, it, ifs, 0⟩] scope _ => blkC N sc scope (ownS N own) && (chkT N (fbC scope sc) t (L2.relS scope sc) tg && ((slotsT t).all (fun i => decide (i ∈ own)) && (decide (cs.length ≤ 1) &&
        ((match k, it with
          | .seq, it => chkL es .bor sc [it]
          | .ran, .Call (.Name f _) xs [] _ => bltB fr sc f "range" && chkL es .bor sc xs
          | .enu, .Call (.Name f _) xs [] _ => bltB fr sc f "enumerate" && (isTup t && chkL es .bor sc xs)
          | .zip, .Call (.Name f _) xs [] _ => bltB fr sc f "zip" && (isTup t && chkL es .bor sc xs)
          | .rvs, .Call (.Name f _) xs [] _ => bltB fr sc f "reversed" && chkL es .bor sc xs
          | _, _ => false) && (chkL cs .bor (L2.relS scope sc) ifs && chkE e .val (L2.relS scope sc) elt)))))
    | _ => false)
  | .bi f es, _, sc, x => (match x with
    | .Call (.Name n _) xs [] _ => bltB fr sc n (biName f) && (if isRg f = true then (match xs with
        | [.Call (.Name r _) ys [] _] => bltB fr sc r (rgIn f) && (decide (es.length = 1) && chkL es .bor sc ys)
        | _ => false) else !es.isEmpty && chkL es .bor sc xs)
    | _ => false)
  | .call f es, md, sc, x => decide (md ≠ .own) && (match x with
    | .Call (.Name n _) xs [] _ => decide (n = sx f) && (glbB sc n && (nmOk n && (decide (ar f = some es.length) && chkL es .val sc xs)))
    | _ => false)
def chkL : List E → Md → Scope → List Expr → Bool
  | [], _, _, [] => true
  | e :: es, md, sc, x :: xs => chkE e md sc x && chkL es md sc xs
  | _, _, _, _ => false
end
/-- what a for or a comprehension walks -/
def chkI (k : Ik) (tup : Bool) (es : List E) (md : Md) (sc : Scope) (it : Expr) : Bool := match k, it with
  | .seq, it => chkL ar fr N es md sc [it]
  | .ran, .Call (.Name f _) xs [] _ => bltB fr sc f "range" && chkL ar fr N es md sc xs
  | .enu, .Call (.Name f _) xs [] _ => bltB fr sc f "enumerate" && (tup && chkL ar fr N es md sc xs)
  | .zip, .Call (.Name f _) xs [] _ => bltB fr sc f "zip" && (tup && chkL ar fr N es md sc xs)
  | .rvs, .Call (.Name f _) xs [] _ => bltB fr sc f "reversed" && chkL ar fr N es md sc xs
  | _, _ => false
theorem notStar : ∀ {e : E} {md : Md} {sc : Scope} {x : Expr}, chkE ar fr N e md sc x = true → strT x = false := by
  intro e md sc x h
  cases x with
  | Starred y p => cases e <;> simp [chkE] at h
  | _ => rfl
end
end PL

set_option autoImplicit false
set_option linter.all false
set_option maxRecDepth 100000
set_option maxHeartbeats 4000000
/-! PL7: each construct, by its parts. -/
namespace PL
open PySem PySem.Spec PyProof.Rows L2
section
variable {β : Type} (Y : Sys β)
structure Sys.Ok : Prop where
  fr : ∀ x, Y.fr x = true → Y.mg (sx x) = none
  gl : ∀ x d, Y.pr.gl x = some d → ∃ v u, Y.mg (sx x) = some u ∧ RelV v u ∧ ∀ bp B, Rep Y.K Y.mg bp B d v
/-- what a function of the program keeps, k calls deep -/
def spC (k : Nat) (x : String) (n : Nat) : Sp := fun vs H Q _ => vs.length = n ∧ ∃ bp bq B ds b d b',
  Good Y bp bq B H b ∧ RepL Y.K Y.mg bp B ds vs ∧ PL.call Y.pr k x ds b = .ok d b' ∧ ∀ B' H' v, Ext bp bq B B' H H' → Good Y bp bq B' H' b' → Rep Y.K Y.mg bp B' d v → Q v H'
def Callee (k : Nat) (x : String) (n : Nat) : Prop := ∃ a fd ps, Y.mg (sx x) = some (.ref a) ∧ PySem.W.keepIn Y.K (.ref a) = true ∧ Binds Y.K fd ps [] ∧ ps.length = n ∧
  FnOk Y.P Y.w Y.K Y.mg Y.base CX0 k a fd ps (spC Y k x n)
structure CxOk (k : Nat) (N : List PySem.Str) (sc : Scope) (X : Cx) : Prop where
  prog : X.prog = Y.P
  w : X.w = Y.w
  K : X.K = Y.K
  mg : X.mg = Y.mg
  base : X.base = Y.base
  calm : X.calm = true
  xN : X.N = N
  nd : N.Nodup
  xsc : X.env.scope = sc
  kind : sc.kind = .function
  room : Room k X.A
  xe : X.xe = fun _ _ => False
variable (k : Nat)
noncomputable abbrev evY (e : E) (ρ : Env) : M β D := ev Y.pr.gl (PL.call Y.pr k) e ρ
noncomputable abbrev evLY (e : List E) (ρ : Env) : M β (List D) := evL Y.pr.gl (PL.call Y.pr k) e ρ
/-- the meaning m as a reading -/
def lM (md : Md) (m : Env → M β D) : TE := fun σ H Q => ∃ bp bq B ρ b d b', Good Y bp bq B H b ∧ RepE Y bp bq B H ρ σ ∧ m ρ b = .ok d b' ∧ Wish Y bp bq md B H d b' Q
abbrev lE (md : Md) (e : E) : TE := lM Y md (evY Y k e)
def RepXL (md : Md) (bp bq : Addr) (B H : Hp) (ds : List D) (vs : List V) : Prop := match md with
  | .val => RepL Y.K Y.mg bp B ds vs
  | _ => RepTL Y.K Y.mg bp B H bq ds vs
def lL (md : Md) (es : List E) : TA := fun σ H Q => ∃ bp bq B ρ b ds b', Good Y bp bq B H b ∧ RepE Y bp bq B H ρ σ ∧ evLY Y k es ρ b = .ok ds b' ∧
  ∀ B' H' vs, Ext bp bq B B' H H' → Good Y bp bq B' H' b' → RepXL Y md bp bq B' H' ds vs → Q vs H'
def lT (m : Env → M β Bool) : TT := fun σ H Q => ∃ bp bq B ρ b t b', Good Y bp bq B H b ∧ RepE Y bp bq B H ρ σ ∧ m ρ b = .ok t b' ∧
  ∀ B' H', Ext bp bq B B' H H' → Good Y bp bq B' H' b' → Q t H'
noncomputable def tstY (e : E) (ρ : Env) : M β Bool := tst Y.pr.gl (PL.call Y.pr k) e ρ
end
theorem PE.imp {X : Cx} {e : Expr} {t t' : TE} (h : PE X e t) (i : ∀ σ H Q, t' σ H Q → t σ H Q) : PE X e t' := ⟨fun pins s σ H Q I q => h.run pins s σ H Q I (i σ H Q q)⟩
theorem PT.imp {X : Cx} {e : Expr} {t t' : TT} (h : PT X e t) (i : ∀ σ H Q, t' σ H Q → t σ H Q) : PT X e t' := ⟨fun pins s σ H Q I q => h.run pins s σ H Q I (i σ H Q q)⟩
theorem PW.imp {X : Cx} {e : Expr} {t t' : TT} (h : PW X e t) (i : ∀ σ H Q, t' σ H Q → t σ H Q) : PW X e t' := ⟨fun wh pins s σ H Q I q => h.run wh pins s σ H Q I (i σ H Q q)⟩
theorem PA.imp {X : Cx} {e : List Expr} {t t' : TA} (h : PA X e t) (i : ∀ σ H Q, t' σ H Q → t σ H Q) : PA X e t' := ⟨fun pos pins s σ H Q I q => h.run pos pins s σ H Q I (i σ H Q q)⟩
theorem PI.imp {X : Cx} {tg e : Expr} {t t' : TI} (h : PI X tg e t) (i : ∀ σ H R, t' σ H R → t σ H R) : PI X tg e t' := ⟨fun pins s σ H R I q => h.run pins s σ H R I (i σ H R q)⟩
theorem PG.imp {X : Cx} {e : Expr} {t t' : TG} (h : PG X e t) (i : ∀ v σ H Q, t' v σ H Q → t v σ H Q) : PG X e t' := ⟨fun pins s σ H v u Q I r q => h.run pins s σ H v u Q I r (i v σ H Q q)⟩
section
variable {β : Type} {Y : Sys β} {k : Nat} {N : List PySem.Str} {sc : Scope} {X : Cx} {md : Md}
theorem star1 {x : Expr} {xs : List Expr} {env : PySem.Env} (h : strT x = false) : starEach (x :: xs) env = (false, eval x env) :: starEach xs env := by
  cases x <;> first | rfl | cases h
theorem star_any : ∀ {xs : List Expr} {env : PySem.Env} {pos : Pos}, xs.all (fun x => !strT x) = true → (backTo pos (starEach xs env)).any (·.1) = false
  | [], _, _, _ => rfl
  | x :: xs, env, pos, h => by
    simp only [List.all_cons, Bool.and_eq_true, Bool.not_eq_true'] at h
    rw [star1 h.1]
    have := star_any (env := env) (pos := pos) h.2
    simp only [backTo, List.map_cons, List.any_cons] at this ⊢
    simpa using this
theorem nm_dbg {x : PySem.Str} (h : nmOk x = true) : (x == ("__debug__" : PySem.Str)) = false ∧ (x == ("__classdict__" : PySem.Str)) = false ∧ x ≠ ("__name__" : PySem.Str) := by
  simp only [nmOk, Bool.and_eq_true, Bool.not_eq_true'] at h
  exact ⟨h.1.1, h.1.2, fun e => by have h2 := h.2; rw [e] at h2; exact absurd h2 (by decide +kernel)⟩
theorem vis_of {x : PySem.Str} (h : visB sc x = true) : Vis sc x := by
  unfold visB at h
  unfold Vis
  cases q : sc.names.lookup x with
  | none => rw [q] at h; cases h
  | some kk => rw [q] at h; cases kk <;> first | (exact .inl rfl) | (exact .inr (.inl rfl)) | (exact .inr (.inr rfl)) | cases h
theorem loc_of {x : PySem.Str} (h : locB sc x = true) : L2.Loc sc x := by
  unfold locB at h
  unfold L2.Loc
  cases q : sc.names.lookup x with
  | none => rw [q] at h; cases h
  | some kk => rw [q] at h; cases kk <;> first | (exact .inl rfl) | (exact .inr rfl) | cases h
theorem gl_of {x : PySem.Str} (C : CxOk Y k N sc X) (h : glbB sc x = true) : Gl X x := by
  unfold glbB at h
  show X.env.scope.names.lookup x = some .globalImplicit
  rw [C.xsc]
  cases q : sc.names.lookup x with
  | none => rw [q] at h; cases h
  | some kk => rw [q] at h; cases kk <;> first | rfl | cases h

/-! ### names, constants -/
theorem c_var {i : Nat} {x : PySem.Str} {pos : Pos} (C : CxOk Y k N sc X) (hn : md ≠ .own) (h1 : N[i]? = some x) (h2 : visB sc x = true) (h3 : nmOk x = true) : PE X (.Name x pos) (lE Y k md (.var i)) := by
  refine PE.imp (pe_var (i := i) (by rw [C.xN]; exact h1) (by rw [C.xsc]; exact vis_of h2) (nm_dbg h3).1 (nm_dbg h3).2.1) fun σ H Q q => ?_
  obtain ⟨bp, bq, B, ρ, b, d, b', g, r, e, w⟩ := q
  have e : getV ρ i b = .ok d b' := e
  unfold getV at e
  cases hd : ρ[i]? with
  | none => rw [hd] at e; exact (stk_ok e).elim
  | some c =>
    rw [hd] at e
    cases c with
    | im d' =>
      obtain ⟨rfl, rfl⟩ := ret_ok e
      obtain ⟨v, h4, h5⟩ := r.im i _ hd
      refine ⟨v, h4, w B H v Ext.refl g ?_⟩
      cases md with
      | val => exact h5
      | bor => exact .inl h5
      | own => exact absurd rfl hn
    | un => exact (stk_ok e).elim
    | ow xs => exact (stk_ok e).elim
theorem c_bvar {i : Nat} {x : PySem.Str} {pos : Pos} (C : CxOk Y k N sc X) (h1 : N[i]? = some x) (h2 : visB sc x = true) (h3 : nmOk x = true) : PE X (.Name x pos) (lE Y k .bor (.bvar i)) := by
  refine PE.imp (pe_var (i := i) (by rw [C.xN]; exact h1) (by rw [C.xsc]; exact vis_of h2) (nm_dbg h3).1 (nm_dbg h3).2.1) fun σ H Q q => ?_
  obtain ⟨bp, bq, B, ρ, b, d, b', g, r, e, w⟩ := q
  have e : getB ρ i b = .ok d b' := e
  unfold getB at e
  cases hd : ρ[i]? with
  | none => rw [hd] at e; exact (stk_ok e).elim
  | some c =>
    rw [hd] at e
    cases c with
    | im d' =>
      obtain ⟨rfl, rfl⟩ := ret_ok e
      obtain ⟨v, h4, h5⟩ := r.im i _ hd
      exact ⟨v, h4, w B H v Ext.refl g (.inl h5)⟩
    | un => exact (stk_ok e).elim
    | ow xs =>
      obtain ⟨rfl, rfl⟩ := ret_ok e
      obtain ⟨p, vs, h4, h5, h6, h7, h8, h9⟩ := r.ow i _ hd
      exact ⟨.ref p, h4, w B H _ Ext.refl g (.inr ⟨p, vs, xs, rfl, rfl, h5, h9, h7, h8⟩)⟩
theorem c_glob {y : String} {x : PySem.Str} {pos : Pos} (O : Y.Ok) (C : CxOk Y k N sc X) (hn : md ≠ .own) (h1 : x = sx y) (h2 : glbB sc x = true) (h3 : nmOk x = true) : PE X (.Name x pos) (lE Y k md (.glob y)) := by
  refine ⟨fun pins s σ H Q I q => ?_⟩
  obtain ⟨bp, bq, B, ρ, b, d, b', g, r, e, w⟩ := q
  obtain ⟨e1, rfl⟩ := lft_ok (show lft (Y.pr.gl y) b = .ok d b' from e)
  obtain ⟨v, u, h4, h5, h6⟩ := O.gl y d e1
  subst h1
  refine (pe_glob (v := v) (u := u) (gl_of C h2) (by rw [C.mg]; exact h4) h5 (nm_dbg h3).1).run pins s σ H Q I (w B H v Ext.refl g ?_)
  cases md with
  | val => exact h6 bp B
  | bor => exact .inl (h6 bp B)
  | own => exact absurd rfl hn
theorem c_lit {d : D} {c : Const} {j : Nat} {pos : Pos} (h : litB d c = true) : PE X (.Constant c j pos) (lE Y k md (.lit d)) := by
  have fin : ∀ {v : V} {t : TE}, PE X (.Constant c j pos) t → (∀ σ H Q, Q v H → t σ H Q) → (∀ bp B, Rep Y.K Y.mg bp B d v) → (∀ xs, d ≠ .lst xs) → PE X (.Constant c j pos) (lE Y k md (.lit d)) := fun {v t} hp hi hr nl => by
    refine PE.imp hp fun σ H Q q => hi σ H Q ?_
    obtain ⟨bp, bq, B, ρ, b, d', b', g, r, e, w⟩ := q
    obtain ⟨rfl, rfl⟩ := ret_ok (show ret d b = .ok d' b' from e)
    refine w B H v Ext.refl g ?_
    cases md with
    | val => exact hr bp B
    | bor => exact .inl (hr bp B)
    | own => exact fun xs e => absurd e (nl xs)
  cases d <;> cases c <;> simp [litB] at h
  · exact fin (v := .non) pe_non (fun _ _ _ q => q) (fun _ _ => by simp only [Rep]) (by intro xs e; cases e)
  · subst h
    exact fin (v := .bl _) pe_bl (fun _ _ _ q => q) (fun _ _ => by simp only [Rep]) (by intro xs e; cases e)
  · subst h
    exact fin (v := .int _) pe_int (fun _ _ _ q => q) (fun _ _ => by simp only [Rep]) (by intro xs e; cases e)
  · subst h
    exact fin (v := .str _) pe_str (fun _ _ _ q => q) (fun _ _ => by simp only [Rep]) (by intro xs e; cases e)
/-! ### operators -/
/-- two parts, one after the other -/
theorem two_of {a b : E} {σ : L2.St} {H : Hp} {bp bq : Addr} {B : Hp} {ρ : Env} {β0 β2 : β} {α : Type} {f : D → D → M β α} {z : α} (g : Good Y bp bq B H β0) (r : RepE Y bp bq B H ρ σ)
    (e : bnd (evY Y k a ρ) (fun x => bnd (evY Y k b ρ) fun y => f x y) β0 = .ok z β2) {R : V → V → Hp → Prop}
    (h : ∀ d1 d2 b1 B2 H2 x y, Ext bp bq B B2 H H2 → Good Y bp bq B2 H2 b1 → RepT Y.K Y.mg bp B2 H2 bq d1 x → RepT Y.K Y.mg bp B2 H2 bq d2 y → f d1 d2 b1 = .ok z β2 → R x y H2) :
    lE Y k .bor a σ H fun x H1 => lE Y k .bor b σ H1 fun y H2 => R x y H2 := by
  obtain ⟨d1, b1, e1, e⟩ := bnd_ok e
  obtain ⟨d2, b2, e2, e⟩ := bnd_ok e
  refine ⟨bp, bq, B, ρ, β0, d1, b1, g, r, e1, fun B1 H1 x x1 g1 r1 => ?_⟩
  refine ⟨bp, bq, B1, ρ, b1, d2, b2, g1, r.ext x1 g1, e2, fun B2 H2 y x2 g2 r2 => ?_⟩
  exact h d1 d2 b2 B2 H2 x y (x1.trans x2 g2) g2 (RepT.ext r1 x2) r2 e
theorem c_bin {o : Bop} {a b : E} {l r : Expr} {pos : Pos} (C : CxOk Y k N sc X) (ha : PE X l (lE Y k .bor a)) (hb : PE X r (lE Y k .bor b)) : PE X (.BinOp l (pyB o) r pos) (lE Y k md (.bin o a b)) := by
  refine PE.imp (pe_op (op_B (mg := Y.mg) (m := md) o) ha hb) fun σ H Q q => ?_
  obtain ⟨bp, bq, B, ρ, b0, d, b', g, r, e, w⟩ := q
  rw [C.K]
  refine two_of g r e fun d1 d2 b1 B2 H2 x y x2 g2 r1 r2 e => ?_
  obtain ⟨e1, rfl⟩ := lft_ok e
  exact ⟨bp, bq, B2, d1, d2, d, g2.gd, r1, r2, e1, (w.later x2 g2).res g2⟩
theorem Wish.bl {bp bq : Addr} {B H : Hp} {t : Bool} {b' : β} {Q : VK} (w : Wish Y bp bq md B H (.bl t) b' Q) (g : Good Y bp bq B H b') : Q (.bl t) H := (w.res g).bl g.gd
theorem Wish.int {bp bq : Addr} {B H : Hp} {t : Int} {b' : β} {Q : VK} (w : Wish Y bp bq md B H (.int t) b' Q) (g : Good Y bp bq B H b') : Q (.int t) H := (w.res g).int g.gd
theorem c_cmp {o : Cop} {a b : E} {l r : Expr} {pos : Pos} (C : CxOk Y k N sc X) (ha : PE X l (lE Y k .bor a)) (hb : PE X r (lE Y k .bor b)) (hm : behindInMarks (pyC o) r = false) : PE X (.Compare l [pyC o] [r] pos) (lE Y k md (.cmp o a b)) := by
  have hu : X.A.units + 65 < cLine := by have := C.room.un; omega
  refine PE.imp (pe_cmpR (op_C (mg := Y.mg) hu o) ha hb hm) fun σ H Q q => ?_
  obtain ⟨bp, bq, B, ρ, b0, d, b', g, r, e, w⟩ := q
  rw [C.K]
  refine two_of g r e fun d1 d2 b1 B2 H2 x y x2 g2 r1 r2 e => ?_
  obtain ⟨t, b3, e1, e2⟩ := bnd_ok e
  replace e1 := lft_ok e1
  obtain ⟨e1, rfl⟩ := e1
  obtain ⟨rfl, rfl⟩ := ret_ok e2
  exact ⟨bp, bq, B2, d1, d2, t, g2.gd, r1, r2, e1, (w.later x2 g2).bl g2⟩
theorem c_chn {o p : Cop} {a b c : E} {l r t : Expr} {pos : Pos} (C : CxOk Y k N sc X) (ha : PE X l (lE Y k .bor a)) (hb : PE X r (lE Y k .bor b)) (hc : PE X t (lE Y k .bor c)) (hm : behindInMarks (pyC p) t = false) : PE X (.Compare l [pyC o, pyC p] [r, t] pos) (lE Y k md (.chn o p a b c)) := by
  have hu : X.A.units + 65 < cLine := by have := C.room.un; omega
  refine PE.imp (pe_chain (op_C (mg := Y.mg) hu o) (op_C (mg := Y.mg) hu p) ha hb hc (by exact hm)) fun σ H Q q => ?_
  obtain ⟨bp, bq, B, ρ, b0, d, b', g, r, e, w⟩ := q
  rw [C.K]
  refine two_of g r e fun d1 d2 b1 B2 H2 x y x2 g2 r1 r2 e => ?_
  obtain ⟨t, b3, e1, e2⟩ := bnd_ok e
  replace e1 := lft_ok e1
  obtain ⟨e1, rfl⟩ := e1
  refine ⟨bp, bq, B2, d1, d2, t, g2.gd, r1, r2, e1, t, rfl, ?_⟩
  cases t with
  | false =>
    rw [if_neg (by decide)] at e2
    obtain ⟨rfl, rfl⟩ := ret_ok e2
    rw [if_neg (by decide)]
    exact (w.later x2 g2).bl g2
  | true =>
    rw [if_pos rfl] at e2
    rw [if_pos rfl]
    obtain ⟨d3, b4, e3, e4⟩ := bnd_ok e2
    obtain ⟨u, b5, e5, e6⟩ := bnd_ok e4
    replace e5 := lft_ok e5
    obtain ⟨e5, rfl⟩ := e5
    obtain ⟨rfl, rfl⟩ := ret_ok e6
    refine ⟨bp, bq, B2, ρ, _, d3, _, g2, r.ext x2 g2, e3, fun B3 H3 z x3 g3 r3 => ?_⟩
    exact ⟨bp, bq, B3, d2, d3, u, g3.gd, RepT.ext r2 x3, r3, e5, (w.later (x2.trans x3 g3) g3).bl g3⟩
theorem c_neg {a : E} {l : Expr} {pos : Pos} (ha : PE X l (lE Y k .bor a)) : PE X (.UnaryOp .USub l pos) (lE Y k md (.neg a)) := by
  refine PE.imp (pe_un un_neg ha) fun σ H Q q => ?_
  obtain ⟨bp, bq, B, ρ, b0, d, b', g, r, e, w⟩ := q
  obtain ⟨d1, b1, e1, e⟩ := bnd_ok e
  obtain ⟨i, b2, e2, e3⟩ := bnd_ok e
  replace e2 := lft_ok e2
  obtain ⟨e2, rfl⟩ := e2
  obtain ⟨rfl, rfl⟩ := ret_ok e3
  refine ⟨bp, bq, B, ρ, b0, d1, _, g, r, e1, fun B1 H1 x x1 g1 r1 => ?_⟩
  cases d1 with
  | int j =>
    simp only [toI, Option.some.injEq] at e2; subst e2
    exact ⟨j, RepT.int r1, (w.later x1 g1).int g1⟩
  | _ => simp [toI] at e2
theorem c_no {a : E} {l : Expr} {pos : Pos} (C : CxOk Y k N sc X) (ha : PE X l (lE Y k .bor a)) : PE X (.UnaryOp .Not l pos) (lE Y k md (.no a)) := by
  refine PE.imp (pe_notT ha) fun σ H Q q => ?_
  obtain ⟨bp, bq, B, ρ, b0, d, b', g, r, e, w⟩ := q
  obtain ⟨d1, b1, e1, e⟩ := bnd_ok e
  obtain ⟨t, b2, e2, e3⟩ := bnd_ok e
  replace e2 := lft_ok e2
  obtain ⟨e2, rfl⟩ := e2
  obtain ⟨rfl, rfl⟩ := ret_ok e3
  refine ⟨bp, bq, B, ρ, b0, d1, _, g, r, e1, fun B1 H1 x x1 g1 r1 => ?_⟩
  rw [C.K]
  exact ⟨t, tru_of g1.gd r1 e2, (w.later x1 g1).bl g1⟩
theorem RepM.t {bp bq : Addr} {H B' H' : Hp} {d : D} {v : V} (hn : md ≠ .own) (h : RepM Y.K Y.mg bp bq md H B' H' d v) : RepT Y.K Y.mg bp B' H' bq d v := by
  cases md with
  | val => exact .inl h
  | bor => exact h
  | own => exact absurd rfl hn
theorem RepM.same {bp bq : Addr} {H H2 B' H' : Hp} {d : D} {v : V} (hn : md ≠ .own) (h : RepM Y.K Y.mg bp bq md H B' H' d v) : RepM Y.K Y.mg bp bq md H2 B' H' d v := by
  cases md with
  | val => exact h
  | bor => exact h
  | own => exact absurd rfl hn
theorem c_and1 {a : E} {l : Expr} {pos : Pos} (ha : PE X l (lE Y k md a)) : PE X (.BoolOp .And [l] pos) (lE Y k md (.and [a])) := by
  refine PE.imp (pe_one ha) fun σ H Q q => ?_
  obtain ⟨bp, bq, B, ρ, b0, d, b', g, r, e, w⟩ := q
  exact ⟨bp, bq, B, ρ, b0, d, b', g, r, by simpa only [evY, ev, evA] using e, w⟩
theorem c_or1 {a : E} {l : Expr} {pos : Pos} (ha : PE X l (lE Y k md a)) : PE X (.BoolOp .Or [l] pos) (lE Y k md (.or [a])) := by
  refine PE.imp (pe_one ha) fun σ H Q q => ?_
  obtain ⟨bp, bq, B, ρ, b0, d, b', g, r, e, w⟩ := q
  exact ⟨bp, bq, B, ρ, b0, d, b', g, r, by simpa only [evY, ev, evO] using e, w⟩
theorem c_and {a a2 : E} {as : List E} {l l2 : Expr} {ls : List Expr} {pos : Pos} (C : CxOk Y k N sc X) (hn : md ≠ .own) (ha : PE X l (lE Y k md a)) (hb : PE X (.BoolOp .And (l2 :: ls) pos) (lE Y k md (.and (a2 :: as)))) :
    PE X (.BoolOp .And (l :: l2 :: ls) pos) (lE Y k md (.and (a :: a2 :: as))) := by
  refine PE.imp (pe_andT ha hb) fun σ H Q q => ?_
  obtain ⟨bp, bq, B, ρ, b0, d, b', g, r, e, w⟩ := q
  simp only [evY, ev, evA] at e
  obtain ⟨d1, b1, e1, e⟩ := bnd_ok e
  obtain ⟨t, b2, e2, e⟩ := bnd_ok e
  replace e2 := lft_ok e2
  obtain ⟨e2, rfl⟩ := e2
  refine ⟨bp, bq, B, ρ, b0, d1, _, g, r, e1, fun B1 H1 x x1 g1 r1 => ?_⟩
  rw [C.K]
  refine ⟨t, tru_of g1.gd (r1.t hn) e2, ?_⟩
  cases t with
  | true =>
    rw [if_pos rfl] at e ⊢
    exact ⟨bp, bq, B1, ρ, _, d, b', g1, r.ext x1 g1, by simpa only [evY, ev, evA] using e, w.later x1 g1⟩
  | false =>
    rw [if_neg (by decide)] at e ⊢
    obtain ⟨rfl, rfl⟩ := ret_ok e
    exact w B1 H1 x x1 g1 r1
theorem c_or {a a2 : E} {as : List E} {l l2 : Expr} {ls : List Expr} {pos : Pos} (C : CxOk Y k N sc X) (hn : md ≠ .own) (ha : PE X l (lE Y k md a)) (hb : PE X (.BoolOp .Or (l2 :: ls) pos) (lE Y k md (.or (a2 :: as)))) :
    PE X (.BoolOp .Or (l :: l2 :: ls) pos) (lE Y k md (.or (a :: a2 :: as))) := by
  refine PE.imp (pe_orT ha hb) fun σ H Q q => ?_
  obtain ⟨bp, bq, B, ρ, b0, d, b', g, r, e, w⟩ := q
  simp only [evY, ev, evO] at e
  obtain ⟨d1, b1, e1, e⟩ := bnd_ok e
  obtain ⟨t, b2, e2, e⟩ := bnd_ok e
  replace e2 := lft_ok e2
  obtain ⟨e2, rfl⟩ := e2
  refine ⟨bp, bq, B, ρ, b0, d1, _, g, r, e1, fun B1 H1 x x1 g1 r1 => ?_⟩
  rw [C.K]
  refine ⟨t, tru_of g1.gd (r1.t hn) e2, ?_⟩
  cases t with
  | false =>
    rw [if_neg (by decide)] at e ⊢
    exact ⟨bp, bq, B1, ρ, _, d, b', g1, r.ext x1 g1, by simpa only [evY, ev, evO] using e, w.later x1 g1⟩
  | true =>
    rw [if_pos rfl] at e ⊢
    obtain ⟨rfl, rfl⟩ := ret_ok e
    exact w B1 H1 x x1 g1 r1
/-! ### tests -/
theorem bnd_run {β α γ : Type} {m : M β α} {f : α → M β γ} {b b1 : β} {a : α} (h : m b = .ok a b1) : bnd m f b = f a b1 := by
  unfold bnd
  rw [h]
theorem tst_of {a : E} {ρ : Env} {b0 b1 : β} {d1 : D} {t : Bool} (e1 : evY Y k a ρ b0 = .ok d1 b1) (e2 : truth d1 = some t) : tstY Y k a ρ b0 = .ok t b1 := by
  show bnd (evY Y k a ρ) (fun x => lft (truth x)) b0 = _
  rw [bnd_run e1, e2]
  rfl
theorem t_any {a : E} {l : Expr} (C : CxOk Y k N sc X) (ha : PE X l (lE Y k .bor a)) (he : ∀ whole, isTrue l X.env whole = (do let v ← whole; standAt l.pos; holding [v] (truthy v))) : PT X l (lT Y (tstY Y k a)) := by
  refine PT.imp (pt_truth ha he) fun σ H Q q => ?_
  obtain ⟨bp, bq, B, ρ, b0, t, b', g, r, e, w⟩ := q
  obtain ⟨d1, b1, e1, e⟩ := bnd_ok e
  obtain ⟨e2, rfl⟩ := lft_ok e
  refine ⟨bp, bq, B, ρ, b0, d1, _, g, r, e1, fun B1 H1 x x1 g1 r1 => ?_⟩
  rw [C.K]
  exact ⟨t, tru_of g1.gd r1 e2, w B1 H1 x1 g1⟩
theorem t_no {a : E} {l : Expr} {pos : Pos} (ha : PT X l (lT Y (tstY Y k a))) : PT X (.UnaryOp .Not l pos) (lT Y (tstY Y k (.no a))) := by
  refine PT.imp (pt_not ha) fun σ H Q q => ?_
  obtain ⟨bp, bq, B, ρ, b0, t, b', g, r, e, w⟩ := q
  simp only [tstY, tst, ev] at e
  obtain ⟨d, b1, e1, e⟩ := bnd_ok e
  obtain ⟨d1, b2, e2, e3⟩ := bnd_ok e1
  obtain ⟨t1, b3, e4, e5⟩ := bnd_ok e3
  replace e4 := lft_ok e4
  obtain ⟨e4, rfl⟩ := e4
  obtain ⟨rfl, rfl⟩ := ret_ok e5
  obtain ⟨e6, rfl⟩ := lft_ok e
  simp only [truth, Option.some.injEq] at e6
  subst e6
  refine ⟨bp, bq, B, ρ, b0, t1, _, g, r, tst_of e2 e4, fun B1 H1 x1 g1 => w B1 H1 x1 g1⟩
theorem t_cmp {o : Cop} {a b : E} {l r : Expr} {pos : Pos} (C : CxOk Y k N sc X) (ha : PE X l (lE Y k .bor a)) (hb : PE X r (lE Y k .bor b)) (hm : behindInMarks (pyC o) r = false) : PT X (.Compare l [pyC o] [r] pos) (lT Y (tstY Y k (.cmp o a b))) := by
  have hu : X.A.units + 65 < cLine := by have := C.room.un; omega
  refine PT.imp (pt_cmpR (op_C (mg := Y.mg) hu o) ha hb hm) fun σ H Q q => ?_
  obtain ⟨bp, bq, B, ρ, b0, t, b', g, r, e, w⟩ := q
  simp only [tstY, tst, ev, bnd_assoc, bnd_ret, truth, lft_some] at e
  rw [C.K]
  refine two_of g r e fun d1 d2 b1 B2 H2 x y x2 g2 r1 r2 e => ?_
  obtain ⟨t', b3, e1, e2⟩ := bnd_ok e
  replace e1 := lft_ok e1
  obtain ⟨e1, rfl⟩ := e1
  obtain ⟨rfl, rfl⟩ := ret_ok e2
  exact ⟨bp, bq, B2, d1, d2, _, g2.gd, r1, r2, e1, _, rfl, w B2 H2 x2 g2⟩
theorem t_chn {o p : Cop} {a b c : E} {l r t : Expr} {pos : Pos} (C : CxOk Y k N sc X) (ha : PE X l (lE Y k .bor a)) (hb : PE X r (lE Y k .bor b)) (hc : PE X t (lE Y k .bor c)) (hm : behindInMarks (pyC p) t = false) : PT X (.Compare l [pyC o, pyC p] [r, t] pos) (lT Y (tstY Y k (.chn o p a b c))) := by
  have hu : X.A.units + 65 < cLine := by have := C.room.un; omega
  refine PT.imp (pt_chain (op_C (mg := Y.mg) hu o) (op_C (mg := Y.mg) hu p) ha hb hc (by exact hm)) fun σ H Q q => ?_
  obtain ⟨bp, bq, B, ρ, b0, t, b', g, r, e, w⟩ := q
  simp only [tstY, tst, ev, bnd_assoc] at e
  rw [C.K]
  refine two_of g r e fun d1 d2 b1 B2 H2 x y x2 g2 r1 r2 e => ?_
  obtain ⟨t1, b3, e1, e2⟩ := bnd_ok e
  replace e1 := lft_ok e1
  obtain ⟨e1, rfl⟩ := e1
  refine ⟨bp, bq, B2, d1, d2, t1, g2.gd, r1, r2, e1, t1, rfl, ?_⟩
  cases t1 with
  | false =>
    rw [if_neg (by decide)] at e2
    obtain ⟨rfl, rfl⟩ := ret_ok e2
    rw [if_neg (by decide)]
    exact ⟨false, rfl, w B2 H2 x2 g2⟩
  | true =>
    rw [if_pos rfl] at e2
    rw [if_pos rfl]
    simp only [bnd_assoc, bnd_ret, truth, lft_some] at e2
    obtain ⟨d3, b4, e3, e4⟩ := bnd_ok e2
    obtain ⟨u, b5, e5, e6⟩ := bnd_ok e4
    replace e5 := lft_ok e5
    obtain ⟨e5, rfl⟩ := e5
    obtain ⟨rfl, rfl⟩ := ret_ok e6
    refine ⟨bp, bq, B2, ρ, _, d3, _, g2, r.ext x2 g2, e3, fun B3 H3 z x3 g3 r3 => ?_⟩
    exact ⟨bp, bq, B3, d2, d3, _, g3.gd, RepT.ext r2 x3, r3, e5, _, rfl, w B3 H3 (x2.trans x3 g3) g3⟩
theorem t_and1 {a : E} {l : Expr} {pos : Pos} (ha : PT X l (lT Y (tstY Y k a))) : PW X (.BoolOp .And [l] pos) (lT Y (tstY Y k (.and [a]))) := by
  refine PW.imp (pw_and1 ha) fun σ H Q q => ?_
  obtain ⟨bp, bq, B, ρ, b0, t, b', g, r, e, w⟩ := q
  exact ⟨bp, bq, B, ρ, b0, t, b', g, r, by simpa only [tstY, tst, ev, evA] using e, w⟩
theorem t_or1 {a : E} {l : Expr} {pos : Pos} (ha : PT X l (lT Y (tstY Y k a))) : PW X (.BoolOp .Or [l] pos) (lT Y (tstY Y k (.or [a]))) := by
  refine PW.imp (pw_or1 ha) fun σ H Q q => ?_
  obtain ⟨bp, bq, B, ρ, b0, t, b', g, r, e, w⟩ := q
  exact ⟨bp, bq, B, ρ, b0, t, b', g, r, by simpa only [tstY, tst, ev, evO] using e, w⟩
theorem t_and {a a2 : E} {as : List E} {l l2 : Expr} {ls : List Expr} {pos : Pos} (ha : PT X l (lT Y (tstY Y k a))) (hb : PW X (.BoolOp .And (l2 :: ls) pos) (lT Y (tstY Y k (.and (a2 :: as))))) :
    PW X (.BoolOp .And (l :: l2 :: ls) pos) (lT Y (tstY Y k (.and (a :: a2 :: as)))) := by
  refine PW.imp (pw_and ha hb) fun σ H Q q => ?_
  obtain ⟨bp, bq, B, ρ, b0, t, b', g, r, e, w⟩ := q
  simp only [tstY, tst, ev, evA, bnd_assoc] at e
  obtain ⟨d1, b1, e1, e⟩ := bnd_ok e
  obtain ⟨t1, b2, e2, e⟩ := bnd_ok e
  replace e2 := lft_ok e2
  obtain ⟨e2, rfl⟩ := e2
  refine ⟨bp, bq, B, ρ, b0, t1, _, g, r, tst_of e1 e2, fun B1 H1 x1 g1 => ?_⟩
  cases t1 with
  | true =>
    rw [if_pos rfl] at e ⊢
    exact ⟨bp, bq, B1, ρ, _, t, b', g1, r.ext x1 g1, by simpa only [tstY, tst, ev, evA] using e, fun B2 H2 x2 g2 => w B2 H2 (x1.trans x2 g2) g2⟩
  | false =>
    rw [if_neg (by decide)] at e ⊢
    simp only [bnd_ret, e2, lft_some] at e
    obtain ⟨rfl, rfl⟩ := ret_ok e
    exact w B1 H1 x1 g1
theorem t_or {a a2 : E} {as : List E} {l l2 : Expr} {ls : List Expr} {pos : Pos} (ha : PT X l (lT Y (tstY Y k a))) (hb : PW X (.BoolOp .Or (l2 :: ls) pos) (lT Y (tstY Y k (.or (a2 :: as))))) :
    PW X (.BoolOp .Or (l :: l2 :: ls) pos) (lT Y (tstY Y k (.or (a :: a2 :: as)))) := by
  refine PW.imp (pw_or ha hb) fun σ H Q q => ?_
  obtain ⟨bp, bq, B, ρ, b0, t, b', g, r, e, w⟩ := q
  simp only [tstY, tst, ev, evO, bnd_assoc] at e
  obtain ⟨d1, b1, e1, e⟩ := bnd_ok e
  obtain ⟨t1, b2, e2, e⟩ := bnd_ok e
  replace e2 := lft_ok e2
  obtain ⟨e2, rfl⟩ := e2
  refine ⟨bp, bq, B, ρ, b0, t1, _, g, r, tst_of e1 e2, fun B1 H1 x1 g1 => ?_⟩
  cases t1 with
  | false =>
    rw [if_neg (by decide)] at e ⊢
    exact ⟨bp, bq, B1, ρ, _, t, b', g1, r.ext x1 g1, by simpa only [tstY, tst, ev, evO] using e, fun B2 H2 x2 g2 => w B2 H2 (x1.trans x2 g2) g2⟩
  | true =>
    rw [if_pos rfl] at e ⊢
    simp only [bnd_ret, e2, lft_some] at e
    obtain ⟨rfl, rfl⟩ := ret_ok e
    exact w B1 H1 x1 g1
theorem c_ite {c a b : E} {t y z : Expr} {pos : Pos} (hc : PT X t (lT Y (tstY Y k c))) (ha : PE X y (lE Y k md a)) (hb : PE X z (lE Y k md b)) : PE X (.IfExp t y z pos) (lE Y k md (.ite c a b)) := by
  refine PE.imp (pe_ifExp hc ha hb) fun σ H Q q => ?_
  obtain ⟨bp, bq, B, ρ, b0, d, b', g, r, e, w⟩ := q
  simp only [evY, ev] at e
  obtain ⟨d1, b1, e1, e⟩ := bnd_ok e
  obtain ⟨t1, b2, e2, e⟩ := bnd_ok e
  replace e2 := lft_ok e2
  obtain ⟨e2, rfl⟩ := e2
  refine ⟨bp, bq, B, ρ, b0, t1, _, g, r, tst_of e1 e2, fun B1 H1 x1 g1 => ?_⟩
  cases t1 with
  | true =>
    rw [if_pos rfl] at e ⊢
    exact ⟨bp, bq, B1, ρ, _, d, b', g1, r.ext x1 g1, e, w.later x1 g1⟩
  | false =>
    rw [if_neg (by decide)] at e ⊢
    exact ⟨bp, bq, B1, ρ, _, d, b', g1, r.ext x1 g1, e, w.later x1 g1⟩
/-! ### items, slices -/
theorem c_idx {a i : E} {y z : Expr} {pos : Pos} (C : CxOk Y k N sc X) (hn : md ≠ .own) (ha : PE X y (lE Y k .bor a)) (hi : PE X z (lE Y k .bor i)) (hp : PlainIx z) : PE X (.Subscript y z pos) (lE Y k md (.idx a i)) := by
  refine PE.imp (pe_ix (ix_D (mg := Y.mg)) ha hi hp) fun σ H Q q => ?_
  obtain ⟨bp, bq, B, ρ, b0, d, b', g, r, e, w⟩ := q
  rw [C.K]
  refine two_of g r e fun d1 d2 b1 B2 H2 x y x2 g2 r1 r2 e => ?_
  obtain ⟨e1, rfl⟩ := lft_ok e
  refine ⟨bp, bq, B2, d1, d2, d, g2.gd, r1, r2, e1, fun v rv => w.later x2 g2 B2 H2 v Ext.refl g2 ?_⟩
  cases md with
  | val => exact rv
  | bor => exact .inl rv
  | own => exact absurd rfl hn
theorem c_sl1 {a l : E} {y z : Expr} {pos p2 : Pos} (C : CxOk Y k N sc X) (ha : PE X y (lE Y k .bor a)) (hl : PE X z (lE Y k .bor l)) : PE X (.Subscript y (.Slice (some z) none none p2) pos) (lE Y k md (.sl1 a l)) := by
  refine PE.imp (pe_slice (sl_D (mg := Y.mg) (m := md)) ha (po_some hl) po_none) fun σ H Q q => ?_
  obtain ⟨bp, bq, B, ρ, b0, d, b', g, r, e, w⟩ := q
  rw [C.K]
  refine two_of g r e fun d1 d2 b1 B2 H2 x y x2 g2 r1 r2 e => ?_
  obtain ⟨j, b3, e1, e2⟩ := bnd_ok e
  replace e1 := lft_ok e1
  obtain ⟨e1, rfl⟩ := e1
  replace e2 := lft_ok e2
  obtain ⟨e2, rfl⟩ := e2
  cases d2 with
  | int j' =>
    simp only [toI, Option.some.injEq] at e1; subst e1
    exact ⟨j', RepT.int r2, bp, bq, B2, d1, d, g2.gd, r1, e2, (w.later x2 g2).res g2⟩
  | _ => simp [toI] at e1
theorem c_sl2 {a l : E} {y z : Expr} {pos p2 : Pos} (C : CxOk Y k N sc X) (ha : PE X y (lE Y k .bor a)) (hl : PE X z (lE Y k .bor l)) : PE X (.Subscript y (.Slice none (some z) none p2) pos) (lE Y k md (.sl2 a l)) := by
  refine PE.imp (pe_slice (sl_D (mg := Y.mg) (m := md)) ha po_none (po_some hl)) fun σ H Q q => ?_
  obtain ⟨bp, bq, B, ρ, b0, d, b', g, r, e, w⟩ := q
  rw [C.K]
  refine two_of g r e fun d1 d2 b1 B2 H2 x y x2 g2 r1 r2 e => ?_
  obtain ⟨j, b3, e1, e2⟩ := bnd_ok e
  replace e1 := lft_ok e1
  obtain ⟨e1, rfl⟩ := e1
  replace e2 := lft_ok e2
  obtain ⟨e2, rfl⟩ := e2
  cases d2 with
  | int j' =>
    simp only [toI, Option.some.injEq] at e1; subst e1
    exact ⟨j', RepT.int r2, bp, bq, B2, d1, d, g2.gd, r1, e2, (w.later x2 g2).res g2⟩
  | _ => simp [toI] at e1
theorem c_sl3 {a l u : E} {y z t : Expr} {pos p2 : Pos} (C : CxOk Y k N sc X) (ha : PE X y (lE Y k .bor a)) (hl : PE X z (lE Y k .bor l)) (hu : PE X t (lE Y k .bor u)) : PE X (.Subscript y (.Slice (some z) (some t) none p2) pos) (lE Y k md (.sl3 a l u)) := by
  refine PE.imp (pe_slice (sl_D (mg := Y.mg) (m := md)) ha (po_some hl) (po_some hu)) fun σ H Q q => ?_
  obtain ⟨bp, bq, B, ρ, b0, d, b', g, r, e, w⟩ := q
  rw [C.K]
  refine two_of g r e fun d1 d2 b1 B2 H2 x y x2 g2 r1 r2 e => ?_
  obtain ⟨j, b3, f1, f⟩ := bnd_ok e
  obtain ⟨f2, rfl⟩ := lft_ok f1
  obtain ⟨d3, b4, f3, f4⟩ := bnd_ok f
  obtain ⟨j2, b5, f5, f6⟩ := bnd_ok f4
  obtain ⟨f7, rfl⟩ := lft_ok f5
  obtain ⟨f8, rfl⟩ := lft_ok f6
  cases d2 with
  | int j' =>
    simp only [toI, Option.some.injEq] at f2; subst f2
    refine ⟨j', RepT.int r2, bp, bq, B2, ρ, _, d3, _, g2, r.ext x2 g2, f3, fun B3 H3 zz x3 g3 r3 => ?_⟩
    cases d3 with
    | int j3 =>
      simp only [toI, Option.some.injEq] at f7; subst f7
      exact ⟨j3, RepT.int r3, bp, bq, B3, d1, d, g3.gd, RepT.ext r1 x3, f8, (w.later (x2.trans x3 g3) g3).res g3⟩
    | _ => simp [toI] at f7
  | _ => simp [toI] at f2
theorem c_rev {a : E} {y : Expr} {j : Nat} {p1 p2 p3 pos : Pos} (C : CxOk Y k N sc X) (ha : PE X y (lE Y k .bor a)) : PE X (.Subscript y (.Slice none none (some (.UnaryOp .USub (.Constant (.int 1) j p1) p2)) p3) pos) (lE Y k md (.rev a)) := by
  refine PE.imp (pe_revA ha) fun σ H Q q => ?_
  obtain ⟨bp, bq, B, ρ, b0, d, b', g, r, e, w⟩ := q
  obtain ⟨d1, b1, e1, e⟩ := bnd_ok e
  obtain ⟨e2, rfl⟩ := lft_ok e
  refine ⟨bp, bq, B, ρ, b0, d1, _, g, r, e1, fun B1 H1 x x1 g1 r1 => ?_⟩
  rw [C.K]
  cases d1 with
  | tup xs =>
    simp only [revD, Option.some.injEq] at e2; subst e2
    obtain ⟨p, vs, rfl, h1, rl⟩ := RepT.tup g1.sub r1
    exact ⟨p, vs, rfl, .inr ⟨h1, fun p' hp' => ((w.later x1 g1).res g1).tup g1.gd rl.reverse hp'⟩⟩
  | lst xs =>
    simp only [revD, Option.some.injEq] at e2; subst e2
    obtain ⟨p, vs, rfl, h1, rl⟩ := RepT.lst g1.sub r1
    exact ⟨p, vs, rfl, .inl ⟨SqL.of h1, fun p' hp' => ((w.later x1 g1).res g1).lst g1.gd rl.reverse hp'⟩⟩
  | _ => simp [revD] at e2
/-! ### lists of parts -/
theorem a_nil : PA X [] (lL Y k md []) := by
  refine PA.imp pa_nil fun σ H Q q => ?_
  obtain ⟨bp, bq, B, ρ, b0, ds, b', g, r, e, w⟩ := q
  obtain ⟨rfl, rfl⟩ := ret_ok (show ret [] b0 = .ok ds b' from e)
  refine w B H [] Ext.refl g ?_
  cases md with
  | val => exact (RepL.nil : RepL Y.K Y.mg bp B [] [])
  | bor => simp only [RepXL, RepTL]
  | own => simp only [RepXL, RepTL]
theorem a_cons {e : E} {es : List E} {x : Expr} {xs : List Expr} (hn : md ≠ .own) (h : PE X x (lE Y k md e)) (hs : PA X xs (lL Y k md es)) (st : strT x = false) : PA X (x :: xs) (lL Y k md (e :: es)) := by
  refine PA.imp (pa_cons h hs (star1 st)) fun σ H Q q => ?_
  obtain ⟨bp, bq, B, ρ, b0, ds, b', g, r, e, w⟩ := q
  simp only [evLY, evL] at e
  obtain ⟨d1, b1, e1, e⟩ := bnd_ok e
  obtain ⟨d2, b2, e2, e⟩ := bnd_ok e
  obtain ⟨rfl, rfl⟩ := ret_ok e
  refine ⟨bp, bq, B, ρ, b0, d1, b1, g, r, e1, fun B1 H1 x x1 g1 r1 => ?_⟩
  refine ⟨bp, bq, B1, ρ, b1, d2, _, g1, r.ext x1 g1, e2, fun B2 H2 vs x2 g2 r2 => ?_⟩
  refine w B2 H2 _ (x1.trans x2 g2) g2 ?_
  cases md with
  | val => exact RepL.cons (Rep.mono x2.bs _ _ r1) r2
  | bor =>
    simp only [RepXL, RepTL]
    exact ⟨x, vs, rfl, RepT.ext r1 x2, r2⟩
  | own => exact absurd rfl hn
theorem c_tup {es : List E} {xs : List Expr} {j : Nat} {pos : Pos} (h : PA X xs (lL Y k .val es)) : PE X (.Tuple xs j pos) (lE Y k md (.tup es)) := by
  refine PE.imp (pe_tup h) fun σ H Q q => ?_
  obtain ⟨bp, bq, B, ρ, b0, d, b', g, r, e, w⟩ := q
  obtain ⟨ds, b1, e1, e⟩ := bnd_ok e
  by_cases hz : ds.length ≤ lim
  · rw [if_pos hz] at e
    obtain ⟨rfl, rfl⟩ := ret_ok e
    refine ⟨bp, bq, B, ρ, b0, ds, _, g, r, e1, fun B1 H1 vs x1 g1 r1 => ?_⟩
    have r1 : RepL Y.K Y.mg bp B1 ds vs := r1
    exact ⟨by rw [← r1.length]; exact Nat.le_trans hz lim_le, fun p hp => ((w.later x1 g1).res g1).tup g1.gd r1 hp⟩
  · rw [if_neg hz] at e
    exact (stk_ok e).elim
theorem c_lst {es : List E} {xs : List Expr} {pos : Pos} (h : PA X xs (lL Y k .val es)) : PE X (.List xs pos) (lE Y k md (.lst es)) := by
  refine PE.imp (pe_lst h) fun σ H Q q => ?_
  obtain ⟨bp, bq, B, ρ, b0, d, b', g, r, e, w⟩ := q
  obtain ⟨ds, b1, e1, e⟩ := bnd_ok e
  by_cases hz : ds.length ≤ lim
  · rw [if_pos hz] at e
    obtain ⟨rfl, rfl⟩ := ret_ok e
    refine ⟨bp, bq, B, ρ, b0, ds, _, g, r, e1, fun B1 H1 vs x1 g1 r1 => ?_⟩
    have r1 : RepL Y.K Y.mg bp B1 ds vs := r1
    exact ⟨by rw [← r1.length]; exact Nat.le_trans hz lim_le, fun p hp => ((w.later x1 g1).res g1).lst g1.gd r1 hp⟩
  · rw [if_neg hz] at e
    exact (stk_ok e).elim
end
end PL

set_option autoImplicit false
set_option linter.all false
set_option maxRecDepth 100000
set_option maxHeartbeats 4000000
/-! PL18: set(xs) of a list of ints, by the ledger that sorted wants. -/
namespace PLS
open PySem PySem.Spec PyProof.Rows L2
section
variable {P : Program} {w : World} {A : Around} {E : Value → Shared → Prop} {s : Shared}
/-- an empty set as it is made -/
abbrev emS (w : World) : Obj := { cls := .type "set", dict := none, data := .set #[] 0 (.fresh 0 0 (!w.params.followText "set-order")) }
set_option maxHeartbeats 8000000 in
theorem set_of_list {l : Addr} {us : Array Value} {zs : List Int} {Q : Value → Shared → Prop} (hh : A.handled = none) (hl : s.heap.IsList l us) (hu : IntsAre us.toList zs) (hz : zs.length + 1 < scanBound)
    (fin : ∀ (h' : Heap) (tk c : Nat), SetR w h' s.heap.objs.size (fun j => decide (j ∈ zs)) c → c ≤ zs.length → (∀ b o, s.heap.get? b = some o → h'.get? b = some o) → Q (.ref s.heap.objs.size) { s with heap := h', toks := tk }) :
    wpAny (model P w) A (call (.type "set") [.ref l]) Q E s := by
  have hlen : us.size = zs.length := by have q := IntsAre.length hu; rwa [Array.length_toList] at q
  have ⟨c, tl, hmro⟩ := F.called_set.mro
  have ⟨f1, f2, f3, f4, f5⟩ := (⟨F.called_set.made, F.called_set.sub, F.called_set.notType, F.called_set.canCreate, F.typeCall_set_1 (.ref l)⟩ : _ ∧ _ ∧ _ ∧ _ ∧ _)
  apply wpAny_call
  apply codeAny_of_tree
  show wpAny _ _ (callAny (.type "set") ⟨[.ref l], []⟩) _ _ _
  refine wpAny_pure (And.intro (Code.quiet_builtin _ (by decide +kernel)) (codeAny_builtin F.entry_type_call ?_))
  rw [Around.under_plain (weight_type_call_type "set" [.ref l] []) rfl]
  (repeat (any_goals first | wp_step | assumption))
  refine codeAny_mono (code_set_led1 (.ref l) (E := E) (Q₁ := fun obj s₁ => obj = .ref s.heap.objs.size ∧ s₁ = { s with heap := s.heap.push (emS w) }) ⟨rfl, rfl⟩) fun r s₁ hr => ?_
  rcases r with e | fl
  · exact hr
  cases fl with
  | ret obj =>
    obtain ⟨rfl, rfl⟩ := hr
    have hS : (s.heap.push (emS w)).get? s.heap.objs.size = some (emS w) := Heap.get?_push_size _ rfl
    have hT : Shared.TypeIs { s with heap := s.heap.push (emS w) } (.ref s.heap.objs.size) "set" := ⟨_, hS, rfl⟩
    have ⟨g1, g2⟩ := (⟨F.called_set.init.lookup, F.called_set.init.bind (.ref s.heap.objs.size)⟩ : _ ∧ _)
    (repeat (any_goals first | wp_step | assumption))
    refine codeAny_mono (codeAny_call_builtin (R := wants (fun r s₂ => r = .none ∧ ∃ h' tk c, s₂ = { s with heap := h', toks := tk } ∧ SetR w h' s.heap.objs.size (fun j => decide (j ∈ zs)) c ∧ c ≤ zs.length ∧ (∀ b o, s.heap.get? b = some o → h'.get? b = some o)) E)
      F.called_set.init.plain F.entry_set_init (check_set_init_1 hT ?_)) fun r₂ s₂ hr₂ => ?_
    · obtain ⟨⟨o1, o2, o3, o4⟩, hol, e1, nl, e2⟩ := hl
      have e1 : o1 = .type "list" := e1
      have e2 : o3 = .seq us nl := e2
      subst e1 e2
      have hol' := Heap.get?_push_of_some (emS w) hol
      have ⟨u1, u2, u3⟩ := (⟨F.sub_list_set, F.sub_list_frozenset, by decide⟩ : _ ∧ _ ∧ (Value.type "list" == Value.type "dict") = false)
      have hl1 : (s.heap.push (emS w)).IsList l us := ⟨_, hol', rfl, nl, rfl⟩
      unfold Builtin.«set.__init__» noKeywords Builtin.Frozenset.updateFrom
      generalize hPI : pyIter = PI
      wp_walk
      subst hPI
      refine wpAny_pyIter_list hl1 (wpAny_bind (wpAny_runValue ?_))
      have hlt : l < s.heap.objs.size := Heap.lt_size hol
      have z1 : (s.heap.push (emS w)).objs.size = s.heap.objs.size + 1 := Heap.size_push ..
      have n1 : l ≠ (s.heap.push (emS w)).objs.size := fun e => Nat.ne_of_lt (Nat.lt_succ_of_lt hlt) (e.trans z1)
      have n2 : s.heap.objs.size ∉ [(s.heap.push (emS w)).objs.size, l] := by
        intro hm
        rcases List.mem_cons.mp hm with e | hm
        · exact Nat.ne_of_lt (Nat.lt_succ_self _) (e.trans z1)
        · exact Nat.lt_irrefl l (Nat.lt_of_lt_of_eq hlt (List.mem_singleton.mp hm))
      have each : ∀ (i : Nat) (v : Value), us[i]? = some v → ∃ k t, zs[i]? = some k ∧ v = .int k t := by
        intro i v hv
        obtain ⟨hi, _⟩ := Array.getElem?_eq_some_iff.mp hv
        have hi : i < zs.length := by omega
        obtain ⟨t, e⟩ := IntsAre.int_at hu i v (by rw [Array.getElem?_toList, hv])
        exact ⟨zs[i], t, List.getElem?_eq_getElem hi, by rw [e, List.getD_eq_getElem?_getD, List.getElem?_eq_getElem hi]; rfl⟩
      have calm : A.in1.in1.in1.handled = none := by simp [hh]
      have laid0 : ∃ c, c ≤ 0 ∧ SetR w ((s.heap.push (emS w)).push { cls := .type "list_iterator", data := .fields #[.ref l, .int 0 0] }) s.heap.objs.size (fun j => decide (j ∈ zs.take 0)) c :=
        ⟨0, Nat.le_refl 0, setR_new_at (Heap.get?_push_of_some _ hS)⟩
      refine set_update_ints (Walks.list calm _ l n1 us).toS s.heap.objs.size n2 zs hlen hz each (us.size - 0) 0 _ (Nat.sub_zero _ ▸ rfl) (Nat.zero_le _) ⟨⟨_, Heap.get?_push_size _ rfl, rfl, rfl⟩, hl1.push _⟩ laid0 fun s' c' hm hc' hS' => ?_
      obtain ⟨h', q1, q2, q3, q4⟩ := s'
      obtain rfl : q1 = s.gens := hm.gens
      obtain rfl : q2 = s.drawn := hm.drawn
      obtain rfl : q4 = s.os := hm.os
      show wpAny _ _ _ _ _ _
      refine wpAny_pure (?_ : wpAny _ _ (ret Value.none) _ _ _)
      refine wpAny_pure ⟨rfl, h', q3, c', rfl, hS', by omega, fun b o e => hm.heap b o (fun hb => ?_) (Heap.get?_push_of_some _ (Heap.get?_push_of_some _ e))⟩
      have hb0 : b < s.heap.objs.size := Heap.lt_size e
      rcases List.mem_cons.mp hb with e | hb
      · exact Nat.ne_of_lt hb0 e
      · exact Nat.ne_of_lt (Nat.lt_succ_of_lt hb0) ((List.mem_singleton.mp hb).trans z1)
    · rcases r₂ with e | fl₂
      · exact hr₂
      cases fl₂ with
      | ret r =>
        obtain ⟨rfl, h', tk, c', rfl, hS', hc', hk'⟩ := hr₂
        (repeat (any_goals first | wp_step | assumption))
        exact fin _ _ _ hS' hc' hk'
      | _ => exact hr₂.elim
  | _ => exact hr.elim
end
/-- set(xs), a list of ints -/
def rSetL (X : Cx) : List V → Hp → VK → Prop := fun vs H Q => ∃ (l : Addr) (ns : List Int), vs = [V.ref l] ∧ SqL X.K H l (ns.map V.int) ∧ ns.length ≤ 60 ∧
  ∀ (p : Addr) (c : Nat), H p = none → c ≤ ns.length → Q (.ref p) (upd H p (SetO X.w p (fun j => decide (j ∈ ns)) c))
theorem cr_setL {X : Cx} (hc : X.calm = true) : CallR X (.type "set") (rSetL X) := by
  intro pins s σ H vs us Q I r h
  obtain ⟨l, ns, rfl, hq, hz, q⟩ := h
  rw [Vals.ref1 r]
  obtain ⟨its, rv, pl, _⟩ := I.list hq
  refine set_of_list (I.ok.hd hc) pl.isList (by simpa using rv.ints) (Nat.lt_of_le_of_lt (Nat.succ_le_succ hz) (by decide)) fun h' tk c hS hcn kp => ?_
  exact ⟨.ref _, _, (I.laid (t' := s.toks) kp (Nat.le_refl _) (setO_new hS)).tok tk, rfl, q _ c (I.hok.fresh (Nat.le_refl _)) hcn⟩
end PLS

set_option autoImplicit false
set_option linter.all false
set_option maxRecDepth 100000
set_option maxHeartbeats 4000000
/-! PL8: calls, targets, what is walked, comprehensions. -/
namespace PL
open PySem PySem.Spec PyProof.Rows L2
section
variable {β : Type} {Y : Sys β} {k : Nat} {N : List PySem.Str} {sc : Scope} {X : Cx} {md : Md}
/-- parts that are right, one by one -/
inductive AllOk (Y : Sys β) (k : Nat) (X : Cx) (md : Md) : List E → List Expr → Prop where
  | nil : AllOk Y k X md [] []
  | cons {e : E} {x : Expr} {es : List E} {xs : List Expr} : PE X x (lE Y k md e) → (md = .bor → PT X x (lT Y (tstY Y k e))) → strT x = false → AllOk Y k X md es xs → AllOk Y k X md (e :: es) (x :: xs)
theorem AllOk.pa (hn : md ≠ .own) : ∀ {es : List E} {xs : List Expr}, AllOk Y k X md es xs → PA X xs (lL Y k md es)
  | _, _, .nil => a_nil
  | _, _, .cons h _ st hs => a_cons hn h (hs.pa hn) st
theorem AllOk.star : ∀ {es : List E} {xs : List Expr}, AllOk Y k X md es xs → xs.all (fun x => !strT x) = true
  | _, _, .nil => rfl
  | _, _, .cons _ _ st hs => by rw [List.all_cons, hs.star, st]; rfl
theorem AllOk.length : ∀ {es : List E} {xs : List Expr}, AllOk Y k X md es xs → es.length = xs.length
  | _, _, .nil => rfl
  | _, _, .cons _ _ _ hs => by rw [List.length_cons, List.length_cons, hs.length]
theorem AllOk.and (C : CxOk Y k N sc X) (hn : md ≠ .own) {pos : Pos} : ∀ {es : List E} {xs : List Expr}, es.isEmpty = false → AllOk Y k X md es xs → PE X (.BoolOp .And xs pos) (lE Y k md (.and es))
  | _, _, h, .nil => by cases h
  | _, _, _, .cons h _ _ .nil => c_and1 h
  | _, _, _, .cons h _ _ (.cons h2 t2 s2 hs) => c_and C hn h (AllOk.and C hn rfl (.cons h2 t2 s2 hs))
theorem AllOk.or (C : CxOk Y k N sc X) (hn : md ≠ .own) {pos : Pos} : ∀ {es : List E} {xs : List Expr}, es.isEmpty = false → AllOk Y k X md es xs → PE X (.BoolOp .Or xs pos) (lE Y k md (.or es))
  | _, _, h, .nil => by cases h
  | _, _, _, .cons h _ _ .nil => c_or1 h
  | _, _, _, .cons h _ _ (.cons h2 t2 s2 hs) => c_or C hn h (AllOk.or C hn rfl (.cons h2 t2 s2 hs))
theorem AllOk.andT {pos : Pos} : ∀ {es : List E} {xs : List Expr}, es.isEmpty = false → AllOk Y k X .bor es xs → PW X (.BoolOp .And xs pos) (lT Y (tstY Y k (.and es)))
  | _, _, h, .nil => by cases h
  | _, _, _, .cons _ t _ .nil => t_and1 (t rfl)
  | _, _, _, .cons _ t _ (.cons h2 t2 s2 hs) => t_and (t rfl) (AllOk.andT rfl (.cons h2 t2 s2 hs))
theorem AllOk.orT {pos : Pos} : ∀ {es : List E} {xs : List Expr}, es.isEmpty = false → AllOk Y k X .bor es xs → PW X (.BoolOp .Or xs pos) (lT Y (tstY Y k (.or es)))
  | _, _, h, .nil => by cases h
  | _, _, _, .cons _ t _ .nil => t_or1 (t rfl)
  | _, _, _, .cons _ t _ (.cons h2 t2 s2 hs) => t_or (t rfl) (AllOk.orT rfl (.cons h2 t2 s2 hs))
theorem t_ite {c a b : E} {t y z : Expr} {pos : Pos} (hc : PT X t (lT Y (tstY Y k c))) (ha : PT X y (lT Y (tstY Y k a))) (hb : PT X z (lT Y (tstY Y k b))) : PT X (.IfExp t y z pos) (lT Y (tstY Y k (.ite c a b))) := by
  refine ⟨fun pins s σ H Q I q => ?_⟩
  show wpAny (model X.prog X.w) X.A (do if ← isTrue t X.env (eval t X.env) then isTrue y X.env (eval y X.env) else isTrue z X.env (eval z X.env)) _ _ s
  obtain ⟨bp, bq, B, ρ, b0, d, b', g, r, e, w⟩ := q
  simp only [tstY, tst, ev, bnd_assoc] at e
  obtain ⟨d1, b1, e1, e3⟩ := bnd_ok e
  obtain ⟨t1, b2, e2, e4⟩ := bnd_ok e3
  obtain ⟨f2, rfl⟩ := lft_ok e2
  refine wpAny_bind (thn (hc.run pins s σ H (fun t H1 => t = t1 ∧ ∃ B1, Ext bp bq B B1 H H1 ∧ Good Y bp bq B1 H1 _) I ⟨bp, bq, B, ρ, b0, t1, _, g, r, tst_of e1 f2, fun B1 H1 x1 g1 => ⟨rfl, B1, x1, g1⟩⟩) fun t' s1 ⟨H1, I1, et, B1, x1, g1⟩ => ?_)
  subst et
  cases t' with
  | true =>
    rw [if_pos rfl] at e4 ⊢
    exact ha.run pins s1 σ H1 Q I1 ⟨bp, bq, B1, ρ, _, d, b', g1, r.ext x1 g1, e4, fun B2 H2 x2 g2 => w B2 H2 (x1.trans x2 g2) g2⟩
  | false =>
    rw [if_neg (by decide)] at e4
    rw [if_neg (by decide)]
    exact hb.run pins s1 σ H1 Q I1 ⟨bp, bq, B1, ρ, _, d, b', g1, r.ext x1 g1, e4, fun B2 H2 x2 g2 => w B2 H2 (x1.trans x2 g2) g2⟩
/-! ### calls -/
theorem boot_bi : ∀ f : Bi, bootBuiltins (sx (biName f)) = some (biVal f) := by intro f; cases f <;> decide +kernel
theorem bi_ne : ∀ f : Bi, sx (biName f) ≠ ("__name__" : PySem.Str) ∧ (sx (biName f) == ("__debug__" : PySem.Str)) = false := by intro f; cases f <;> decide +kernel
theorem boot_ty : ∀ t : Ty, bootBuiltins (sx (tyName t)) = some (.type (tyName t)) := by intro t; cases t <;> decide +kernel
theorem ty_ne : ∀ t : Ty, sx (tyName t) ≠ ("__name__" : PySem.Str) ∧ (sx (tyName t) == ("__debug__" : PySem.Str)) = false := by intro t; cases t <;> decide +kernel
theorem blt_of {f : PySem.Str} {n : String} (O : Y.Ok) (C : CxOk Y k N sc X) (h : bltB Y.fr sc f n = true) : f = sx n ∧ Gl X f ∧ X.mg f = none := by
  simp only [bltB, Bool.and_eq_true, decide_eq_true_eq] at h
  obtain ⟨⟨h1, h2⟩, h3⟩ := h
  refine ⟨h1, gl_of C h2, ?_⟩
  rw [C.mg, h1]
  exact O.fr n h3
theorem c_bi {f : Bi} {es : List E} {n : PySem.Str} {p pos : Pos} {xs : List Expr} (O : Y.Ok) (C : CxOk Y k N sc X) (hb : bltB Y.fr sc n (biName f) = true) (nf : isRg f = false) (ne : es.isEmpty = false) (h : AllOk Y k X .bor es xs) :
    PE X (.Call (.Name n p) xs [] pos) (lE Y k md (.bi f es)) := by
  obtain ⟨rfl, hg, hm⟩ := blt_of O C hb
  have hpa := h.pa (by decide)
  have hst := h.star
  cases h with
  | nil => cases ne
  | @cons e x es xs h1 t1 s1 hs =>
    have rd : ∀ σ H Q, lE Y k md (.bi f (e :: es)) σ H Q → tCB (rBi X.K Y.mg md f) (lL Y k .bor (e :: es)) σ H Q := fun σ H Q q => by
      obtain ⟨bp, bq, B, ρ, b0, d, b', g, r, e', w⟩ := q
      obtain ⟨ds, b1, e1, e2⟩ := bnd_ok e'
      obtain ⟨f2, rfl⟩ := lft_ok e2
      refine ⟨bp, bq, B, ρ, b0, ds, _, g, r, e1, fun B1 H1 vs x1 g1 r1 => ?_⟩
      rw [C.K]
      exact ⟨bp, bq, B1, ds, d, g1.gd, r1, f2, (w.later x1 g1).res g1⟩
    have hpl := star_any (env := X.env) (pos := pos) hs.star
    have hc := call_bi (X := X) (mg := Y.mg) (m := md) C.calm f nf
    have hv := boot_bi f
    unfold biVal at hc hv
    cases hty : biTy f with
    | true =>
      rw [hty, if_pos rfl] at hc hv
      exact PE.imp (pe_callTy hc hg hm hv hpa (bi_ne f).1 (bi_ne f).2 (star1 s1) hpl) rd
    | false =>
      rw [hty, if_neg (by decide)] at hc hv
      exact PE.imp (pe_callB hc hg hm hv hpa (bi_ne f).1 (bi_ne f).2 (star1 s1) hpl) rd
theorem c_rg {f : Bi} {a : E} {n m : PySem.Str} {p pos p2 pos2 : Pos} {x : Expr} (O : Y.Ok) (C : CxOk Y k N sc X) (hb : bltB Y.fr sc n (biName f) = true) (hr : bltB Y.fr sc m "range" = true) (nf : isRg f = true) (ne : f ≠ .ssort) (h : PE X x (lE Y k .bor a)) (st : strT x = false) :
    PE X (.Call (.Name n p) [.Call (.Name m p2) [x] [] pos2] [] pos) (lE Y k md (.bi f [a])) := by
  obtain ⟨rfl, hg, hm⟩ := blt_of O C hb
  obtain ⟨rfl, hg2, hm2⟩ := blt_of O C hr
  have pr := prg_1 (p := p2) (pos := pos2) hg2 hm2 h (star1 st)
  have rd : ∀ (σ : L2.St) (H : Hp) (Q : VK), lE Y k md (.bi f [a]) σ H Q → tRg1 (lE Y k .bor a) σ H fun i j H1 => ∃ (n : Int) (B1 : Hp) (bp bq : Addr) (b1 : β) (d : D), i = 0 ∧ j = n ∧ bfn f [.int n] = some d ∧ n ≤ lim ∧ -lim ≤ n ∧ Good Y bp bq B1 H1 b1 ∧ Wish Y bp bq md B1 H1 d b1 Q := fun σ H Q q => by
    obtain ⟨bp, bq, B, ρ, b0, d, b', g, r, e', w⟩ := q
    obtain ⟨ds, b1, e1, e2⟩ := bnd_ok e'
    obtain ⟨f2, rfl⟩ := lft_ok e2
    simp only [evLY, evL] at e1
    obtain ⟨d1, b2, e3, e4⟩ := bnd_ok e1
    simp only [bnd_ret] at e4
    obtain ⟨rfl, rfl⟩ := ret_ok e4
    refine ⟨bp, bq, B, ρ, b0, d1, _, g, r, e3, fun B1 H1 v x1 g1 r1 => ?_⟩
    cases d1 with
    | int n =>
      refine ⟨n, RepT.int r1, n, B1, bp, bq, _, d, rfl, rfl, f2, ?_, ?_, g1, w.later x1 g1⟩
      · cases f <;> simp only [bfn, Option.ite_none_right_eq_some] at f2 <;> first | exact f2.1.1 | exact absurd rfl ne | cases nf
      · cases f <;> simp only [bfn, Option.ite_none_right_eq_some] at f2 <;> first | exact f2.1.2 | exact absurd rfl ne | cases nf
    | _ => cases f <;> first | exact absurd rfl ne | (simp [bfn] at f2; done) | (cases nf; done) | (simp [bfn] at f2 <;> cases nf)
  have same : ∀ n : Int, (rgV 0 n) = (intsFrom 0 n.toNat).map fun d => match d with
      | .int i => V.int i
      | _ => .non := fun n => by
    unfold rgV intsFrom
    rw [List.map_map, Int.sub_zero]
    rfl
  have reps : ∀ (n : Int) (bp : Addr) (B : Hp), RepL Y.K Y.mg bp B (intsFrom 0 n.toNat) (rgV 0 n) := fun n bp B => by
    refine RepL.of_list (by rw [intsFrom_len, rgV_length, Int.sub_zero]) fun i d v h1 h2 => ?_
    have hi : i < n.toNat := by
      have := (List.getElem?_eq_some_iff.mp h1).1
      rwa [intsFrom_len] at this
    rw [intsFrom_get 0 _ i hi] at h1; cases h1
    rw [same, List.getElem?_map, intsFrom_get 0 _ i hi] at h2; cases h2
    simp only [Rep]
  have hl : (lim : Int) = 4000 := rfl
  have okr : ∀ n : Int, n ≤ lim → -lim ≤ n → RgOk 0 n := fun n h1 h2 => by
    rw [hl] at h1 h2
    exact ⟨by omega, by omega, by omega, by omega, by omega⟩
  cases f with
  | lrange =>
    refine PE.imp (pe_listRg C.calm hg hm pr (by rfl)) fun σ H Q q => ?_
    obtain ⟨bp', bq', B', ρ', b0', d', b1', g', r', e', w'⟩ := rd σ H Q q
    refine ⟨bp', bq', B', ρ', b0', d', b1', g', r', e', fun B1 H1 v x1 g1 r1 => ?_⟩
    obtain ⟨n, hv, n', B2, bp, bq, b1, d, h0, h1, h2, h3, h4, g2, w⟩ := w' B1 H1 v x1 g1 r1
    cases h1
    refine ⟨n, hv, okr n h3 h4, fun q hq => ?_⟩
    simp only [bfn] at h2
    rw [if_pos ⟨h3, h4⟩] at h2
    cases h2
    exact (w.res g2).lst g2.gd (reps n bp B2) hq
  | trange =>
    refine PE.imp (pe_tupRg C.calm hg hm pr (by rfl)) fun σ H Q q => ?_
    obtain ⟨bp', bq', B', ρ', b0', d', b1', g', r', e', w'⟩ := rd σ H Q q
    refine ⟨bp', bq', B', ρ', b0', d', b1', g', r', e', fun B1 H1 v x1 g1 r1 => ?_⟩
    obtain ⟨n, hv, n', B2, bp, bq, b1, d, h0, h1, h2, h3, h4, g2, w⟩ := w' B1 H1 v x1 g1 r1
    cases h1
    refine ⟨n, hv, okr n h3 h4, fun q hq => ?_⟩
    simp only [bfn] at h2
    rw [if_pos ⟨h3, h4⟩] at h2
    cases h2
    exact (w.res g2).tup g2.gd (reps n bp B2) hq
  | ssort => exact absurd rfl ne
  | _ => cases nf
theorem insU_mem {a c : Int} : ∀ {l : List Int}, c ∈ insU a l ↔ c = a ∨ c ∈ l
  | [] => by simp [insU]
  | b :: r => by
    unfold insU
    split
    · simp
    · split
      · rename_i h; subst h; simp
      · simp only [List.mem_cons, insU_mem (l := r)]
        constructor
        · rintro (h | h | h)
          · exact .inr (.inl h)
          · exact .inl h
          · exact .inr (.inr h)
        · rintro (h | h | h)
          · exact .inr (.inl h)
          · exact .inl h
          · exact .inr (.inr h)
theorem insU_rise {a : Int} : ∀ {l : List Int}, l.Pairwise (· < ·) → (insU a l).Pairwise (· < ·)
  | [], _ => by simp [insU]
  | b :: r, h => by
    have h1 := List.pairwise_cons.mp h
    unfold insU
    split
    · rename_i q
      exact List.pairwise_cons.mpr ⟨fun c hc => by
        rcases List.mem_cons.mp hc with e | hc
        · omega
        · have := h1.1 c hc; omega, h⟩
    · split
      · exact h
      · exact List.pairwise_cons.mpr ⟨fun c hc => by
          rcases insU_mem.mp hc with e | hc
          · omega
          · exact h1.1 c hc, insU_rise h1.2⟩
theorem setL_mem {c : Int} : ∀ {l : List Int}, c ∈ setL l ↔ c ∈ l
  | [] => by simp [setL]
  | b :: r => by
    show c ∈ insU b (setL r) ↔ _
    rw [insU_mem, setL_mem (l := r), List.mem_cons]
theorem setL_rise : ∀ {l : List Int}, (setL l).Pairwise (· < ·)
  | [] => by simp [setL]
  | b :: r => insU_rise (setL_rise (l := r))
theorem setL_eq {l ns : List Int} (h1 : ns.Pairwise (· < ·)) (h2 : ∀ k, k ∈ ns ↔ k ∈ l) : ns = setL l := by
  have n1 : ns.Nodup := h1.imp fun h => Int.ne_of_lt h
  have n2 : (setL l).Nodup := setL_rise.imp fun h => Int.ne_of_lt h
  exact List.Perm.eq_of_pairwise (le := fun a b : Int => a < b) (fun a b _ _ h h' => by omega) h1 setL_rise ((List.perm_ext_iff_of_nodup n1 n2).mpr fun k => (h2 k).trans setL_mem.symm)
theorem c_ss {a : E} {n m : PySem.Str} {p pos p2 pos2 : Pos} {x : Expr} (O : Y.Ok) (C : CxOk Y k N sc X) (hb : bltB Y.fr sc n "sorted" = true) (hr : bltB Y.fr sc m "set" = true) (h : PE X x (lE Y k .bor a)) (st : strT x = false) :
    PE X (.Call (.Name n p) [.Call (.Name m p2) [x] [] pos2] [] pos) (lE Y k md (.bi .ssort [a])) := by
  obtain ⟨rfl, hg, hm⟩ := blt_of O C hb
  obtain ⟨rfl, hg2, hm2⟩ := blt_of O C hr
  have hin := pe_callTy (p := p2) (pos := pos2) (PLS.cr_setL (X := X) C.calm) hg2 hm2 (by decide +kernel) (pa_cons h pa_nil (star1 st)) (by decide +kernel) (by decide +kernel) (star1 st) (by rfl)
  refine PE.imp (pe_callB (cr_sortedSet C.calm) hg hm (by decide +kernel) (pa_cons hin pa_nil (by rfl)) (by decide +kernel) (by decide +kernel) (by rfl) (by rfl)) fun σ H Q q => ?_
  obtain ⟨bp, bq, B, ρ, b0, d, b', g, r, e', w⟩ := q
  obtain ⟨ds, b1, e1, e2⟩ := bnd_ok e'
  obtain ⟨f2, rfl⟩ := lft_ok e2
  simp only [evLY, evL] at e1
  obtain ⟨d1, b2, e3, e4⟩ := bnd_ok e1
  simp only [bnd_ret] at e4
  obtain ⟨rfl, rfl⟩ := ret_ok e4
  refine ⟨bp, bq, B, ρ, b0, d1, _, g, r, e3, fun B1 H1 v x1 g1 r1 => ?_⟩
  cases d1 with
  | lst xs =>
    simp only [bfn, Option.ite_none_right_eq_some, Option.map_eq_some_iff] at f2
    obtain ⟨hz, ns, hn, rfl⟩ := f2
    obtain ⟨l, ws, rfl, h1, r2⟩ := RepT.lst g1.gd.sub r1
    have z := RepL.ints hn r2
    subst z
    have hlen : ns.length = xs.length := by have := r2.length; rw [List.length_map] at this; exact this.symm
    refine ⟨l, ns, rfl, SqL.of h1, by omega, fun p c hp hc => ?_⟩
    refine ⟨p, _, c, rfl, upd_same, by omega, fun ns' p' hs hm' hl hp' => ?_⟩
    have e0 := Ex0.own (o := SetO X.w p (fun j => decide (j ∈ ns)) c) g1.gd.sub hp
    have g2 := e0.good g1
    have hss : ns' = setL ns := setL_eq hs fun k => by rw [hm' k, decide_eq_true_eq]
    subst hss
    exact ((w.later (x1.trans e0.ext g2) g2).res g2).lst g2.gd (RepL.of_ints _) hp'
  | _ => simp [bfn] at f2
theorem c_isi {t : Ty} {a : E} {f n : PySem.Str} {p p2 pos : Pos} {x : Expr} (O : Y.Ok) (C : CxOk Y k N sc X) (hb : bltB Y.fr sc f "isinstance" = true) (hn : bltB Y.fr sc n (tyName t) = true) (h : PE X x (lE Y k .bor a)) (st : strT x = false) :
    PE X (.Call (.Name f p) [x, .Name n p2] [] pos) (lE Y k md (.isi a t)) := by
  obtain ⟨rfl, hg, hm⟩ := blt_of O C hb
  obtain ⟨rfl, hg2, hm2⟩ := blt_of O C hn
  refine PE.imp (pe_callB (call_isD (mg := Y.mg) t) hg hm (by decide +kernel) (pa_cons h (pa_cons (pe_bltn (v := .ty (tyName t)) hg2 hm2 (boot_ty t) rfl (ty_ne t).1 (ty_ne t).2) pa_nil (by rfl)) (star1 st)) (by decide +kernel) (by decide +kernel) (star1 st) (by rfl)) fun σ H Q q => ?_
  obtain ⟨bp, bq, B, ρ, b0, d, b', g, r, e, w⟩ := q
  obtain ⟨d1, b1, e1, e2⟩ := bnd_ok e
  obtain ⟨t', b2, e3, e4⟩ := bnd_ok e2
  obtain ⟨f3, rfl⟩ := lft_ok e3
  obtain ⟨rfl, rfl⟩ := ret_ok e4
  refine ⟨bp, bq, B, ρ, b0, d1, _, g, r, e1, fun B1 H1 x x1 g1 r1 => ?_⟩
  rw [C.K]
  exact ⟨bp, bq, B1, d1, x, _, rfl, g1.gd, r1, f3, (w.later x1 g1).bl g1⟩
theorem evL_len : ∀ {es : List E} {ρ : Env} {b0 b1 : β} {ds : List D}, evLY Y k es ρ b0 = .ok ds b1 → ds.length = es.length
  | [], ρ, b0, b1, ds, e1 => by obtain ⟨rfl, _⟩ := ret_ok (show ret [] b0 = .ok ds b1 from e1); rfl
  | a :: es, ρ, b0, b1, ds, e1 => by
    simp only [evLY, evL] at e1
    obtain ⟨d1, b2, _, e4⟩ := bnd_ok e1
    obtain ⟨d2, b3, e5, e6⟩ := bnd_ok e4
    obtain ⟨rfl, rfl⟩ := ret_ok e6
    rw [List.length_cons, List.length_cons]
    exact congrArg (· + 1) (evL_len e5)
theorem c_call {f : String} {es : List E} {n : PySem.Str} {p pos : Pos} {xs : List Expr} (C : CxOk Y k N sc X) (F : Callee Y k f es.length) (hn : md ≠ .own) (e1 : n = sx f) (h2 : glbB sc n = true) (h3 : nmOk n = true) (h : AllOk Y k X .val es xs) :
    PE X (.Call (.Name n p) xs [] pos) (lE Y k md (.call f es)) := by
  obtain ⟨a, fd, ps, f1, f2, f3, f4, f5⟩ := F
  subst e1
  have f1' : X.mg (sx f) = some (.ref a) := by rw [C.mg]; exact f1
  have f2' : PySem.W.keepIn X.K (.ref a) = true := by rw [C.K]; exact f2
  have f3' : Binds X.K fd ps [] := by rw [C.K]; exact f3
  have f5' : FnOk X.prog X.w X.K X.mg X.base CX0 k a fd ps (spC Y k f es.length) := by rw [C.prog, C.w, C.K, C.mg, C.base]; exact f5
  have rd : ∀ σ H Q, lE Y k md (.call f es) σ H Q → tCall (spC Y k f es.length) [] E0 (lL Y k .val es) σ H Q := fun σ H Q q => by
    obtain ⟨bp, bq, B, ρ, b0, d, b', g, r, e', w⟩ := q
    obtain ⟨ds, b1, e1, e2⟩ := bnd_ok e'
    refine ⟨bp, bq, B, ρ, b0, ds, b1, g, r, e1, fun B1 H1 vs x1 g1 r1 => ?_⟩
    have r1 : RepL Y.K Y.mg bp B1 ds vs := r1
    show spC Y k f es.length (vs ++ []) H1 Q E0
    rw [List.append_nil]
    have hlen : ds.length = es.length := evL_len e1
    refine ⟨by rw [← r1.length]; exact hlen, bp, bq, B1, ds, b1, d, b', g1, r1, e2, fun B2 H2 v x2 g2 r2 => ?_⟩
    refine w B2 H2 v (x1.trans x2 g2) g2 ?_
    cases md with
    | val => exact r2
    | bor => exact .inl r2
    | own => exact absurd rfl hn
  have hpa := h.pa (by decide)
  cases h with
  | nil =>
    refine PE.imp (pe_call0 f5' C.room (gl_of C h2) f1' f2' f3' .nil pass0 (nm_dbg h3).1) fun σ H Q q => ?_
    have q2 := rd σ H Q q
    obtain ⟨bp, bq, B, ρ, b0, ds, b1, g, r, e', w⟩ := q2
    obtain ⟨rfl, rfl⟩ := ret_ok (show ret [] b0 = .ok ds b1 from e')
    exact w B H [] Ext.refl g (by show RepL _ _ _ _ _ _; exact RepL.nil)
  | cons h1 t1 s1 hs => exact PE.imp (pe_call f5' C.room (gl_of C h2) f1' f2' f3' .nil pass0 hpa (nm_dbg h3).1 (star1 s1) (star_any hs.star)) rd
end
end PL

set_option autoImplicit false
set_option linter.all false
set_option maxRecDepth 100000
set_option maxHeartbeats 4000000
/-! PL9: targets, what is walked, comprehensions; the expressions' soundness. -/
namespace PL
open PySem PySem.Spec PyProof.Rows L2
section
variable {β : Type} {Y : Sys β} {k : Nat} {N : List PySem.Str} {sc : Scope} {X : Cx} {md : Md} {fb : PySem.Str → Bool}
/-! ### targets -/
theorem RepE.set {bp bq : Addr} {B H : Hp} {ρ : Env} {σ : L2.St} {d : D} {v : V} (r : RepE Y bp bq B H ρ σ) (h : Rep Y.K Y.mg bp B d v) (i : Nat) : RepE Y bp bq B H (ρ.set i (.im d)) (σ.set i (some v)) where
  len := by rw [List.length_set, List.length_set]; exact r.len
  im := fun j d' e => by
    by_cases hj : i = j
    · subst hj
      have hl : i < ρ.length := by
        have := (List.getElem?_eq_some_iff.mp e).1
        rwa [List.length_set] at this
      rw [List.getElem?_set_self hl] at e; cases e
      exact ⟨v, List.getElem?_set_self (by rw [r.len]; exact hl), h⟩
    · rw [List.getElem?_set_ne hj] at e ⊢
      exact r.im j d' e
  ow := fun j xs e => by
    by_cases hj : i = j
    · subst hj
      have hl : i < ρ.length := by
        have := (List.getElem?_eq_some_iff.mp e).1
        rwa [List.length_set] at this
      rw [List.getElem?_set_self hl] at e; cases e
    · rw [List.getElem?_set_ne hj] at e ⊢
      exact r.ow j xs e
  dj := fun j l xs ys p hne e1 e2 e3 => by
    by_cases hj : i = j
    · subst hj
      have hl : i < ρ.length := by
        have := (List.getElem?_eq_some_iff.mp e1).1
        rwa [List.length_set] at this
      rw [List.getElem?_set_self hl] at e1; cases e1
    · by_cases hl : i = l
      · subst hl
        have hl : i < ρ.length := by
          have := (List.getElem?_eq_some_iff.mp e2).1
          rwa [List.length_set] at this
        rw [List.getElem?_set_self hl] at e2; cases e2
      · rw [List.getElem?_set_ne hj] at e1 e3
        rw [List.getElem?_set_ne hl] at e2 ⊢
        exact r.dj j l xs ys p hne e1 e2 e3
theorem RepE.wipe1 {bp bq : Addr} {B H : Hp} {ρ : Env} {σ : L2.St} (r : RepE Y bp bq B H ρ σ) (i : Nat) : RepE Y bp bq B H (ρ.set i .un) (σ.set i none) where
  len := by rw [List.length_set, List.length_set]; exact r.len
  im := fun j d' e => by
    by_cases hj : i = j
    · subst hj
      have hl : i < ρ.length := by
        have := (List.getElem?_eq_some_iff.mp e).1
        rwa [List.length_set] at this
      rw [List.getElem?_set_self hl] at e; cases e
    · rw [List.getElem?_set_ne hj] at e ⊢
      exact r.im j d' e
  ow := fun j xs e => by
    by_cases hj : i = j
    · subst hj
      have hl : i < ρ.length := by
        have := (List.getElem?_eq_some_iff.mp e).1
        rwa [List.length_set] at this
      rw [List.getElem?_set_self hl] at e; cases e
    · rw [List.getElem?_set_ne hj] at e ⊢
      exact r.ow j xs e
  dj := fun j l xs ys p hne e1 e2 e3 => by
    by_cases hj : i = j
    · subst hj
      have hl : i < ρ.length := by
        have := (List.getElem?_eq_some_iff.mp e1).1
        rwa [List.length_set] at this
      rw [List.getElem?_set_self hl] at e1; cases e1
    · by_cases hl : i = l
      · subst hl
        have hl : i < ρ.length := by
          have := (List.getElem?_eq_some_iff.mp e2).1
          rwa [List.length_set] at this
        rw [List.getElem?_set_self hl] at e2; cases e2
      · rw [List.getElem?_set_ne hj] at e1 e3
        rw [List.getElem?_set_ne hl] at e2 ⊢
        exact r.dj j l xs ys p hne e1 e2 e3
theorem RepE.wipe {bp bq : Addr} {B H : Hp} {ρ : Env} {σ : L2.St} (r : RepE Y bp bq B H ρ σ) : ∀ vs : List Nat, RepE Y bp bq B H (wipeE ρ vs) (L2.wipe σ vs)
  | [] => r
  | i :: vs => (r.wipe vs).wipe1 i
def lG (Y : Sys β) (t : Tg) : TG := fun v σ H Q => ∃ bp bq B b ρ d ρ', Good Y bp bq B H b ∧ RepE Y bp bq B H ρ σ ∧ Rep Y.K Y.mg bp B d v ∧ bindT t d ρ = some ρ' ∧
  ∀ σ', RepE Y bp bq B H ρ' σ' → σ'.length = σ.length → (∀ i, i ∉ slotsT t → σ'[i]? = σ[i]?) → Q σ' H
def lGs (Y : Sys β) (ts : List Tg) : TGs := fun vs σ H Q => ∃ bp bq B b ρ ds ρ', Good Y bp bq B H b ∧ RepE Y bp bq B H ρ σ ∧ RepL Y.K Y.mg bp B ds vs ∧ bindTs ts ds ρ = some ρ' ∧
  ∀ σ', RepE Y bp bq B H ρ' σ' → σ'.length = σ.length → (∀ i, i ∉ slotsTs ts → σ'[i]? = σ[i]?) → Q σ' H
theorem chkTs_len : ∀ {ts : List Tg} {xs : List Expr}, chkTs N fb ts sc xs = true → ts.length = xs.length
  | [], [], _ => rfl
  | [], _ :: _, h => by simp [chkTs] at h
  | _ :: _, [], h => by simp [chkTs] at h
  | t :: ts, x :: xs, h => by
    simp only [chkTs, Bool.and_eq_true] at h
    rw [List.length_cons, List.length_cons, chkTs_len h.2]
theorem chkT_star {t : Tg} {x : Expr} (h : chkT N fb t sc x = true) : strT x = false := by
  cases x with
  | Starred y p => cases t <;> simp [chkT] at h
  | _ => rfl
theorem asg1 {x : Expr} {xs : List Expr} {env : PySem.Env} (h : strT x = false) : assignEach (x :: xs) env = (false, assign x env) :: assignEach xs env := by
  cases x <;> first | rfl | cases h
theorem asg_len : ∀ {ts : List Tg} {xs : List Expr} {env : PySem.Env}, chkTs N fb ts sc xs = true → (assignEach xs env).length = xs.length ∧ (assignEach xs env).findIdx? (·.1) = none
  | [], [], _, _ => ⟨rfl, rfl⟩
  | [], _ :: _, _, h => by simp [chkTs] at h
  | _ :: _, [], _, h => by simp [chkTs] at h
  | t :: ts, x :: xs, env, h => by
    simp only [chkTs, Bool.and_eq_true] at h
    have ih := asg_len (env := env) h.2
    rw [asg1 (chkT_star h.1)]
    refine ⟨by rw [List.length_cons, List.length_cons, ih.1], ?_⟩
    rw [List.findIdx?_cons]
    simp only [Bool.false_eq_true, if_false]
    rw [ih.2]
    rfl
theorem bindTs_len : ∀ {ts : List Tg} {ds : List D} {ρ ρ' : Env}, bindTs ts ds ρ = some ρ' → ts.length = ds.length
  | [], [], _, _, _ => rfl
  | [], _ :: _, _, _, h => by simp [bindTs] at h
  | _ :: _, [], _, _, h => by simp [bindTs] at h
  | t :: ts, d :: ds, ρ, ρ', h => by
    simp only [bindTs, Option.bind_eq_some_iff] at h
    obtain ⟨ρ1, _, h2⟩ := h
    rw [List.length_cons, List.length_cons, bindTs_len h2]
mutual
theorem g_tg (C : CxOk Y k N sc X) (hf : ∀ x, fb x = true → X.fn x = true ∨ sc.names.lookup x = some .local) : ∀ (t : Tg) (x : Expr), chkT N fb t sc x = true → PG X x (lG Y t)
  | .nm i, x, h => by
    cases x with
    | Name x p =>
      simp only [chkT, Bool.and_eq_true, decide_eq_true_eq] at h
      have hx := loc_of h.2.1
      refine PG.imp (pg_name (i := i) (by rw [C.xN]; exact C.nd) (by rw [C.xN]; exact h.1) (by rw [C.xsc]; exact hx) (by rw [C.xsc]; exact hf x h.2.2)) fun v σ H Q q => ?_
      obtain ⟨bp, bq, B, b, ρ, d, ρ', g, r, rv, e, w⟩ := q
      simp only [bindT, Option.some.injEq] at e; subst e
      refine w _ (r.set rv i) (by rw [List.length_set]) fun j hj => ?_
      rw [List.getElem?_set_ne]
      intro e
      exact hj (by simp [slotsT, e])
    | _ => simp [chkT] at h
  | .tu ts, x, h => by
    cases x with
    | Tuple xs j p =>
      simp only [chkT] at h
      have hl := asg_len (env := X.env) h
      refine PG.imp (pg_tup (n := xs.length) C.calm (g_tgs C hf ts xs h) hl.1 hl.2) fun v σ H Q q => ?_
      obtain ⟨bp, bq, B, b, ρ, d, ρ', g, r, rv, e, w⟩ := q
      cases d with
      | tup ds =>
        simp only [bindT] at e
        simp only [Rep] at rv
        obtain ⟨a, vs, rfl, h1, h2⟩ := rv
        refine ⟨a, vs, rfl, by rw [C.K]; exact sqT_mono g.sub h1, by rw [← h2.length, ← bindTs_len e, chkTs_len h], bp, bq, B, b, ρ, ds, ρ', g, r, h2, e, fun σ' r' l' s' => w σ' r' l' fun i hi => s' i ?_⟩
        simpa only [slotsT] using hi
      | _ => simp [bindT] at e
    | _ => simp [chkT] at h
theorem g_tgs (C : CxOk Y k N sc X) (hf : ∀ x, fb x = true → X.fn x = true ∨ sc.names.lookup x = some .local) : ∀ (ts : List Tg) (xs : List Expr), chkTs N fb ts sc xs = true → PGs X xs (lGs Y ts)
  | [], [], _ => by
    have h := pgs_nil (X := X)
    refine ⟨fun pins s σ H vs us Q I r q => h.run pins s σ H vs us Q I r ?_⟩
    obtain ⟨bp, bq, B, b, ρ, ds, ρ', g, r, rv, e, w⟩ := q
    cases ds with
    | nil =>
      simp only [bindTs, Option.some.injEq] at e; subst e
      exact ⟨rv.nil_inv, w σ r rfl fun _ _ => rfl⟩
    | cons _ _ => simp [bindTs] at e
  | [], _ :: _, h => by simp [chkTs] at h
  | _ :: _, [], h => by simp [chkTs] at h
  | t :: ts, x :: xs, h => by
    simp only [chkTs, Bool.and_eq_true] at h
    have hp := pgs_cons (g_tg C hf t x h.1) (g_tgs C hf ts xs h.2) (by rw [asg1 (chkT_star h.1)]; rfl)
    refine ⟨fun pins s σ H vs us Q I r0 q => hp.run pins s σ H vs us Q I r0 ?_⟩
    obtain ⟨bp, bq, B, b, ρ, ds, ρ', g, r, rv, e, w⟩ := q
    cases ds with
    | nil => simp [bindTs] at e
    | cons d ds =>
      simp only [bindTs, Option.bind_eq_some_iff] at e
      obtain ⟨ρ1, e1, e2⟩ := e
      obtain ⟨v, r', rfl, h1, h2⟩ := rv.inv
      refine ⟨v, r', rfl, bp, bq, B, b, ρ, d, ρ1, g, r, h1, e1, fun σ1 r1 l1 s1 => ?_⟩
      refine ⟨bp, bq, B, b, ρ1, ds, ρ', g, r1, h2, e2, fun σ2 r2 l2 s2 => w σ2 r2 (l2.trans l1) fun i hi => ?_⟩
      simp only [slotsTs, List.mem_append, not_or] at hi
      rw [s2 i hi.2, s1 i hi.1]
end
/-! ### what is walked -/
def lI (Y : Sys β) (k : Nat) (md : Md) (ik : Ik) (es : List E) : TI := fun σ H R => ∃ bp bq B ρ b ds b' xs, Good Y bp bq B H b ∧ RepE Y bp bq B H ρ σ ∧ evLY Y k es ρ b = .ok ds b' ∧ iter ik ds = some xs ∧
  ∀ B' H' J, Ext bp bq B B' H H' → Good Y bp bq B' H' b' → Walk J xs.length (Stb md bp bq B' H') (YD Y.K Y.mg bp B' xs) → R J H'
theorem RepXL.one {bp bq : Addr} {B H : Hp} {d : D} {vs : List V} (h : RepXL Y md bp bq B H [d] vs) : ∃ v, vs = [v] ∧ RepX Y.K Y.mg bp bq md B H d v := by
  cases md with
  | val =>
    obtain ⟨v, r, e, h1, h2⟩ := RepL.inv (show RepL _ _ _ _ _ _ from h)
    rw [h2.nil_inv] at e
    exact ⟨v, e, h1⟩
  | bor => exact RepTL.one h
  | own => exact RepTL.one h
theorem RepXL.two {bp bq : Addr} {B H : Hp} {d e : D} {vs : List V} (h : RepXL Y md bp bq B H [d, e] vs) : ∃ v w, vs = [v, w] ∧ RepX Y.K Y.mg bp bq md B H d v ∧ RepX Y.K Y.mg bp bq md B H e w := by
  cases md with
  | val =>
    obtain ⟨v, r, e, h1, h2⟩ := RepL.inv (show RepL _ _ _ _ _ _ from h)
    obtain ⟨w, r', e', h3, h4⟩ := h2.inv
    rw [h4.nil_inv] at e'
    subst e'
    exact ⟨v, w, e, h1, h3⟩
  | bor => exact RepTL.two h
  | own => exact RepTL.two h
theorem RepXL.three {bp bq : Addr} {B H : Hp} {d e f : D} {vs : List V} (h : RepXL Y md bp bq B H [d, e, f] vs) : ∃ v w u, vs = [v, w, u] ∧ RepX Y.K Y.mg bp bq md B H d v ∧ RepX Y.K Y.mg bp bq md B H e w ∧ RepX Y.K Y.mg bp bq md B H f u := by
  cases md with
  | val =>
    obtain ⟨v, r, e, h1, h2⟩ := RepL.inv (show RepL _ _ _ _ _ _ from h)
    obtain ⟨w, r', e', h3, h4⟩ := h2.inv
    obtain ⟨u, r'', e'', h5, h6⟩ := h4.inv
    rw [h6.nil_inv] at e''
    subst e''
    subst e'
    exact ⟨v, w, u, e, h1, h3, h5⟩
  | bor => exact RepTL.three h
  | own => exact RepTL.three h
section
variable {K : PySem.W.Frag} {mg : PySem.Str → Option Value} {bp : Addr} {B : Hp} {S : Hp → Prop}
theorem y_rev {xs : List D} {us : List V} (r : RepL K mg bp B xs us) (i : Nat) (H H' : Hp) (v : V) (hi : i < xs.reverse.length) (e1 : H' = H) (e2 : us[us.length - 1 - i]? = some v) : YD K mg bp B xs.reverse i H v H' := by
  have hi' : i < xs.length := by rwa [List.length_reverse] at hi
  have hj : us.length - 1 - i < xs.length := by rw [← r.length]; omega
  obtain ⟨v', h1, h2⟩ := r.get (List.getElem?_eq_getElem hj)
  rw [h1] at e2; cases e2
  refine ⟨_, ?_, .inl ⟨e1, h2⟩⟩
  rw [List.getElem?_reverse hi', r.length, List.getElem?_eq_getElem hj]
theorem w_revL {xs : List D} {us : List V} {a : Addr} (r : RepL K mg bp B xs us) (h : ∀ H, S H → H a = some (.lst us)) : Walk (Itv K a us.length) xs.reverse.length S (YD K mg bp B xs.reverse) where
  goes := fun i H hi s => by
    have hi' : i < us.length := by rw [List.length_reverse, r.length] at hi; exact hi
    exact ⟨hi', us, us[us.length - 1 - i]'(by omega), SqL.of (h H s), by simp⟩
  stops := fun H s => by show us.length ≤ xs.reverse.length; rw [List.length_reverse, r.length]; exact Nat.le_refl _
  yields := fun i H x H' hi s ⟨e1, e2⟩ => y_rev r i H H' x hi e1 (e2 us (SqL.of (h H s)))
theorem w_revT {xs : List D} {us : List V} {a : Addr} (r : RepL K mg bp B xs us) (h : ∀ H, S H → SqT K H a us) : Walk (RT.ItvT K a us.length) xs.reverse.length S (YD K mg bp B xs.reverse) where
  goes := fun i H hi s => by
    have hi' : i < us.length := by rw [List.length_reverse, r.length] at hi; exact hi
    exact ⟨hi', us, us[us.length - 1 - i]'(by omega), h H s, by simp⟩
  stops := fun H s => by show us.length ≤ xs.reverse.length; rw [List.length_reverse, r.length]; exact Nat.le_refl _
  yields := fun i H x H' hi s ⟨e1, e2⟩ => y_rev r i H H' x hi e1 (e2 us (h H s))
end
theorem iter_lens {ik : Ik} {ds xs : List D} (e : iter ik ds = some xs) : (∃ a, ds = [a]) ∨ (∃ a b, ds = [a, b]) ∨ ∃ a b c, ds = [a, b, c] := by
  match ds, e with
  | [], e => cases ik <;> simp [iter] at e
  | [a], _ => exact .inl ⟨a, rfl⟩
  | [a, b], _ => exact .inr (.inl ⟨a, b, rfl⟩)
  | [a, b, c], _ => exact .inr (.inr ⟨a, b, c, rfl⟩)
  | a :: b :: c :: d :: r, e => cases ik <;> simp [iter] at e
def bltI : Ik → String
  | .seq => "" | .ran => "range" | .enu => "enumerate" | .zip => "zip" | .rvs => "reversed"
theorem i_ok {ik : Ik} {tup : Bool} {es : List E} {xs : List Expr} {tg it : Expr} (O : Y.Ok) (C : CxOk Y k N sc X) (hn : md ≠ .own)
    (h : AllOk Y k X md es xs) (ht : tup = true → ∃ ts j p, tg = .Tuple ts j p)
    (hi : (ik = .seq ∧ xs = [it] ∧ (∀ e, es = [e] → PE X it (lE Y k md e))) ∨ (ik ≠ .seq ∧ (ik = .enu ∨ ik = .zip → tup = true) ∧ ∃ f p pos, it = .Call (.Name f p) xs [] pos ∧ bltB Y.fr sc f (bltI ik) = true)) : PI X tg it (lI Y k md ik es) := by
  have hpa := h.pa hn
  have hst := h.star
  have hlen := h.length
  rcases hi with ⟨rfl, rfl, hp⟩ | ⟨hs, htup, f, p, pos, rfl, hb⟩
  · match es, hlen with
    | [e], _ =>
      refine PI.imp (pi_seq (hp e rfl)) fun σ H R q => ?_
      obtain ⟨bp, bq, B, ρ, b, ds, b', xs, g, r, e1, e2, w⟩ := q
      simp only [evLY, evL] at e1
      obtain ⟨d1, b1, e3, e4⟩ := bnd_ok e1
      simp only [bnd_ret] at e4
      obtain ⟨rfl, rfl⟩ := ret_ok e4
      have e2 : items d1 = some xs := e2
      refine ⟨bp, bq, B, ρ, b, d1, _, g, r, e3, fun B1 H1 v x1 g1 r1 => ?_⟩
      have r1 : RepX Y.K Y.mg bp bq md B1 H1 d1 v := by
        cases md with
        | val => exact r1
        | bor => exact r1
        | own => exact absurd rfl hn
      rw [C.K]
      obtain ⟨a, us, rfl, rl, hh⟩ := src_of r1 xs e2
      have self : Stb md bp bq B1 H1 H1 := ⟨g1.sub, .inr fun _ _ _ _ => rfl⟩
      refine ⟨a, us, rfl, ?_⟩
      rcases hh with ⟨_, hh⟩ | ⟨_, hh⟩
      · exact .inr ⟨hh H1 self, w B1 H1 _ x1 g1 (w_tup rl hh)⟩
      · exact .inl ⟨SqL.of (hh H1 self), w B1 H1 _ x1 g1 (w_list rl hh)⟩
  · obtain ⟨rfl, hg, hm⟩ := blt_of O C hb
    have stbs : ∀ {bp bq : Addr} {B1 H1 : Hp} {b1 : β}, Good Y bp bq B1 H1 b1 → Stb md bp bq B1 H1 H1 := fun g1 => ⟨g1.sub, .inr fun _ _ _ _ => rfl⟩
    cases ik with
    | seq => exact absurd rfl hs
    | ran =>
      have hval : ∀ {bp bq : Addr} {B H : Hp} {i : Int} {v : V}, RepX Y.K Y.mg bp bq md B H (.int i) v → v = .int i := fun h => RepT.int h.t
      match xs, h with
      | [x1], .cons h1 t1 s1 .nil =>
        refine PI.imp (pi_range1 hg hm hpa (by rw [star1 s1]; rfl)) fun σ H R q => ?_
        obtain ⟨bp, bq, B, ρ, b, ds, b', xs, g, r, e1, e2, w⟩ := q
        refine ⟨bp, bq, B, ρ, b, ds, b', g, r, e1, fun B1 H1 vs x1 g1 r1 => ?_⟩
        have hl := evL_len e1
        match ds, hl with
        | [d], _ =>
          obtain ⟨v, rfl, rv⟩ := r1.one
          cases d with
          | int n =>
            simp only [iter, Option.ite_none_right_eq_some, Option.some.injEq] at e2
            obtain ⟨hz, rfl⟩ := e2
            exact ⟨n, by rw [hval rv], (small_b hz).1, (small_b hz).2, w B1 H1 _ x1 g1 (w_range 0 n.toNat)⟩
          | _ => simp [iter] at e2
      | [x1, x2], .cons h1 t1 s1 (.cons h2 t2 s2 .nil) =>
        refine PI.imp (pi_range2 hg hm hpa (by rw [star1 s1, star1 s2]; rfl) (by rw [star1 s2]; rfl)) fun σ H R q => ?_
        obtain ⟨bp, bq, B, ρ, b, ds, b', xs, g, r, e1, e2, w⟩ := q
        refine ⟨bp, bq, B, ρ, b, ds, b', g, r, e1, fun B1 H1 vs x1 g1 r1 => ?_⟩
        have hl := evL_len e1
        match ds, hl with
        | [d, d2], _ =>
          obtain ⟨v, v2, rfl, rv, rv2⟩ := r1.two
          cases d with
          | int n =>
            cases d2 with
            | int n2 =>
              simp only [iter, Option.ite_none_right_eq_some, Option.some.injEq, Bool.and_eq_true] at e2
              obtain ⟨⟨hz, hz2⟩, rfl⟩ := e2
              exact ⟨n, n2, by rw [hval rv, hval rv2], ⟨(small_b hz).1, (small_b hz).2, (small_b hz2).1, (small_b hz2).2⟩, w B1 H1 _ x1 g1 (w_range n _)⟩
            | _ => simp [iter] at e2
          | _ => simp [iter] at e2
      | [x1, x2, x3], .cons h1 t1 s1 (.cons h2 t2 s2 (.cons h3 t3 s3 .nil)) =>
        refine PI.imp (pi_range3 hg hm hpa (star1 s1) (star_any (by simp [s2, s3]))) fun σ H R q => ?_
        obtain ⟨bp, bq, B, ρ, b, ds, b', xs, g, r, e1, e2, w⟩ := q
        refine ⟨bp, bq, B, ρ, b, ds, b', g, r, e1, fun B1 H1 vs x1 g1 r1 => ?_⟩
        have hl := evL_len e1
        match ds, hl with
        | [d, d2, d3], _ =>
          obtain ⟨v, v2, v3, rfl, rv, rv2, rv3⟩ := r1.three
          cases d with
          | int n =>
            cases d2 with
            | int n2 =>
              cases d3 with
              | int n3 =>
                simp only [iter, Option.ite_none_right_eq_some, Option.some.injEq, Bool.and_eq_true] at e2
                obtain ⟨⟨⟨hz, hz2⟩, hz3⟩, rfl⟩ := e2
                have e3 : n3 = -1 := eq_of_beq hz3
                subst e3
                exact ⟨n, n2, -1, _, by rw [hval rv, hval rv2, hval rv3], RgC.neg (small_b hz).1 (small_b hz).2 (small_b hz2).1 (small_b hz2).2, w B1 H1 _ x1 g1 (w_rangeC n (-1) _)⟩
              | _ => simp [iter] at e2
            | _ => simp [iter] at e2
          | _ => simp [iter] at e2
      | [], .nil =>
        refine ⟨fun pins s σ H R I q => ?_⟩
        obtain ⟨bp, bq, B, ρ, b, ds, b', xs, g, r, e1, e2, w⟩ := q
        have hl := evL_len e1
        rcases iter_lens e2 with ⟨_, z⟩ | ⟨_, _, z⟩ | ⟨_, _, _, z⟩ <;> (rw [z] at hl; try (simp at hl))
      | _ :: _ :: _ :: _ :: _, h =>
        refine ⟨fun pins s σ H R I q => ?_⟩
        obtain ⟨bp, bq, B, ρ, b, ds, b', xs, g, r, e1, e2, w⟩ := q
        have hl := evL_len e1
        rw [h.length] at hl
        rcases iter_lens e2 with ⟨_, z⟩ | ⟨_, _, z⟩ | ⟨_, _, _, z⟩ <;> (rw [z] at hl; try (simp at hl))
    | enu =>
      obtain ⟨ts, j, tp, rfl⟩ := ht (htup (.inl rfl))
      match xs, h with
      | [x1], .cons h1 t1 s1 .nil =>
        refine PI.imp (pi_enumA hg hm hpa (by rw [star1 s1]; rfl)) fun σ H R q => ?_
        obtain ⟨bp, bq, B, ρ, b, ds, b', xs, g, r, e1, e2, w⟩ := q
        refine ⟨bp, bq, B, ρ, b, ds, b', g, r, e1, fun B1 H1 vs x1 g1 r1 => ?_⟩
        have hl := evL_len e1
        match ds, hl with
        | [d], _ =>
          obtain ⟨v, rfl, rv⟩ := r1.one
          simp only [iter, Option.map_eq_some_iff] at e2
          obtain ⟨ys, e3, rfl⟩ := e2
          obtain ⟨a, us, rfl, rl, hh⟩ := src_of rv ys e3
          rw [C.K]
          refine ⟨a, us, rfl, ?_⟩
          rcases hh with ⟨_, hh⟩ | ⟨_, hh⟩
          · exact .inr ⟨hh H1 (stbs g1), w B1 H1 _ x1 g1 (w_enuT rl hh)⟩
          · exact .inl ⟨SqL.of (hh H1 (stbs g1)), w B1 H1 _ x1 g1 (w_enuL rl hh)⟩
      | [], .nil =>
        refine ⟨fun pins s σ H R I q => ?_⟩
        obtain ⟨bp, bq, B, ρ, b, ds, b', xs, g, r, e1, e2, w⟩ := q
        have hl := evL_len e1
        rcases iter_lens e2 with ⟨_, z⟩ | ⟨_, _, z⟩ | ⟨_, _, _, z⟩ <;> (rw [z] at hl; try (simp at hl))
      | _ :: _ :: _, h =>
        refine ⟨fun pins s σ H R I q => ?_⟩
        obtain ⟨bp, bq, B, ρ, b, ds, b', xs, g, r, e1, e2, w⟩ := q
        have hl := evL_len e1
        rw [h.length] at hl
        rcases iter_lens e2 with ⟨_, z⟩ | ⟨_, _, z⟩ | ⟨_, _, _, z⟩
        · rw [z] at hl; try (simp at hl)
        · rw [z] at e2; simp [iter] at e2
        · rw [z] at e2; simp [iter] at e2
    | zip =>
      obtain ⟨ts, j, tp, rfl⟩ := ht (htup (.inr rfl))
      match xs, h with
      | [x1, x2], .cons h1 t1 s1 (.cons h2 t2 s2 .nil) =>
        refine PI.imp (RZ.pi_zipA hg hm hpa (star1 s1) (star_any (by simp [s2]))) fun σ H R q => ?_
        obtain ⟨bp, bq, B, ρ, b, ds, b', xs, g, r, e1, e2, w⟩ := q
        refine ⟨bp, bq, B, ρ, b, ds, b', g, r, e1, fun B1 H1 vs x1 g1 r1 => ?_⟩
        have hl := evL_len e1
        match ds, hl with
        | [d, d2], _ =>
          obtain ⟨v, v2, rfl, rv, rv2⟩ := r1.two
          rw [C.K]
          cases d with
          | tup ys =>
            cases d2 with
            | tup zs =>
              simp only [iter, Option.some.injEq] at e2; subst e2
              obtain ⟨a, us, rfl, rl, hh⟩ := src_of rv ys rfl
              obtain ⟨a2, us2, rfl, rl2, hh2⟩ := src_of rv2 zs rfl
              rcases hh with ⟨_, hh⟩ | ⟨z, _⟩
              · rcases hh2 with ⟨_, hh2⟩ | ⟨z, _⟩
                · exact ⟨a, a2, us, us2, rfl, .inr ⟨hh H1 (stbs g1), hh2 H1 (stbs g1), w B1 H1 _ x1 g1 (w_zipT rl rl2 hh hh2)⟩⟩
                · cases z
              · cases z
            | _ => simp [iter] at e2
          | lst ys =>
            cases d2 with
            | lst zs =>
              simp only [iter, Option.some.injEq] at e2; subst e2
              obtain ⟨a, us, rfl, rl, hh⟩ := src_of rv ys rfl
              obtain ⟨a2, us2, rfl, rl2, hh2⟩ := src_of rv2 zs rfl
              rcases hh with ⟨z, _⟩ | ⟨_, hh⟩
              · cases z
              · rcases hh2 with ⟨z, _⟩ | ⟨_, hh2⟩
                · cases z
                · exact ⟨a, a2, us, us2, rfl, .inl ⟨SqL.of (hh H1 (stbs g1)), SqL.of (hh2 H1 (stbs g1)), w B1 H1 _ x1 g1 (w_zipL rl rl2 hh hh2)⟩⟩
            | _ => simp [iter] at e2
          | _ => simp [iter] at e2
      | [], .nil =>
        refine ⟨fun pins s σ H R I q => ?_⟩
        obtain ⟨bp, bq, B, ρ, b, ds, b', xs, g, r, e1, e2, w⟩ := q
        have hl := evL_len e1
        rcases iter_lens e2 with ⟨_, z⟩ | ⟨_, _, z⟩ | ⟨_, _, _, z⟩ <;> (rw [z] at hl; try (simp at hl))
      | [x1], h =>
        refine ⟨fun pins s σ H R I q => ?_⟩
        obtain ⟨bp, bq, B, ρ, b, ds, b', xs, g, r, e1, e2, w⟩ := q
        have hl := evL_len e1
        rw [h.length] at hl
        rcases iter_lens e2 with ⟨_, z⟩ | ⟨_, _, z⟩ | ⟨_, _, _, z⟩
        · rw [z] at e2; simp [iter] at e2
        · rw [z] at hl; try (simp at hl)
        · rw [z] at hl; try (simp at hl)
      | _ :: _ :: _ :: _, h =>
        refine ⟨fun pins s σ H R I q => ?_⟩
        obtain ⟨bp, bq, B, ρ, b, ds, b', xs, g, r, e1, e2, w⟩ := q
        have hl := evL_len e1
        rw [h.length] at hl
        rcases iter_lens e2 with ⟨_, z⟩ | ⟨_, _, z⟩ | ⟨_, _, _, z⟩
        · rw [z] at hl; try (simp at hl)
        · rw [z] at hl; try (simp at hl)
        · rw [z] at e2; simp [iter] at e2
    | rvs =>
      match xs, h with
      | [x1], .cons h1 t1 s1 .nil =>
        refine PI.imp (RT.pi_revA hg hm h1 (star1 s1)) fun σ H R q => ?_
        obtain ⟨bp, bq, B, ρ, b, ds, b', xs, g, r, e1, e2, w⟩ := q
        simp only [evLY, evL] at e1
        obtain ⟨d1, b1, e3, e4⟩ := bnd_ok e1
        simp only [bnd_ret] at e4
        obtain ⟨rfl, rfl⟩ := ret_ok e4
        simp only [iter, Option.map_eq_some_iff] at e2
        obtain ⟨ys, e5, rfl⟩ := e2
        refine ⟨bp, bq, B, ρ, b, d1, _, g, r, e3, fun B1 H1 v x1 g1 r1 => ?_⟩
        have r1 : RepX Y.K Y.mg bp bq md B1 H1 d1 v := by
          cases md with
          | val => exact r1
          | bor => exact r1
          | own => exact absurd rfl hn
        rw [C.K]
        obtain ⟨a, us, rfl, rl, hh⟩ := src_of r1 ys e5
        have self : Stb md bp bq B1 H1 H1 := ⟨g1.sub, .inr fun _ _ _ _ => rfl⟩
        refine ⟨a, us, rfl, ?_⟩
        rcases hh with ⟨_, hh⟩ | ⟨_, hh⟩
        · exact .inr ⟨hh H1 self, w B1 H1 _ x1 g1 (w_revT rl hh)⟩
        · exact .inl ⟨SqL.of (hh H1 self), w B1 H1 _ x1 g1 (w_revL rl hh)⟩
      | [], .nil =>
        refine ⟨fun pins s σ H R I q => ?_⟩
        obtain ⟨bp, bq, B, ρ, b, ds, b', xs, g, r, e1, e2, w⟩ := q
        have hl := evL_len e1
        rcases iter_lens e2 with ⟨_, z⟩ | ⟨_, _, z⟩ | ⟨_, _, _, z⟩ <;> (rw [z] at hl; try (simp at hl))
      | _ :: _ :: _, h =>
        refine ⟨fun pins s σ H R I q => ?_⟩
        obtain ⟨bp, bq, B, ρ, b, ds, b', xs, g, r, e1, e2, w⟩ := q
        have hl := evL_len e1
        rw [h.length] at hl
        rcases iter_lens e2 with ⟨_, z⟩ | ⟨_, _, z⟩ | ⟨_, _, _, z⟩
        · rw [z] at hl; try (simp at hl)
        · rw [z] at e2; simp [iter] at e2
        · rw [z] at e2; simp [iter] at e2
end
end PL
namespace PL
open PySem PySem.Spec PyProof.Rows L2
section
variable {β : Type} {Y : Sys β} {k : Nat} {N : List PySem.Str} {sc : Scope} {X : Cx} {md : Md}
/-! ### comprehensions -/
theorem wipe_in {σ : L2.St} {i : Nat} : ∀ {vs : List Nat}, i ∈ vs → (L2.wipe σ vs)[i]? = some none ∨ (L2.wipe σ vs)[i]? = none
  | [], h => by cases h
  | v :: vs, h => by
    unfold L2.wipe
    by_cases e : v = i
    · subst e
      by_cases hl : v < (L2.wipe σ vs).length
      · exact .inl (List.getElem?_set_self hl)
      · exact .inr (List.getElem?_eq_none (by rw [List.length_set]; omega))
    · rw [List.getElem?_set_ne e]
      exact wipe_in (by rcases List.mem_cons.mp h with z | z; exact absurd z.symm e; exact z)
theorem wipe_back {σ σ2 : L2.St} {vs : List Nat} (hl : σ2.length = σ.length) (h : ∀ i, i ∉ vs → σ2[i]? = (L2.wipe σ vs)[i]?) : L2.wipe σ2 vs = L2.wipe σ vs := by
  apply List.ext_getElem?
  intro i
  by_cases hi : i ∈ vs
  · have l1 := wipe_length σ vs
    have l2 := wipe_length σ2 vs
    by_cases hb : i < σ.length
    · rcases wipe_in (σ := σ) hi with e1 | e1
      · rcases wipe_in (σ := σ2) hi with e2 | e2
        · rw [e1, e2]
        · have := List.getElem?_eq_none_iff.mp e2; omega
      · have := List.getElem?_eq_none_iff.mp e1; omega
    · rw [List.getElem?_eq_none (by omega), List.getElem?_eq_none (by omega)]
  · rw [L2.wipe_out hi, L2.wipe_out hi, h i hi, L2.wipe_out hi]
def lC (Y : Sys β) (k : Nat) (cs : List E) : TT := lT Y (fun ρ => evC Y.pr.gl (PL.call Y.pr k) cs ρ)
theorem cs_ok : ∀ {cs : List E} {ifs : List Expr}, cs.length ≤ 1 → AllOk Y k X .bor cs ifs → PTs X ifs (lC Y k cs)
  | _, _, _, .nil => by
    refine ⟨fun pins s σ H Q I q => (pts_nil (X := X)).run pins s σ H Q I ?_⟩
    obtain ⟨bp, bq, B, ρ, b0, t, b', g, r, e, w⟩ := q
    obtain ⟨rfl, rfl⟩ := ret_ok (show ret true b0 = .ok t b' from e)
    exact w B H Ext.refl g
  | _, _, _, .cons h1 t1 s1 .nil => by
    refine ⟨fun pins s σ H Q I q => (pts_one (t1 rfl)).run pins s σ H Q I ?_⟩
    obtain ⟨bp, bq, B, ρ, b0, t, b', g, r, e, w⟩ := q
    refine ⟨bp, bq, B, ρ, b0, t, b', g, r, ?_, w⟩
    simp only [evC] at e
    obtain ⟨d1, b1, e1, e2⟩ := bnd_ok e
    obtain ⟨t1, b2, e3, e4⟩ := bnd_ok e2
    obtain ⟨f3, rfl⟩ := lft_ok e3
    have e5 := tst_of (Y := Y) (k := k) e1 f3
    cases t1 with
    | true => rw [if_pos rfl] at e4; obtain ⟨rfl, rfl⟩ := ret_ok e4; exact e5
    | false => rw [if_neg (by decide)] at e4; obtain ⟨rfl, rfl⟩ := ret_ok e4; exact e5
  | _, _, hz, .cons _ _ _ (.cons _ _ _ _) => by simp at hz
theorem compM_cons {f : D → M β (Option D)} {d : D} {ds : List D} {b b' : β} {vs : List D} (h : compM f (d :: ds) b = .ok vs b') : ∃ o b1 r, f d b = .ok o b1 ∧ compM f ds b1 = .ok r b' ∧ vs = (match o with | some v => v :: r | none => r) := by
  simp only [compM] at h
  obtain ⟨o, b1, h1, h2⟩ := bnd_ok h
  obtain ⟨r, b2, h3, h4⟩ := bnd_ok h2
  obtain ⟨rfl, rfl⟩ := ret_ok h4
  exact ⟨o, b1, r, h1, h3, rfl⟩
theorem compM_len {f : D → M β (Option D)} : ∀ {ds : List D} {b b' : β} {vs : List D}, compM f ds b = .ok vs b' → vs.length ≤ ds.length
  | [], b, b', vs, h => by obtain ⟨rfl, _⟩ := ret_ok (show ret [] b = .ok vs b' from h); exact Nat.le_refl _
  | d :: ds, b, b', vs, h => by
    obtain ⟨o, b1, r, _, h2, e⟩ := compM_cons h
    have := compM_len h2
    subst e
    cases o <;> simp only [List.length_cons] <;> omega
theorem blk_ok (C : CxOk Y k N sc X) {scope : Scope} {own : List (PySem.Str × Nat)} (ok : BlkOk N sc scope own) (s : Shared) (H : Hp) (A : Addr) (cl : List (PySem.Str × Addr)) (fp : List Addr) : CxOk Y k N (L2.relS scope sc) (X.blk s H scope (PySem.compEnvC scope cl A X.env) fp) where
  prog := C.prog
  w := C.w
  K := C.K
  mg := C.mg
  base := C.base
  calm := C.calm
  xN := C.xN
  nd := C.nd
  xsc := by rw [← C.xsc]; rfl
  kind := ok.kind
  room := C.room
  xe := rfl
theorem fb_blk {scope : Scope} (s : Shared) (H : Hp) (A : Addr) (cl : List (PySem.Str × Addr)) (fp : List Addr) : ∀ x, fbC scope sc x = true → (X.blk s H scope (PySem.compEnvC scope cl A X.env) fp).fn x = true ∨ (L2.relS scope sc).names.lookup x = some .local := fun x h => by
  simp only [fbC, Bool.or_eq_true] at h
  rcases h with h | h
  · refine .inl ?_
    show (scope.names.lookup x == some .cell) = true
    cases q : scope.names.lookup x with
    | none => rw [q] at h; cases h
    | some kk => rw [q] at h; cases kk <;> first | rfl | cases h
  · unfold loclB at h
    cases q : (L2.relS scope sc).names.lookup x with
    | none => rw [q] at h; cases h
    | some kk => rw [q] at h; cases kk <;> first | exact .inr rfl | cases h
theorem ownS_snd (N : List PySem.Str) (own : List Nat) : (ownS N own).map (·.2) = own := by
  unfold ownS
  rw [List.map_map]
  exact List.map_id own
theorem comp_rd {e : E} {t : Tg} {ik : Ik} {es cs : List E} {own : List Nat} (hsub : ∀ i ∈ slotsT t, i ∈ own) (σ : L2.St) (H : Hp) (Q : VK) (q : lE Y k md (.comp e t ik es cs own) σ H Q) :
    tLc (lI Y k .bor ik es) (lG Y t) (lC Y k cs) (lE Y k .val e) own σ H Q := by
  obtain ⟨bp, bq, B, ρ, b0, d, b', g, r, e0, w⟩ := q
  simp only [evY, ev] at e0
  obtain ⟨ds, b1, e1, e2⟩ := bnd_ok e0
  obtain ⟨xs, b2, e3, e4⟩ := bnd_ok e2
  obtain ⟨f3, hb2⟩ := lft_ok e3
  subst hb2
  by_cases hlen : xs.length ≤ lim
  case neg => rw [if_neg hlen] at e4; exact (stk_ok e4).elim
  rw [if_pos hlen] at e4
  obtain ⟨vs, b3, e5, e6⟩ := bnd_ok e4
  obtain ⟨rfl, rfl⟩ := ret_ok e6
  refine ⟨bp, bq, B, ρ, b0, ds, _, xs, g, r, e1, f3, fun B1 H1 J x1 g1 wk => ?_⟩
  intro Dd hDd
  have nbp : Dd ≠ bp := fun z => by rw [z, g1.h1] at hDd; cases hDd
  have nbq : Dd ≠ bq := fun z => by rw [z, g1.h2] at hDd; cases hDd
  -- the invariant: how far one is
  let F : D → M β (Option D) := fun d => bnd (lft (bindT t d (wipeE ρ own))) fun ρ' => bnd (evC Y.pr.gl (PL.call Y.pr k) cs ρ') fun b => if b = true then bnd (ev Y.pr.gl (PL.call Y.pr k) e ρ') fun v => ret (some v) else ret none
  have e5 : compM F xs b2 = .ok vs b' := e5
  refine lc_it wk (fun i H' => ∃ B2 b2 acc vacc rest, Ext bp bq B1 B2 H1 H' ∧ Good Y bp bq B2 H' b2 ∧ H' Dd = some (.lst vacc) ∧ B2 Dd = none ∧ RepL Y.K Y.mg bp B2 acc vacc ∧ acc.length ≤ i ∧ compM F (xs.drop i) b2 = .ok rest b' ∧ acc ++ rest = vs) ?_ ?_ ?_ ?_
  · refine ⟨B1, _, [], [], vs, ⟨Same.refl _, fun a h h2 => absurd h2 h, fun a _ _ h => upd_ne fun z => h (by rw [z]; exact hDd)⟩, ⟨g1.sub.trans (same_upd hDd), g1.b1, g1.b2, by rw [upd_ne nbp.symm]; exact g1.h1, by rw [upd_ne nbq.symm]; exact g1.h2⟩, upd_same, g1.sub.free hDd, RepL.nil, Nat.le_refl _, by rw [List.drop_zero]; exact e5, by simp⟩
  · rintro i H' hi ⟨B2, b2, acc, vacc, rest, x2, g2, _⟩
    exact ⟨x2.bs.trans g2.sub, .inr x2.kp⟩
  · rintro i v H2 H3 hi ⟨B2, b2, acc, vacc, rest, x2, g2, hD2, hB2, ra, hacc, ec, eapp⟩ ⟨d, hd, hy⟩
    have ed : xs.drop i = d :: xs.drop (i + 1) := by
      rw [List.drop_eq_getElem_cons hi]
      rw [List.getElem?_eq_getElem hi] at hd
      rw [Option.some.inj hd]
    rw [ed] at ec
    obtain ⟨o, b4, r4, ef, er, eo⟩ := compM_cons ec
    -- the turn's thing
    have key : ∃ B3, Ext bp bq B2 B3 H2 H3 ∧ Good Y bp bq B3 H3 b2 ∧ Rep Y.K Y.mg bp B3 d v ∧ H3 Dd = some (.lst vacc) ∧ B3 Dd = none := by
      rcases hy with ⟨rfl, rv⟩ | ⟨T, us, ds', rfl, hT, rfl, rfl, rus⟩
      · exact ⟨B2, Ext.refl, g2, Rep.mono x2.bs _ _ rv, hD2, hB2⟩
      · have x0 := Ex0.new (B := B2) (o := .tup us) g2.sub hT
        have nT : Dd ≠ T := fun z => by rw [z, hT] at hD2; cases hD2
        refine ⟨_, x0.ext, x0.good g2, ?_, by rw [upd_ne nT]; exact hD2, by rw [upd_ne nT]; exact hB2⟩
        simp only [Rep]
        exact ⟨T, us, rfl, .inl (.inl upd_same), RepL.mono (x2.bs.trans x0.bs) _ _ rus⟩
    obtain ⟨B3, x3, g3, rv, hD3, hB3⟩ := key
    simp only [F] at ef
    obtain ⟨ρ1, b5, ef1, ef2⟩ := bnd_ok ef
    obtain ⟨ff1, rfl⟩ := lft_ok ef1
    obtain ⟨tb, b6, ef3, ef4⟩ := bnd_ok ef2
    have x13 : Ext bp bq B1 B3 H1 H3 := x2.trans x3 g3
    have rw3 : RepE Y bp bq B3 H3 (wipeE ρ own) (L2.wipe σ own) := ((r.ext x1 g1).ext x13 g3).wipe own
    refine ⟨bp, bq, B3, _, wipeE ρ own, d, ρ1, g3, rw3, rv, ff1, fun σ2 r2 l2 s2 => ⟨wipe_back (by rw [l2, wipe_length]) fun i hi => s2 i fun z => hi (hsub i z), ?_⟩⟩
    refine ⟨bp, bq, B3, ρ1, _, tb, b6, g3, r2, ef3, fun B4 H4 x4 g4 => ?_⟩
    have keepD : ∀ {B5 H5}, Ext bp bq B3 B5 H3 H5 → H5 Dd = some (.lst vacc) ∧ B5 Dd = none := fun {B5 H5} x5 => by
      refine ⟨by rw [x5.kp Dd nbp nbq (by rw [hD3]; exact Option.some_ne_none _)]; exact hD3, ?_⟩
      refine Classical.byContradiction fun n => ?_
      have := x5.fr Dd n hB3
      rw [hD3] at this; cases this
    cases tb with
    | true =>
      rw [if_pos rfl] at ef4
      refine L2.iteT ?_
      obtain ⟨v5, b7, ef5, ef6⟩ := bnd_ok ef4
      obtain ⟨rfl, rfl⟩ := ret_ok ef6
      refine ⟨bp, bq, B4, ρ1, b6, v5, _, g4, r2.ext x4 g4, ef5, fun B5 H5 y x5 g5 r5 => ?_⟩
      have x35 := x4.trans x5 g5
      obtain ⟨hD5, hB5⟩ := keepD x35
      have r5 : Rep Y.K Y.mg bp B5 v5 y := r5
      have x15 := x13.trans x35 g5
      have hl2 := RepL.length ra
      refine ⟨vacc, hD5, by have := lim_le; omega, B5, _, acc ++ [v5], vacc ++ [y], r4, ⟨x15.bs, x15.fr, fun a n1 n2 h => ?_⟩, ⟨?_, g5.b1, g5.b2, by rw [upd_ne nbp.symm]; exact g5.h1, by rw [upd_ne nbq.symm]; exact g5.h2⟩, upd_same, hB5, RepL.append (RepL.mono (x3.bs.trans x35.bs) _ _ ra) (RepL.cons r5 RepL.nil), by simp; omega, er, ?_⟩
      · rw [upd_ne fun z => h (by rw [z]; exact hDd)]
        exact x15.kp a n1 n2 h
      · intro a o ha
        rw [upd_ne fun z => by rw [z, hB5] at ha; cases ha]
        exact g5.sub a o ha
      · rw [List.append_assoc, List.singleton_append, ← eapp, eo]
    | false =>
      rw [if_neg (by decide)] at ef4
      refine L2.iteF ?_
      obtain ⟨rfl, rfl⟩ := ret_ok ef4
      obtain ⟨hD5, hB5⟩ := keepD x4
      have x15 := x13.trans x4 g4
      exact ⟨B4, _, acc, vacc, r4, x15, g4, hD5, hB5, RepL.mono (x3.bs.trans x4.bs) _ _ ra, by omega, er, by rw [← eapp, eo]⟩
  · rintro H2 ⟨B2, b2, acc, vacc, rest, x2, g2, hD2, hB2, ra, hacc, ec, eapp⟩
    rw [List.drop_length] at ec
    obtain ⟨rfl, rfl⟩ := ret_ok (show ret [] b2 = .ok rest _ from ec)
    rw [List.append_nil] at eapp
    subst eapp
    -- the new list as it was wished for
    have x12 := x1.trans x2 g2
    cases md with
    | own => exact w B2 H2 _ x12 g2 fun ys ey => by cases ey; exact ⟨Dd, vacc, rfl, x1.back g1 hDd, hD2, hB2, ra⟩
    | val =>
      have hB : Same B2 (upd B2 Dd (.lst vacc)) := same_upd hB2
      refine w (upd B2 Dd (.lst vacc)) H2 _ ⟨x12.bs.trans hB, fun a h1 h2 => ?_, x12.kp⟩ ⟨?_, by rw [upd_ne nbp.symm]; exact g2.b1, by rw [upd_ne nbq.symm]; exact g2.b2, g2.h1, g2.h2⟩ ?_
      · by_cases z : a = Dd
        · rw [z]; exact x1.back g1 hDd
        · rw [upd_ne z] at h1; exact x12.fr a h1 h2
      · intro a o ha
        by_cases z : a = Dd
        · subst z; rw [upd_same] at ha; rw [hD2]; exact ha
        · rw [upd_ne z] at ha; exact g2.sub a o ha
      · show Rep Y.K Y.mg bp _ (.lst acc) _
        simp only [Rep]
        exact ⟨Dd, vacc, rfl, upd_same, RepL.mono hB _ _ ra⟩
    | bor => exact w B2 H2 _ x12 g2 (.inr ⟨Dd, vacc, acc, rfl, rfl, hD2, ra, nbp, nbq⟩)
end
end PL
namespace PL
open PySem PySem.Spec PyProof.Rows L2
section
variable {β : Type} {Y : Sys β} {k : Nat} {N : List PySem.Str}
theorem bior (x : Expr) (h : strT x = false) (o : Cop) (hs : ∀ es j p, x ≠ .Set es j p) : behindInMarks (pyC o) x = false := by
  cases x <;> first | rfl | exact absurd rfl (hs _ _ _)
theorem notSet {ar : String → Option Nat} {fr : String → Bool} {N : List PySem.Str} : ∀ {e : E} {md : Md} {sc : Scope} {x : Expr}, chkE ar fr N e md sc x = true → (∀ es j p, x ≠ .Set es j p) ∧ (∀ a b c p, x ≠ .Slice a b c p) := by
  intro e md sc x h
  cases x with
  | Set a b c => cases e <;> simp [chkE] at h
  | Slice a b c d => cases e <;> simp [chkE] at h
  | _ => exact ⟨(fun _ _ _ z => by cases z), fun _ _ _ _ z => by cases z⟩
theorem plain_of {x : Expr} (h : ∀ a b c p, x ≠ .Slice a b c p) : PlainIx x := by
  cases x <;> first | exact fun _ _ => rfl | exact absurd rfl (h _ _ _ _)
def plainT (x : Expr) : Bool := match x with
  | .UnaryOp .Not _ _ => false
  | .BoolOp _ _ _ => false
  | .IfExp _ _ _ _ => false
  | .Compare _ _ _ _ => false
  | _ => true
theorem plain_true {x : Expr} (h : plainT x = true) (env : PySem.Env) (whole : Sem Value) : isTrue x env whole = (do let v ← whole; standAt x.pos; holding [v] (truthy v)) := by
  cases x with
  | UnaryOp o y p => cases o <;> first | rfl | cases h
  | BoolOp _ _ _ => cases h
  | IfExp _ _ _ _ => cases h
  | Compare _ _ _ _ => cases h
  | _ => rfl
def isCell : Expr → Bool
  | _ => true
/-- the goal for one part -/
def Snd (Y : Sys β) (k : Nat) (N : List PySem.Str) (e : E) : Prop := ∀ (md : Md) (sc : Scope) (x : Expr), chkE Y.ar Y.fr N e md sc x = true → ∀ X, CxOk Y k N sc X → PE X x (lE Y k md e) ∧ (md = .bor → PT X x (lT Y (tstY Y k e)))
def SndL (Y : Sys β) (k : Nat) (N : List PySem.Str) (es : List E) : Prop := ∀ (md : Md) (sc : Scope) (xs : List Expr), chkL Y.ar Y.fr N es md sc xs = true → ∀ X, CxOk Y k N sc X → AllOk Y k X md es xs
theorem snd_plain {e : E} {md : Md} {sc : Scope} {x : Expr} {X : Cx} (C : CxOk Y k N sc X) (hp : plainT x = true) (h : PE X x (lE Y k md e)) : PE X x (lE Y k md e) ∧ (md = .bor → PT X x (lT Y (tstY Y k e))) :=
  ⟨h, fun z => by subst z; exact t_any C h (plain_true hp X.env)⟩
structure CompParts (Y : Sys β) (k : Nat) (N : List PySem.Str) (X : Cx) (e : E) (t : Tg) (ik : Ik) (es cs : List E) (own : List Nat) (elt tg it : Expr) (ifs : List Expr) (scope : Scope) : Prop where
  nd : X.N.Nodup
  hit : PI X tg it (lI Y k .bor ik es)
  ok : BlkOk X.N X.env.scope scope (ownS N own)
  hg : ∀ (s : Shared) (H : Hp) (C : Addr) (cl : List (PySem.Str × Addr)) (fp : List Addr), PG (X.blk s H scope (PySem.compEnvC scope cl C X.env) fp) tg (lG Y t)
  ht : ∀ (s : Shared) (H : Hp) (C : Addr) (cl : List (PySem.Str × Addr)) (fp : List Addr), PTs (X.blk s H scope (PySem.compEnvC scope cl C X.env) fp) ifs (lC Y k cs)
  he : ∀ (s : Shared) (H : Hp) (C : Addr) (cl : List (PySem.Str × Addr)) (fp : List Addr), PE (X.blk s H scope (PySem.compEnvC scope cl C X.env) fp) elt (lE Y k .val e)
  hs : ∀ x, foldedSetIterable it X.env x = pure x
  sub : ∀ i ∈ slotsT t, i ∈ own
theorem comp_parts (O : Y.Ok) {e : E} {t : Tg} {ik : Ik} {es cs : List E} {own : List Nat} (he : Snd Y k N e) (hes : SndL Y k N es) (hcs : SndL Y k N cs) {md : Md} {sc : Scope} {x : Expr} (h : chkE Y.ar Y.fr N (.comp e t ik es cs own) md sc x = true) {X : Cx} (C : CxOk Y k N sc X) :
    ∃ elt tg it ifs scope pos, x = .ListComp elt [⟨tg, it, ifs, 0⟩] scope pos ∧ CompParts Y k N X e t ik es cs own elt tg it ifs scope := by
  unfold chkE at h
  split at h
  case h_2 => cases h
  rename_i elt tg it ifs scope pos
  simp only [Bool.and_eq_true, List.all_eq_true, decide_eq_true_eq] at h
  obtain ⟨h1, h2, h3, h4, h5, h6, h7⟩ := h
  have ok := blkOk_by h1
  have hnd : X.N.Nodup := by rw [C.xN]; exact C.nd
  have ok' : BlkOk X.N X.env.scope scope (ownS N own) := by rw [C.xN, C.xsc]; exact ok
  have hit : PI X tg it (lI Y k .bor ik es) := by
    have htup : isTup t = true → ∃ ts j p, tg = .Tuple ts j p := fun ht => by
      cases t with
      | nm i => cases ht
      | tu ts => cases tg <;> first | (simp [chkT] at h2; done) | exact ⟨_, _, _, rfl⟩
    split at h5
    · have hA := hes .bor sc _ h5 X C
      refine i_ok O C (by decide) (tup := isTup t) hA htup (.inl ⟨rfl, rfl, fun e' e1 => ?_⟩)
      subst e1
      cases hA with
      | cons h1 t1 s1 hs => exact h1
    · rename_i f p xs pos'
      simp only [Bool.and_eq_true] at h5
      exact i_ok O C (by decide) (tup := isTup t) (hes .bor sc _ h5.2 X C) htup (.inr ⟨by decide, fun z => (by rcases z with z | z <;> cases z), f, p, pos', rfl, h5.1⟩)
    · rename_i f p xs pos'
      simp only [Bool.and_eq_true] at h5
      exact i_ok O C (by decide) (tup := isTup t) (hes .bor sc _ h5.2.2 X C) htup (.inr ⟨by decide, fun _ => h5.2.1, f, p, pos', rfl, h5.1⟩)
    · rename_i f p xs pos'
      simp only [Bool.and_eq_true] at h5
      exact i_ok O C (by decide) (tup := isTup t) (hes .bor sc _ h5.2.2 X C) htup (.inr ⟨by decide, fun _ => h5.2.1, f, p, pos', rfl, h5.1⟩)
    · rename_i f p xs pos'
      simp only [Bool.and_eq_true] at h5
      exact i_ok O C (by decide) (tup := isTup t) (hes .bor sc _ h5.2 X C) htup (.inr ⟨by decide, fun z => (by rcases z with z | z <;> cases z), f, p, pos', rfl, h5.1⟩)
    · cases h5
  have hsit : ∀ x, foldedSetIterable it X.env x = pure x := by
    have hns : ∀ es' j p, it ≠ .Set es' j p := by
      intro es' j p z
      subst z
      cases ik <;> first | (simp at h5; done) | skip
      cases es with
      | nil => simp [chkL] at h5
      | cons a as =>
        simp only [chkL, Bool.and_eq_true] at h5
        exact (notSet h5.1).1 _ _ _ rfl
    intro v
    cases it <;> first | rfl | exact absurd rfl (hns _ _ _)
  exact ⟨elt, tg, it, ifs, scope, pos, rfl, hnd, hit, ok', fun s H A cl fp => g_tg (blk_ok C ok s H A cl fp) (fb_blk s H A cl fp) t tg h2, fun s H A cl fp => cs_ok h4 (hcs .bor _ _ h6 _ (blk_ok C ok s H A cl fp)), fun s H A cl fp => (he .val _ _ h7 _ (blk_ok C ok s H A cl fp)).1, hsit, h3⟩
theorem snd_comp (O : Y.Ok) {e : E} {t : Tg} {ik : Ik} {es cs : List E} {own : List Nat} (he : Snd Y k N e) (hes : SndL Y k N es) (hcs : SndL Y k N cs) : Snd Y k N (.comp e t ik es cs own) := by
  intro md sc x h X C
  obtain ⟨elt, tg, it, ifs, scope, pos, rfl, P⟩ := comp_parts O he hes hcs h C
  refine snd_plain C rfl (PE.imp (pe_lc (own := ownS N own) (wi := lI Y k .bor ik es) (g := lG Y t) (tt := lC Y k cs) (te := lE Y k .val e) C.calm P.nd P.hit P.ok P.hg P.ht P.he P.hs) fun σ H Q q => ?_)
  rw [ownS_snd]
  exact comp_rd P.sub σ H Q q
mutual
theorem snd (O : Y.Ok) (F : ∀ x n, Y.ar x = some n → Callee Y k x n) : ∀ e : E, Snd Y k N e
  | .var i => by
    intro md sc x h X C
    simp only [chkE, Bool.and_eq_true, decide_eq_true_eq] at h
    obtain ⟨h0, h⟩ := h
    split at h
    · simp only [Bool.and_eq_true, decide_eq_true_eq] at h
      exact snd_plain C rfl (c_var C h0 h.1.1 h.1.2 h.2)
    · cases h
  | .bvar i => by
    intro md sc x h X C
    simp only [chkE, Bool.and_eq_true, decide_eq_true_eq] at h
    obtain ⟨rfl, h⟩ := h
    split at h
    · simp only [Bool.and_eq_true, decide_eq_true_eq] at h
      exact snd_plain C rfl (c_bvar C h.1.1 h.1.2 h.2)
    · cases h
  | .glob g => by
    intro md sc x h X C
    simp only [chkE, Bool.and_eq_true, decide_eq_true_eq] at h
    obtain ⟨h0, h⟩ := h
    split at h
    · simp only [Bool.and_eq_true, decide_eq_true_eq] at h
      exact snd_plain C rfl (c_glob O C h0 h.1.1 h.1.2 h.2)
    · cases h
  | .lit d => by
    intro md sc x h X C
    simp only [chkE] at h
    split at h
    · exact snd_plain C rfl (c_lit h)
    · cases h
  | .bin o a b => by
    intro md sc x h X C
    simp only [chkE] at h
    split at h
    · simp only [Bool.and_eq_true] at h
      obtain ⟨h1, h2, h3⟩ := h
      rw [opB_eq h1]
      exact snd_plain C rfl (c_bin C (snd O F a .bor sc _ h2 X C).1 (snd O F b .bor sc _ h3 X C).1)
    · cases h
  | .neg a => by
    intro md sc x h X C
    simp only [chkE] at h
    split at h
    · exact snd_plain C rfl (c_neg (snd O F a .bor sc _ h X C).1)
    · cases h
  | .no a => by
    intro md sc x h X C
    simp only [chkE] at h
    split at h
    · have ih := snd O F a .bor sc _ h X C
      exact ⟨c_no C ih.1, fun _ => t_no (ih.2 rfl)⟩
    · cases h
  | .and es => by
    intro md sc x h X C
    simp only [chkE, Bool.and_eq_true, decide_eq_true_eq] at h
    obtain ⟨h0, h⟩ := h
    split at h
    · simp only [Bool.and_eq_true, Bool.not_eq_true'] at h
      have ih := sndL O F es md sc _ h.2 X C
      refine ⟨ih.and C h0 h.1, fun z => ?_⟩
      subst z
      exact (ih.andT h.1).pt
    · cases h
  | .or es => by
    intro md sc x h X C
    simp only [chkE, Bool.and_eq_true, decide_eq_true_eq] at h
    obtain ⟨h0, h⟩ := h
    split at h
    · simp only [Bool.and_eq_true, Bool.not_eq_true'] at h
      have ih := sndL O F es md sc _ h.2 X C
      refine ⟨ih.or C h0 h.1, fun z => ?_⟩
      subst z
      exact (ih.orT h.1).pt
    · cases h
  | .cmp o a b => by
    intro md sc x h X C
    simp only [chkE] at h
    split at h
    · simp only [Bool.and_eq_true] at h
      obtain ⟨h1, h2, h3⟩ := h
      rw [opC_eq h1]
      have ha := (snd O F a .bor sc _ h2 X C).1
      have hb := (snd O F b .bor sc _ h3 X C).1
      have hm := bior _ (notStar _ _ _ h3) o (notSet h3).1
      exact ⟨c_cmp C ha hb hm, fun _ => t_cmp C ha hb hm⟩
    · cases h
  | .chn o p a b c => by
    intro md sc x h X C
    simp only [chkE] at h
    split at h
    · simp only [Bool.and_eq_true] at h
      obtain ⟨h1, h2, h3, h4, h5⟩ := h
      rw [opC_eq h1, opC_eq h2]
      have ha := (snd O F a .bor sc _ h3 X C).1
      have hb := (snd O F b .bor sc _ h4 X C).1
      have hc := (snd O F c .bor sc _ h5 X C).1
      have hm := bior _ (notStar _ _ _ h5) p (notSet h5).1
      exact ⟨c_chn C ha hb hc hm, fun _ => t_chn C ha hb hc hm⟩
    · cases h
  | .isi a t => by
    intro md sc x h X C
    simp only [chkE] at h
    split at h
    · simp only [Bool.and_eq_true] at h
      obtain ⟨h1, h2, h3⟩ := h
      exact snd_plain C rfl (c_isi O C h1 h2 (snd O F a .bor sc _ h3 X C).1 (notStar _ _ _ h3))
    · cases h
  | .ite c a b => by
    intro md sc x h X C
    simp only [chkE] at h
    split at h
    · simp only [Bool.and_eq_true] at h
      obtain ⟨h1, h2, h3⟩ := h
      have hc := (snd O F c .bor sc _ h1 X C).2 rfl
      have ha := snd O F a md sc _ h2 X C
      have hb := snd O F b md sc _ h3 X C
      exact ⟨c_ite hc ha.1 hb.1, fun z => by subst z; exact t_ite hc (ha.2 rfl) (hb.2 rfl)⟩
    · cases h
  | .idx a i => by
    intro md sc x h X C
    simp only [chkE, Bool.and_eq_true, decide_eq_true_eq] at h
    obtain ⟨h0, h⟩ := h
    split at h
    · simp only [Bool.and_eq_true] at h
      exact snd_plain C rfl (c_idx C h0 (snd O F a .bor sc _ h.1 X C).1 (snd O F i .bor sc _ h.2 X C).1 (plain_of (notSet h.2).2))
    · cases h
  | .sl1 a l => by
    intro md sc x h X C
    simp only [chkE] at h
    split at h
    · simp only [Bool.and_eq_true] at h
      exact snd_plain C rfl (c_sl1 C (snd O F a .bor sc _ h.1 X C).1 (snd O F l .bor sc _ h.2 X C).1)
    · cases h
  | .sl2 a l => by
    intro md sc x h X C
    simp only [chkE] at h
    split at h
    · simp only [Bool.and_eq_true] at h
      exact snd_plain C rfl (c_sl2 C (snd O F a .bor sc _ h.1 X C).1 (snd O F l .bor sc _ h.2 X C).1)
    · cases h
  | .sl3 a l u => by
    intro md sc x h X C
    simp only [chkE] at h
    split at h
    · simp only [Bool.and_eq_true] at h
      exact snd_plain C rfl (c_sl3 C (snd O F a .bor sc _ h.1 X C).1 (snd O F l .bor sc _ h.2.1 X C).1 (snd O F u .bor sc _ h.2.2 X C).1)
    · cases h
  | .rev a => by
    intro md sc x h X C
    simp only [chkE] at h
    split at h
    · exact snd_plain C rfl (c_rev C (snd O F a .bor sc _ h X C).1)
    · cases h
  | .tup es => by
    intro md sc x h X C
    simp only [chkE] at h
    split at h
    · exact snd_plain C rfl (c_tup ((sndL O F es .val sc _ h X C).pa (by decide)))
    · cases h
  | .lst es => by
    intro md sc x h X C
    simp only [chkE] at h
    split at h
    · exact snd_plain C rfl (c_lst ((sndL O F es .val sc _ h X C).pa (by decide)))
    · cases h
  | .comp e t ik es cs own => snd_comp O (snd O F e) (sndL O F es) (sndL O F cs)
  | .bi f es => by
    intro md sc x h X C
    have ih := sndL O F es
    simp only [chkE] at h
    split at h
    · simp only [Bool.and_eq_true] at h
      obtain ⟨h1, h2⟩ := h
      split at h2
      · rename_i hr
        split at h2
        · simp only [Bool.and_eq_true, decide_eq_true_eq] at h2
          obtain ⟨h3, h4, h5⟩ := h2
          obtain ⟨a, rfl⟩ := List.length_eq_one_iff.mp h4
          have hA := ih .bor sc _ h5 X C
          cases hA with
          | cons ha ta sa hs =>
            cases hs
            by_cases ne : f = .ssort
            · subst ne
              exact snd_plain C rfl (c_ss O C h1 h3 ha sa)
            · have ri : rgIn f = "range" := by cases f <;> first | rfl | exact absurd rfl ne
              rw [ri] at h3
              exact snd_plain C rfl (c_rg O C h1 h3 hr ne ha sa)
        · cases h2
      · rename_i hr
        simp only [Bool.and_eq_true, Bool.not_eq_true'] at h2
        exact snd_plain C rfl (c_bi O C h1 (by simpa using hr) h2.1 (ih .bor sc _ h2.2 X C))
    · cases h
  | .call f es => by
    intro md sc x h X C
    have ih := sndL O F es
    simp only [chkE, Bool.and_eq_true, decide_eq_true_eq] at h
    obtain ⟨h0, h⟩ := h
    split at h
    · simp only [Bool.and_eq_true, decide_eq_true_eq] at h
      obtain ⟨h1, h2, h3, h4, h5⟩ := h
      exact snd_plain C rfl (c_call C (F f _ h4) h0 h1 h2 h3 (ih .val sc _ h5 X C))
    · cases h
theorem sndL (O : Y.Ok) (F : ∀ x n, Y.ar x = some n → Callee Y k x n) : ∀ es : List E, SndL Y k N es
  | [] => by
    intro md sc xs h X C
    cases xs with
    | nil => exact .nil
    | cons _ _ => simp [chkL] at h
  | e :: es => by
    intro md sc xs h X C
    cases xs with
    | nil => simp [chkL] at h
    | cons x xs =>
      simp only [chkL, Bool.and_eq_true] at h
      have h1 := snd O F e md sc x h.1 X C
      exact .cons h1.1 h1.2 (notStar _ _ _ h.1) (sndL O F es md sc xs h.2 X C)
end
end
end PL

set_option autoImplicit false
set_option linter.all false
set_option maxRecDepth 100000
set_option maxHeartbeats 4000000
/-! PL10: statements. -/
namespace PL
open PySem PySem.Spec PyProof.Rows L2
/-! ### how a tuple is stored -/
def locLn (sc : Scope) (line : Nat) (e : Expr) : Bool := match e with
  | .Name id pos => loclB sc id && (pos.line == line)
  | _ => false
def lineOf (ts : List Expr) : Nat := (ts.head?.map (·.pos.line)).getD 0
/-- for sure not by swapped stores -/
def noSw (sc : Scope) (ts vs : List Expr) : Bool := !(ts.length == 2 || ts.length == 3) || (vs.length != ts.length) || !(ts.all (locLn sc (lineOf ts))) || vs.all (foldedForSure 8)
/-- for sure by swapped stores (of names that differ) -/
def yesSw (sc : Scope) (ts vs : List Expr) : Bool := (ts.length == 2 || ts.length == 3) && (vs.length == ts.length) && ts.all (locLn sc (lineOf ts)) && !vs.all (foldedForSure 8) && !vs.all (constantsAlone 8) && vs.all (fun x => !strT x)
theorem locl_look {sc : Scope} {x : PySem.Str} (h : loclB sc x = true) : sc.names.lookup x = some .local := by
  unfold loclB at h
  cases q : sc.names.lookup x with
  | none => rw [q] at h; cases h
  | some kk => rw [q] at h; cases kk <;> first | rfl | cases h
def nmF (env : PySem.Env) (line : Nat) (e : Expr) : Option PySem.Str := match e with
  | .Name id pos => if env.kindOf id == some .local && pos.line == line then some id else none
  | _ => none
theorem nmF_some {sc : Scope} {env : PySem.Env} {line : Nat} (he : env.scope = sc) {t : Expr} {y : PySem.Str} (h : nmF env line t = some y) : locLn sc line t = true := by
  cases t with
  | Name id pos =>
    simp only [nmF, Option.ite_none_right_eq_some, Bool.and_eq_true] at h
    obtain ⟨⟨h1, h2⟩, _⟩ := h
    have hk : sc.names.lookup id = some NameKind.local := by
      rw [← he]
      show env.kindOf id = some .local
      cases q : env.kindOf id with
      | none => rw [q] at h1; cases h1
      | some kk => rw [q] at h1; cases kk <;> first | rfl | cases h1
    simp only [locLn, loclB, hk, h2, Bool.and_self]
  | _ => simp [nmF] at h
theorem filt_len {sc : Scope} {line : Nat} {env : PySem.Env} (he : env.scope = sc) : ∀ ts : List Expr, (ts.filterMap (nmF env line)).length ≤ ts.length ∧ ((ts.filterMap (nmF env line)).length = ts.length → ts.all (locLn sc line) = true)
  | [] => ⟨Nat.le_refl _, fun _ => rfl⟩
  | t :: ts => by
    have ih := filt_len (line := line) he ts
    cases q : nmF env line t with
    | none =>
      rw [List.filterMap_cons_none q, List.length_cons]
      exact ⟨by omega, fun h => by omega⟩
    | some y =>
      rw [List.filterMap_cons_some q, List.length_cons, List.length_cons]
      refine ⟨by omega, fun h => ?_⟩
      rw [List.all_cons, nmF_some he q, ih.2 (by omega)]; rfl
theorem locLn_nm {sc : Scope} {line : Nat} {env : PySem.Env} (he : env.scope = sc) {x : PySem.Str} {p : Pos} (h : locLn sc line (.Name x p) = true) : nmF env line (.Name x p) = some x := by
  simp only [locLn, Bool.and_eq_true] at h
  have hk := locl_look h.1
  have : env.kindOf x = some NameKind.local := by rw [← he] at hk; exact hk
  simp only [nmF, this, h.2, Bool.and_true]
  rfl
theorem sw_none {sc : Scope} {env : PySem.Env} {ts vs : List Expr} {k k2 : Nat} {p p2 : Pos} (he : env.scope = sc) (h : noSw sc ts vs = true) : swappedStores [.Tuple ts k p] (.Tuple vs k2 p2) env = pure none := by
  unfold swappedStores
  simp only [noSw, Bool.or_eq_true] at h
  simp only [pure_bind]
  split
  · rfl
  · rename_i h1
    split
    · rfl
    · rename_i h2
      split
      · rfl
      · rename_i h3
        split
        · rfl
        · rename_i h4
          exfalso
          have hf := filt_len (line := lineOf ts) he ts
          simp only [Bool.or_eq_true, not_or, Bool.not_eq_true] at h1 h3
          rcases h with ((h | h) | h) | h
          · rw [h] at h1; exact absurd h1.1.1 (by decide)
          · rw [h] at h1; exact absurd h1.1.2 (by decide)
          · have h5 := hf.2 (by
              have := h3.1
              simp only [bne_eq_false_iff_eq] at this
              exact this)
            rw [h5] at h
            cases h
          · exact h4 h
theorem any_star {vs : List Expr} (h : vs.all (fun x => !strT x) = true) : (vs.any fun | .Starred .. => true | _ => false) = false := by
  induction vs with
  | nil => rfl
  | cons v vs ih =>
    rw [List.all_cons, Bool.and_eq_true] at h
    rw [List.any_cons, ih h.2, Bool.or_false]
    cases v <;> first | rfl | (simp [strT] at h)
theorem sw_two {sc : Scope} {env : PySem.Env} {x y : PySem.Str} {px py : Pos} {vs : List Expr} {k k2 : Nat} {p p2 : Pos} (he : env.scope = sc) (hk : sc.kind = .function) (hxy : x ≠ y) (h : yesSw sc [.Name x px, .Name y py] vs = true) :
    swappedStores [.Tuple [.Name x px, .Name y py] k p] (.Tuple vs k2 p2) env = pure (some [x, y]) := by
  simp only [yesSw, Bool.and_eq_true, Bool.not_eq_true', List.all_cons, List.all_nil, Bool.and_true] at h
  obtain ⟨⟨⟨⟨⟨h1, h2⟩, h3⟩, h4⟩, h5⟩, h6⟩ := h
  have hb : env.blockKind = .function := by unfold Env.blockKind; rw [he, hk]; rfl
  have n1 := locLn_nm he h3.1
  have n2 := locLn_nm he h3.2
  have hf : ([Expr.Name x px, Expr.Name y py].filterMap (nmF env (lineOf [Expr.Name x px, Expr.Name y py]))) = [x, y] := by
    rw [List.filterMap_cons_some n1, List.filterMap_cons_some n2]; rfl
  have hd : ([x, y] : List PySem.Str).eraseDups = [x, y] := by
    rw [List.eraseDups_cons]
    have : (y == x) = false := beq_eq_false_iff_ne.mpr (Ne.symm hxy)
    simp [this, List.eraseDups_cons]
  unfold swappedStores
  simp only [pure_bind]
  split
  · rename_i h
    exfalso
    have h : (!([Expr.Name x px, Expr.Name y py].length == 2 || [Expr.Name x px, Expr.Name y py].length == 3) || vs.length != [Expr.Name x px, Expr.Name y py].length || env.blockKind != .function) = true := h
    rw [hb, bne, h2] at h
    exact absurd h (by simp)
  · split
    · rename_i h
      exact absurd (h.symm.trans (any_star h6)) (by decide)
    · split
      · rename_i h
        exfalso
        have h : (([Expr.Name x px, Expr.Name y py].filterMap (nmF env (lineOf [Expr.Name x px, Expr.Name y py]))).length != [Expr.Name x px, Expr.Name y py].length || ([Expr.Name x px, Expr.Name y py].filterMap (nmF env (lineOf [Expr.Name x px, Expr.Name y py]))).eraseDups.length != ([Expr.Name x px, Expr.Name y py].filterMap (nmF env (lineOf [Expr.Name x px, Expr.Name y py]))).length) = true := h
        rw [hf, hd] at h
        exact absurd h (by simp)
      · split
        · rename_i h
          exact absurd (h.symm.trans h4) (by decide)
        · split
          · rename_i h
            exact absurd (h.symm.trans h5) (by decide)
          · show pure (some ([Expr.Name x px, Expr.Name y py].filterMap (nmF env (lineOf [Expr.Name x px, Expr.Name y py])))) = _
            rw [hf]
theorem sw_three {sc : Scope} {env : PySem.Env} {x y z : PySem.Str} {px py pz : Pos} {vs : List Expr} {k k2 : Nat} {p p2 : Pos} (he : env.scope = sc) (hk : sc.kind = .function) (hxy : x ≠ y) (hxz : x ≠ z) (hyz : y ≠ z) (h : yesSw sc [.Name x px, .Name y py, .Name z pz] vs = true) :
    swappedStores [.Tuple [.Name x px, .Name y py, .Name z pz] k p] (.Tuple vs k2 p2) env = pure (some [x, y, z]) := by
  simp only [yesSw, Bool.and_eq_true, Bool.not_eq_true', List.all_cons, List.all_nil, Bool.and_true] at h
  obtain ⟨⟨⟨⟨⟨h1, h2⟩, h3⟩, h4⟩, h5⟩, h6⟩ := h
  have hb : env.blockKind = .function := by unfold Env.blockKind; rw [he, hk]; rfl
  have n1 := locLn_nm he h3.1
  have n2 := locLn_nm he h3.2.1
  have n3 := locLn_nm he h3.2.2
  have hf : ([Expr.Name x px, Expr.Name y py, Expr.Name z pz].filterMap (nmF env (lineOf [Expr.Name x px, Expr.Name y py, Expr.Name z pz]))) = [x, y, z] := by
    rw [List.filterMap_cons_some n1, List.filterMap_cons_some n2, List.filterMap_cons_some n3]; rfl
  have hd : ([x, y, z] : List PySem.Str).eraseDups = [x, y, z] := by
    rw [List.eraseDups_cons]
    have e1 : (y == x) = false := beq_eq_false_iff_ne.mpr (Ne.symm hxy)
    have e2 : (z == x) = false := beq_eq_false_iff_ne.mpr (Ne.symm hxz)
    have e3 : (z == y) = false := beq_eq_false_iff_ne.mpr (Ne.symm hyz)
    simp [e1, e2, e3, List.eraseDups_cons]
  unfold swappedStores
  simp only [pure_bind]
  split
  · rename_i h
    exfalso
    have h : (!([Expr.Name x px, Expr.Name y py, Expr.Name z pz].length == 2 || [Expr.Name x px, Expr.Name y py, Expr.Name z pz].length == 3) || vs.length != [Expr.Name x px, Expr.Name y py, Expr.Name z pz].length || env.blockKind != .function) = true := h
    rw [hb, bne, h2] at h
    exact absurd h (by simp)
  · split
    · rename_i h
      exact absurd (h.symm.trans (any_star h6)) (by decide)
    · split
      · rename_i h
        exfalso
        have h : (([Expr.Name x px, Expr.Name y py, Expr.Name z pz].filterMap (nmF env (lineOf [Expr.Name x px, Expr.Name y py, Expr.Name z pz]))).length != [Expr.Name x px, Expr.Name y py, Expr.Name z pz].length || ([Expr.Name x px, Expr.Name y py, Expr.Name z pz].filterMap (nmF env (lineOf [Expr.Name x px, Expr.Name y py, Expr.Name z pz]))).eraseDups.length != ([Expr.Name x px, Expr.Name y py, Expr.Name z pz].filterMap (nmF env (lineOf [Expr.Name x px, Expr.Name y py, Expr.Name z pz]))).length) = true := h
        rw [hf, hd] at h
        exact absurd h (by simp)
      · split
        · rename_i h
          exact absurd (h.symm.trans h4) (by decide)
        · split
          · rename_i h
            exact absurd (h.symm.trans h5) (by decide)
          · show pure (some ([Expr.Name x px, Expr.Name y py, Expr.Name z pz].filterMap (nmF env (lineOf [Expr.Name x px, Expr.Name y py, Expr.Name z pz])))) = _
            rw [hf]
end PL

set_option autoImplicit false
set_option linter.all false
set_option maxRecDepth 100000
set_option maxHeartbeats 4000000
/-! PL11: the check of statements; each statement by its parts. -/
namespace PL
open PySem PySem.Spec PyProof.Rows L2
section
variable (ar : String → Option Nat) (fr : String → Bool) (N : List PySem.Str)
def fb1 : PySem.Str → Bool := fun _ => true
/-- the local name of the slot i -/
def nmB (sc : Scope) (i : Nat) (x : PySem.Str) : Bool := decide (N[i]? = some x) && (visB sc x && nmOk x)
def isTupX (x : Expr) : Option (List Expr) := match x with
  | .Tuple xs _ _ => some xs
  | _ => none
/-- o.m(..) with o the slot i -/
def mB (sc : Scope) (i : Nat) (m : String) (f : Expr) (cpos : Pos) : Bool := match f with
  | .Attribute (.Name x _) a apos => nmB N sc i x && (decide (a = sx m) && (apos.endLine == cpos.line))
  | _ => false
def mdO (o : Bool) : Md := if o = true then .own else .val
mutual
def chkS : S → Scope → Stmt → Bool
  | .asg t e, sc, x => (match x with
    | .Assign [tg] v _ => chkT N fb1 t sc tg && (chkE ar fr N e .val sc v && (match tg with
        | .Tuple ts _ _ => (match isTupX v with
          | some vs => noSw sc ts vs
          | none => true)
        | _ => true))
    | _ => false)
  | .own i e, sc, x => (match x with
    | .Assign [.Name y _] v _ => decide (N[i]? = some y) && (locB sc y && chkE ar fr N e .own sc v)
    | _ => false)
  | .par i j oi oj a b, sc, x => (match x with
    | .Assign [.Tuple [.Name x px, .Name y py] _ _] (.Tuple [v, w] _ _) _ => decide (N[i]? = some x) && (decide (N[j]? = some y) && (decide (i ≠ j) && (((loclB sc x && (loclB sc y && yesSw sc [.Name x px, .Name y py] [v, w])) || (locB sc x && (locB sc y && noSw sc [.Name x px, .Name y py] [v, w]))) &&
        (chkE ar fr N a (mdO oi) sc v && chkE ar fr N b (mdO oj) sc w))))
    | _ => false)
  | .par3 i j l oi oj ol a b c, sc, x => (match x with
    | .Assign [.Tuple [.Name x px, .Name y py, .Name z pz] _ _] (.Tuple [u, v, w] _ _) _ => decide (N[i]? = some x) && (decide (N[j]? = some y) && (decide (N[l]? = some z) && (decide (i ≠ j) && (decide (i ≠ l) && (decide (j ≠ l) &&
        (((loclB sc x && (loclB sc y && (loclB sc z && yesSw sc [.Name x px, .Name y py, .Name z pz] [u, v, w]))) || (locB sc x && (locB sc y && (locB sc z && noSw sc [.Name x px, .Name y py, .Name z pz] [u, v, w])))) &&
          (chkE ar fr N a (mdO oi) sc u && (chkE ar fr N b (mdO oj) sc v && chkE ar fr N c (mdO ol) sc w))))))))
    | _ => false)
  | .sto i k e, sc, x => (match x with
    | .Assign [.Subscript (.Name y _) z _] v _ => nmB N sc i y && (chkE ar fr N k .bor sc z && chkE ar fr N e .val sc v)
    | _ => false)
  | .sto2 i j k l a b, sc, x => (match x with
    | .Assign [.Tuple [.Subscript (.Name y _) z _, .Subscript (.Name y2 _) z2 _] _ _] (.Tuple [v, w] _ _) _ => nmB N sc i y && (nmB N sc j y2 && (chkE ar fr N k .bor sc z && (chkE ar fr N l .bor sc z2 && (chkE ar fr N a .val sc v && chkE ar fr N b .val sc w))))
    | _ => false)
  | .app i e, sc, x => (match x with
    | .Expr (.Call f [v] [] cp) _ => mB N sc i "append" f cp && chkE ar fr N e .val sc v
    | _ => false)
  | .ins i k e, sc, x => (match x with
    | .Expr (.Call f [z, v] [] cp) _ => mB N sc i "insert" f cp && (chkE ar fr N k .bor sc z && chkE ar fr N e .val sc v)
    | _ => false)
  | .ext i e, sc, x => (match x with
    | .Expr (.Call f [v] [] cp) _ => mB N sc i "extend" f cp && chkE ar fr N e .bor sc v
    | _ => false)
  | .aug i o e, sc, x => (match x with
    | .AugAssign (.Name y _) p v _ => opB o p && (decide (N[i]? = some y) && (locB sc y && chkE ar fr N e .bor sc v))
    | _ => false)
  | .agl i e, sc, x => (match x with
    | .AugAssign (.Name y _) .Add v _ => decide (N[i]? = some y) && (locB sc y && chkE ar fr N e .bor sc v)
    | _ => false)
  | .pop t i, sc, x => (match x with
    | .Assign [tg] (.Call f [] [] cp) _ => mB N sc i "pop" f cp && chkT N fb1 t sc tg
    | _ => false)
  | .frz _, _, _ => false
  | .iff c a b, sc, x => (match x with
    | .If t y z _ => chkE ar fr N c .bor sc t && (chkSs a sc y && chkSs b sc z)
    | _ => false)
  | .whl c a, sc, x => (match x with
    | .While t y [] _ => chkE ar fr N c .bor sc t && chkSs a sc y
    | _ => false)
  | .fr t k es a, sc, x => (match x with
    | .For tg it y [] _ => chkT N fb1 t sc tg && (chkI ar fr N k (isTup t) es .val sc it && chkSs a sc y)
    | _ => false)
  | .ret e, sc, x => (match x with
    | .Return (some v) _ => chkE ar fr N e .val sc v
    | _ => false)
  | .retN, _, x => (match x with
    | .Return none _ => true
    | _ => false)
  | .brk, _, x => (match x with
    | .Break _ => true
    | _ => false)
  | .cnt, _, x => (match x with
    | .Continue _ => true
    | _ => false)
  | .pas, _, x => (match x with
    | .Pass _ => true
    | _ => false)
  | .bad, _, _ => true
def chkSs : List S → Scope → List Stmt → Bool
  | [], _, xs => (match xs with
    | [] => true
    | _ => false)
  | s :: r, sc, xs => (match s with
    | .frz _ => chkSs r sc xs
    | s => (match xs with
      | x :: xs => chkS s sc x && chkSs r sc xs
      | [] => false))
end
end
section
variable {β : Type} (Y : Sys β)
/-- within a call: from (B0, H0) one has come to (B, H) -/
structure Cur (bp bq : Addr) (B0 H0 B H : Hp) (ρ : Env) (σ : L2.St) (b : β) : Prop where
  g : Good Y bp bq B H b
  r : RepE Y bp bq B H ρ σ
  x : Ext bp bq B0 B H0 H
  nw : ∀ (i : Nat) xs p, ρ[i]? = some (.ow xs) → σ[i]? = some (some (.ref p)) → H0 p = none
def EndOk (bp : Addr) (D : Ends) (fl : Fl) (σ : L2.St) (B H : Hp) : Prop := match fl with
  | .nx => D.nx σ H
  | .bk => D.bk σ H
  | .ct => D.ct σ H
  | .rt d => ∀ v, Rep Y.K Y.mg bp B d v → D.rt v H
def lS (m : Env → M β (Fl × Env)) : TS := fun D σ H => ∃ bp bq B0 H0 B ρ b fl ρ' b', Cur Y bp bq B0 H0 B H ρ σ b ∧ m ρ b = .ok (fl, ρ') b' ∧
  ∀ σ' B' H', Cur Y bp bq B0 H0 B' H' ρ' σ' b' → EndOk Y bp D fl σ' B' H'
end
section
variable {β : Type} {Y : Sys β} {k : Nat} {N : List PySem.Str} {sc : Scope} {X : Cx} {md : Md} {bp bq : Addr} {B0 H0 B B' H H' : Hp} {ρ : Env} {σ : L2.St} {b b' : β}
noncomputable abbrev exY (Y : Sys β) (k : Nat) (s : S) (ρ : Env) : M β (Fl × Env) := ex Y.pr.gl (PL.call Y.pr k) s ρ
noncomputable abbrev exsY (Y : Sys β) (k : Nat) (s : List S) (ρ : Env) : M β (Fl × Env) := exs Y.pr.gl (PL.call Y.pr k) s ρ
theorem PS.imp {X : Cx} {e : Stmt} {t t' : TS} (h : PS X e t) (i : ∀ D σ H, t' D σ H → t D σ H) : PS X e t' := ⟨fun pins s σ H D I q => h.run pins s σ H D I (i D σ H q)⟩
theorem PSs.imp {X : Cx} {e : List Stmt} {t t' : TS} (h : PSs X e t) (i : ∀ D σ H, t' D σ H → t D σ H) : PSs X e t' := ⟨fun pins s σ H D I q => h.run pins s σ H D I (i D σ H q)⟩
theorem Cur.ext (c : Cur Y bp bq B0 H0 B H ρ σ b) (x : Ext bp bq B B' H H') (g : Good Y bp bq B' H' b') : Cur Y bp bq B0 H0 B' H' ρ σ b' := ⟨g, c.r.ext x g, c.x.trans x g, c.nw⟩
/-- an expression's value, on the way -/
theorem Cur.ev {md : Md} {e : E} {d : D} {b1 : β} {Q : VK} (c : Cur Y bp bq B0 H0 B H ρ σ b) (h : evY Y k e ρ b = .ok d b1)
    (q : ∀ B1 H1 v, Cur Y bp bq B0 H0 B1 H1 ρ σ b1 → RepM Y.K Y.mg bp bq md H0 B1 H1 d v → Ext bp bq B B1 H H1 → Q v H1) : lE Y k md e σ H Q :=
  ⟨bp, bq, B, ρ, b, d, b1, c.g, c.r, h, fun B1 H1 v x g r => q B1 H1 v (c.ext x g) (r.back c.x c.g) x⟩
theorem Cur.tst {e : E} {t : Bool} {b1 : β} {Q : Bool → Hp → Prop} (c : Cur Y bp bq B0 H0 B H ρ σ b) (h : tst Y.pr.gl (PL.call Y.pr k) e ρ b = .ok t b1)
    (q : ∀ B1 H1, Cur Y bp bq B0 H0 B1 H1 ρ σ b1 → Q t H1) : lT Y (tstY Y k e) σ H Q :=
  ⟨bp, bq, B, ρ, b, t, b1, c.g, c.r, h, fun B1 H1 x g => q B1 H1 (c.ext x g)⟩
theorem nxt_ok {ρ ρ' : Env} {fl : Fl} {b b' : β} (h : nxt ρ b = .ok (fl, ρ') b') : fl = .nx ∧ ρ' = ρ ∧ b' = b := by
  have h : R.ok (Fl.nx, ρ) b = R.ok (fl, ρ') b' := h
  cases h
  exact ⟨rfl, rfl, rfl⟩
/-- a slot gets a datum -/
theorem Cur.set {d : D} {v : V} (c : Cur Y bp bq B0 H0 B H ρ σ b) (h : Rep Y.K Y.mg bp B d v) (i : Nat) : Cur Y bp bq B0 H0 B H (ρ.set i (.im d)) (σ.set i (some v)) b where
  g := c.g
  r := c.r.set h i
  x := c.x
  nw := fun j xs p e1 e2 => by
    by_cases hj : i = j
    · subst hj
      have hl : i < ρ.length := by
        have := (List.getElem?_eq_some_iff.mp e1).1
        rwa [List.length_set] at this
      rw [List.getElem?_set_self hl] at e1; cases e1
    · rw [List.getElem?_set_ne hj] at e1 e2
      exact c.nw j xs p e1 e2
/-- a slot gets a list of its own, at a place that no other slot has -/
theorem Cur.own {xs : List D} {vs : List V} {p : Addr} (c : Cur Y bp bq B0 H0 B H ρ σ b) (i : Nat) (h1 : H p = some (.lst vs)) (h2 : B p = none) (h3 : H0 p = none) (h4 : p ≠ bp) (h5 : p ≠ bq) (h6 : RepL Y.K Y.mg bp B xs vs)
    (hd : ∀ (j : Nat) ys q, j ≠ i → ρ[j]? = some (.ow ys) → σ[j]? = some (some (.ref q)) → q ≠ p) : Cur Y bp bq B0 H0 B H (ρ.set i (.ow xs)) (σ.set i (some (.ref p))) b where
  g := c.g
  r := {
    len := by rw [List.length_set, List.length_set]; exact c.r.len
    im := fun j d' e => by
      by_cases hj : i = j
      · subst hj
        have hl : i < ρ.length := by
          have := (List.getElem?_eq_some_iff.mp e).1
          rwa [List.length_set] at this
        rw [List.getElem?_set_self hl] at e; cases e
      · rw [List.getElem?_set_ne hj] at e ⊢
        exact c.r.im j d' e
    ow := fun j ys e => by
      by_cases hj : i = j
      · subst hj
        have hl : i < ρ.length := by
          have := (List.getElem?_eq_some_iff.mp e).1
          rwa [List.length_set] at this
        rw [List.getElem?_set_self hl] at e; cases e
        exact ⟨p, vs, List.getElem?_set_self (by rw [c.r.len]; exact hl), h1, h2, h4, h5, h6⟩
      · rw [List.getElem?_set_ne hj] at e ⊢
        exact c.r.ow j ys e
    dj := fun j l ys zs q hne e1 e2 e3 e4 => by
      by_cases hj : i = j
      · subst hj
        have hl : i < ρ.length := by
          have := (List.getElem?_eq_some_iff.mp e1).1
          rwa [List.length_set] at this
        rw [List.getElem?_set_self (by rw [c.r.len]; exact hl)] at e3; cases e3
        rw [List.getElem?_set_ne hne] at e2 e4
        exact hd l zs p (Ne.symm hne) e2 e4 rfl
      · rw [List.getElem?_set_ne hj] at e1 e3
        by_cases hl : i = l
        · subst hl
          have hl : i < ρ.length := by
            have := (List.getElem?_eq_some_iff.mp e2).1
            rwa [List.length_set] at this
          rw [List.getElem?_set_self (by rw [c.r.len]; exact hl)] at e4; cases e4
          exact hd j ys p (fun z => hj z.symm) e1 e3 rfl
        · rw [List.getElem?_set_ne hl] at e2 e4
          exact c.r.dj j l ys zs q hne e1 e2 e3 e4 }
  x := c.x
  nw := fun j ys q e1 e2 => by
    by_cases hj : i = j
    · subst hj
      have hl : i < ρ.length := by
        have := (List.getElem?_eq_some_iff.mp e1).1
        rwa [List.length_set] at this
      rw [List.getElem?_set_self (by rw [c.r.len]; exact hl)] at e2; cases e2
      exact h3
    · rw [List.getElem?_set_ne hj] at e1 e2
      exact c.nw j ys q e1 e2
/-- the own list of a slot is changed -/
theorem Cur.upd {xs ys : List D} {ws : List V} {p : Addr} (c : Cur Y bp bq B0 H0 B H ρ σ b) {i : Nat} (e : ρ[i]? = some (.ow xs)) (e2 : σ[i]? = some (some (.ref p))) (r : RepL Y.K Y.mg bp B ys ws) :
    Cur Y bp bq B0 H0 B (L2.upd H p (.lst ws)) (ρ.set i (.ow ys)) σ b := by
  obtain ⟨p', vs', h1, h2, h3, h4, h5, h6⟩ := c.r.ow i xs e
  rw [e2] at h1; cases h1
  have hl : i < ρ.length := (List.getElem?_eq_some_iff.mp e).1
  have h0 := c.nw i xs p e e2
  refine ⟨⟨?_, c.g.b1, c.g.b2, by rw [upd_ne h4.symm]; exact c.g.h1, by rw [upd_ne h5.symm]; exact c.g.h2⟩, ⟨by rw [List.length_set]; exact c.r.len, fun j d h => ?_, fun j zs h => ?_, fun j l zs zs' q hne f1 f2 f3 f4 => ?_⟩, ⟨c.x.bs, c.x.fr, fun a n1 n2 h => by rw [upd_ne fun z => h (by rw [z]; exact h0)]; exact c.x.kp a n1 n2 h⟩, fun j zs q f1 f2 => ?_⟩
  · intro a o ha
    rw [upd_ne fun z => by rw [z, h3] at ha; cases ha]
    exact c.g.sub a o ha
  · by_cases hj : i = j
    · subst hj
      rw [List.getElem?_set_self hl] at h; cases h
    · rw [List.getElem?_set_ne hj] at h
      exact c.r.im j d h
  · by_cases hj : i = j
    · subst hj
      rw [List.getElem?_set_self hl] at h; cases h
      exact ⟨p, ws, e2, upd_same, h3, h4, h5, r⟩
    · rw [List.getElem?_set_ne hj] at h
      obtain ⟨q, us, g1, g2, g3, g4, g5, g6⟩ := c.r.ow j zs h
      exact ⟨q, us, g1, by rw [upd_ne fun z => by rw [z] at g1; exact c.r.dj i j xs zs p hj e h e2 g1]; exact g2, g3, g4, g5, g6⟩
  · by_cases hj : i = j
    · subst hj
      rw [List.getElem?_set_ne hne] at f2
      rw [e2] at f3; cases f3
      exact c.r.dj i l xs zs' p hne e f2 e2 f4
    · rw [List.getElem?_set_ne hj] at f1
      by_cases hl2 : i = l
      · subst hl2
        rw [e2] at f4; cases f4
        exact c.r.dj j i zs xs p hne f1 e f3 e2
      · rw [List.getElem?_set_ne hl2] at f2
        exact c.r.dj j l zs zs' q hne f1 f2 f3 f4
  · by_cases hj : i = j
    · subst hj
      rw [e2] at f2; cases f2
      exact h0
    · rw [List.getElem?_set_ne hj] at f1
      exact c.nw j zs q f1 f2
/-- an own list becomes a datum -/
theorem Cur.frz {xs : List D} (c : Cur Y bp bq B0 H0 B H ρ σ b) {i : Nat} (e : ρ[i]? = some (.ow xs)) : ∃ B', Cur Y bp bq B0 H0 B' H (ρ.set i (.im (.lst xs))) σ b := by
  obtain ⟨p, vs, h1, h2, h3, h4, h5, h6⟩ := c.r.ow i xs e
  have h0 := c.nw i xs p e h1
  have hl : i < ρ.length := (List.getElem?_eq_some_iff.mp e).1
  have hB : Same B (L2.upd B p (.lst vs)) := same_upd h3
  refine ⟨L2.upd B p (.lst vs), ⟨?_, by rw [upd_ne h4.symm]; exact c.g.b1, by rw [upd_ne h5.symm]; exact c.g.b2, c.g.h1, c.g.h2⟩, ⟨by rw [List.length_set]; exact c.r.len, fun j d h => ?_, fun j zs h => ?_, fun j l zs zs' q hne f1 f2 f3 f4 => ?_⟩, ⟨c.x.bs.trans hB, fun a n1 n2 => ?_, c.x.kp⟩, fun j zs q f1 f2 => ?_⟩
  · intro a o ha
    by_cases z : a = p
    · subst z; rw [upd_same] at ha; rw [h2]; exact ha
    · rw [upd_ne z] at ha; exact c.g.sub a o ha
  · by_cases hj : i = j
    · subst hj
      rw [List.getElem?_set_self hl] at h; cases h
      refine ⟨.ref p, h1, ?_⟩
      simp only [Rep]
      exact ⟨p, vs, rfl, upd_same, RepL.mono hB _ _ h6⟩
    · rw [List.getElem?_set_ne hj] at h
      obtain ⟨v, g1, g2⟩ := c.r.im j d h
      exact ⟨v, g1, Rep.mono hB _ _ g2⟩
  · by_cases hj : i = j
    · subst hj
      rw [List.getElem?_set_self hl] at h; cases h
    · rw [List.getElem?_set_ne hj] at h
      obtain ⟨q, us, g1, g2, g3, g4, g5, g6⟩ := c.r.ow j zs h
      exact ⟨q, us, g1, g2, by rw [upd_ne fun z => by rw [z] at g1; exact c.r.dj i j xs zs p hj e h h1 g1]; exact g3, g4, g5, RepL.mono hB _ _ g6⟩
  · by_cases hj : i = j
    · subst hj
      rw [List.getElem?_set_self hl] at f1; cases f1
    · rw [List.getElem?_set_ne hj] at f1
      by_cases hl2 : i = l
      · subst hl2
        rw [List.getElem?_set_self hl] at f2; cases f2
      · rw [List.getElem?_set_ne hl2] at f2
        exact c.r.dj j l zs zs' q hne f1 f2 f3 f4
  · by_cases z : a = p
    · rw [z]; exact h0
    · rw [upd_ne z] at n1; exact c.x.fr a n1 n2
  · by_cases hj : i = j
    · subst hj
      rw [List.getElem?_set_self hl] at f1; cases f1
    · rw [List.getElem?_set_ne hj] at f1
      exact c.nw j zs q f1 f2
end
end PL

set_option autoImplicit false
set_option linter.all false
set_option maxRecDepth 100000
set_option maxHeartbeats 4000000
/-! PL12: the statements' soundness. -/
namespace PL
open PySem PySem.Spec PyProof.Rows L2
section
variable {β : Type} {Y : Sys β} {k : Nat} {N : List PySem.Str} {sc : Scope} {X : Cx} {md : Md}
def FnT (X : Cx) : Prop := ∀ x, X.fn x = true
def Calls (Y : Sys β) (k : Nat) : Prop := ∀ x n, Y.ar x = some n → Callee Y k x n
theorem lc_shape {e : E} {md : Md} {elt : Expr} {gs : List Comprehension} {scope : Scope} {pos : Pos} (h : chkE Y.ar Y.fr N e md sc (.ListComp elt gs scope pos) = true) : ∃ e' t ik es cs own, e = .comp e' t ik es cs own := by
  cases e <;> first | exact ⟨_, _, _, _, _, _, rfl⟩ | (simp [chkE] at h; done) | skip
theorem sw_false {e : E} {md : Md} {v : Expr} {tg : Option Expr} {l : Nat} {env : PySem.Env} (h : chkE Y.ar Y.fr N e md sc v = true) (hv : ∀ a b c d, v ≠ .ListComp a b c d) : swapsWith v tg l env = pure false := by
  cases v with
  | ListComp a b c d => exact absurd rfl (hv a b c d)
  | SetComp a b c d => cases e <;> simp [chkE] at h
  | DictComp a b c d e' => cases e <;> simp [chkE] at h
  | _ => rfl
/-- name = value -/
theorem set_ok (O : Y.Ok) (F : Calls Y k) (C : CxOk Y k N sc X) (hf : FnT X) {i : Nat} {y : PySem.Str} {py pos : Pos} {e : E} {v : Expr} (h : chkE Y.ar Y.fr N e md sc v = true) (hi : N[i]? = some y) (hy : locB sc y = true) :
    PS X (.Assign [.Name y py] v pos) (tAsg (lE Y k md e) (gName i)) := by
  have hpe := (snd O F e md sc v h X C).1
  have hloc : L2.Loc X.env.scope y := by rw [C.xsc]; exact loc_of hy
  have hN : X.N.Nodup := by rw [C.xN]; exact C.nd
  have hi' : X.N[i]? = some y := by rw [C.xN]; exact hi
  by_cases hv : ∃ a b c d, v = .ListComp a b c d
  · obtain ⟨elt, gs, scope, pos', rfl⟩ := hv
    obtain ⟨e', t, ik, es, cs, own, rfl⟩ := lc_shape h
    obtain ⟨elt', tg, it, ifs, scope', pos'', ev, P⟩ := comp_parts O (snd O F e') (sndL O F es) (sndL O F cs) h C
    cases ev
    have hsw : ∃ t : Bool, swapsWith (.ListComp elt [⟨tg, it, ifs, 0⟩] scope pos') (some (.Name y py)) pos.line X.env = pure t ∧ (t = true → X.env.kindOf y = some .local) := by
      refine ⟨X.env.blockKind == .function && X.env.kindOf y == some .local && py.line == (Expr.ListComp elt [⟨tg, it, ifs, 0⟩] scope pos').pos.line && !(scope.names.any fun (n, k) => n == y && (k == .local || k == .cell)), rfl, fun h => ?_⟩
      simp only [Bool.and_eq_true] at h
      have h1 := h.1.1.2
      cases q : X.env.kindOf y with
      | none => rw [q] at h1; cases h1
      | some kk => rw [q] at h1; cases kk <;> first | rfl | cases h1
    obtain ⟨t', hsw, hl⟩ := hsw
    cases t' with
    | false => exact ps_set hN hi' hloc hpe hsw (.inl (hf y))
    | true =>
      refine PS.imp (ps_setLc (own := ownS N own) (wi := lI Y k .bor ik es) (g := lG Y t) (tt := lC Y k cs) (te := lE Y k .val e') C.calm hN hi' (hl rfl) hsw P.hit P.ok P.hg P.ht P.he P.hs) fun D σ H q => ?_
      have q : lE Y k md (.comp e' t ik es cs own) σ H (fun x H1 => gName i x σ H1 D.nx) := q
      have q2 := comp_rd P.sub σ H _ q
      show tLc (lI Y k .bor ik es) (lG Y t) (lC Y k cs) (lE Y k .val e') ((ownS N own).map (·.2)) σ H (fun x H1 => gName i x σ H1 D.nx)
      rw [ownS_snd]
      exact q2
  · exact ps_set hN hi' hloc hpe (sw_false h fun a b c d z => hv ⟨a, b, c, d, z⟩) (.inl (hf y))
/-- what a target leaves of own lists -/
theorem set_ow {ρ : Env} {i j : Nat} {d : D} {xs : List D} (h : (ρ.set i (.im d))[j]? = some (.ow xs)) : j ≠ i ∧ ρ[j]? = some (.ow xs) := by
  by_cases hj : i = j
  · subst hj
    have hl : i < ρ.length := by
      have := (List.getElem?_eq_some_iff.mp h).1
      rwa [List.length_set] at this
    rw [List.getElem?_set_self hl] at h; cases h
  · rw [List.getElem?_set_ne hj] at h
    exact ⟨Ne.symm hj, h⟩
mutual
theorem bind_ow : ∀ (t : Tg) (d : D) (ρ ρ' : Env) (j : Nat) (xs : List D), bindT t d ρ = some ρ' → ρ'[j]? = some (.ow xs) → j ∉ slotsT t ∧ ρ[j]? = some (.ow xs)
  | .nm i, d, ρ, ρ', j, xs, h, e => by
    simp only [bindT, Option.some.injEq] at h; subst h
    have := set_ow e
    exact ⟨by simp [slotsT, this.1], this.2⟩
  | .tu ts, d, ρ, ρ', j, xs, h, e => by
    cases d with
    | tup ds =>
      simp only [bindT] at h
      simpa only [slotsT] using binds_ow ts ds ρ ρ' j xs h e
    | _ => simp [bindT] at h
theorem binds_ow : ∀ (ts : List Tg) (ds : List D) (ρ ρ' : Env) (j : Nat) (xs : List D), bindTs ts ds ρ = some ρ' → ρ'[j]? = some (.ow xs) → j ∉ slotsTs ts ∧ ρ[j]? = some (.ow xs)
  | [], [], ρ, ρ', j, xs, h, e => by
    simp only [bindTs, Option.some.injEq] at h; subst h
    exact ⟨by simp [slotsTs], e⟩
  | [], _ :: _, _, _, _, _, h, _ => by simp [bindTs] at h
  | _ :: _, [], _, _, _, _, h, _ => by simp [bindTs] at h
  | t :: ts, d :: ds, ρ, ρ', j, xs, h, e => by
    simp only [bindTs, Option.bind_eq_some_iff] at h
    obtain ⟨ρ1, h1, h2⟩ := h
    have a := binds_ow ts ds ρ1 ρ' j xs h2 e
    have c := bind_ow t d ρ ρ1 j xs h1 a.2
    exact ⟨by simp only [slotsTs, List.mem_append, not_or]; exact ⟨c.1, a.1⟩, c.2⟩
end
theorem Cur.tg {bp bq : Addr} {B0 H0 B H : Hp} {ρ ρ' : Env} {σ : L2.St} {b : β} {t : Tg} {d : D} {v : V} {Q : L2.St → Hp → Prop} (c : Cur Y bp bq B0 H0 B H ρ σ b) (hr : Rep Y.K Y.mg bp B d v) (e : bindT t d ρ = some ρ')
    (q : ∀ σ', Cur Y bp bq B0 H0 B H ρ' σ' b → Q σ' H) : lG Y t v σ H Q :=
  ⟨bp, bq, B, b, ρ, d, ρ', c.g, c.r, hr, e, fun σ' r' l' s' => q σ' ⟨c.g, r', c.x, fun i xs p e1 e2 => by
    have h := bind_ow t d ρ ρ' i xs e e1
    rw [s' i h.1] at e2
    exact c.nw i xs p h.2 e2⟩⟩
/-- an own list's new place is not another's -/
theorem Cur.fresh {bp bq : Addr} {B0 H0 B H Hb : Hp} {ρ : Env} {σ : L2.St} {b : β} (c : Cur Y bp bq B0 H0 B H ρ σ b) {p : Addr} (h : H p = none) : ∀ (j : Nat) ys q, ρ[j]? = some (.ow ys) → σ[j]? = some (some (.ref q)) → q ≠ p := fun j ys q e1 e2 z => by
  obtain ⟨p', vs, h1, h2, _⟩ := c.r.ow j ys e1
  rw [e2] at h1; cases h1
  rw [z, h] at h2; cases h2
section
variable (O : Y.Ok) (F : Calls Y k) (C : CxOk Y k N sc X) (hf : FnT X)
theorem s_asgT {t : Tg} {e : E} {ts : List Expr} {j : Nat} {p pos : Pos} {v : Expr} (O : Y.Ok) (F : Calls Y k) (C : CxOk Y k N sc X) (hf : FnT X) (ht : chkT N fb1 t sc (.Tuple ts j p) = true) (hv : chkE Y.ar Y.fr N e .val sc v = true) (hs : (match isTupX v with | some vs => noSw sc ts vs | none => true) = true) :
    PS X (.Assign [.Tuple ts j p] v pos) (lS Y (exY Y k (.asg t e))) := by
  have hpe := (snd O F e .val sc v hv X C).1
  have hg := g_tg C (fun x _ => .inl (hf x)) t _ ht
  have hsw : swapsWithSole [.Tuple ts j p] v pos.line X.env = pure false := by
    show swapsWith v (some (.Tuple ts j p)) pos.line X.env = pure false
    cases v with
    | SetComp a b c d => rfl
    | DictComp a b c d e' => rfl
    | _ => rfl
  have hst : swappedStores [.Tuple ts j p] v X.env = pure none := by
    cases v with
    | Tuple vs k2 p2 => exact sw_none C.xsc hs
    | _ => rfl
  refine PS.imp (ps_asg hpe hg hsw hst (by rw [asg1 (chkT_star ht)]; rfl)) fun D σ H q => ?_
  obtain ⟨bp, bq, B0, H0, B, ρ, b, fl, ρ', b', c, e0, w⟩ := q
  simp only [exY, ex] at e0
  obtain ⟨d, b1, e1, e2⟩ := bnd_ok e0
  obtain ⟨ρ1, b2, e3, e4⟩ := bnd_ok e2
  obtain ⟨f3, rfl⟩ := lft_ok e3
  obtain ⟨rfl, rfl, rfl⟩ := nxt_ok e4
  exact c.ev e1 fun B1 H1 v c1 r1 _ => c1.tg r1 f3 fun σ' c2 => w σ' B1 H1 c2
theorem s_asgN {i : Nat} {e : E} {y : PySem.Str} {py pos : Pos} {v : Expr} (O : Y.Ok) (F : Calls Y k) (C : CxOk Y k N sc X) (hf : FnT X) (hi : N[i]? = some y) (hy : locB sc y = true) (hv : chkE Y.ar Y.fr N e .val sc v = true) :
    PS X (.Assign [.Name y py] v pos) (lS Y (exY Y k (.asg (.nm i) e))) := by
  refine PS.imp (set_ok O F C hf hv hi hy) fun D σ H q => ?_
  obtain ⟨bp, bq, B0, H0, B, ρ, b, fl, ρ', b', c, e0, w⟩ := q
  simp only [exY, ex] at e0
  obtain ⟨d, b1, e1, e2⟩ := bnd_ok e0
  obtain ⟨ρ1, b2, e3, e4⟩ := bnd_ok e2
  obtain ⟨f3, rfl⟩ := lft_ok e3
  obtain ⟨rfl, rfl, rfl⟩ := nxt_ok e4
  simp only [bindT, Option.some.injEq] at f3; subst f3
  exact c.ev e1 fun B1 H1 v c1 r1 _ => w _ B1 H1 (c1.set r1 i)
theorem asL_lst {d : D} {xs : List D} (h : asL d = some xs) : d = .lst xs := by
  cases d <;> simp [asL] at h
  rw [h]
theorem s_own {i : Nat} {e : E} {y : PySem.Str} {py pos : Pos} {v : Expr} (O : Y.Ok) (F : Calls Y k) (C : CxOk Y k N sc X) (hf : FnT X) (hi : N[i]? = some y) (hy : locB sc y = true) (hv : chkE Y.ar Y.fr N e .own sc v = true) :
    PS X (.Assign [.Name y py] v pos) (lS Y (exY Y k (.own i e))) := by
  refine PS.imp (set_ok O F C hf hv hi hy) fun D σ H q => ?_
  obtain ⟨bp, bq, B0, H0, B, ρ, b, fl, ρ', b', c, e0, w⟩ := q
  simp only [exY, ex] at e0
  obtain ⟨d, b1, e1, e2⟩ := bnd_ok e0
  obtain ⟨xs, b2, e3, e4⟩ := bnd_ok e2
  obtain ⟨f3, rfl⟩ := lft_ok e3
  obtain ⟨rfl, rfl, rfl⟩ := nxt_ok e4
  have f3 := asL_lst f3
  subst f3
  refine ⟨bp, bq, B, ρ, b, _, _, c.g, c.r, e1, fun B1 H1 v x1 g1 r1 => ?_⟩
  obtain ⟨p, vs, rfl, h1, h2, h3, h4⟩ := r1 xs rfl
  have n1 : p ≠ bp := fun z => by rw [z, c.g.h1] at h1; cases h1
  have n2 : p ≠ bq := fun z => by rw [z, c.g.h2] at h1; cases h1
  exact w _ B1 H1 ((c.ext x1 g1).own i h2 h3 (c.x.back c.g h1) n1 n2 h4 fun j ys q _ f1 f2 => c.fresh (Hb := H) h1 j ys q f1 f2)
end
/-! ### lists changed in place -/
theorem nmB_var {i : Nat} {x : PySem.Str} {pos : Pos} (C : CxOk Y k N sc X) (h : nmB N sc i x = true) : PE X (.Name x pos) (tVar i) := by
  simp only [nmB, Bool.and_eq_true, decide_eq_true_eq] at h
  exact pe_var (i := i) (by rw [C.xN]; exact h.1) (by rw [C.xsc]; exact vis_of h.2.1) (nm_dbg h.2.2).1 (nm_dbg h.2.2).2.1
theorem getO_ok {ρ : Env} {i : Nat} {b b' : β} {xs : List D} (h : getO ρ i b = .ok xs b') : ρ[i]? = some (.ow xs) ∧ b' = b := by
  unfold getO at h
  cases q : ρ[i]? with
  | none => rw [q] at h; exact (stk_ok h).elim
  | some c =>
    rw [q] at h
    cases c with
    | ow ys => obtain ⟨rfl, rfl⟩ := ret_ok h; exact ⟨rfl, rfl⟩
    | un => exact (stk_ok h).elim
    | im d => exact (stk_ok h).elim
/-- what an own slot holds -/
theorem Cur.at {bp bq : Addr} {B0 H0 B H : Hp} {ρ : Env} {σ : L2.St} {b : β} {i : Nat} {xs : List D} (c : Cur Y bp bq B0 H0 B H ρ σ b) (e : ρ[i]? = some (.ow xs)) : ∃ p vs, σ[i]? = some (some (.ref p)) ∧ H p = some (.lst vs) ∧ RepL Y.K Y.mg bp B xs vs := by
  obtain ⟨p, vs, h1, h2, _, _, _, h6⟩ := c.r.ow i xs e
  exact ⟨p, vs, h1, h2, h6⟩
theorem Cur.stay {bp bq : Addr} {B0 H0 B H B1 H1 : Hp} {ρ : Env} {σ : L2.St} {b b1 : β} {p : Addr} {i : Nat} {xs : List D} (c : Cur Y bp bq B0 H0 B H ρ σ b) (c1 : Cur Y bp bq B0 H0 B1 H1 ρ σ b1) (e : ρ[i]? = some (.ow xs)) (e2 : σ[i]? = some (some (.ref p))) : ∃ vs, H1 p = some (.lst vs) ∧ RepL Y.K Y.mg bp B1 xs vs := by
  obtain ⟨p', vs, h1, h2, h6⟩ := c1.at e
  rw [e2] at h1; cases h1
  exact ⟨vs, h2, h6⟩
theorem bm_name {m : String} {i : Nat} {f : Expr} {cp : Pos} (h : mB N sc i m f cp = true) : ∃ x p p2, f = .Attribute (.Name x p) (sx m) p2 ∧ nmB N sc i x = true ∧ (p2.endLine == cp.line) = true := by
  unfold mB at h
  split at h
  · simp only [Bool.and_eq_true, decide_eq_true_eq] at h
    obtain ⟨h1, rfl, h2⟩ := h
    exact ⟨_, _, _, rfl, h1, h2⟩
  · cases h
theorem listTy {K : PySem.W.Frag} {H : Hp} {p : Addr} {vs : List V} (h : H p = some (.lst vs)) : tyV K "list" (.ref p) H := .inl ⟨rfl, _, SqL.of h⟩
theorem s_app {i : Nat} {e : E} {f v : Expr} {p pos : Pos} (O : Y.Ok) (F : Calls Y k) (C : CxOk Y k N sc X) (hm : mB N sc i "append" f p = true) (hv : chkE Y.ar Y.fr N e .val sc v = true) :
    PS X (.Expr (.Call f [v] [] p) pos) (lS Y (exY Y k (.app i e))) := by
  obtain ⟨x, px, p2, rfl, hn, hl⟩ := bm_name hm
  have hpe := (snd O F e .val sc v hv X C).1
  have st := notStar _ _ _ hv
  refine PS.imp (ps_expr (pe_bm (T := "list") (id := "list.append") PySem.F.plainAttrs_list PySem.F.slot_list_append PySem.F.type_list_append mt_append (nmB_var C hn) (pa_cons hpe pa_nil (star1 st)) rfl (by rw [star1 st]; rfl) hl (star1 st) (by rfl)) (by rfl)) fun D σ H q => ?_
  obtain ⟨bp, bq, B0, H0, B, ρ, b, fl, ρ', b', c, e0, w⟩ := q
  simp only [exY, ex] at e0
  obtain ⟨xs, b1, e1, e2⟩ := bnd_ok e0
  obtain ⟨g1, rfl⟩ := getO_ok e1
  obtain ⟨d, b2, e3, e4⟩ := bnd_ok e2
  split at e4
  · rename_i hz
    obtain ⟨rfl, rfl, rfl⟩ := nxt_ok e4
    obtain ⟨l, vs, h1, h2, h3⟩ := c.at g1
    refine ⟨_, h1, listTy h2, ?_⟩
    refine c.ev e3 fun B1 H1 y c1 r1 x1 => ?_
    obtain ⟨vs1, h4, h5⟩ := c.stay c1 g1 h1
    have hl := h5.length
    refine ⟨l, vs1, y, rfl, rfl, h4, by have := lim_le; omega, ?_⟩
    exact w σ B1 _ (c1.upd g1 h1 (h5.append (RepL.cons r1 RepL.nil)))
  · exact (stk_ok e4).elim
theorem s_ins {i : Nat} {k1 e : E} {f z v : Expr} {p pos : Pos} (O : Y.Ok) (F : Calls Y k) (C : CxOk Y k N sc X) (hm : mB N sc i "insert" f p = true) (hz : chkE Y.ar Y.fr N k1 .bor sc z = true) (hv : chkE Y.ar Y.fr N e .val sc v = true) :
    PS X (.Expr (.Call f [z, v] [] p) pos) (lS Y (exY Y k (.ins i k1 e))) := by
  obtain ⟨x, px, p2, rfl, hn, hl⟩ := bm_name hm
  have hpe := (snd O F e .val sc v hv X C).1
  have hpz := (snd O F k1 .bor sc z hz X C).1
  have st := notStar _ _ _ hv
  have sz := notStar _ _ _ hz
  refine PS.imp (ps_expr (pe_bm (T := "list") (id := "list.insert") PySem.F.plainAttrs_list PySem.F.slot_list_insert PySem.F.type_list_insert mt_insert (nmB_var C hn) (pa_cons hpz (pa_cons hpe pa_nil (star1 st)) (star1 sz)) rfl (by rw [star1 sz, star1 st]; rfl) hl (star1 sz) (by rw [star1 st]; rfl)) (by rfl)) fun D σ H q => ?_
  obtain ⟨bp, bq, B0, H0, B, ρ, b, fl, ρ', b', c, e0, w⟩ := q
  simp only [exY, ex] at e0
  obtain ⟨xs, b1, e1, e2⟩ := bnd_ok e0
  obtain ⟨g1, rfl⟩ := getO_ok e1
  obtain ⟨dz, b2, e3, e4⟩ := bnd_ok e2
  obtain ⟨kk, b3, e5, e6⟩ := bnd_ok e4
  obtain ⟨f5, hb5⟩ := lft_ok e5
  subst hb5
  obtain ⟨d, b4, e7, e8⟩ := bnd_ok e6
  cases dz with
  | int kk' =>
    simp only [toI, Option.some.injEq] at f5; subst f5
    split at e8
    · rename_i hz
      obtain ⟨rfl, rfl, rfl⟩ := nxt_ok e8
      obtain ⟨l, vs, h1, h2, h3⟩ := c.at g1
      refine ⟨_, h1, listTy h2, ?_⟩
      refine c.ev e3 fun B1 H1 y1 c1 r1 x1 => ?_
      have r1 : RepT Y.K Y.mg bp B1 H1 bq (.int kk') y1 := r1
      rw [r1.int]
      refine c1.ev e7 fun B2 H2 y c2 r2 x2 => ?_
      obtain ⟨vs1, h4, h5⟩ := c.stay c2 g1 h1
      have hl := h5.length
      refine ⟨l, vs1, kk', y, rfl, rfl, h4, by have := lim_le; omega, by omega, by omega, ?_⟩
      exact w σ B2 _ (c2.upd g1 h1 (((h5.take _).append (RepL.cons r2 RepL.nil)).append (h5.drop _)))
    · exact (stk_ok e8).elim
  | _ => simp [toI] at f5
theorem s_ext {i : Nat} {e : E} {f v : Expr} {p pos : Pos} (O : Y.Ok) (F : Calls Y k) (C : CxOk Y k N sc X) (hm : mB N sc i "extend" f p = true) (hv : chkE Y.ar Y.fr N e .bor sc v = true) :
    PS X (.Expr (.Call f [v] [] p) pos) (lS Y (exY Y k (.ext i e))) := by
  obtain ⟨x, px, p2, rfl, hn, hl⟩ := bm_name hm
  have hpe := (snd O F e .bor sc v hv X C).1
  have st := notStar _ _ _ hv
  refine PS.imp (ps_expr (pe_bm (T := "list") (id := "list.extend") PySem.F.plainAttrs_list PySem.F.slot_list_extend PySem.F.type_list_extend mt_extend (nmB_var C hn) (pa_cons hpe pa_nil (star1 st)) rfl (by rw [star1 st]; rfl) hl (star1 st) (by rfl)) (by rfl)) fun D σ H q => ?_
  obtain ⟨bp, bq, B0, H0, B, ρ, b, fl, ρ', b', c, e0, w⟩ := q
  simp only [exY, ex] at e0
  obtain ⟨xs, b1, e1, e2⟩ := bnd_ok e0
  obtain ⟨g1, rfl⟩ := getO_ok e1
  obtain ⟨d, b2, e3, e4⟩ := bnd_ok e2
  obtain ⟨ys, b3, e5, e6⟩ := bnd_ok e4
  obtain ⟨f5, hb5⟩ := lft_ok e5
  subst hb5
  have f5 := asL_lst f5
  subst f5
  split at e6
  · rename_i hz
    obtain ⟨rfl, rfl, rfl⟩ := nxt_ok e6
    obtain ⟨l, vs, h1, h2, h3⟩ := c.at g1
    refine ⟨_, h1, listTy h2, ?_⟩
    refine c.ev e3 fun B1 H1 y c1 r1 x1 => ?_
    have r1 : RepT Y.K Y.mg bp B1 H1 bq (.lst ys) y := r1
    obtain ⟨a, ws, rfl, h6, h7⟩ := r1.lst c1.g.sub
    obtain ⟨vs1, h4, h5⟩ := c.stay c1 g1 h1
    have hl := h5.length
    have hl2 := h7.length
    refine ⟨l, a, vs1, ws, rfl, rfl, h4, h6, by have := lim_le; omega, ?_⟩
    exact w σ B1 _ (c1.upd g1 h1 (h5.append h7))
  · exact (stk_ok e6).elim
theorem getV_ok {ρ : Env} {i : Nat} {b b' : β} {d : D} (h : getV ρ i b = .ok d b') : ρ[i]? = some (.im d) ∧ b' = b := by
  unfold getV at h
  cases q : ρ[i]? with
  | none => rw [q] at h; exact (stk_ok h).elim
  | some c =>
    rw [q] at h
    cases c with
    | im ys => obtain ⟨rfl, rfl⟩ := ret_ok h; exact ⟨rfl, rfl⟩
    | un => exact (stk_ok h).elim
    | ow d => exact (stk_ok h).elim
theorem s_aug {i : Nat} {o : Bop} {e : E} {y : PySem.Str} {py pos : Pos} {p : Operator} {v : Expr} (O : Y.Ok) (F : Calls Y k) (C : CxOk Y k N sc X) (hf : FnT X) (ho : opB o p = true) (hi : N[i]? = some y) (hy : locB sc y = true) (hv : chkE Y.ar Y.fr N e .bor sc v = true) :
    PS X (.AugAssign (.Name y py) p v pos) (lS Y (exY Y k (.aug i o e))) := by
  have hpe := (snd O F e .bor sc v hv X C).1
  have hloc : L2.Loc X.env.scope y := by rw [C.xsc]; exact loc_of hy
  have hN : X.N.Nodup := by rw [C.xN]; exact C.nd
  have hi' : X.N[i]? = some y := by rw [C.xN]; exact hi
  by_cases ha : o = .add ∨ o = .sub
  · rw [opB_eq ho]
    have base : ∀ (f : Int → Int → Int), (∀ x y, bop o (.int x) (.int y) = some (.int (f x y))) → OpR X (inplaceOp (pyB o)) (rI0 fun x y => .int (f x y)) → PS X (.AugAssign (.Name y py) (pyB o) v pos) (lS Y (exY Y k (.aug i o e))) := fun f hfo ho => by
      refine PS.imp (ps_aug hN hi' hloc hpe (ti := rI0 fun x y => .int (f x y)) ho (.inl (hf y))) fun D σ H q => ?_
      obtain ⟨bp, bq, B0, H0, B, ρ, b, fl, ρ', b', c, e0, w⟩ := q
      simp only [exY, ex] at e0
      obtain ⟨d1, b1, e1, e2⟩ := bnd_ok e0
      obtain ⟨g1, rfl⟩ := getV_ok e1
      obtain ⟨d2, b2, e3, e4⟩ := bnd_ok e2
      obtain ⟨d3, b3, e5, e6⟩ := bnd_ok e4
      obtain ⟨f5, hb5⟩ := lft_ok e5
      subst hb5
      obtain ⟨rfl, rfl, rfl⟩ := nxt_ok e6
      rw [if_pos ha] at f5
      obtain ⟨v1, h1, r1⟩ := c.r.im i d1 g1
      refine ⟨v1, h1, c.ev e3 fun B1 H1 y1 c1 r2 x1 => ?_⟩
      have r2 : RepT Y.K Y.mg bp B1 H1 bq d2 y1 := r2
      cases d1 with
      | int n1 =>
        cases d2 with
        | int n2 =>
          simp only [toI, Option.bind_some, hfo, Option.some.injEq] at f5
          subst f5
          simp only [Rep] at r1
          exact ⟨n1, n2, r1, r2.int, w _ B1 H1 (c1.set (d := .int (f n1 n2)) (v := .int (f n1 n2)) (by simp only [Rep]) i)⟩
        | _ => simp [toI] at f5
      | _ => simp [toI] at f5
    rcases ha with rfl | rfl
    · exact base _ (fun _ _ => rfl) iop_add
    · exact base _ (fun _ _ => rfl) iop_sub
  · refine PS.imp ps_never fun D σ H q => ?_
    obtain ⟨bp, bq, B0, H0, B, ρ, b, fl, ρ', b', c, e0, w⟩ := q
    simp only [exY, ex] at e0
    obtain ⟨d1, b1, e1, e2⟩ := bnd_ok e0
    obtain ⟨d2, b2, e3, e4⟩ := bnd_ok e2
    obtain ⟨d3, b3, e5, e6⟩ := bnd_ok e4
    obtain ⟨f5, hb5⟩ := lft_ok e5
    rw [if_neg ha] at f5
    simp at f5
theorem s_agl {i : Nat} {e : E} {y : PySem.Str} {py pos : Pos} {v : Expr} (O : Y.Ok) (F : Calls Y k) (C : CxOk Y k N sc X) (hf : FnT X) (hi : N[i]? = some y) (hy : locB sc y = true) (hv : chkE Y.ar Y.fr N e .bor sc v = true) :
    PS X (.AugAssign (.Name y py) .Add v pos) (lS Y (exY Y k (.agl i e))) := by
  have hpe := (snd O F e .bor sc v hv X C).1
  have hloc : L2.Loc X.env.scope y := by rw [C.xsc]; exact loc_of hy
  have hN : X.N.Nodup := by rw [C.xN]; exact C.nd
  have hi' : X.N[i]? = some y := by rw [C.xN]; exact hi
  refine PS.imp (ps_aug hN hi' hloc hpe (ti := rExt2) iop_ext (.inl (hf y))) fun D σ H q => ?_
  obtain ⟨bp, bq, B0, H0, B, ρ, b, fl, ρ', b', c, e0, w⟩ := q
  simp only [exY, ex] at e0
  obtain ⟨xs, b1, e1, e2⟩ := bnd_ok e0
  obtain ⟨g1, rfl⟩ := getO_ok e1
  obtain ⟨d, b2, e3, e4⟩ := bnd_ok e2
  obtain ⟨ys, b3, e5, e6⟩ := bnd_ok e4
  obtain ⟨f5, hb5⟩ := lft_ok e5
  subst hb5
  have f5 := asL_lst f5
  subst f5
  split at e6
  · rename_i hz
    obtain ⟨rfl, rfl, rfl⟩ := nxt_ok e6
    obtain ⟨l, vs, h1, h2, h3⟩ := c.at g1
    refine ⟨_, h1, ?_⟩
    refine c.ev e3 fun B1 H1 y c1 r1 x1 => ?_
    have r1 : RepT Y.K Y.mg bp B1 H1 bq (.lst ys) y := r1
    obtain ⟨a, ws, rfl, h6, h7⟩ := r1.lst c1.g.sub
    obtain ⟨vs1, h4, h5⟩ := c.stay c1 g1 h1
    have hl := h5.length
    have hl2 := h7.length
    refine ⟨l, a, vs1, ws, rfl, rfl, h4, h6, by have := lim_le; omega, ?_⟩
    have hs : σ.set i (some (.ref l)) = σ := by
      apply List.ext_getElem?
      intro j
      by_cases hj : i = j
      · subst hj
        rw [List.getElem?_set_self (List.getElem?_eq_some_iff.mp h1).1, h1]
      · rw [List.getElem?_set_ne hj]
    show D.nx (σ.set i (some (.ref l))) _
    rw [hs]
    exact w σ B1 _ (c1.upd g1 h1 (h5.append h7))
  · exact (stk_ok e6).elim
theorem s_pop {i : Nat} {t : Tg} {tg f : Expr} {p pos : Pos} (O : Y.Ok) (F : Calls Y k) (C : CxOk Y k N sc X) (hf : FnT X) (hm : mB N sc i "pop" f p = true) (ht : chkT N fb1 t sc tg = true) :
    PS X (.Assign [tg] (.Call f [] [] p) pos) (lS Y (exY Y k (.pop t i))) := by
  obtain ⟨x, px, p2, rfl, hn, hl⟩ := bm_name hm
  have hg := g_tg C (fun x _ => .inl (hf x)) t _ ht
  refine PS.imp (ps_asg (pe_bm0 (T := "list") (id := "list.pop") PySem.F.plainAttrs_list PySem.F.slot_list_pop PySem.F.type_list_pop mt_pop (nmB_var C hn) rfl hl) hg (by cases tg <;> rfl) (by cases tg <;> rfl) (by rw [asg1 (chkT_star ht)]; rfl)) fun D σ H q => ?_
  obtain ⟨bp, bq, B0, H0, B, ρ, b, fl, ρ', b', c, e0, w⟩ := q
  simp only [exY, ex] at e0
  obtain ⟨xs, b1, e1, e2⟩ := bnd_ok e0
  obtain ⟨g1, rfl⟩ := getO_ok e1
  cases hx : xs.getLast? with
  | none => rw [hx] at e2; exact (stk_ok e2).elim
  | some v =>
    rw [hx] at e2
    obtain ⟨ρ1, b2, e3, e4⟩ := bnd_ok e2
    obtain ⟨f3, hb3⟩ := lft_ok e3
    subst hb3
    obtain ⟨rfl, rfl, rfl⟩ := nxt_ok e4
    obtain ⟨l, vs, h1, h2, h3⟩ := c.at g1
    rw [List.getLast?_eq_getElem?] at hx
    obtain ⟨u, h4, h5⟩ := h3.get hx
    rw [h3.length] at h4
    refine ⟨_, h1, listTy h2, l, vs, u, rfl, rfl, h2, h4, ?_⟩
    exact (c.upd g1 h1 h3.dropLast).tg h5 f3 fun σ' c' => w σ' B _ c'
theorem setIx_at {K : PySem.W.Frag} {mg : PySem.Str → Option Value} {bp : Addr} {B : Hp} {xs ys : List D} {vs : List V} {z d : D} {v : V} (r : RepL K mg bp B xs vs) (h : setIx xs z d = some ys) (hr : Rep K mg bp B d v) :
    ∃ kk j, z = .int kk ∧ ixN vs.length kk = some j ∧ RepL K mg bp B ys (vs.set j v) := by
  have hl := r.length
  cases z with
  | int kk =>
    simp only [setIx] at h
    unfold ixN
    by_cases h0 : 0 ≤ kk
    · rw [if_pos h0] at h
      split at h
      · rename_i h1
        simp only [Option.some.injEq] at h; subst h
        exact ⟨kk, kk.toNat, rfl, by rw [if_pos h0, if_pos (by omega)], RepL.set hr _ r⟩
      · cases h
    · rw [if_neg h0] at h
      split at h
      · rename_i h1
        simp only [Option.some.injEq] at h; subst h
        exact ⟨kk, (kk + xs.length).toNat, rfl, by rw [if_neg h0, if_pos (by omega), hl], RepL.set hr _ r⟩
      · cases h
  | _ => simp [setIx] at h
theorem s_sto {i : Nat} {k1 e : E} {y : PySem.Str} {py p2 pos : Pos} {z v : Expr} (O : Y.Ok) (F : Calls Y k) (C : CxOk Y k N sc X) (hn : nmB N sc i y = true) (hz : chkE Y.ar Y.fr N k1 .bor sc z = true) (hv : chkE Y.ar Y.fr N e .val sc v = true) :
    PS X (.Assign [.Subscript (.Name y py) z p2] v pos) (lS Y (exY Y k (.sto i k1 e))) := by
  have hpe := (snd O F e .val sc v hv X C).1
  have hpz := (snd O F k1 .bor sc z hz X C).1
  have hps := plain_of (notSet hz).2
  refine PS.imp (ps_asg hpe (pg_sub (nmB_var C hn) hpz set_list (by intro v; cases z <;> first | rfl | exact absurd rfl ((notSet hz).2 _ _ _ _))) (by cases v <;> rfl) (by cases v <;> rfl) rfl) fun D σ H q => ?_
  obtain ⟨bp, bq, B0, H0, B, ρ, b, fl, ρ', b', c, e0, w⟩ := q
  simp only [exY, ex] at e0
  obtain ⟨d, b1, e1, e2⟩ := bnd_ok e0
  obtain ⟨xs, b2, e3, e4⟩ := bnd_ok e2
  obtain ⟨g1, hb2⟩ := getO_ok e3
  subst hb2
  obtain ⟨dz, b3, e5, e6⟩ := bnd_ok e4
  obtain ⟨ys, b4, e7, e8⟩ := bnd_ok e6
  obtain ⟨f7, hb7⟩ := lft_ok e7
  subst hb7
  obtain ⟨rfl, rfl, rfl⟩ := nxt_ok e8
  refine c.ev e1 fun B1 H1 u c1 r1 x1 => ?_
  obtain ⟨l, vs, h1, h2, h3⟩ := c1.at g1
  refine ⟨_, h1, c1.ev e5 fun B2 H2 u2 c2 r2 x2 => ?_⟩
  obtain ⟨vs2, h4, h5⟩ := c1.stay c2 g1 h1
  have r2 : RepT Y.K Y.mg bp B2 H2 bq dz u2 := r2
  obtain ⟨kk, j, rfl, h6, h7⟩ := setIx_at h5 f7 (Rep.mono x2.bs _ _ r1)
  exact ⟨l, vs2, kk, j, rfl, r2.int, h4, h6, w σ B2 _ (c2.upd g1 h1 h7)⟩
end
end PL

set_option autoImplicit false
set_option linter.all false
set_option maxRecDepth 100000
set_option maxHeartbeats 4000000
/-! PL13: stores of two and three, the blocks, the join. -/
namespace PL
open PySem PySem.Spec PyProof.Rows L2
section
variable {β : Type} {Y : Sys β} {k : Nat} {N : List PySem.Str} {sc : Scope} {X : Cx} {md : Md}
/-- an expression's value, on the way: told from here -/
theorem Cur.ev2 {bp bq : Addr} {B0 H0 B H : Hp} {ρ : Env} {σ : L2.St} {b : β} {md : Md} {e : E} {d : D} {b1 : β} {Q : VK} (c : Cur Y bp bq B0 H0 B H ρ σ b) (h : evY Y k e ρ b = .ok d b1)
    (q : ∀ B1 H1 v, Cur Y bp bq B0 H0 B1 H1 ρ σ b1 → RepM Y.K Y.mg bp bq md H B1 H1 d v → Ext bp bq B B1 H H1 → Good Y bp bq B1 H1 b1 → Q v H1) : lE Y k md e σ H Q :=
  ⟨bp, bq, B, ρ, b, d, b1, c.g, c.r, h, fun B1 H1 v x g r => q B1 H1 v (c.ext x g) r x g⟩
theorem Cur.put {bp bq : Addr} {B0 H0 Bs Hs B H : Hp} {ρ : Env} {σ : L2.St} {bs b : β} {o : Bool} {d : D} {v : V} {cell : Cell} (cs : Cur Y bp bq B0 H0 Bs Hs ρ σ bs) (x : Ext bp bq Bs B Hs H) (g : Good Y bp bq B H b)
    (r : RepM Y.K Y.mg bp bq (mdO o) Hs B H d v) (hc : cellOf o d = some cell) (i : Nat) : Cur Y bp bq B0 H0 B H (ρ.set i cell) (σ.set i (some v)) b := by
  cases o with
  | false =>
    simp only [cellOf, Bool.false_eq_true, if_false, Option.some.injEq] at hc
    subst hc
    exact (cs.ext x g).set (show Rep Y.K Y.mg bp B d v from r) i
  | true =>
    simp only [cellOf, if_true, Option.map_eq_some_iff] at hc
    obtain ⟨xs, h1, rfl⟩ := hc
    have h1 := asL_lst h1
    subst h1
    obtain ⟨p, vs, rfl, h1, h2, h3, h4⟩ := (show RepM Y.K Y.mg bp bq .own Hs B H (.lst xs) v from r) xs rfl
    have n1 : p ≠ bp := fun z => by rw [z, cs.g.h1] at h1; cases h1
    have n2 : p ≠ bq := fun z => by rw [z, cs.g.h2] at h1; cases h1
    exact (cs.ext x g).own i h2 h3 (cs.x.back cs.g h1) n1 n2 h4 fun j ys q _ f1 f2 => cs.fresh (Hb := Hs) h1 j ys q f1 f2
theorem mdO_star {o : Bool} {e : E} {v : Expr} (h : chkE Y.ar Y.fr N e (mdO o) sc v = true) : strT v = false := notStar _ _ _ h
theorem s_par {i j : Nat} {oi oj : Bool} {a b : E} {x y : PySem.Str} {px py pt pos p2 : Pos} {kt k2 : Nat} {v w : Expr} (O : Y.Ok) (F : Calls Y k) (C : CxOk Y k N sc X) (hi : N[i]? = some x) (hj : N[j]? = some y) (hij : i ≠ j) (hx : loclB sc x = true) (hy : loclB sc y = true)
    (hs : yesSw sc [.Name x px, .Name y py] [v, w] = true) (ha : chkE Y.ar Y.fr N a (mdO oi) sc v = true) (hb : chkE Y.ar Y.fr N b (mdO oj) sc w = true) :
    PS X (.Assign [.Tuple [.Name x px, .Name y py] kt pt] (.Tuple [v, w] k2 p2) pos) (lS Y (exY Y k (.par i j oi oj a b))) := by
  have pa := (snd O F a _ sc v ha X C).1
  have pb := (snd O F b _ sc w hb X C).1
  have nxy : x ≠ y := fun z => by
    subst z
    have := C.nd
    exact hij ((List.getElem?_inj (List.getElem?_eq_some_iff.mp hi).1 this).mp (hi.trans hj.symm))
  refine PS.imp (ps_par C.calm (by rw [C.xN]; exact C.nd) (by rw [C.xN]; exact hi) (by rw [C.xN]; exact hj) hij (by rw [C.xsc]; exact locl_look hx) (by rw [C.xsc]; exact locl_look hy) (pa_cons pa (pa_cons pb pa_nil (star1 (mdO_star hb))) (star1 (mdO_star ha))) (sw_two C.xsc C.kind nxy hs) rfl) fun D σ H q => ?_
  obtain ⟨bp, bq, B0, H0, B, ρ, b0, fl, ρ', b', c, e0, wk⟩ := q
  simp only [exY, ex] at e0
  obtain ⟨d1, b1, e1, e2⟩ := bnd_ok e0
  obtain ⟨d2, b2, e3, e4⟩ := bnd_ok e2
  obtain ⟨c1, b3, e5, e6⟩ := bnd_ok e4
  obtain ⟨f5, hb5⟩ := lft_ok e5
  subst hb5
  obtain ⟨c2, b4, e7, e8⟩ := bnd_ok e6
  obtain ⟨f7, hb7⟩ := lft_ok e7
  subst hb7
  obtain ⟨rfl, rfl, rfl⟩ := nxt_ok e8
  refine c.ev2 e1 fun B1 H1 u1 k1 r1 x1 g1 => ?_
  refine k1.ev2 e3 fun B2 H2 u2 k2 r2 x2 g2 => ?_
  refine ⟨u1, u2, rfl, ?_⟩
  exact wk _ B2 H2 ((c.put x1 g1 r1 f5 i).put x2 g2 r2 f7 j)
theorem s_par3 {i j l : Nat} {oi oj ol : Bool} {a b e : E} {x y z : PySem.Str} {px py pz pt pos p2 : Pos} {kt k2 : Nat} {u v w : Expr} (O : Y.Ok) (F : Calls Y k) (C : CxOk Y k N sc X) (hi : N[i]? = some x) (hj : N[j]? = some y) (hl : N[l]? = some z) (hij : i ≠ j) (hil : i ≠ l) (hjl : j ≠ l)
    (hx : loclB sc x = true) (hy : loclB sc y = true) (hz : loclB sc z = true)
    (hs : yesSw sc [.Name x px, .Name y py, .Name z pz] [u, v, w] = true) (ha : chkE Y.ar Y.fr N a (mdO oi) sc u = true) (hb : chkE Y.ar Y.fr N b (mdO oj) sc v = true) (he : chkE Y.ar Y.fr N e (mdO ol) sc w = true) :
    PS X (.Assign [.Tuple [.Name x px, .Name y py, .Name z pz] kt pt] (.Tuple [u, v, w] k2 p2) pos) (lS Y (exY Y k (.par3 i j l oi oj ol a b e))) := by
  have pa := (snd O F a _ sc u ha X C).1
  have pb := (snd O F b _ sc v hb X C).1
  have pe := (snd O F e _ sc w he X C).1
  have ne : ∀ {i j : Nat} {x y : PySem.Str}, N[i]? = some x → N[j]? = some y → i ≠ j → x ≠ y := fun {i j x y} hi hj hij z => by
    subst z
    have := C.nd
    exact hij ((List.getElem?_inj (List.getElem?_eq_some_iff.mp hi).1 this).mp (hi.trans hj.symm))
  refine PS.imp (ps_par3 C.calm (by rw [C.xN]; exact C.nd) (by rw [C.xN]; exact hi) (by rw [C.xN]; exact hj) (by rw [C.xN]; exact hl) hij hil hjl (by rw [C.xsc]; exact locl_look hx) (by rw [C.xsc]; exact locl_look hy) (by rw [C.xsc]; exact locl_look hz) (pa_cons pa (pa_cons pb (pa_cons pe pa_nil (star1 (mdO_star he))) (star1 (mdO_star hb))) (star1 (mdO_star ha))) (sw_three C.xsc C.kind (ne hi hj hij) (ne hi hl hil) (ne hj hl hjl) hs) rfl) fun D σ H q => ?_
  obtain ⟨bp, bq, B0, H0, B, ρ, b0, fl, ρ', b', c, e0, wk⟩ := q
  simp only [exY, ex] at e0
  obtain ⟨d1, b1, e1, e2⟩ := bnd_ok e0
  obtain ⟨d2, b2, e3, e4⟩ := bnd_ok e2
  obtain ⟨d3, b3, e5, e6⟩ := bnd_ok e4
  obtain ⟨c1, b4, e7, e8⟩ := bnd_ok e6
  obtain ⟨f7, hb7⟩ := lft_ok e7
  subst hb7
  obtain ⟨c2, b5, e9, e10⟩ := bnd_ok e8
  obtain ⟨f9, hb9⟩ := lft_ok e9
  subst hb9
  obtain ⟨c3, b6, e11, e12⟩ := bnd_ok e10
  obtain ⟨f11, hb11⟩ := lft_ok e11
  subst hb11
  obtain ⟨rfl, rfl, rfl⟩ := nxt_ok e12
  refine c.ev2 e1 fun B1 H1 u1 k1 r1 x1 g1 => ?_
  refine k1.ev2 e3 fun B2 H2 u2 k2 r2 x2 g2 => ?_
  refine k2.ev2 e5 fun B3 H3 u3 k3 r3 x3 g3 => ?_
  refine ⟨u1, u2, u3, rfl, ?_⟩
  exact wk _ B3 H3 (((c.put x1 g1 r1 f7 i).put x2 g2 r2 f9 j).put x3 g3 r3 f11 l)
theorem s_parT {i j : Nat} {oi oj : Bool} {a b : E} {x y : PySem.Str} {px py pt pos p2 : Pos} {kt k2 : Nat} {v w : Expr} (O : Y.Ok) (F : Calls Y k) (C : CxOk Y k N sc X) (hf : FnT X) (hi : N[i]? = some x) (hj : N[j]? = some y) (hij : i ≠ j) (hx : locB sc x = true) (hy : locB sc y = true)
    (hs : noSw sc [.Name x px, .Name y py] [v, w] = true) (ha : chkE Y.ar Y.fr N a (mdO oi) sc v = true) (hb : chkE Y.ar Y.fr N b (mdO oj) sc w = true) :
    PS X (.Assign [.Tuple [.Name x px, .Name y py] kt pt] (.Tuple [v, w] k2 p2) pos) (lS Y (exY Y k (.par i j oi oj a b))) := by
  have pa := (snd O F a _ sc v ha X C).1
  have pb := (snd O F b _ sc w hb X C).1
  have hN : X.N.Nodup := by rw [C.xN]; exact C.nd
  refine PS.imp (ps_asg (pe_tup (pa_cons pa (pa_cons pb pa_nil (star1 (mdO_star hb))) (star1 (mdO_star ha))))
    (pg_tup (n := 2) C.calm (pgs_cons (pg_name (i := i) hN (by rw [C.xN]; exact hi) (by rw [C.xsc]; exact loc_of hx) (.inl (hf x))) (pgs_cons (pg_name (i := j) hN (by rw [C.xN]; exact hj) (by rw [C.xsc]; exact loc_of hy) (.inl (hf y))) pgs_nil rfl) rfl) rfl rfl) rfl (sw_none C.xsc hs) rfl) fun D σ H q => ?_
  obtain ⟨bp, bq, B0, H0, B, ρ, b0, fl, ρ', b', c, e0, wk⟩ := q
  simp only [exY, ex] at e0
  obtain ⟨d1, b1, e1, e2⟩ := bnd_ok e0
  obtain ⟨d2, b2, e3, e4⟩ := bnd_ok e2
  obtain ⟨c1, b3, e5, e6⟩ := bnd_ok e4
  obtain ⟨f5, hb5⟩ := lft_ok e5
  subst hb5
  obtain ⟨c2, b4, e7, e8⟩ := bnd_ok e6
  obtain ⟨f7, hb7⟩ := lft_ok e7
  subst hb7
  obtain ⟨rfl, rfl, rfl⟩ := nxt_ok e8
  refine c.ev2 e1 fun B1 H1 u1 k1 r1 x1 g1 => ?_
  refine k1.ev2 e3 fun B2 H2 u2 k2 r2 x2 g2 => ?_
  refine ⟨by show 2 ≤ sizeLine; have := lim_le; unfold lim at this; omega, fun p hp => ?_⟩
  have x0 := Ex0.own (B := B2) (o := .tup [u1, u2]) g2.sub hp
  refine ⟨p, [u1, u2], rfl, .inl (.inl upd_same), rfl, ?_⟩
  refine ⟨u1, [u2], rfl, u2, [], rfl, rfl, ?_⟩
  exact wk _ B2 _ (((c.put x1 g1 r1 f5 i).put x2 g2 r2 f7 j).ext x0.ext (x0.good g2))
theorem s_par3T {i j l : Nat} {oi oj ol : Bool} {a b e : E} {x y z : PySem.Str} {px py pz pt pos p2 : Pos} {kt k2 : Nat} {u v w : Expr} (O : Y.Ok) (F : Calls Y k) (C : CxOk Y k N sc X) (hf : FnT X) (hi : N[i]? = some x) (hj : N[j]? = some y) (hl : N[l]? = some z) (hij : i ≠ j) (hil : i ≠ l) (hjl : j ≠ l)
    (hx : locB sc x = true) (hy : locB sc y = true) (hz : locB sc z = true)
    (hs : noSw sc [.Name x px, .Name y py, .Name z pz] [u, v, w] = true) (ha : chkE Y.ar Y.fr N a (mdO oi) sc u = true) (hb : chkE Y.ar Y.fr N b (mdO oj) sc v = true) (he : chkE Y.ar Y.fr N e (mdO ol) sc w = true) :
    PS X (.Assign [.Tuple [.Name x px, .Name y py, .Name z pz] kt pt] (.Tuple [u, v, w] k2 p2) pos) (lS Y (exY Y k (.par3 i j l oi oj ol a b e))) := by
  have pa := (snd O F a _ sc u ha X C).1
  have pb := (snd O F b _ sc v hb X C).1
  have pe := (snd O F e _ sc w he X C).1
  have hN : X.N.Nodup := by rw [C.xN]; exact C.nd
  refine PS.imp (ps_asg (pe_tup (pa_cons pa (pa_cons pb (pa_cons pe pa_nil (star1 (mdO_star he))) (star1 (mdO_star hb))) (star1 (mdO_star ha))))
    (pg_tup (n := 3) C.calm (pgs_cons (pg_name (i := i) hN (by rw [C.xN]; exact hi) (by rw [C.xsc]; exact loc_of hx) (.inl (hf x))) (pgs_cons (pg_name (i := j) hN (by rw [C.xN]; exact hj) (by rw [C.xsc]; exact loc_of hy) (.inl (hf y)))
      (pgs_cons (pg_name (i := l) hN (by rw [C.xN]; exact hl) (by rw [C.xsc]; exact loc_of hz) (.inl (hf z))) pgs_nil rfl) rfl) rfl) rfl rfl) rfl (sw_none C.xsc hs) rfl) fun D σ H q => ?_
  obtain ⟨bp, bq, B0, H0, B, ρ, b0, fl, ρ', b', c, e0, wk⟩ := q
  simp only [exY, ex] at e0
  obtain ⟨d1, b1, e1, e2⟩ := bnd_ok e0
  obtain ⟨d2, b2, e3, e4⟩ := bnd_ok e2
  obtain ⟨d3, b3, e5, e6⟩ := bnd_ok e4
  obtain ⟨c1, b4, e7, e8⟩ := bnd_ok e6
  obtain ⟨f7, hb7⟩ := lft_ok e7
  subst hb7
  obtain ⟨c2, b5, e9, e10⟩ := bnd_ok e8
  obtain ⟨f9, hb9⟩ := lft_ok e9
  subst hb9
  obtain ⟨c3, b6, e11, e12⟩ := bnd_ok e10
  obtain ⟨f11, hb11⟩ := lft_ok e11
  subst hb11
  obtain ⟨rfl, rfl, rfl⟩ := nxt_ok e12
  refine c.ev2 e1 fun B1 H1 u1 k1 r1 x1 g1 => ?_
  refine k1.ev2 e3 fun B2 H2 u2 k2 r2 x2 g2 => ?_
  refine k2.ev2 e5 fun B3 H3 u3 k3 r3 x3 g3 => ?_
  refine ⟨by show 3 ≤ sizeLine; have := lim_le; unfold lim at this; omega, fun p hp => ?_⟩
  have x0 := Ex0.own (B := B3) (o := .tup [u1, u2, u3]) g3.sub hp
  refine ⟨p, [u1, u2, u3], rfl, .inl (.inl upd_same), rfl, ?_⟩
  refine ⟨u1, [u2, u3], rfl, u2, [u3], rfl, u3, [], rfl, rfl, ?_⟩
  exact wk _ B3 _ ((((c.put x1 g1 r1 f7 i).put x2 g2 r2 f9 j).put x3 g3 r3 f11 l).ext x0.ext (x0.good g3))
theorem s_sto2 {i j : Nat} {k1 l1 a b : E} {y y2 : PySem.Str} {py py2 ps ps2 pt pos p2 : Pos} {kt k2 : Nat} {z z2 v w : Expr} (O : Y.Ok) (F : Calls Y k) (C : CxOk Y k N sc X) (hn : nmB N sc i y = true) (hn2 : nmB N sc j y2 = true)
    (hz : chkE Y.ar Y.fr N k1 .bor sc z = true) (hz2 : chkE Y.ar Y.fr N l1 .bor sc z2 = true) (ha : chkE Y.ar Y.fr N a .val sc v = true) (hb : chkE Y.ar Y.fr N b .val sc w = true) :
    PS X (.Assign [.Tuple [.Subscript (.Name y py) z ps, .Subscript (.Name y2 py2) z2 ps2] kt pt] (.Tuple [v, w] k2 p2) pos) (lS Y (exY Y k (.sto2 i j k1 l1 a b))) := by
  have pa := (snd O F a .val sc v ha X C).1
  have pb := (snd O F b .val sc w hb X C).1
  have pz := (snd O F k1 .bor sc z hz X C).1
  have pz2 := (snd O F l1 .bor sc z2 hz2 X C).1
  have hsub : ∀ {e : E} {z : Expr} {y : PySem.Str} {p p' : Pos}, chkE Y.ar Y.fr N e .bor sc z = true → ∀ v, assign (.Subscript (.Name y p) z p') X.env v = (do
      let ov ← holding [v] (eval (.Name y p) X.env)
      let iv ← holding [v, ov] (eval z X.env)
      standAt p'
      holding [v, ov, iv] (setItem ov iv v)
      release [v, ov, iv] []) := by
    intro e z y p p' hz v
    cases z <;> first | rfl | exact absurd rfl ((notSet hz).2 _ _ _ _)
  refine PS.imp (ps_asg (pe_tup (pa_cons pa (pa_cons pb pa_nil (star1 (notStar _ _ _ hb))) (star1 (notStar _ _ _ ha))))
    (pg_tup (n := 2) C.calm (pgs_cons (pg_sub (nmB_var C hn) pz set_list (hsub hz)) (pgs_cons (pg_sub (nmB_var C hn2) pz2 set_list (hsub hz2)) pgs_nil rfl) rfl) rfl rfl) rfl (sw_none C.xsc (by simp [noSw, locLn])) rfl) fun D σ H q => ?_
  obtain ⟨bp, bq, B0, H0, B, ρ, b0, fl, ρ', b', c, e0, wk⟩ := q
  simp only [exY, ex] at e0
  obtain ⟨d1, b1, e1, e2⟩ := bnd_ok e0
  obtain ⟨d2, b2, e3, e4⟩ := bnd_ok e2
  obtain ⟨xs, b3, e5, e6⟩ := bnd_ok e4
  obtain ⟨o5, hb5⟩ := getO_ok e5
  subst hb5
  obtain ⟨dz, b4, e7, e8⟩ := bnd_ok e6
  obtain ⟨ys, b5, e9, e10⟩ := bnd_ok e8
  obtain ⟨f9, hb9⟩ := lft_ok e9
  subst hb9
  obtain ⟨xs', b6, e11, e12⟩ := bnd_ok e10
  obtain ⟨o11, hb11⟩ := getO_ok e11
  subst hb11
  obtain ⟨dz', b7, e13, e14⟩ := bnd_ok e12
  obtain ⟨ys', b8, e15, e16⟩ := bnd_ok e14
  obtain ⟨f15, hb15⟩ := lft_ok e15
  subst hb15
  obtain ⟨rfl, rfl, rfl⟩ := nxt_ok e16
  refine c.ev2 e1 fun B1 H1 u1 k1 r1 x1 g1 => ?_
  refine k1.ev2 e3 fun B2 H2 u2 k2 r2 x2 g2 => ?_
  refine ⟨by show 2 ≤ sizeLine; have := lim_le; unfold lim at this; omega, fun p hp => ?_⟩
  have x0 := Ex0.new (B := B2) (o := .tup [u1, u2]) g2.sub hp
  have k3 := k2.ext x0.ext (x0.good g2)
  refine ⟨p, [u1, u2], rfl, .inl (.inl upd_same), rfl, ?_⟩
  refine ⟨u1, [u2], rfl, ?_⟩
  obtain ⟨l, vs, h1, h2, h3⟩ := k3.at o5
  refine ⟨_, h1, k3.ev e7 fun B4 H4 w4 k4 r4 x4 => ?_⟩
  have r4 : RepT Y.K Y.mg bp B4 H4 bq dz w4 := r4
  obtain ⟨vs4, h4, h5⟩ := k3.stay k4 o5 h1
  obtain ⟨kk, jj, rfl, h6, h7⟩ := setIx_at h5 f9 (Rep.mono ((x2.bs.trans x0.bs).trans x4.bs) _ _ r1)
  refine ⟨l, vs4, kk, jj, rfl, r4.int, h4, h6, ?_⟩
  have k5 := k4.upd o5 h1 h7
  refine ⟨u2, [], rfl, ?_⟩
  obtain ⟨l', vs', h1', h2', h3'⟩ := k5.at o11
  refine ⟨_, h1', k5.ev e13 fun B6 H6 w6 k6 r6 x6 => ?_⟩
  have r6 : RepT Y.K Y.mg bp B6 H6 bq dz' w6 := r6
  obtain ⟨vs6, h4', h5'⟩ := k5.stay k6 o11 h1'
  obtain ⟨kk', jj', rfl, h6', h7'⟩ := setIx_at h5' f15 (Rep.mono ((x0.bs.trans x4.bs).trans x6.bs) _ _ r2)
  refine ⟨l', vs6, kk', jj', rfl, r6.int, h4', h6', rfl, ?_⟩
  exact wk σ B6 _ (k6.upd o11 h1' h7')
/-- what a for walks -/
theorem pi_of {t : Tg} {ik : Ik} {es : List E} {tg it : Expr} (O : Y.Ok) (F : Calls Y k) (C : CxOk Y k N sc X) (h2 : chkT N fb1 t sc tg = true) (h5 : chkI Y.ar Y.fr N ik (isTup t) es .val sc it = true) :
    PI X tg it (lI Y k .val ik es) ∧ ∀ x, foldedSetIterable it X.env x = pure x := by
  have hes : ∀ xs, chkL Y.ar Y.fr N es .val sc xs = true → AllOk Y k X .val es xs := fun xs h => sndL O F es .val sc xs h X C
  have htup : isTup t = true → ∃ ts j p, tg = .Tuple ts j p := fun ht => by
    cases t with
    | nm i => cases ht
    | tu ts => cases tg <;> first | (simp [chkT] at h2; done) | exact ⟨_, _, _, rfl⟩
  have hns : ∀ es' j p, it ≠ .Set es' j p := by
    intro es' j p z
    subst z
    cases ik <;> first | (simp [chkI] at h5; done) | skip
    cases es with
    | nil => simp [chkI, chkL] at h5
    | cons a as =>
      simp only [chkI, chkL, Bool.and_eq_true] at h5
      exact (notSet h5.1).1 _ _ _ rfl
  refine ⟨?_, fun v => by cases it <;> first | rfl | exact absurd rfl (hns _ _ _)⟩
  unfold chkI at h5
  split at h5
  · have hA := hes _ h5
    refine i_ok O C (by decide) (tup := isTup t) hA htup (.inl ⟨rfl, rfl, fun e' e1 => ?_⟩)
    subst e1
    cases hA with
    | cons h1 t1 s1 hs => exact h1
  · rename_i f p xs pos'
    simp only [Bool.and_eq_true] at h5
    exact i_ok O C (by decide) (tup := isTup t) (hes _ h5.2) htup (.inr ⟨by decide, fun z => (by rcases z with z | z <;> cases z), f, p, pos', rfl, h5.1⟩)
  · rename_i f p xs pos'
    simp only [Bool.and_eq_true] at h5
    exact i_ok O C (by decide) (tup := isTup t) (hes _ h5.2.2) htup (.inr ⟨by decide, fun _ => h5.2.1, f, p, pos', rfl, h5.1⟩)
  · rename_i f p xs pos'
    simp only [Bool.and_eq_true] at h5
    exact i_ok O C (by decide) (tup := isTup t) (hes _ h5.2.2) htup (.inr ⟨by decide, fun _ => h5.2.1, f, p, pos', rfl, h5.1⟩)
  · rename_i f p xs pos'
    simp only [Bool.and_eq_true] at h5
    exact i_ok O C (by decide) (tup := isTup t) (hes _ h5.2) htup (.inr ⟨by decide, fun z => (by rcases z with z | z <;> cases z), f, p, pos', rfl, h5.1⟩)
  · cases h5
theorem pass_own (C : CxOk Y k N sc X) : PassesOwn (model X.prog X.w) X.A X.env X.xe := by
  rw [C.xe]; exact PassesOwn.never
theorem lT_cur {bp bq : Addr} {B0 H0 B H : Hp} {ρ : Env} {σ : L2.St} {b b1 : β} {e : E} {t : Bool} {Q : Bool → Hp → Prop} (c : Cur Y bp bq B0 H0 B H ρ σ b) (h : tst Y.pr.gl (PL.call Y.pr k) e ρ b = .ok t b1)
    (q : ∀ B1 H1, Cur Y bp bq B0 H0 B1 H1 ρ σ b1 → Q t H1) : lT Y (tstY Y k e) σ H Q := c.tst h q
theorem s_whl {c : E} {a : List S} {t : Expr} {y : List Stmt} {pos : Pos} (C : CxOk Y k N sc X) (hc : PT X t (lT Y (tstY Y k c))) (ha : PSs X y (lS Y (exsY Y k a))) : PS X (.While t y [] pos) (lS Y (exY Y k (.whl c a))) := by
  refine PS.imp (ps_while (pass_own C) hc ha) fun D σ H q => ?_
  obtain ⟨bp, bq, B0, H0, B, ρ, b0, fl, ρ', b', cu, e0, wk⟩ := q
  simp only [exY, ex] at e0
  have hn : ∃ n, whlN (tst Y.pr.gl (PL.call Y.pr k) c) (exs Y.pr.gl (PL.call Y.pr k) a) n ρ b0 = .ok (fl, ρ') b' := by
    unfold whlM at e0
    split at e0
    · exact ⟨_, e0⟩
    · cases e0
  refine ⟨fun m σ1 H1 => ∃ B1 ρ1 b1, Cur Y bp bq B0 H0 B1 H1 ρ1 σ1 b1 ∧ whlN (tst Y.pr.gl (PL.call Y.pr k) c) (exs Y.pr.gl (PL.call Y.pr k) a) m ρ1 b1 = .ok (fl, ρ') b', ?_, ?_⟩
  · obtain ⟨n, hn⟩ := hn
    exact ⟨n, B, ρ, b0, cu, hn⟩
  · rintro m σ1 H1 ⟨B1, ρ1, b1, c1, e1⟩
    cases m with
    | zero => exact (stk_ok e1).elim
    | succ m =>
      simp only [whlN] at e1
      obtain ⟨tb, b2, e2, e3⟩ := bnd_ok e1
      refine c1.tst e2 fun B2 H2 c2 => ?_
      cases tb with
      | false =>
        rw [if_neg (by decide)]
        rw [if_neg (by decide)] at e3
        have h : R.ok (Fl.nx, ρ1) b2 = R.ok (fl, ρ') b' := e3
        cases h
        exact wk σ1 B2 H2 c2
      | true =>
        rw [if_pos rfl]
        rw [if_pos rfl] at e3
        obtain ⟨⟨f1, ρ2⟩, b3, e4, e5⟩ := bnd_ok e3
        refine ⟨fun σ' H' => ∃ m', m' < m + 1 ∧ ∃ B1 ρ1 b1, Cur Y bp bq B0 H0 B1 H' ρ1 σ' b1 ∧ whlN (tst Y.pr.gl (PL.call Y.pr k) c) (exs Y.pr.gl (PL.call Y.pr k) a) m' ρ1 b1 = .ok (fl, ρ') b', fun σ' H' z => z, ?_⟩
        refine ⟨bp, bq, B0, H0, B2, ρ1, b2, f1, ρ2, b3, c2, e4, fun σ3 B3 H3 c3 => ?_⟩
        cases f1 with
        | nx => exact ⟨m, by omega, B3, ρ2, b3, c3, e5⟩
        | ct => exact ⟨m, by omega, B3, ρ2, b3, c3, e5⟩
        | bk =>
          have h : R.ok (Fl.nx, ρ2) b3 = R.ok (fl, ρ') b' := e5
          cases h
          exact wk σ3 B3 H3 c3
        | rt d =>
          have h : R.ok (Fl.rt d, ρ2) b3 = R.ok (fl, ρ') b' := e5
          cases h
          exact wk σ3 B3 H3 c3
theorem Cur.from {bp bq : Addr} {B0 H0 B H : Hp} {ρ : Env} {σ : L2.St} {b : β} (c : Cur Y bp bq B0 H0 B H ρ σ b) : Cur Y bp bq B H0 B H ρ σ b :=
  ⟨c.g, c.r, ⟨Same.refl _, fun a h1 h2 => absurd h2 h1, c.x.kp⟩, c.nw⟩
theorem Cur.back {bp bq : Addr} {B0 H0 B1 H1 B H : Hp} {ρ : Env} {σ : L2.St} {b : β} (x : Ext bp bq B0 B1 H0 H1) (c : Cur Y bp bq B1 H0 B H ρ σ b) : Cur Y bp bq B0 H0 B H ρ σ b :=
  ⟨c.g, c.r, ⟨x.bs.trans c.x.bs, fun a h1 h2 => by
    cases q : B1 a with
    | none => exact c.x.fr a h1 q
    | some o => exact x.fr a (by rw [q]; exact Option.some_ne_none _) h2, c.x.kp⟩, c.nw⟩
theorem s_fr {t : Tg} {ik : Ik} {es : List E} {a : List S} {tg it : Expr} {y : List Stmt} {pos : Pos} (O : Y.Ok) (F : Calls Y k) (C : CxOk Y k N sc X) (hf : FnT X) (ht : chkT N fb1 t sc tg = true) (hi : chkI Y.ar Y.fr N ik (isTup t) es .val sc it = true) (ha : PSs X y (lS Y (exsY Y k a))) :
    PS X (.For tg it y [] pos) (lS Y (exY Y k (.fr t ik es a))) := by
  obtain ⟨hpi, hset⟩ := pi_of O F C ht hi
  have hg := g_tg C (fun x _ => .inl (hf x)) t _ ht
  refine PS.imp (ps_for (pass_own C) C.calm hpi hg ha hset) fun D σ H q => ?_
  obtain ⟨bp, bq, B0, H0, B, ρ, b0, fl, ρ', b', cu, e0, wk⟩ := q
  simp only [exY, ex] at e0
  obtain ⟨ds, b1, e1, e2⟩ := bnd_ok e0
  obtain ⟨xs, b2, e3, e4⟩ := bnd_ok e2
  obtain ⟨f3, hb3⟩ := lft_ok e3
  subst hb3
  refine ⟨bp, bq, B, ρ, b0, ds, _, xs, cu.g, cu.r, e1, f3, fun B1 H1 J x1 g1 wlk => ?_⟩
  let G : PL.D → Env → M β (Fl × Env) := fun d ρ' => bnd (lft (bindT t d ρ')) fun ρ'' => exs Y.pr.gl (PL.call Y.pr k) a ρ''
  have e4 : forM G xs ρ b2 = .ok (fl, ρ') b' := e4
  have cu1 := cu.ext x1 g1
  refine for_it wlk (fun i σ2 H2 => ∃ B2 ρ2 b3, Cur Y bp bq B1 H0 B2 H2 ρ2 σ2 b3 ∧ forM G (xs.drop i) ρ2 b3 = .ok (fl, ρ') b') ?_ ?_ ?_ ?_
  · exact ⟨B1, ρ, b2, cu1.from, by rw [List.drop_zero]; exact e4⟩
  · rintro i σ2 H2 hi ⟨B2, ρ2, b3, c2, _⟩
    exact ⟨c2.x.bs.trans c2.g.sub, .inl rfl⟩
  · rintro i v σ2 H2 H3 hi ⟨B2, ρ2, b3, c2, e5⟩ ⟨d, hd, hy⟩
    have ed : xs.drop i = d :: xs.drop (i + 1) := by
      rw [List.drop_eq_getElem_cons hi]
      rw [List.getElem?_eq_getElem hi] at hd
      rw [Option.some.inj hd]
    rw [ed] at e5
    simp only [forM] at e5
    obtain ⟨⟨f1, ρ4⟩, b4, e6, e7⟩ := bnd_ok e5
    obtain ⟨ρ5, b5, e8, e9⟩ := bnd_ok (show G d ρ2 b3 = _ from e6)
    obtain ⟨f8, hb8⟩ := lft_ok e8
    rw [hb8] at e9
    have key : ∃ B3, Cur Y bp bq B1 H0 B3 H3 ρ2 σ2 b3 ∧ Rep Y.K Y.mg bp B3 d v := by
      rcases hy with ⟨rfl, rv⟩ | ⟨T, us, ds', rfl, hT, rfl, rfl, rus⟩
      · exact ⟨B2, c2, Rep.mono c2.x.bs _ _ rv⟩
      · have x0 := Ex0.new (B := B2) (o := .tup us) c2.g.sub hT
        refine ⟨_, c2.ext x0.ext (x0.good c2.g), ?_⟩
        simp only [Rep]
        exact ⟨T, us, rfl, .inl (.inl upd_same), RepL.mono (c2.x.bs.trans x0.bs) _ _ rus⟩
    obtain ⟨B3, c3, rv⟩ := key
    refine c3.tg rv f8 fun σ4 c4 => ?_
    refine ⟨bp, bq, B1, H0, B3, ρ5, _, f1, ρ4, b4, c4, e9, fun σ6 B6 H6 c6 => ?_⟩
    cases f1 with
    | nx => exact ⟨B6, ρ4, b4, c6, e7⟩
    | ct => exact ⟨B6, ρ4, b4, c6, e7⟩
    | bk =>
      have h : R.ok (Fl.nx, ρ4) b4 = R.ok (fl, ρ') b' := e7
      cases h
      exact wk σ6 B6 H6 (Cur.back cu1.x c6)
    | rt d =>
      have h : R.ok (Fl.rt d, ρ4) b4 = R.ok (fl, ρ') b' := e7
      cases h
      exact wk σ6 B6 H6 (Cur.back cu1.x c6)
  · rintro σ2 H2 ⟨B2, ρ2, b3, c2, e5⟩
    rw [List.drop_length] at e5
    have h : R.ok (Fl.nx, ρ2) b3 = R.ok (fl, ρ') b' := e5
    cases h
    exact wk σ2 B2 H2 (Cur.back cu1.x c2)
/-! ### the join -/
theorem s_end {s : S} {D : Ends} {σ : L2.St} {H : Hp} {fl0 : Fl} (hs : ∀ ρ (b : β), exY Y k s ρ b = .ok (fl0, ρ) b) (q : lS Y (exY Y k s) D σ H) : ∃ bp bq B0 H0 B ρ b, Cur Y bp bq B0 H0 B H ρ σ b ∧ EndOk Y bp D fl0 σ B H := by
  obtain ⟨bp, bq, B0, H0, B, ρ, b0, fl, ρ', b', cu, e0, wk⟩ := q
  rw [hs] at e0
  cases e0
  exact ⟨_, _, _, _, B, _, _, cu, wk σ B H cu⟩
theorem frz_ok {i : Nat} {ρ ρ1 : Env} {b b1 : β} {f1 : Fl} (h : exY Y k (.frz i) ρ b = .ok (f1, ρ1) b1) : f1 = .nx ∧ b1 = b ∧ ((∃ ys, ρ[i]? = some (.ow ys) ∧ ρ1 = ρ.set i (.im (.lst ys))) ∨ ρ1 = ρ) := by
  simp only [exY, ex] at h
  cases q : ρ[i]? with
  | none =>
    rw [q] at h
    obtain ⟨rfl, rfl, rfl⟩ := nxt_ok h
    exact ⟨rfl, rfl, .inr rfl⟩
  | some c =>
    rw [q] at h
    cases c with
    | ow ys =>
      obtain ⟨rfl, rfl, rfl⟩ := nxt_ok h
      exact ⟨rfl, rfl, .inl ⟨ys, rfl, rfl⟩⟩
    | im d =>
      obtain ⟨rfl, rfl, rfl⟩ := nxt_ok h
      exact ⟨rfl, rfl, .inr rfl⟩
    | un =>
      obtain ⟨rfl, rfl, rfl⟩ := nxt_ok h
      exact ⟨rfl, rfl, .inr rfl⟩
mutual
theorem sndS (O : Y.Ok) (F : Calls Y k) (C : CxOk Y k N sc X) (hf : FnT X) : ∀ (s : S) (x : Stmt), chkS Y.ar Y.fr N s sc x = true → PS X x (lS Y (exY Y k s))
  | .asg t e, x, h => by
    unfold chkS at h
    split at h
    case h_2 => cases h
    rename_i tg v pos
    simp only [Bool.and_eq_true] at h
    obtain ⟨h1, h2, h3⟩ := h
    cases t with
    | nm i =>
      cases tg with
      | Name y py =>
        simp only [chkT, Bool.and_eq_true, decide_eq_true_eq] at h1
        exact s_asgN O F C hf h1.1 h1.2.1 h2
      | _ => simp [chkT] at h1
    | tu ts =>
      cases tg with
      | Tuple xs j p => exact s_asgT O F C hf h1 h2 h3
      | _ => simp [chkT] at h1
  | .own i e, x, h => by
    unfold chkS at h
    split at h
    case h_2 => cases h
    simp only [Bool.and_eq_true, decide_eq_true_eq] at h
    exact s_own O F C hf h.1 h.2.1 h.2.2
  | .par i j oi oj a b, x, h => by
    unfold chkS at h
    split at h
    case h_2 => cases h
    simp only [Bool.and_eq_true, Bool.or_eq_true, decide_eq_true_eq] at h
    obtain ⟨h1, h2, h3, h4, h7, h8⟩ := h
    rcases h4 with ⟨h4, h5, h6⟩ | ⟨h4, h5, h6⟩
    · exact s_par O F C h1 h2 h3 h4 h5 h6 h7 h8
    · exact s_parT O F C hf h1 h2 h3 h4 h5 h6 h7 h8
  | .par3 i j l oi oj ol a b c, x, h => by
    unfold chkS at h
    split at h
    case h_2 => cases h
    simp only [Bool.and_eq_true, Bool.or_eq_true, decide_eq_true_eq] at h
    obtain ⟨h1, h2, h3, h4, h5, h6, h7, h11, h12, h13⟩ := h
    rcases h7 with ⟨h7, h8, h9, h10⟩ | ⟨h7, h8, h9, h10⟩
    · exact s_par3 O F C h1 h2 h3 h4 h5 h6 h7 h8 h9 h10 h11 h12 h13
    · exact s_par3T O F C hf h1 h2 h3 h4 h5 h6 h7 h8 h9 h10 h11 h12 h13
  | .sto i k1 e, x, h => by
    unfold chkS at h
    split at h
    case h_2 => cases h
    simp only [Bool.and_eq_true] at h
    exact s_sto O F C h.1 h.2.1 h.2.2
  | .sto2 i j k1 l a b, x, h => by
    unfold chkS at h
    split at h
    case h_2 => cases h
    simp only [Bool.and_eq_true] at h
    exact s_sto2 O F C h.1 h.2.1 h.2.2.1 h.2.2.2.1 h.2.2.2.2.1 h.2.2.2.2.2
  | .app i e, x, h => by
    unfold chkS at h
    split at h
    case h_2 => cases h
    simp only [Bool.and_eq_true] at h
    exact s_app O F C h.1 h.2
  | .ins i k1 e, x, h => by
    unfold chkS at h
    split at h
    case h_2 => cases h
    simp only [Bool.and_eq_true] at h
    exact s_ins O F C h.1 h.2.1 h.2.2
  | .ext i e, x, h => by
    unfold chkS at h
    split at h
    case h_2 => cases h
    simp only [Bool.and_eq_true] at h
    exact s_ext O F C h.1 h.2
  | .aug i o e, x, h => by
    unfold chkS at h
    split at h
    case h_2 => cases h
    simp only [Bool.and_eq_true, decide_eq_true_eq] at h
    exact s_aug O F C hf h.1 h.2.1 h.2.2.1 h.2.2.2
  | .agl i e, x, h => by
    unfold chkS at h
    split at h
    case h_2 => cases h
    simp only [Bool.and_eq_true, decide_eq_true_eq] at h
    exact s_agl O F C hf h.1 h.2.1 h.2.2
  | .pop t i, x, h => by
    unfold chkS at h
    split at h
    case h_2 => cases h
    simp only [Bool.and_eq_true] at h
    exact s_pop O F C hf h.1 h.2
  | .frz i, x, h => by simp [chkS] at h
  | .iff c a b, x, h => by
    unfold chkS at h
    split at h
    case h_2 => cases h
    simp only [Bool.and_eq_true] at h
    obtain ⟨h1, h2, h3⟩ := h
    refine PS.imp (ps_if ((snd O F c .bor sc _ h1 X C).2 rfl) (sndSs O F C hf a _ h2) (sndSs O F C hf b _ h3)) fun D σ H q => ?_
    obtain ⟨bp, bq, B0, H0, B, ρ, b0, fl, ρ', b', cu, e0, wk⟩ := q
    simp only [exY, ex] at e0
    obtain ⟨tb, b1, e1, e2⟩ := bnd_ok e0
    refine cu.tst e1 fun B1 H1 c1 => ?_
    cases tb with
    | true =>
      rw [if_pos rfl] at e2
      exact L2.iteT ⟨bp, bq, B0, H0, B1, ρ, b1, fl, ρ', b', c1, e2, wk⟩
    | false =>
      rw [if_neg (by decide)] at e2
      exact L2.iteF ⟨bp, bq, B0, H0, B1, ρ, b1, fl, ρ', b', c1, e2, wk⟩
  | .whl c a, x, h => by
    unfold chkS at h
    split at h
    case h_2 => cases h
    simp only [Bool.and_eq_true] at h
    exact s_whl C ((snd O F c .bor sc _ h.1 X C).2 rfl) (sndSs O F C hf a _ h.2)
  | .fr t ik es a, x, h => by
    unfold chkS at h
    split at h
    case h_2 => cases h
    simp only [Bool.and_eq_true] at h
    exact s_fr O F C hf h.1 h.2.1 (sndSs O F C hf a _ h.2.2)
  | .ret e, x, h => by
    unfold chkS at h
    split at h
    case h_2 => cases h
    refine PS.imp (ps_ret (snd O F e .val sc _ h X C).1) fun D σ H q => ?_
    obtain ⟨bp, bq, B0, H0, B, ρ, b0, fl, ρ', b', cu, e0, wk⟩ := q
    simp only [exY, ex] at e0
    obtain ⟨d, b1, e1, e2⟩ := bnd_ok e0
    have h : R.ok (Fl.rt d, ρ) b1 = R.ok (fl, ρ') b' := e2
    cases h
    exact cu.ev e1 fun B1 H1 v c1 r1 _ => wk σ B1 H1 c1 v r1
  | .retN, x, h => by
    unfold chkS at h
    split at h
    case h_2 => cases h
    refine PS.imp ps_retN fun D σ H q => ?_
    obtain ⟨bp, bq, B0, H0, B, ρ, b, cu, wk⟩ := s_end (fl0 := .rt .non) (fun _ _ => rfl) q
    exact wk .non (by simp only [Rep])
  | .brk, x, h => by
    unfold chkS at h
    split at h
    case h_2 => cases h
    refine PS.imp ps_break fun D σ H q => ?_
    obtain ⟨bp, bq, B0, H0, B, ρ, b, cu, wk⟩ := s_end (fl0 := .bk) (fun _ _ => rfl) q
    exact wk
  | .cnt, x, h => by
    unfold chkS at h
    split at h
    case h_2 => cases h
    refine PS.imp ps_continue fun D σ H q => ?_
    obtain ⟨bp, bq, B0, H0, B, ρ, b, cu, wk⟩ := s_end (fl0 := .ct) (fun _ _ => rfl) q
    exact wk
  | .pas, x, h => by
    unfold chkS at h
    split at h
    case h_2 => cases h
    refine PS.imp ps_pass fun D σ H q => ?_
    obtain ⟨bp, bq, B0, H0, B, ρ, b, cu, wk⟩ := s_end (fl0 := .nx) (fun _ _ => rfl) q
    exact wk
  | .bad, x, h => by
    refine PS.imp ps_never fun D σ H q => ?_
    obtain ⟨bp, bq, B0, H0, B, ρ, b0, fl, ρ', b', cu, e0, wk⟩ := q
    exact (stk_ok (show stk b0 = _ from e0)).elim
theorem sndSs (O : Y.Ok) (F : Calls Y k) (C : CxOk Y k N sc X) (hf : FnT X) : ∀ (s : List S) (x : List Stmt), chkSs Y.ar Y.fr N s sc x = true → PSs X x (lS Y (exsY Y k s))
  | [], x, h => by
    unfold chkSs at h
    split at h
    case h_2 => cases h
    refine PSs.imp pss_nil fun D σ H q => ?_
    obtain ⟨bp, bq, B0, H0, B, ρ, b0, fl, ρ', b', cu, e0, wk⟩ := q
    obtain ⟨rfl, rfl, rfl⟩ := nxt_ok e0
    exact wk σ B H cu
  | s :: r, xs, h => by
    by_cases hz : ∃ i, s = .frz i
    · obtain ⟨i, rfl⟩ := hz
      refine PSs.imp (sndSs O F C hf r xs (by simpa only [chkSs] using h)) fun D σ H q => ?_
      obtain ⟨bp, bq, B0, H0, B, ρ, b0, fl, ρ', b', cu, e0, wk⟩ := q
      simp only [exsY, exs] at e0
      obtain ⟨⟨f1, ρ1⟩, b1, e1, e2⟩ := bnd_ok e0
      obtain ⟨rfl, hb, hy | hy⟩ := frz_ok e1
      · obtain ⟨ys, hy, rfl⟩ := hy
        subst hb
        obtain ⟨B', c'⟩ := cu.frz hy
        exact ⟨bp, bq, B0, H0, B', _, _, fl, ρ', b', c', e2, wk⟩
      · subst hy hb
        exact ⟨bp, bq, B0, H0, B, _, _, fl, ρ', b', cu, e2, wk⟩
    · have h' : ∃ x ys, xs = x :: ys ∧ chkS Y.ar Y.fr N s sc x = true ∧ chkSs Y.ar Y.fr N r sc ys = true := by
        cases xs with
        | nil => cases s <;> first | (simp [chkSs] at h; done) | exact absurd ⟨_, rfl⟩ hz
        | cons x ys =>
          refine ⟨x, ys, rfl, ?_⟩
          cases s <;> first | (simpa [chkSs] using h) | exact absurd ⟨_, rfl⟩ hz
      obtain ⟨x, ys, rfl, h1, h2⟩ := h'
      refine PSs.imp (pss_cons (sndS O F C hf s x h1) (sndSs O F C hf r ys h2)) fun D σ H q => ?_
      obtain ⟨bp, bq, B0, H0, B, ρ, b0, fl, ρ', b', cu, e0, wk⟩ := q
      simp only [exsY, exs] at e0
      obtain ⟨⟨f1, ρ1⟩, b1, e1, e2⟩ := bnd_ok e0
      refine ⟨bp, bq, B0, H0, B, ρ, b0, f1, ρ1, b1, cu, e1, fun σ2 B2 H2 c2 => ?_⟩
      cases f1 with
      | nx => exact ⟨bp, bq, B0, H0, B2, ρ1, b1, fl, ρ', b', c2, e2, wk⟩
      | bk =>
        have h : R.ok (Fl.bk, ρ1) b1 = R.ok (fl, ρ') b' := e2
        cases h
        exact wk σ2 B2 H2 c2
      | ct =>
        have h : R.ok (Fl.ct, ρ1) b1 = R.ok (fl, ρ') b' := e2
        cases h
        exact wk σ2 B2 H2 c2
      | rt d =>
        have h : R.ok (Fl.rt d, ρ1) b1 = R.ok (fl, ρ') b' := e2
        cases h
        exact wk σ2 B2 H2 c2
end
end
end PL

set_option autoImplicit false
set_option linter.all false
set_option maxRecDepth 100000
set_option maxHeartbeats 4000000
/-! PL14: functions keep what their terms mean. -/
namespace PL
open PySem PySem.Spec PyProof.Rows L2
section
variable {β : Type} {Y : Sys β}
/-- what the head tells of a def, and the check of its term -/
def FnFact (Y : Sys β) (x : String) (f : Fn) : Prop := ∃ a fd args body scope, Y.mg (sx x) = some (.ref a) ∧ FunD Y.K (sx x) (sx x) args body scope [] [] a fd ∧
  C8.scC (f.names.map sx) ((f.names.take f.np).map sx) scope = true ∧ chkSs Y.ar Y.fr (f.names.map sx) f.body scope body = true ∧ Binds Y.K fd ((f.names.take f.np).map sx) [] ∧ f.np ≤ f.names.length
def PrimFact (Y : Sys β) (x : String) (n : Nat) : Prop := ∃ a fd ps, Y.mg (sx x) = some (.ref a) ∧ PySem.W.keepIn Y.K (.ref a) = true ∧ Binds Y.K fd ps [] ∧ ps.length = n ∧
  ∀ k, 3 ≤ k → FnOk Y.P Y.w Y.K Y.mg Y.base CX0 (k + 1) a fd ps (spC Y (k + 1) x n)
def FnsOk (Y : Sys β) : Prop := ∀ x n, Y.ar x = some n → ((∃ p, Y.pr.prim x = some p) ∧ PrimFact Y x n) ∨ (Y.pr.prim x = none ∧ ∃ f, Y.pr.fns x = some f ∧ f.np = n ∧ FnFact Y x f)
theorem call_zero {x : String} {n : Nat} {vs : List V} {H : Hp} {Q : VK} {E : XK} (h : spC Y 0 x n vs H Q E) : False := by
  obtain ⟨_, bp, bq, B, ds, b, d, b', _, _, e, _⟩ := h
  exact stk_ok e
theorem fn_none {k : Nat} {a : Addr} {fd : FuncData} {ps : List PySem.Str} {sp : Sp} (h : ∀ vs H Q E, ¬ sp vs H Q E) : FnOk Y.P Y.w Y.K Y.mg Y.base CX0 k a fd ps sp :=
  ⟨fun vs H Q E z => absurd z (h vs H Q E), fun A outer s H args us vs Q E hr he hb hv hs => absurd hs (h vs H Q E)⟩
theorem start_rep {bp bq : Addr} {B H : Hp} {ds : List D} {vs : List V} (r : RepL Y.K Y.mg bp B ds vs) (N : List PySem.Str) (m : Nat) (hm : m = N.length - vs.length) :
    RepE Y bp bq B H (ds.map Cell.im ++ List.replicate m Cell.un) (L2.start N vs) := by
  have hl := r.length
  have key : ∀ (i : Nat) c, (ds.map Cell.im ++ List.replicate m Cell.un)[i]? = some c → (∃ d, ds[i]? = some d ∧ c = .im d) ∨ c = .un := by
    intro i c e
    by_cases hi : i < ds.length
    · rw [List.getElem?_append_left (by rw [List.length_map]; exact hi), List.getElem?_map, List.getElem?_eq_getElem hi] at e
      simp only [Option.map_some, Option.some.injEq] at e
      exact .inl ⟨_, List.getElem?_eq_getElem hi, e.symm⟩
    · rw [List.getElem?_append_right (by rw [List.length_map]; omega)] at e
      have := List.mem_replicate.mp (List.mem_of_getElem? e)
      exact .inr this.2
  refine ⟨?_, fun i d e => ?_, fun i xs e => ?_, fun i j xs ys p _ e => ?_⟩
  · unfold L2.start
    simp only [List.length_append, List.length_map, List.length_replicate]
    omega
  · rcases key i _ e with ⟨d', h1, h2⟩ | h2
    · cases h2
      obtain ⟨v, h3, h4⟩ := r.get h1
      refine ⟨v, ?_, h4⟩
      unfold L2.start
      have hi : i < vs.length := (List.getElem?_eq_some_iff.mp h3).1
      rw [List.getElem?_append_left (by rw [List.length_map]; exact hi), List.getElem?_map, h3]; rfl
    · cases h2
  · rcases key i _ e with ⟨d', h1, h2⟩ | h2
    · cases h2
    · cases h2
  · rcases key i _ e with ⟨d', h1, h2⟩ | h2
    · cases h2
    · cases h2
theorem fn_step (O : Y.Ok) {k : Nat} (F : Calls Y k) {x : String} {f : Fn} (hp : Y.pr.prim x = none) (hf : Y.pr.fns x = some f) (h : FnFact Y x f) : Callee Y (k + 1) x f.np := by
  obtain ⟨a, fd, args, body, scope, h1, h2, h3, h4, h5, h6⟩ := h
  have S := C8.fnScope_by h3
  have hlen : ((f.names.take f.np).map sx).length = f.np := by rw [List.length_map, List.length_take]; omega
  refine ⟨a, fd, _, h1, h2.kp, h5, hlen, ?_⟩
  refine h2.ok S (fun vs H Q E z => z.1.trans hlen.symm) fun cdv A outer s H vs Q E hr hsp => ?_
  refine ⟨lS Y (exsY Y k f.body), PSs.nox ?_, ?_⟩
  · refine sndSs O F (N := f.names.map sx) (sc := scope) ⟨rfl, rfl, rfl, rfl, rfl, rfl, rfl, S.nd, rfl, S.kind, hr, rfl⟩ (fun _ => rfl) f.body body h4
  · obtain ⟨hv, bp, bq, B, ds, b, d, b', g, r, e, w⟩ := hsp
    have hd : ds.length = f.np := r.length.trans hv
    simp only [PL.call, hp, hf, if_pos hd, endF] at e
    obtain ⟨⟨fl, ρ'⟩, b1, e1, e2⟩ := bnd_ok e
    have hm : f.names.length - f.np = (f.names.map sx).length - vs.length := by rw [List.length_map, hv]
    refine ⟨bp, bq, B, H, B, _, b, fl, ρ', b1, ⟨g, start_rep r _ _ hm, Ext.refl, fun i xs p e1 _ => ?_⟩, e1, fun σ2 B2 H2 c2 => ?_⟩
    · have := (start_rep (bq := bq) (H := H) r _ _ hm).ow i xs e1
      exfalso
      have hi := e1
      by_cases hi2 : i < ds.length
      · rw [List.getElem?_append_left (by rw [List.length_map]; exact hi2), List.getElem?_map, List.getElem?_eq_getElem hi2] at hi
        cases hi
      · rw [List.getElem?_append_right (by rw [List.length_map]; omega)] at hi
        have := (List.mem_replicate.mp (List.mem_of_getElem? hi)).2
        cases this
    · cases fl with
      | nx =>
        obtain ⟨rfl, rfl⟩ := ret_ok e2
        exact w B2 H2 .non c2.x c2.g (by simp only [Rep])
      | rt d' =>
        obtain ⟨rfl, rfl⟩ := ret_ok e2
        exact fun v hv => w B2 H2 v c2.x c2.g hv
      | bk => exact (stk_ok e2).elim
      | ct => exact (stk_ok e2).elim
theorem callees (O : Y.Ok) (HF : FnsOk Y) : ∀ k, Calls Y k
  | 0 => fun x n hx => by
    rcases HF x n hx with ⟨_, a, fd, ps, h1, h2, h3, h4, _⟩ | ⟨_, f, _, rfl, a, fd, args, body, scope, h1, h2, h3, h4, h5, h6⟩
    · exact ⟨a, fd, ps, h1, h2, h3, h4, fn_none (k := 0) fun vs H Q E z => call_zero z⟩
    · exact ⟨a, fd, _, h1, h2.kp, h5, by rw [List.length_map, List.length_take]; omega, fn_none (k := 0) fun vs H Q E z => call_zero z⟩
  | k + 1 => fun x n hx => by
    rcases HF x n hx with ⟨⟨p, hp⟩, a, fd, ps, h1, h2, h3, h4, h5⟩ | ⟨hp, f, hf, rfl, h⟩
    · refine ⟨a, fd, ps, h1, h2, h3, h4, ?_⟩
      by_cases hk : 3 ≤ k
      · exact h5 k hk
      · refine fn_none (k := k + 1) fun vs H Q E z => ?_
        obtain ⟨_, bp, bq, B, ds, b, d, b', _, _, e, _⟩ := z
        simp only [PL.call, hp, if_neg hk] at e
        exact stk_ok e
    · exact fn_step O (callees O HF k) hp hf h
end
end PL

set_option autoImplicit false
set_option linter.all false
set_option maxRecDepth 100000
set_option maxHeartbeats 4000000
/-! PL15: the tape of the laws that draw by _law_take. -/
namespace PL
open PySem PySem.Spec PyProof.Rows L2
structure Tp where
  cells : List Int
  pos : Nat
  rest : Int
  seed : Int
def mixI (n : Int) : Int :=
  let a := (n * 6364136223846793005 + 1442695040888963407) % 18446744073709551616
  (a * a / 4294967296 + a * 69621) % 18446744073709551557
def zig (c : Int) : Int := if 0 ≤ c then 2 * c else -2 * c - 1
def tpMore (t : Tp) : Tp := match t.cells[t.pos]? with
  | some c => ⟨t.cells, t.pos + 1, if 10 ^ 18 ≤ zig c then zig c else mixI (mixI (zig c) + ((t.pos : Int) + 1)), mixI (t.seed + zig c)⟩
  | none => ⟨t.cells, t.pos, mixI (t.seed + 1), mixI (t.seed + 1)⟩
def tpLoad (t : Tp) (m : Int) : Tp := if t.rest < m then tpMore t else t
def tpTake (t : Tp) (m : Int) : Int × Tp := ((tpLoad t m).rest % m, ⟨(tpLoad t m).cells, (tpLoad t m).pos, (tpLoad t m).rest / m, (tpLoad t m).seed⟩)
def tpOut (bq : Addr) (t : Tp) : List V := [.ref bq, .int t.pos, .int t.rest, .int t.seed]
def tpBo (bq : Addr) (t : Tp) : HO × HO := (.lst (tpOut bq t), .lst (t.cells.map V.int))
theorem tpTake_bd (t : Tp) {m : Int} (h : 0 < m) : 0 ≤ (tpTake t m).1 ∧ (tpTake t m).1 < m := ⟨Int.emod_nonneg _ (by omega), Int.emod_lt_of_pos _ h⟩
def spMix : Sp := fun vs H Q _ => ∃ n, vs = [.int n] ∧ Q (.int (mixI n)) H
def spTake : Sp := fun vs H Q _ => ∃ bp bq t m, vs = [.ref bp, .int m] ∧ H bp = some (.lst (tpOut bq t)) ∧ H bq = some (.lst (t.cells.map V.int)) ∧ bp ≠ bq ∧ (0 < m ∧ m < 1000000000) ∧
  Q (.int (tpTake t m).1) (upd H bp (.lst (tpOut bq (tpTake t m).2)))
def spTape (K : PySem.W.Frag) : Sp := fun vs H Q _ => ∃ a ns, vs = [.ref a] ∧ SqL K H a (ns.map V.int) ∧ ns.length ≤ 80 ∧
  ∀ bp bq H', H' bp = some (.lst (tpOut bq ⟨ns, 0, 0, 1 + ns.length⟩)) → H' bq = some (.lst (ns.map V.int)) → bp ≠ bq → Q (.ref bp) H'
theorem mix_ok (n : Int) : 0 ≤ (n * 6364136223846793005 + 1442695040888963407) % 18446744073709551616 ∧ (n * 6364136223846793005 + 1442695040888963407) % 18446744073709551616 < 18446744073709551616 :=
  ⟨Int.emod_nonneg _ (by decide), Int.emod_lt_of_pos _ (by decide)⟩
section
variable {K : PySem.W.Frag} {σ : L2.St} {H : Hp} {bp : Addr} {xs : List V}
theorem rd_at {i : Nat} {j : Int} {n : Nat} {v : V} {Q : VK} (h1 : σ[i]? = some (some (.ref bp))) (h2 : H bp = some (.lst xs)) (h3 : ixN xs.length j = some n) (h4 : xs[n]? = some v) (q : Q v H) : tOp (rIxL K) (tVar i) (tC (.int j)) σ H Q :=
  ⟨_, h1, _, _, _, _, rfl, rfl, SqL.of h2, by unfold atI; rw [h3]; exact h4, q⟩
theorem wr_at {i : Nat} {j : Int} {n : Nat} {v : V} {Q : L2.St → Hp → Prop} (h1 : σ[i]? = some (some (.ref bp))) (h2 : H bp = some (.lst xs)) (h3 : ixN xs.length j = some n) (q : Q σ (L2.upd H bp (.lst (xs.set n v)))) : gSub (tVar i) (tC (.int j)) rSetL v σ H Q :=
  ⟨_, h1, _, _, _, _, rfl, rfl, h2, h3, q⟩
end
theorem iteD {c A B : Prop} [Decidable c] (hc : c) (h : A) : if decide c = true then A else B := by rw [decide_eq_true hc]; exact L2.iteT h
theorem iteN {c A B : Prop} [Decidable c] (hc : ¬ c) (h : B) : if decide c = true then A else B := by rw [decide_eq_false hc]; exact L2.iteF h
section
variable (K : PySem.W.Frag)
abbrev rlt : R2 := rI0 fun i j => .bl (decide (i < j))
abbrev rge : R2 := rI0 fun i j => .bl (decide (j ≤ i))
abbrev radd : R2 := rI0 fun i j => .int (i + j)
abbrev rsub : R2 := rI0 fun i j => .int (i - j)
abbrev rmul : R2 := rI CMul fun i j => .int (i * j)
abbrev rmod : R2 := rI (fun _ j => 0 < j) fun i j => .int (i % j)
abbrev rdiv : R2 := rI CDivW fun i j => .int (i / j)
abbrev rpow : R2 := rI CPow fun i j => .int (i ^ j.toNat)
abbrev tI (j : Int) : TE := tOp (rIxL K) (tVar 0) (tC (.int j))
abbrev tInt (t : TE) : TE := tCB (fun xs H Q => (∃ i, xs = [.int i] ∧ Q (.int i) H) ∨ ∃ k, xs = [.bl k] ∧ Q (.int (if k then 1 else 0)) H) (tCons t tNil)
abbrev tLen1 (t : TE) : TE := tCB (fun xs H Q => ∃ p ys, xs = [.ref p] ∧ (SqL K H p ys ∨ SqT K H p ys) ∧ Q (.int ys.length) H) (tCons t tNil)
abbrev tMix (t : TE) : TE := tCall spMix [] E0 (tCons t tNil)
abbrev gI (j : Int) : TG := gSub (tVar 0) (tC (.int j)) rSetL
abbrev ni (i : Int) : TE := tC (.int i)
def t_load : TS := tIfS (tTest (tOp rlt (tI K 1) (tLen1 K (tI K 0))))
  (tSeq (tAsg (tOp (rIxL K) (tI K 0) (tI K 1)) (gName 2))
  (tSeq (tAsg (tIf (tTest (tOp rge (tVar 2) (ni 0))) (tOp rmul (ni 2) (tVar 2)) (tOp rsub (tOp rmul (tUn (rU fun i => .int (-i)) (ni 2)) (tVar 2)) (ni 1))) (gName 2))
  (tSeq (tAsg (tOp radd (tI K 1) (ni 1)) (gI 1))
  (tSeq (tAsg (tMix (tOp radd (tI K 3) (tVar 2))) (gI 3))
    (tAsg (tIf (tTest (tOp rge (tVar 2) (tOp rpow (ni 10) (ni 18)))) (tVar 2) (tMix (tOp radd (tMix (tVar 2)) (tI K 1)))) (gI 2))))))
  (tSeq (tAsg (tMix (tOp radd (tI K 3) (ni 1))) (gI 3)) (tAsg (tI K 3) (gI 2)))
def t_out : TS := tSeq (tAsg (tOp rmod (tInt (tI K 2)) (tVar 1)) (gName 3)) (tSeq (tAsg (tOp rdiv (tI K 2) (tVar 1)) (gI 2)) (tRet (tVar 3)))
def t_take : TS := tSeq (tIfS (tTest (tOp rlt (tI K 2) (tVar 1))) (t_load K) tNext) (t_out K)
variable {K}
theorem r0 {bp : Addr} {a b c d v : V} {j : Int} {r : List (Option V)} {H : Hp} {Q : VK} {n : Nat} (h : H bp = some (.lst [a, b, c, d])) (hn : ixN 4 j = some n) (hv : [a, b, c, d][n]? = some v) (q : Q v H) : tI K j (some (.ref bp) :: r) H Q := rd_at rfl h hn hv q
theorem w0 {bp : Addr} {a b c d v : V} {j : Int} {r : List (Option V)} {H : Hp} {Q : L2.St → Hp → Prop} {n : Nat} (h : H bp = some (.lst [a, b, c, d])) (hn : ixN 4 j = some n) (q : Q (some (.ref bp) :: r) (L2.upd H bp (.lst ([a, b, c, d].set n v)))) : gI j v (some (.ref bp) :: r) H Q := wr_at rfl h hn q
theorem pure_out {bp bq : Addr} {u : Tp} {m : Int} {c d : Option V} {H : Hp} {Q : VK} (h : H bp = some (.lst (tpOut bq u))) (hm : 0 < m ∧ m < 1000000000)
    (q : Q (.int (u.rest % m)) (L2.upd H bp (.lst (tpOut bq ⟨u.cells, u.pos, u.rest / m, u.seed⟩)))) : t_out K { nx := fun _ H' => Q .non H', rt := Q } [some (.ref bp), some (.int m), c, d] H := by
  refine r0 h rfl rfl (.inl ⟨_, rfl, _, rfl, _, _, rfl, rfl, hm.1, ?_⟩)
  refine r0 h rfl rfl ⟨_, rfl, _, _, rfl, rfl, wide_div (b := 30) hm.1 (by omega) (by decide) (by decide), ?_⟩
  exact w0 h rfl ⟨_, rfl, q⟩
theorem pure_load {bp bq : Addr} {t : Tp} {m : V} {H : Hp} {D : Ends} (h1 : H bp = some (.lst (tpOut bq t))) (h2 : H bq = some (.lst (t.cells.map V.int))) (hne : bp ≠ bq)
    (q : ∀ c, D.nx [some (.ref bp), some m, c, none] (L2.upd H bp (.lst (tpOut bq (tpMore t))))) : t_load K D [some (.ref bp), some m, none, none] H := by
  have hnb : bq ≠ bp := Ne.symm hne
  refine r0 h1 rfl rfl ?_
  refine r0 h1 rfl rfl ⟨bq, t.cells.map V.int, rfl, .inl (SqL.of h2), ?_⟩
  refine ⟨_, _, rfl, rfl, _, rfl, ?_⟩
  rw [List.length_map]
  by_cases hp : t.pos < t.cells.length
  · have hg : t.cells[t.pos]? = some t.cells[t.pos] := List.getElem?_eq_getElem hp
    generalize t.cells[t.pos] = c at hg
    have em : tpMore t = ⟨t.cells, t.pos + 1, if 10 ^ 18 ≤ zig c then zig c else mixI (mixI (zig c) + ((t.pos : Int) + 1)), mixI (t.seed + zig c)⟩ := by unfold tpMore; rw [hg]
    rw [em] at q
    refine iteD (by omega) ?_
    refine r0 h1 rfl rfl (r0 h1 rfl rfl ⟨bq, _, _, .int c, rfl, rfl, SqL.of h2, ?_, ?_⟩)
    · unfold atI ixN
      rw [if_pos (by omega), List.length_map, if_pos (by omega)]
      show (t.cells.map V.int)[(t.pos : Int).toNat]? = _
      rw [Int.toNat_natCast, List.getElem?_map, hg]; rfl
    have hz : ∀ (Q' : VK) (σ : L2.St) (H' : Hp), σ[2]? = some (some (.int c)) → Q' (.int (zig c)) H' → tIf (tTest (tOp rge (tVar 2) (ni 0))) (tOp rmul (ni 2) (tVar 2)) (tOp rsub (tOp rmul (tUn (rU fun i => .int (-i)) (ni 2)) (tVar 2)) (ni 1)) σ H' Q' := fun Q' σ H' hs hq => by
      refine ⟨_, hs, _, _, rfl, rfl, _, rfl, ?_⟩
      unfold zig at hq
      by_cases hc : 0 ≤ c
      · rw [if_pos hc] at hq
        refine iteD hc ⟨_, hs, _, _, rfl, rfl, .inl ⟨by omega, by omega⟩, hq⟩
      · rw [if_neg hc] at hq
        refine iteN hc ⟨_, rfl, _, hs, _, _, rfl, rfl, .inl ⟨by omega, by omega⟩, _, _, rfl, rfl, hq⟩
    refine hz _ _ _ rfl ?_
    refine r0 h1 rfl rfl ⟨_, _, rfl, rfl, w0 h1 rfl ?_⟩
    have k1 : (upd H bp (.lst [.ref bq, .int ((t.pos : Int) + 1), .int t.rest, .int t.seed])) bp = some (.lst [.ref bq, .int ((t.pos : Int) + 1), .int t.rest, .int t.seed]) := upd_same
    refine r0 k1 rfl rfl ⟨_, rfl, _, _, rfl, rfl, _, rfl, w0 k1 rfl ?_⟩
    rw [upd_upd]
    have k2 : (upd H bp (.lst [.ref bq, .int ((t.pos : Int) + 1), .int t.rest, .int (mixI (t.seed + zig c))])) bp = some (.lst [.ref bq, .int ((t.pos : Int) + 1), .int t.rest, .int (mixI (t.seed + zig c))]) := upd_same
    have fin : ∀ x : Int, x = (if 10 ^ 18 ≤ zig c then zig c else mixI (mixI (zig c) + ((t.pos : Int) + 1))) →
        gI 2 (.int x) [some (.ref bp), some m, some (.int (zig c)), none] (upd H bp (.lst [.ref bq, .int ((t.pos : Int) + 1), .int t.rest, .int (mixI (t.seed + zig c))])) D.nx := fun x hx => by
      refine w0 k2 rfl ?_
      rw [upd_upd, hx]
      exact q _
    refine ⟨_, rfl, _, _, rfl, rfl, ⟨by decide, by decide, by decide⟩, _, _, rfl, rfl, _, rfl, ?_⟩
    by_cases hx : (10 : Int) ^ 18 ≤ zig c
    · refine iteD hx ⟨_, rfl, fin _ (by rw [if_pos hx])⟩
    · refine iteN hx ⟨_, rfl, _, rfl, r0 k2 rfl rfl ⟨_, _, rfl, rfl, _, rfl, fin _ (by rw [if_neg hx])⟩⟩
  · have hg : t.cells[t.pos]? = none := List.getElem?_eq_none (by omega)
    have em : tpMore t = ⟨t.cells, t.pos, mixI (t.seed + 1), mixI (t.seed + 1)⟩ := by unfold tpMore; rw [hg]
    rw [em] at q
    refine iteN (by omega) ?_
    refine r0 h1 rfl rfl ⟨_, _, rfl, rfl, _, rfl, w0 h1 rfl ?_⟩
    have k1 : (upd H bp (.lst [.ref bq, .int t.pos, .int t.rest, .int (mixI (t.seed + 1))])) bp = some (.lst [.ref bq, .int t.pos, .int t.rest, .int (mixI (t.seed + 1))]) := upd_same
    refine r0 k1 rfl rfl (w0 k1 rfl ?_)
    rw [upd_upd]
    exact q none
theorem pure_take {vs : List V} {H : Hp} {Q : VK} {E : XK} (h : spTake vs H Q E) : t_take K { nx := fun _ H' => Q .non H', rt := Q } (L2.start ["tape", "many", "cell", "digit"] vs) H := by
  obtain ⟨bp, bq, t, m, rfl, h1, h2, hne, hm, q⟩ := h
  refine r0 h1 rfl rfl ⟨_, rfl, _, _, rfl, rfl, _, rfl, ?_⟩
  by_cases hr : t.rest < m
  · have el : tpLoad t m = tpMore t := by unfold tpLoad; rw [if_pos hr]
    unfold tpTake at q
    rw [el] at q
    refine iteD hr (pure_load h1 h2 hne fun c => pure_out upd_same hm ?_)
    rw [upd_upd]
    exact q
  · have el : tpLoad t m = t := by unfold tpLoad; rw [if_neg hr]
    unfold tpTake at q
    rw [el] at q
    exact iteN hr (pure_out h1 hm q)
end
/-! ### the primitive -/
def takeR (m : Int) : M Tp D := fun b => .ok (.int (tpTake b m).1) (tpTake b m).2
def takeP : List D → M Tp D
  | [.box, .int m] => if 0 < m ∧ m < 1000000000 then takeR m else stk
  | _ => stk
theorem rep_box {K : PySem.W.Frag} {mg : PySem.Str → Option Value} {bp : Addr} {B : Hp} {v : V} (h : Rep K mg bp B .box v) : v = .ref bp := by simpa only [Rep] using h
theorem rep_int {K : PySem.W.Frag} {mg : PySem.Str → Option Value} {bp : Addr} {B : Hp} {v : V} {i : Int} (h : Rep K mg bp B (.int i) v) : v = .int i := by simpa only [Rep] using h
/-- the box is written -/
theorem Good.box {β : Type} {Y : Sys β} {bp bq : Addr} {B H : Hp} {b b' : β} (g : Good Y bp bq B H b) {o : HO} (hne : bp ≠ bq) (h1 : (Y.bo bq b').1 = o) (h2 : (Y.bo bq b').2 = (Y.bo bq b).2) :
    Ext bp bq B B H (L2.upd H bp o) ∧ Good Y bp bq B (L2.upd H bp o) b' :=
  ⟨⟨Same.refl _, fun a h k => absurd k h, fun a n1 _ _ => upd_ne n1⟩, ⟨fun a o' ha => by rw [upd_ne fun z => by rw [z, g.b1] at ha; cases ha]; exact g.sub a o' ha, g.b1, g.b2, by rw [upd_same, h1], by rw [upd_ne (Ne.symm hne), h2]; exact g.h2⟩⟩
theorem prim_take {Y : Sys Tp} (hb : Y.bo = tpBo) (hp : Y.pr.prim "_law_take" = some takeP) {k : Nat} (hk : 3 ≤ k) {vs : List V} {H : Hp} {Q : VK} {E : XK} (h : spC Y (k + 1) "_law_take" 2 vs H Q E) : spTake vs H Q E := by
  obtain ⟨hl, bp, bq, B, ds, b, d, b', g, r, e, w⟩ := h
  simp only [PL.call, hp, if_pos hk] at e
  unfold takeP at e
  split at e
  · rename_i m
    obtain ⟨v1, r1, rfl, h1, h2⟩ := r.inv
    obtain ⟨v2, r2, rfl, h3, h4⟩ := h2.inv
    obtain rfl := h4.nil_inv
    by_cases hm : 0 < m ∧ m < 1000000000
    · rw [if_pos hm] at e
      have e : R.ok (D.int (tpTake b m).1) (tpTake b m).2 = R.ok d b' := e
      cases e
      have g1 := g.h1
      have g2 := g.h2
      rw [hb] at g1 g2
      have hne : bp ≠ bq := fun z => by
        rw [z, g2] at g1
        have h : (b.cells.map V.int) = tpOut bq b := by simpa [tpBo] using g1
        cases hc : b.cells with
        | nil => rw [hc] at h; cases h
        | cons c cs => rw [hc] at h; cases h
      obtain ⟨x2, g3⟩ := g.box (b' := (tpTake b m).2) (o := .lst (tpOut bq (tpTake b m).2)) hne (by rw [hb]; rfl) (by
        rw [hb]
        show HO.lst ((tpTake b m).2.cells.map V.int) = HO.lst (b.cells.map V.int)
        have : (tpTake b m).2.cells = b.cells := by
          unfold tpTake tpLoad
          split
          · unfold tpMore
            split <;> rfl
          · rfl
        rw [this])
      refine ⟨bp, bq, b, m, by rw [rep_box h1, rep_int h3], g1, g2, hne, hm, w B _ _ x2 g3 (by simp only [Rep])⟩
    · rw [if_neg hm] at e
      exact (stk_ok e).elim
  · exact (stk_ok e).elim
end PL

set_option autoImplicit false
set_option linter.all false
set_option maxRecDepth 100000
set_option maxHeartbeats 4000000
/-! PL16: the law's def. -/
namespace PL
open PySem PySem.Spec PyProof.Rows L2
def spLaw (K : PySem.W.Frag) : Sp := fun vs H Q _ => ∃ (a : Addr) (ns : List Int), vs = [.ref a] ∧ ns.length ≤ 63 ∧ SqL K H a (ns.map V.int) ∧ ∀ H', Q (.bl true) H'
theorem law_fn {β : Type} {Y : Sys β} (O : Y.Ok) (HF : FnsOk Y) {k : Nat} {fT fa : Addr} {fdT fd : FuncData} {spT : Sp} (GT : FnOk Y.P Y.w Y.K Y.mg Y.base CX0 1 fT fdT ["script"] spT) {tf tn : String} (gT : Y.mg (sx tf) = some (.ref fT)) (kT : PySem.W.keepIn Y.K (.ref fT) = true) (bT : Binds Y.K fdT ["script"] [])
    (hT : ∀ (a : Addr) (ns : List Int) (H : Hp) (Q : VK) (E : XK), SqL Y.K H a (ns.map V.int) → ns.length ≤ 63 → (∀ bp bq b H', H' bp = some (Y.bo bq b).1 → H' bq = some (Y.bo bq b).2 → Q (.ref bp) H') → spT [.ref a] H Q E)
    {fl : Fn} {ms : List String} {p1 p2 p3 p4 p5 : Pos} {args : Arguments} {rest : List Stmt} {scope : Scope}
    (FL : FunD Y.K "law" "law" args (.Assign [.Name (sx tn) p1] (.Call (.Name (sx tf) p2) [.Name "script" p3] [] p4) p5 :: rest) scope [] [] fa fd) (hn : fl.names = "script" :: tn :: ms) (hsc : C8.scC (fl.names.map sx) ["script"] scope = true)
    (hc : chkSs Y.ar Y.fr (fl.names.map sx) fl.body scope rest = true) (h1 : locB scope (sx tn) = true) (h2 : visB scope (sx "script") = true) (h3 : glbB scope (sx tf) = true) (h4 : (sx tf == ("__debug__" : PySem.Str)) = false)
    (Hm : ∀ b, ∃ ρ' b', exs Y.pr.gl (PL.call Y.pr (k + 1)) fl.body (.un :: .im .box :: List.replicate ms.length .un) b = .ok (.rt (.bl true), ρ') b') : FnOk Y.P Y.w Y.K Y.mg Y.base CX0 (k + 2) fa fd ["script"] (spLaw Y.K) := by
  have S := C8.fnScope_by hsc
  refine FL.ok S (fun vs H Q E ⟨a, ns, z, _⟩ => by rw [z]; rfl) fun cdv A outer s H vs Q E hr hsp => ?_
  refine ⟨_, PSs.nox (pss_cons (ps_set (i := 1) S.nd ?_ (loc_of h1) (pe_call GT (hr.mono (by omega)) (gl_of (Y := Y) (k := k + 1) (N := fl.names.map sx) ?_ h3) gT kT bT .nil pass0 (pa_cons (pe_var (i := 0) ?_ (vis_of h2) (by decide +kernel) (by decide +kernel)) pa_nil (by rfl)) h4 (by rfl) (by rfl)) (by rfl) (.inl rfl)) (sndSs O (callees O HF (k + 1)) (N := fl.names.map sx) (sc := scope) ?_ (fun _ => rfl) fl.body rest hc)), ?_⟩
  · show (fl.names.map sx)[1]? = _
    rw [hn]; rfl
  · exact ⟨rfl, rfl, rfl, rfl, rfl, rfl, rfl, S.nd, rfl, S.kind, hr, rfl⟩
  · show (fl.names.map sx)[0]? = _
    rw [hn]; rfl
  · exact ⟨rfl, rfl, rfl, rfl, rfl, rfl, rfl, S.nd, rfl, S.kind, hr, rfl⟩
  · obtain ⟨a, ns, rfl, hl, hS, q⟩ := hsp
    refine ⟨_, rfl, ?_⟩
    refine hT a ns H _ _ hS hl fun bp bq b H' e1 e2 => ?_
    obtain ⟨ρ', b', em⟩ := Hm b
    refine ⟨bp, bq, fun _ => none, H', fun _ => none, _, b, _, ρ', b', ⟨⟨fun a o h => (by cases h), rfl, rfl, e1, e2⟩, ?_, Ext.refl, ?_⟩, em, fun σ' B' H'' c => ?_⟩
    · have hs : (L2.start (fl.names.map sx) [V.ref a]).set 1 (some (.ref bp)) = some (.ref a) :: some (.ref bp) :: List.replicate ms.length none := by
        rw [hn]
        simp [L2.start, List.replicate_succ]
      show RepE Y bp bq _ H' _ ((L2.start (fl.names.map sx) [V.ref a]).set 1 (some (.ref bp)))
      rw [hs]
      have key : ∀ (i : Nat) c, (Cell.un :: Cell.im .box :: List.replicate ms.length Cell.un)[i]? = some c → (i = 1 ∧ c = .im .box) ∨ c = .un := by
        intro i c e
        match i, e with
        | 0, e => exact .inr (Option.some.inj e).symm
        | 1, e => exact .inl ⟨rfl, (Option.some.inj e).symm⟩
        | i + 2, e =>
          have e : (List.replicate ms.length Cell.un)[i]? = some c := by simpa using e
          exact .inr (List.mem_replicate.mp (List.mem_of_getElem? e)).2
      refine ⟨by simp, fun i d e => ?_, fun i xs e => ?_, fun i j xs ys p _ e => ?_⟩
      · rcases key i _ e with ⟨rfl, h⟩ | h
        · cases h
          exact ⟨_, rfl, by simp only [Rep]⟩
        · cases h
      · rcases key i _ e with ⟨rfl, h⟩ | h <;> cases h
      · rcases key i _ e with ⟨rfl, h⟩ | h <;> cases h
    · intro i xs p e
      match i, e with
      | 0, e => cases e
      | 1, e => cases e
      | i + 2, e =>
        have e : (List.replicate ms.length Cell.un)[i]? = some (.ow xs) := by simpa using e
        have := (List.mem_replicate.mp (List.mem_of_getElem? e)).2
        cases this
    · intro v hv
      have : v = .bl true := by simpa only [Rep] using hv
      rw [this]
      exact q H''
end PL
namespace PL
open PySem PySem.Spec PyProof.Rows L2
theorem lookup_mem {α : Type} {x : String} {a : α} : ∀ {l : List (String × α)}, l.lookup x = some a → (x, a) ∈ l
  | [], h => by cases h
  | (y, b) :: l, h => by
    rw [List.lookup_cons] at h
    cases q : x == y with
    | true =>
      rw [q] at h
      have e : x = y := eq_of_beq q
      subst e
      simp only [Option.some.injEq] at h
      subst h
      exact List.mem_cons_self
    | false =>
      rw [q] at h
      exact List.mem_cons_of_mem _ (lookup_mem h)
section
variable {K : PySem.W.Frag} {mg : PySem.Str → Option Value} {x : PySem.Str}
theorem gl_int {i : Int} (h : ∃ t, mg x = some (.int i t)) : ∃ v u, mg x = some u ∧ RelV v u ∧ ∀ bp B, Rep K mg bp B (.int i) v := by
  obtain ⟨t, h⟩ := h
  exact ⟨.int i, _, h, ⟨t, rfl⟩, fun bp B => by simp only [Rep]⟩
theorem gl_str {i : PySem.Str} (h : ∃ t, mg x = some (.str i t)) : ∃ v u, mg x = some u ∧ RelV v u ∧ ∀ bp B, Rep K mg bp B (.str i) v := by
  obtain ⟨t, h⟩ := h
  exact ⟨.str i, _, h, ⟨t, rfl⟩, fun bp B => by simp only [Rep]⟩
theorem gl_tup {a : Addr} {ds : List D} {vs : List V} (h : mg x = some (.ref a)) (s : ∀ H, SqT K H a vs) (r : ∀ bp B, RepL K mg bp B ds vs) : ∃ v u, mg x = some u ∧ RelV v u ∧ ∀ bp B, Rep K mg bp B (.tup ds) v :=
  ⟨.ref a, _, h, rfl, fun bp B => by simp only [Rep]; exact ⟨a, vs, rfl, s B, r bp B⟩⟩
end
end PL

set_option autoImplicit false
set_option linter.all false
set_option maxRecDepth 100000
set_option maxHeartbeats 4000000
/-! PL17: the box of the laws that draw by _law_draw. -/
namespace PL
open PySem PySem.Spec PyProof.Rows L2
structure Bx where
  cells : List Int
  rest : Int
  seed : Int
def bxOut (bq : Addr) (t : Bx) : List V := [.ref bq, .int t.rest, .int t.seed]
def bxBo (bq : Addr) (t : Bx) : HO × HO := (.lst (bxOut bq t), .lst (t.cells.map V.int))
/-- the made-up number, and what stands behind it -/
def bxMade (t : Bx) : Int × Bx :=
  let first := (t.seed * 48271 + 17) % 2147483629
  let second := (first * 69621 + 5) % 2147483587
  let seed := (second * 40692 + 3) % 2147483563
  (first * 4611686014132420609 + second * 2147483647 + seed, ⟨t.cells, t.rest, seed⟩)
def bxLoad (t : Bx) : Int × Bx := match t.cells with
  | [] => bxMade t
  | c :: cs => if 1000000000000000000 ≤ zig c then (zig c, ⟨cs, t.rest, t.seed⟩) else bxMade ⟨cs, t.rest, (t.seed * 69621 + zig c * 48271 + 11) % 2147483647⟩
def bxFull (t : Bx) (m : Int) : Bx := if t.rest < m then ⟨(bxLoad t).2.cells, (bxLoad t).1, (bxLoad t).2.seed⟩ else t
def bxDraw (t : Bx) (m : Int) : Int × Bx := ((bxFull t m).rest % m, ⟨(bxFull t m).cells, (bxFull t m).rest / m, (bxFull t m).seed⟩)
theorem bxDraw_bd (t : Bx) {m : Int} (h : 0 < m) : 0 ≤ (bxDraw t m).1 ∧ (bxDraw t m).1 < m := ⟨Int.emod_nonneg _ (by omega), Int.emod_lt_of_pos _ h⟩
/-- the heap with the box as it is then -/
def bxAt (bp bq : Addr) (H : Hp) (t : Bx) (H' : Hp) : Prop := H' bp = some (.lst (bxOut bq t)) ∧ H' bq = some (.lst (t.cells.map V.int)) ∧ ∀ a, a ≠ bp → a ≠ bq → H' a = H a
def spLoad : Sp := fun vs H Q _ => ∃ bp bq t, vs = [.ref bp] ∧ bxAt bp bq H t H ∧ bp ≠ bq ∧ ∀ H', bxAt bp bq H (bxLoad t).2 H' → Q (.int (bxLoad t).1) H'
def spDraw : Sp := fun vs H Q _ => ∃ bp bq t m, vs = [.ref bp, .int m] ∧ bxAt bp bq H t H ∧ bp ≠ bq ∧ (0 < m ∧ m < 1000000000) ∧ ∀ H', bxAt bp bq H (bxDraw t m).2 H' → Q (.int (bxDraw t m).1) H'
def spBox (K : PySem.W.Frag) : Sp := fun vs H Q _ => ∃ a ns, vs = [.ref a] ∧ SqL K H a (ns.map V.int) ∧ ns.length ≤ 63 ∧
  ∀ bp bq H', H' bp = some (.lst (bxOut bq ⟨ns, 0, 4711 + ns.length⟩)) → H' bq = some (.lst (ns.map V.int)) → bp ≠ bq → Q (.ref bp) H'
def drawR (m : Int) : M Bx D := fun b => .ok (.int (bxDraw b m).1) (bxDraw b m).2
def drawP : List D → M Bx D
  | [.box, .int m] => if 0 < m ∧ m < 1000000000 then drawR m else stk
  | _ => stk
theorem prim_draw {Y : Sys Bx} (hb : Y.bo = bxBo) (hp : Y.pr.prim "_law_draw" = some drawP) {k : Nat} (hk : 3 ≤ k) {vs : List V} {H : Hp} {Q : VK} {E : XK} (h : spC Y (k + 1) "_law_draw" 2 vs H Q E) : spDraw vs H Q E := by
  obtain ⟨hl, bp, bq, B, ds, b, d, b', g, r, e, w⟩ := h
  simp only [PL.call, hp, if_pos hk] at e
  unfold drawP at e
  split at e
  · rename_i m
    obtain ⟨v1, r1, rfl, h1, h2⟩ := r.inv
    obtain ⟨v2, r2, rfl, h3, h4⟩ := h2.inv
    obtain rfl := h4.nil_inv
    by_cases hm : 0 < m ∧ m < 1000000000
    · rw [if_pos hm] at e
      have e : R.ok (D.int (bxDraw b m).1) (bxDraw b m).2 = R.ok d b' := e
      cases e
      have g1 := g.h1
      have g2 := g.h2
      rw [hb] at g1 g2
      have hne : bp ≠ bq := fun z => by
        rw [z, g2] at g1
        have h : (b.cells.map V.int) = bxOut bq b := by simpa [bxBo] using g1
        cases hc : b.cells with
        | nil => rw [hc] at h; cases h
        | cons c cs => rw [hc] at h; cases h
      refine ⟨bp, bq, b, m, by rw [rep_box h1, rep_int h3], ⟨g1, g2, fun _ _ _ => rfl⟩, hne, hm, fun H' hH => ?_⟩
      refine w B H' _ ⟨Same.refl _, fun a h k => absurd k h, fun a n1 n2 _ => hH.2.2 a n1 n2⟩ ⟨fun a o ha => ?_, g.b1, g.b2, by rw [hb]; exact hH.1, by rw [hb]; exact hH.2.1⟩ (by simp only [Rep])
      rw [hH.2.2 a (fun z => by rw [z, g.b1] at ha; cases ha) (fun z => by rw [z, g.b2] at ha; cases ha)]
      exact g.sub a o ha
    · rw [if_neg hm] at e
      exact (stk_ok e).elim
  · exact (stk_ok e).elim
section
variable (K : PySem.W.Frag)
abbrev rgt : R2 := rI0 fun i j => .bl (decide (j < i))
abbrev tZig : TE := tIf (tTest (tOp rge (tVar 2) (ni 0))) (tOp rmul (ni 2) (tVar 2)) (tOp rsub (tOp rmul (tUn (rU fun i => .int (-i)) (ni 2)) (tVar 2)) (ni 1))
def t_pop : TS := tSeq (tAsg (tInt (tBM K "list" rPopAt (tVar 1) (tCons (ni 0) tNil))) (gName 2)) (tSeq (tAsg tZig (gName 3)) (tSeq (tIfS (tTest (tOp rge (tVar 3) (ni 1000000000000000000))) (tRet (tVar 3)) tNext)
  (tAsg (tOp rmod (tInt (tOp radd (tOp radd (tOp rmul (tI K 2) (ni 69621)) (tOp rmul (tVar 3) (ni 48271))) (ni 11))) (ni 2147483647)) (gI 2))))
def t_made : TS := tSeq (tAsg (tOp rmod (tInt (tOp radd (tOp rmul (tI K 2) (ni 48271)) (ni 17))) (ni 2147483629)) (gName 4))
  (tSeq (tAsg (tOp rmod (tInt (tOp radd (tOp rmul (tVar 4) (ni 69621)) (ni 5))) (ni 2147483587)) (gName 5))
  (tSeq (tAsg (tOp rmod (tInt (tOp radd (tOp rmul (tVar 5) (ni 40692)) (ni 3))) (ni 2147483563)) (gI 2))
    (tRet (tOp radd (tOp radd (tOp rmul (tVar 4) (ni 4611686014132420609)) (tOp rmul (tVar 5) (ni 2147483647))) (tI K 2)))))
def t_load2 : TS := tSeq (tAsg (tI K 0) (gName 1)) (tSeq (tIfS (tTest (tOp rgt (tLen1 K (tVar 1)) (ni 0))) (t_pop K) tNext) (t_made K))
def t_box : TS := tRet (tLst (tCons (tCB (fun xs H Q => ∃ p ys, xs = [.ref p] ∧ (SqL K H p ys ∨ SqT K H p ys) ∧ ∀ l, H l = none → Q (.ref l) (L2.upd H l (.lst ys))) (tCons (tSl (rSlL K) (tVar 0) tNoPart (tPart (ni 63))) tNil)) (tCons (ni 0) (tCons (tOp radd (ni 4711) (tLen1 K (tVar 0))) tNil))))
def t_draw : TS := tSeq (tIfS (tTest (tOp rlt (tI K 1) (tVar 1))) (tAsg (tCall spLoad [] E0 (tCons (tVar 0) tNil)) (gI 1)) tNext)
  (tSeq (tAsg (tOp rmod (tInt (tI K 1)) (tVar 1)) (gName 2)) (tSeq (tAsg (tOp rdiv (tI K 1) (tVar 1)) (gI 1)) (tRet (tVar 2))))
variable {K}
theorem b0 {bp : Addr} {a b c v : V} {j : Int} {r : List (Option V)} {H : Hp} {Q : VK} {n : Nat} (h : H bp = some (.lst [a, b, c])) (hn : ixN 3 j = some n) (hv : [a, b, c][n]? = some v) (q : Q v H) : tI K j (some (.ref bp) :: r) H Q := rd_at rfl h hn hv q
theorem x0 {bp : Addr} {a b c v : V} {j : Int} {r : List (Option V)} {H : Hp} {Q : L2.St → Hp → Prop} {n : Nat} (h : H bp = some (.lst [a, b, c])) (hn : ixN 3 j = some n) (q : Q (some (.ref bp) :: r) (L2.upd H bp (.lst ([a, b, c].set n v)))) : gI j v (some (.ref bp) :: r) H Q := wr_at rfl h hn q
theorem bxAt_upd {bp bq : Addr} {H H' : Hp} {t u : Bx} (h : bxAt bp bq H t H') (hne : bp ≠ bq) (hc : u.cells = t.cells) : bxAt bp bq H u (L2.upd H' bp (.lst (bxOut bq u))) :=
  ⟨upd_same, by rw [upd_ne (Ne.symm hne), hc]; exact h.2.1, fun a n1 n2 => by rw [upd_ne n1]; exact h.2.2 a n1 n2⟩
theorem pure_made {bp bq : Addr} {t : Bx} {H H' : Hp} {D : Ends} {a b c d e : Option V} (h : bxAt bp bq H t H') (hne : bp ≠ bq) (q : ∀ H2, bxAt bp bq H (bxMade t).2 H2 → D.rt (.int (bxMade t).1) H2) : t_made K D [some (.ref bp), a, b, c, d, e] H' := by
  have h1 := h.1
  refine b0 h1 rfl rfl ⟨_, _, rfl, rfl, .inr ⟨by decide, by decide⟩, _, _, rfl, rfl, .inl ⟨_, rfl, _, _, rfl, rfl, (by decide : (0:Int) < 2147483629), ?_⟩⟩
  refine ⟨_, rfl, _, _, rfl, rfl, .inr ⟨by decide, by decide⟩, _, _, rfl, rfl, .inl ⟨_, rfl, _, _, rfl, rfl, (by decide : (0:Int) < 2147483587), ?_⟩⟩
  refine ⟨_, rfl, _, _, rfl, rfl, .inr ⟨by decide, by decide⟩, _, _, rfl, rfl, .inl ⟨_, rfl, _, _, rfl, rfl, (by decide : (0:Int) < 2147483563), ?_⟩⟩
  refine x0 h1 rfl ?_
  refine ⟨_, rfl, _, _, rfl, rfl, .inr ⟨by decide, by decide⟩, _, rfl, _, _, rfl, rfl, .inr ⟨by decide, by decide⟩, _, _, rfl, rfl, ?_⟩
  exact b0 upd_same rfl rfl ⟨_, _, rfl, rfl, q _ (bxAt_upd h hne rfl)⟩
theorem pure_load2 {vs : List V} {H : Hp} {Q : VK} {E : XK} (h : spLoad vs H Q E) : t_load2 K { nx := fun _ H' => Q .non H', rt := Q } (L2.start ["box", "cells", "cell", "size", "first", "second"] vs) H := by
  obtain ⟨bp, bq, t, rfl, h, hne, q⟩ := h
  refine b0 h.1 rfl rfl ?_
  refine ⟨_, rfl, bq, _, rfl, .inl (SqL.of h.2.1), _, _, rfl, rfl, _, rfl, ?_⟩
  rw [List.length_map]
  cases hc : t.cells with
  | nil =>
    refine iteN (by simp) ?_
    have e : bxLoad t = bxMade t := by unfold bxLoad; rw [hc]
    rw [e] at q
    exact pure_made h hne q
  | cons c cs =>
    refine iteD (by simp only [List.length_cons]; omega) ?_
    have hq := h.2.1
    rw [hc] at hq
    refine ⟨_, rfl, .inl ⟨rfl, _, SqL.of hq⟩, bq, _, 0, 0, .int c, rfl, rfl, hq, by decide, by decide, by unfold seqIndex?; simp, rfl, .inl ⟨c, rfl, ?_⟩⟩
    have h2 : bxAt bp bq H ⟨cs, t.rest, t.seed⟩ (L2.upd H bq (.lst (cs.map V.int))) := ⟨by rw [upd_ne hne]; exact h.1, upd_same, fun a n1 n2 => upd_ne n2⟩
    have hz : ∀ (Q' : VK) (σ : L2.St) (H' : Hp), σ[2]? = some (some (.int c)) → Q' (.int (zig c)) H' → tZig σ H' Q' := fun Q' σ H' hs hq => by
      refine ⟨_, hs, _, _, rfl, rfl, _, rfl, ?_⟩
      unfold zig at hq
      by_cases hc : 0 ≤ c
      · rw [if_pos hc] at hq
        refine iteD hc ⟨_, hs, _, _, rfl, rfl, .inl ⟨by omega, by omega⟩, hq⟩
      · rw [if_neg hc] at hq
        refine iteN hc ⟨_, rfl, _, hs, _, _, rfl, rfl, .inl ⟨by omega, by omega⟩, _, _, rfl, rfl, hq⟩
    refine hz _ _ _ rfl ?_
    refine ⟨_, rfl, _, _, rfl, rfl, _, rfl, ?_⟩
    by_cases hx : (1000000000000000000 : Int) ≤ zig c
    · have e : bxLoad t = (zig c, ⟨cs, t.rest, t.seed⟩) := by unfold bxLoad; rw [hc]; simp only; rw [if_pos hx]
      rw [e] at q
      exact iteD hx ⟨_, rfl, q _ h2⟩
    · have e : bxLoad t = bxMade ⟨cs, t.rest, (t.seed * 69621 + zig c * 48271 + 11) % 2147483647⟩ := by unfold bxLoad; rw [hc]; simp only; rw [if_neg hx]
      rw [e] at q
      refine iteN hx ?_
      refine b0 h2.1 rfl rfl ⟨_, _, rfl, rfl, .inr ⟨by decide, by decide⟩, _, rfl, _, _, rfl, rfl, .inr ⟨by decide, by decide⟩, _, _, rfl, rfl, _, _, rfl, rfl, .inl ⟨_, rfl, _, _, rfl, rfl, (by decide : (0:Int) < 2147483647), ?_⟩⟩
      refine x0 h2.1 rfl ?_
      exact pure_made (bxAt_upd (u := ⟨cs, t.rest, (t.seed * 69621 + zig c * 48271 + 11) % 2147483647⟩) h2 hne rfl) hne q
theorem pure_draw {vs : List V} {H : Hp} {Q : VK} {E : XK} (h : spDraw vs H Q E) : t_draw K { nx := fun _ H' => Q .non H', rt := Q } (L2.start ["box", "many", "digit"] vs) H := by
  obtain ⟨bp, bq, t, m, rfl, h, hne, hm, q⟩ := h
  have out : ∀ (u : Bx) (H1 : Hp), bxAt bp bq H u H1 → bxFull t m = u → tSeq (tAsg (tOp rmod (tInt (tI K 1)) (tVar 1)) (gName 2)) (tSeq (tAsg (tOp rdiv (tI K 1) (tVar 1)) (gI 1)) (tRet (tVar 2))) { nx := fun _ H' => Q .non H', rt := Q } [some (.ref bp), some (.int m), none] H1 := fun u H1 hu e => by
    refine b0 hu.1 rfl rfl (.inl ⟨_, rfl, _, rfl, _, _, rfl, rfl, hm.1, ?_⟩)
    refine b0 hu.1 rfl rfl ⟨_, rfl, _, _, rfl, rfl, wide_div (b := 30) hm.1 (by omega) (by decide) (by decide), ?_⟩
    refine x0 hu.1 rfl ⟨_, rfl, ?_⟩
    unfold bxDraw at q
    rw [e] at q
    exact q _ (bxAt_upd (u := ⟨u.cells, u.rest / m, u.seed⟩) hu hne rfl)
  refine b0 h.1 rfl rfl ⟨_, rfl, _, _, rfl, rfl, _, rfl, ?_⟩
  by_cases hr : t.rest < m
  · refine iteD hr ?_
    refine ⟨_, rfl, bp, bq, t, rfl, h, hne, fun H2 h2 => ?_⟩
    refine x0 h2.1 rfl ?_
    exact out ⟨(bxLoad t).2.cells, (bxLoad t).1, (bxLoad t).2.seed⟩ _ (bxAt_upd (u := ⟨(bxLoad t).2.cells, (bxLoad t).1, (bxLoad t).2.seed⟩) h2 hne rfl) (by unfold bxFull; rw [if_pos hr])
  · exact iteN hr (out t H h (by unfold bxFull; rw [if_neg hr]))
theorem pure_box {vs : List V} {H : Hp} {Q : VK} {E : XK} (h : spBox K vs H Q E) : t_box K { nx := fun _ H' => Q .non H', rt := Q } (L2.start ["script"] vs) H := by
  obtain ⟨a, ns, rfl, hS, hl, q⟩ := h
  refine ⟨_, rfl, ⟨_, rfl, a, _, rfl, hS, fun p1 f1 => ?_⟩⟩
  refine ⟨_, _, rfl, .inl (SqL.of upd_same), fun p2 f2 => ?_⟩
  have hS2 := ((same_upd (o := .lst (cutV (ns.map V.int) none (some 63))) f1).trans (same_upd (o := .lst (cutV (ns.map V.int) none (some 63))) f2)).seq hS
  refine ⟨_, rfl, a, _, rfl, .inl hS2, _, _, rfl, rfl, by show 3 ≤ sizeLine; decide, fun p3 f3 => ?_⟩
  have hc : cutV (ns.map V.int) none (some 63) = ns.map V.int := by
    unfold cutV HT.sIx
    simp only [List.length_map, List.drop_zero]
    rw [List.take_of_length_le]
    simp only [List.length_map]
    have : ¬ ((63 : Int) < 0) := by decide
    rw [if_neg this]
    omega
  have n1 : p2 ≠ p3 := fun z => by rw [← z, upd_same] at f3; cases f3
  rw [List.length_map]
  exact q p3 p2 _ upd_same (by rw [upd_ne n1, upd_same, hc]) (Ne.symm n1)
end
end PL

set_option autoImplicit false
set_option linter.all false
set_option maxRecDepth 100000
set_option maxHeartbeats 2000000
/-! M1: running the small language. -/
namespace PL
section
variable {β α γ : Type}
def Run (m : M β α) (b : β) (Q : α → β → Prop) : Prop := ∃ a b', m b = .ok a b' ∧ Q a b'
theorem run_ret {a : α} {b : β} {Q : α → β → Prop} : Run (ret a) b Q ↔ Q a b := by
  constructor
  · rintro ⟨a', b', e, q⟩; cases e; exact q
  · intro q; exact ⟨a, b, rfl, q⟩
theorem run_stk {b : β} {Q : α → β → Prop} : Run (stk : M β α) b Q ↔ False := by
  constructor
  · rintro ⟨a', b', e, q⟩; cases e
  · intro q; exact q.elim
theorem run_bnd {m : M β α} {f : α → M β γ} {b : β} {Q : γ → β → Prop} : Run (bnd m f) b Q ↔ Run m b (fun a b' => Run (f a) b' Q) := by
  constructor
  · rintro ⟨c, b', e, q⟩
    unfold bnd at e
    cases h : m b with
    | ok a b1 => rw [h] at e; exact ⟨a, b1, h, c, b', e, q⟩
    | exc _ _ _ => rw [h] at e; cases e
    | stuck => rw [h] at e; cases e
  · rintro ⟨a, b1, h, c, b', e, q⟩
    exact ⟨c, b', by unfold bnd; rw [h]; exact e, q⟩
theorem run_lft {o : Option α} {b : β} {Q : α → β → Prop} : Run (lft o) b Q ↔ ∃ a, o = some a ∧ Q a b := by
  cases o with
  | none =>
    constructor
    · rintro ⟨a', b', e, q⟩; cases e
    · rintro ⟨a, e, _⟩; cases e
  | some a =>
    constructor
    · rintro ⟨a', b', e, q⟩; cases e; exact ⟨_, rfl, q⟩
    · rintro ⟨a', e, q⟩; cases e; exact ⟨_, _, rfl, q⟩
theorem run_ite {c : Prop} [Decidable c] {m n : M β α} {b : β} {Q : α → β → Prop} : Run (if c then m else n) b Q ↔ if c then Run m b Q else Run n b Q := by
  by_cases h : c <;> simp only [h, if_true, if_false]
theorem Run.mono {m : M β α} {b : β} {Q Q' : α → β → Prop} (h : Run m b Q) (i : ∀ a b', Q a b' → Q' a b') : Run m b Q' := let ⟨a, b', e, q⟩ := h; ⟨a, b', e, i a b' q⟩
theorem eq_ret {m : M β α} {v : α} (h : ∀ b, Run m b (fun a b' => a = v ∧ b' = b)) : m = ret v := by
  funext b
  obtain ⟨a, b', e, rfl, rfl⟩ := h b
  exact e
theorem bnd_eq {m : M β α} {a : α} (h : m = ret a) (f : α → M β γ) : bnd m f = f a := by rw [h]; rfl
/-- what a block does to how it ends -/
def nxts (Q : Fl × Env → β → Prop) (k : Env → M β (Fl × Env)) : Fl × Env → β → Prop := fun x b => match x.1 with
  | .nx => Run (k x.2) b Q
  | .bk => Q (.bk, x.2) b
  | .ct => Q (.ct, x.2) b
  | .rt d => Q (.rt d, x.2) b
variable {gl : String → Option D} {F : String → List D → M β D}
theorem run_exs_nil {ρ : Env} {b : β} {Q : Fl × Env → β → Prop} : Run (exs gl F [] ρ) b Q ↔ Q (.nx, ρ) b := by
  simp only [exs, nxt]; exact run_ret
theorem run_exs_cons {s : S} {r : List S} {ρ : Env} {b : β} {Q : Fl × Env → β → Prop} : Run (exs gl F (s :: r) ρ) b Q ↔ Run (ex gl F s ρ) b (nxts Q (exs gl F r)) := by
  simp only [exs]
  rw [run_bnd]
  constructor
  · intro h
    refine h.mono fun x b' q => ?_
    unfold nxts
    cases hx : x.1 <;> simp only [hx] at q ⊢ <;> first | exact q | exact run_ret.mp q
  · intro h
    refine h.mono fun x b' q => ?_
    unfold nxts at q
    cases hx : x.1 <;> simp only [hx] at q ⊢ <;> first | exact q | exact run_ret.mpr q
theorem exs_ret {s : S} {r : List S} {ρ : Env} {x : Fl × Env} (h : ex gl F s ρ = ret x) : exs gl F (s :: r) ρ = match x.1 with
    | .nx => exs gl F r x.2
    | .bk => ret (.bk, x.2)
    | .ct => ret (.ct, x.2)
    | .rt d => ret (.rt d, x.2) := by
  simp only [exs, h]; rfl
/-! ### loops -/
theorem whlN_more {c : Env → M β Bool} {f : Env → M β (Fl × Env)} : ∀ (n m : Nat) (ρ : Env) (b : β) (x : Fl × Env) (b' : β), whlN c f n ρ b = .ok x b' → whlN c f (n + m) ρ b = .ok x b'
  | 0, m, ρ, b, x, b', h => by cases h
  | n + 1, m, ρ, b, x, b', h => by
    rw [Nat.succ_add]
    simp only [whlN, bnd] at h ⊢
    cases hc : c ρ b with
    | ok t b1 =>
      rw [hc] at h
      simp only at h ⊢
      cases t with
      | false => simpa using h
      | true =>
        simp only [if_true, bnd] at h ⊢
        cases hf : f ρ b1 with
        | ok r b2 =>
          rw [hf] at h
          simp only at h ⊢
          obtain ⟨r1, r2⟩ := r
          cases r1 with
          | nx => exact whlN_more n m _ _ _ _ h
          | ct => exact whlN_more n m _ _ _ _ h
          | bk => exact h
          | rt d => exact h
        | exc _ _ _ => rw [hf] at h; cases h
        | stuck => rw [hf] at h; cases h
    | exc _ _ _ => rw [hc] at h; cases h
    | stuck => rw [hc] at h; cases h
theorem whlN_moreE {c : Env → M β Bool} {f : Env → M β (Fl × Env)} : ∀ (n m : Nat) (ρ : Env) (b : β) (x : String) (p : List D) (b' : β), whlN c f n ρ b = .exc x p b' → whlN c f (n + m) ρ b = .exc x p b'
  | 0, m, ρ, b, x, p, b', h => by cases h
  | n + 1, m, ρ, b, x, p, b', h => by
    rw [Nat.succ_add]
    simp only [whlN, bnd] at h ⊢
    cases hc : c ρ b with
    | ok t b1 =>
      rw [hc] at h
      simp only at h ⊢
      cases t with
      | false => simpa using h
      | true =>
        simp only [if_true, bnd] at h ⊢
        cases hf : f ρ b1 with
        | ok r b2 =>
          rw [hf] at h
          simp only at h ⊢
          obtain ⟨r1, r2⟩ := r
          cases r1 with
          | nx => exact whlN_moreE n m _ _ _ _ _ h
          | ct => exact whlN_moreE n m _ _ _ _ _ h
          | bk => exact h
          | rt d => exact h
        | exc _ _ _ => rw [hf] at h; simpa using h
        | stuck => rw [hf] at h; cases h
    | exc _ _ _ => rw [hc] at h; simpa using h
    | stuck => rw [hc] at h; cases h
theorem whlM_of {c : Env → M β Bool} {f : Env → M β (Fl × Env)} {n : Nat} {ρ : Env} {b b' : β} {x : Fl × Env} (h : whlN c f n ρ b = .ok x b') : whlM c f ρ b = .ok x b' := by
  have he : ∃ n, whlN c f n ρ b ≠ .stuck := ⟨n, by rw [h]; exact fun z => by cases z⟩
  unfold whlM
  rw [dif_pos he]
  have hs := he.choose_spec
  generalize he.choose = m at hs
  have h1 := whlN_more n m ρ b x b' h
  cases hm : whlN c f m ρ b with
  | ok y b2 =>
    have h2 := whlN_more m n ρ b y b2 hm
    rw [Nat.add_comm, h1] at h2
    exact h2.symm
  | exc y p b2 =>
    have h2 := whlN_moreE m n ρ b y p b2 hm
    rw [Nat.add_comm, h1] at h2
    cases h2
  | stuck => exact absurd hm hs
/-- how a turn goes on -/
def turn (N : Env → β → Prop) (Q : Fl × Env → β → Prop) : Fl × Env → β → Prop := fun x b => match x.1 with
  | .nx => N x.2 b
  | .ct => N x.2 b
  | .bk => Q (.nx, x.2) b
  | .rt d => Q (.rt d, x.2) b
theorem run_whl {c : Env → M β Bool} {f : Env → M β (Fl × Env)} {Q : Fl × Env → β → Prop} (I : Nat → Env → β → Prop)
    (hs : ∀ n ρ b, I n ρ b → Run (c ρ) b (fun t b' => if t = true then Run (f ρ) b' (turn (fun ρ' b'' => ∃ m, m < n ∧ I m ρ' b'') Q) else Q (.nx, ρ) b')) {n : Nat} {ρ : Env} {b : β} (h0 : I n ρ b) : Run (whlM c f ρ) b Q := by
  have key : ∀ n ρ b, I n ρ b → ∃ k x b', whlN c f k ρ b = .ok x b' ∧ Q x b' := by
    intro n
    induction n using Nat.strongRecOn with
    | _ n ih =>
      intro ρ b h
      obtain ⟨t, b1, e1, h1⟩ := hs n ρ b h
      cases t with
      | false => exact ⟨1, _, _, by simp only [whlN, bnd, e1]; rfl, h1⟩
      | true =>
        simp only [if_true] at h1
        obtain ⟨⟨r1, r2⟩, b2, e2, h2⟩ := h1
        cases r1 with
        | nx =>
          obtain ⟨m, hm, h3⟩ := h2
          obtain ⟨k, x, b', e3, q⟩ := ih m hm _ _ h3
          exact ⟨k + 1, x, b', by simp only [whlN, bnd, e1, e2, if_true]; exact e3, q⟩
        | ct =>
          obtain ⟨m, hm, h3⟩ := h2
          obtain ⟨k, x, b', e3, q⟩ := ih m hm _ _ h3
          exact ⟨k + 1, x, b', by simp only [whlN, bnd, e1, e2, if_true]; exact e3, q⟩
        | bk => exact ⟨1, _, _, by simp only [whlN, bnd, e1, e2, if_true]; rfl, h2⟩
        | rt d => exact ⟨1, _, _, by simp only [whlN, bnd, e1, e2, if_true]; rfl, h2⟩
  obtain ⟨k, x, b', e, q⟩ := key n ρ b h0
  exact ⟨x, b', whlM_of e, q⟩
theorem run_for {f : D → Env → M β (Fl × Env)} {Q : Fl × Env → β → Prop} (I : Nat → Env → β → Prop) {xs : List D}
    (hs : ∀ i d ρ b, xs[i]? = some d → I i ρ b → Run (f d ρ) b (turn (I (i + 1)) Q)) (hd : ∀ ρ b, I xs.length ρ b → Q (.nx, ρ) b) {ρ : Env} {b : β} (h0 : I 0 ρ b) : Run (forM f xs ρ) b Q := by
  induction xs generalizing I ρ b with
  | nil => exact ⟨_, _, rfl, hd _ _ h0⟩
  | cons x xs ih =>
    simp only [forM]
    rw [run_bnd]
    refine (hs 0 x ρ b rfl h0).mono fun r b' q => ?_
    obtain ⟨r1, r2⟩ := r
    cases r1 with
    | nx => exact ih (fun i => I (i + 1)) (fun i d ρ b e h => hs (i + 1) d ρ b (by simpa using e) h) (fun ρ b h => hd ρ b (by simpa using h)) q
    | ct => exact ih (fun i => I (i + 1)) (fun i d ρ b e h => hs (i + 1) d ρ b (by simpa using e) h) (fun ρ b h => hd ρ b (by simpa using h)) q
    | bk => exact run_ret.mpr q
    | rt d => exact run_ret.mpr q
theorem compM_ret {f : D → M β (Option D)} {g : D → Option D} : ∀ {xs : List D}, (∀ x ∈ xs, f x = ret (g x)) → compM f xs = ret (xs.filterMap g)
  | [], _ => rfl
  | x :: xs, h => by
    simp only [compM]
    rw [h x List.mem_cons_self, compM_ret fun y hy => h y (List.mem_cons_of_mem _ hy)]
    cases hg : g x with
    | none => rw [List.filterMap_cons_none hg]; rfl
    | some v => rw [List.filterMap_cons_some hg]; rfl
theorem compM_map {f : D → M β (Option D)} {g : D → D} {xs : List D} (h : ∀ x ∈ xs, f x = ret (some (g x))) : compM f xs = ret (xs.map g) := by
  rw [compM_ret (g := fun x => some (g x)) h, List.filterMap_eq_map']
theorem run_comp {f : D → M β (Option D)} (J : Nat → List D → β → Prop) {xs : List D} {Q : List D → β → Prop}
    (hs : ∀ i d acc b, xs[i]? = some d → J i acc b → Run (f d) b (fun o b' => J (i + 1) (match o with
      | some v => acc ++ [v]
      | none => acc) b')) (hd : ∀ acc b, J xs.length acc b → Q acc b) {b : β} (h0 : J 0 [] b) : Run (compM f xs) b Q := by
  have key : ∀ (xs : List D) (J : Nat → List D → β → Prop) (acc : List D) (b : β), (∀ i d acc b, xs[i]? = some d → J i acc b → Run (f d) b (fun o b' => J (i + 1) (match o with
      | some v => acc ++ [v]
      | none => acc) b')) → J 0 acc b → Run (compM f xs) b (fun r b' => J xs.length (acc ++ r) b') := by
    intro xs
    induction xs with
    | nil => intro J acc b hs h; exact ⟨[], b, rfl, by simpa using h⟩
    | cons x xs ih =>
      intro J acc b hs h
      simp only [compM]
      rw [run_bnd]
      refine (hs 0 x acc b rfl h).mono fun o b' q => ?_
      rw [run_bnd]
      refine (ih (fun i => J (i + 1)) _ b' (fun i d acc b e h => hs (i + 1) d acc b (by simpa using e) h) q).mono fun r b'' q' => ?_
      rw [run_ret]
      cases o with
      | none => simpa using q'
      | some v => simpa using q'
  exact (key xs J [] b hs h0).mono fun r b' q => hd r b' (by simpa using q)
/-! ### calls -/
variable {P : Prog β}
theorem call_fn {x : String} {f : Fn} {args : List D} {k : Nat} (h1 : P.prim x = none) (h2 : P.fns x = some f) (h3 : args.length = f.np) :
    call P (k + 1) x args = endF (exs P.gl (call P k) f.body (args.map Cell.im ++ List.replicate (f.names.length - f.np) Cell.un)) := by
  simp only [call, h1, h2, if_pos h3]
theorem run_endF {m : M β (Fl × Env)} {b : β} {Q : D → β → Prop} : Run (endF m) b Q ↔ Run m b (fun r b' => match r.1 with
    | .rt d => Q d b'
    | .nx => Q .non b'
    | _ => False) := by
  unfold endF
  rw [run_bnd]
  constructor
  · intro h
    refine h.mono fun r b' q => ?_
    cases hr : r.1 <;> simp only [hr] at q ⊢ <;> first | exact run_ret.mp q | exact run_stk.mp q
  · intro h
    refine h.mono fun r b' q => ?_
    cases hr : r.1 <;> simp only [hr] at q ⊢ <;> first | exact run_ret.mpr q | exact q.elim
theorem ex_iff {c : E} {a b : List S} {ρ : Env} {t : Bool} (h : tst gl F c ρ = ret t) : ex gl F (.iff c a b) ρ = if t = true then exs gl F a ρ else exs gl F b ρ := by
  simp only [ex, h]; rfl
theorem exs_iff {c : E} {a b r : List S} {ρ : Env} {t : Bool} (h : tst gl F c ρ = ret t) : exs gl F (.iff c a b :: r) ρ = bnd (if t = true then exs gl F a ρ else exs gl F b ρ) (fun x => match x.1 with
    | .nx => exs gl F r x.2
    | .bk => ret (.bk, x.2)
    | .ct => ret (.ct, x.2)
    | .rt d => ret (.rt d, x.2)) := by
  simp only [exs, ex_iff h] <;> rfl
theorem exs_T {c : E} {a b r : List S} {ρ : Env} {d : D} {ρ' : Env} (h : tst gl F c ρ = ret true) (h2 : exs gl F a ρ = ret (.rt d, ρ')) : exs gl F (.iff c a b :: r) ρ = ret (.rt d, ρ') := by
  rw [exs_iff h, if_pos rfl, h2]; rfl
theorem exs_F {c : E} {a r : List S} {ρ : Env} (h : tst gl F c ρ = ret false) : exs gl F (.iff c a [] :: r) ρ = exs gl F r ρ := by
  rw [exs_iff h, if_neg (by decide)]; rfl
theorem exs_Tn {c : E} {a b r : List S} {ρ ρ' : Env} (h : tst gl F c ρ = ret true) (h2 : exs gl F a ρ = ret (.nx, ρ')) : exs gl F (.iff c a b :: r) ρ = exs gl F r ρ' := by
  rw [exs_iff h, if_pos rfl, h2]; rfl
theorem exs_Fn {c : E} {a b r : List S} {ρ ρ' : Env} (h : tst gl F c ρ = ret false) (h2 : exs gl F b ρ = ret (.nx, ρ')) : exs gl F (.iff c a b :: r) ρ = exs gl F r ρ' := by
  rw [exs_iff h, if_neg (by decide), h2]; rfl
theorem exs_Fr {c : E} {a b r : List S} {ρ ρ' : Env} {d : D} (h : tst gl F c ρ = ret false) (h2 : exs gl F b ρ = ret (.rt d, ρ')) : exs gl F (.iff c a b :: r) ρ = ret (.rt d, ρ') := by
  rw [exs_iff h, if_neg (by decide), h2]; rfl
theorem exs_rt {e : E} {r : List S} {ρ : Env} {d : D} (h : ev gl F e ρ = ret d) : exs gl F (.ret e :: r) ρ = ret (.rt d, ρ) := by
  simp only [exs, ex, h]; rfl
theorem exs_asg {i : Nat} {e : E} {r : List S} {ρ : Env} {d : D} (h : ev gl F e ρ = ret d) : exs gl F (.asg (.nm i) e :: r) ρ = exs gl F r (ρ.set i (.im d)) := by
  simp only [exs, ex, h]; rfl
theorem endF_rt {m : M β (Fl × Env)} {d : D} {ρ : Env} (h : m = ret (.rt d, ρ)) : endF m = ret d := by rw [h]; rfl
end
/-! ### the rules of reckoning, for simp -/
section
variable {β : Type} {gl : String → Option D} {F : String → List D → M β D} {ρ : Env}
@[simp] theorem getV_zero {d : D} : (getV (.im d :: ρ) 0 : M β D) = ret d := rfl
@[simp] theorem getV_succ {c : Cell} {n : Nat} : (getV (c :: ρ) (n + 1) : M β D) = getV ρ n := rfl
@[simp] theorem getB_zero {d : D} : (getB (.im d :: ρ) 0 : M β D) = ret d := rfl
@[simp] theorem getB_ow {d : List D} : (getB (.ow d :: ρ) 0 : M β D) = ret (.lst d) := rfl
@[simp] theorem getB_succ {c : Cell} {n : Nat} : (getB (c :: ρ) (n + 1) : M β D) = getB ρ n := rfl
@[simp] theorem getO_zero {d : List D} : (getO (.ow d :: ρ) 0 : M β (List D)) = ret d := rfl
@[simp] theorem getO_succ {c : Cell} {n : Nat} : (getO (c :: ρ) (n + 1) : M β (List D)) = getO ρ n := rfl
@[simp] theorem ev_var {i : Nat} : ev gl F (.var i) ρ = getV ρ i := by simp only [ev]
@[simp] theorem ev_bvar {i : Nat} : ev gl F (.bvar i) ρ = getB ρ i := by simp only [ev]
@[simp] theorem ev_glob {x : String} : ev gl F (.glob x) ρ = lft (gl x) := by simp only [ev]
@[simp] theorem ev_lit {d : D} : ev gl F (.lit d) ρ = ret d := by simp only [ev]
@[simp] theorem ev_bin {o : Bop} {a b : E} : ev gl F (.bin o a b) ρ = bnd (ev gl F a ρ) fun x => bnd (ev gl F b ρ) fun y => lft (bop o x y) := by simp only [ev]
@[simp] theorem ev_neg {a : E} : ev gl F (.neg a) ρ = bnd (ev gl F a ρ) fun x => bnd (lft (toI x)) fun i => ret (.int (-i)) := by simp only [ev]
@[simp] theorem ev_no {a : E} : ev gl F (.no a) ρ = bnd (ev gl F a ρ) fun x => bnd (lft (truth x)) fun t => ret (.bl (!t)) := by simp only [ev]
@[simp] theorem ev_and {es : List E} : ev gl F (.and es) ρ = evA gl F es ρ := by simp only [ev]
@[simp] theorem ev_or {es : List E} : ev gl F (.or es) ρ = evO gl F es ρ := by simp only [ev]
@[simp] theorem ev_cmp {o : Cop} {a b : E} : ev gl F (.cmp o a b) ρ = bnd (ev gl F a ρ) fun x => bnd (ev gl F b ρ) fun y => bnd (lft (cop o x y)) fun t => ret (.bl t) := by simp only [ev]
@[simp] theorem ev_chn {o p : Cop} {a b c : E} : ev gl F (.chn o p a b c) ρ = bnd (ev gl F a ρ) fun x => bnd (ev gl F b ρ) fun y => bnd (lft (cop o x y)) fun t =>
      if t = true then bnd (ev gl F c ρ) fun z => bnd (lft (cop p y z)) fun u => ret (.bl u) else ret (.bl false) := by simp only [ev]
@[simp] theorem ev_isi {a : E} {t : Ty} : ev gl F (.isi a t) ρ = bnd (ev gl F a ρ) fun x => bnd (lft (isi x t)) fun t => ret (.bl t) := by simp only [ev]
@[simp] theorem ev_ite {c a b : E} : ev gl F (.ite c a b) ρ = bnd (ev gl F c ρ) fun x => bnd (lft (truth x)) fun t => if t = true then ev gl F a ρ else ev gl F b ρ := by simp only [ev]
@[simp] theorem ev_idx {a i : E} : ev gl F (.idx a i) ρ = bnd (ev gl F a ρ) fun x => bnd (ev gl F i ρ) fun y => lft (idx x y) := by simp only [ev]
@[simp] theorem ev_sl1 {a lo : E} : ev gl F (.sl1 a lo) ρ = bnd (ev gl F a ρ) fun x => bnd (ev gl F lo ρ) fun l => bnd (lft (toI l)) fun l => lft (sli (some l) none x) := by simp only [ev]
@[simp] theorem ev_sl2 {a hi : E} : ev gl F (.sl2 a hi) ρ = bnd (ev gl F a ρ) fun x => bnd (ev gl F hi ρ) fun u => bnd (lft (toI u)) fun u => lft (sli none (some u) x) := by simp only [ev]
@[simp] theorem ev_sl3 {a lo hi : E} : ev gl F (.sl3 a lo hi) ρ = bnd (ev gl F a ρ) fun x => bnd (ev gl F lo ρ) fun l => bnd (lft (toI l)) fun l => bnd (ev gl F hi ρ) fun u => bnd (lft (toI u)) fun u => lft (sli (some l) (some u) x) := by simp only [ev]
@[simp] theorem ev_rev {a : E} : ev gl F (.rev a) ρ = bnd (ev gl F a ρ) fun x => lft (revD x) := by simp only [ev]
@[simp] theorem ev_tup {es : List E} : ev gl F (.tup es) ρ = bnd (evL gl F es ρ) fun ds => if ds.length ≤ lim then ret (.tup ds) else stk := by simp only [ev]
@[simp] theorem ev_lst {es : List E} : ev gl F (.lst es) ρ = bnd (evL gl F es ρ) fun ds => if ds.length ≤ lim then ret (.lst ds) else stk := by simp only [ev]
@[simp] theorem ev_bi {f : Bi} {es : List E} : ev gl F (.bi f es) ρ = bnd (evL gl F es ρ) fun ds => lft (bfn f ds) := by simp only [ev]
@[simp] theorem ev_call {f : String} {es : List E} : ev gl F (.call f es) ρ = bnd (evL gl F es ρ) fun ds => F f ds := by simp only [ev]
theorem ev_comp {e : E} {t : Tg} {k : Ik} {es cs : List E} {own : List Nat} : ev gl F (.comp e t k es cs own) ρ = bnd (evL gl F es ρ) fun ds => bnd (lft (iter k ds)) fun xs => if xs.length ≤ lim then bnd (compM (fun d => bnd (lft (bindT t d (wipeE ρ own))) fun ρ' =>
      bnd (evC gl F cs ρ') fun b => if b = true then bnd (ev gl F e ρ') fun v => ret (some v) else ret none) xs) fun vs => ret (.lst vs) else stk := by simp only [ev]
@[simp] theorem evL_nil : evL gl F [] ρ = ret [] := by simp only [evL]
@[simp] theorem evL_cons {e : E} {es : List E} : evL gl F (e :: es) ρ = bnd (ev gl F e ρ) fun d => bnd (evL gl F es ρ) fun ds => ret (d :: ds) := by simp only [evL]
@[simp] theorem evA_one {e : E} : evA gl F [e] ρ = ev gl F e ρ := by simp only [evA]
@[simp] theorem evA_cons {e e2 : E} {es : List E} : evA gl F (e :: e2 :: es) ρ = bnd (ev gl F e ρ) fun d => bnd (lft (truth d)) fun t => if t = true then evA gl F (e2 :: es) ρ else ret d := by simp only [evA]
@[simp] theorem evO_one {e : E} : evO gl F [e] ρ = ev gl F e ρ := by simp only [evO]
@[simp] theorem evO_cons {e e2 : E} {es : List E} : evO gl F (e :: e2 :: es) ρ = bnd (ev gl F e ρ) fun d => bnd (lft (truth d)) fun t => if t = true then ret d else evO gl F (e2 :: es) ρ := by simp only [evO]
@[simp] theorem evC_nil : evC gl F [] ρ = ret true := by simp only [evC]
@[simp] theorem evC_cons {e : E} {es : List E} : evC gl F (e :: es) ρ = bnd (ev gl F e ρ) fun d => bnd (lft (truth d)) fun t => if t = true then evC gl F es ρ else ret false := by simp only [evC]
@[simp] theorem cop_eqI {i j : Int} : cop .eq (.int i) (.int j) = some (decide (i = j)) := by
  have h : pln 60 (.int i) = true := by simp only [pln]
  have h2 : pln 60 (.int j) = true := by simp only [pln]
  simp only [cop, h, h2, deq]
  rfl
@[simp] theorem cop_neI {i j : Int} : cop .ne (.int i) (.int j) = some (!decide (i = j)) := by
  have h : pln 60 (.int i) = true := by simp only [pln]
  have h2 : pln 60 (.int j) = true := by simp only [pln]
  simp only [cop, h, h2, deq]
  rfl
@[simp] theorem cop_lt {i j : Int} : cop .lt (.int i) (.int j) = some (decide (i < j)) := rfl
@[simp] theorem cop_le {i j : Int} : cop .le (.int i) (.int j) = some (decide (i ≤ j)) := rfl
@[simp] theorem cop_gt {i j : Int} : cop .gt (.int i) (.int j) = some (decide (j < i)) := rfl
@[simp] theorem cop_ge {i j : Int} : cop .ge (.int i) (.int j) = some (decide (j ≤ i)) := rfl
@[simp] theorem cop_is {d e : D} : cop .iss d e = isSame d e := rfl
@[simp] theorem cop_isnot {d e : D} : cop .isnot d e = (isSame d e).map (!·) := rfl
@[simp] theorem bop_addI {i j : Int} : bop .add (.int i) (.int j) = some (.int (i + j)) := rfl
@[simp] theorem bop_subI {i j : Int} : bop .sub (.int i) (.int j) = some (.int (i - j)) := rfl
@[simp] theorem truth_bl {b : Bool} : truth (.bl b) = some b := rfl
@[simp] theorem truth_int {i : Int} : truth (.int i) = some (i != 0) := rfl
@[simp] theorem truth_non : truth .non = some false := rfl
@[simp] theorem truth_tup {xs : List D} : truth (.tup xs) = some (!xs.isEmpty) := rfl
@[simp] theorem truth_lst {xs : List D} : truth (.lst xs) = some (!xs.isEmpty) := rfl
@[simp] theorem toI_int {i : Int} : toI (.int i) = some i := rfl
@[simp] theorem ix_tup0 {d : D} {xs : List D} : idx (.tup (d :: xs)) (.int 0) = some d := rfl
@[simp] theorem ix_tup1 {d e : D} {xs : List D} : idx (.tup (d :: e :: xs)) (.int 1) = some e := rfl
@[simp] theorem ix_tup2 {d e f : D} {xs : List D} : idx (.tup (d :: e :: f :: xs)) (.int 2) = some f := rfl
@[simp] theorem tst_eq {e : E} : tst gl F e ρ = bnd (ev gl F e ρ) fun x => lft (truth x) := rfl
end
end PL

set_option autoImplicit false
set_option linter.all false
set_option maxRecDepth 100000
set_option maxHeartbeats 2000000
set_option exponentiation.threshold 20000
/-! M2: rational numbers as the program has them. -/
namespace PL
/-- a rational number -/
def Rt (q : Rat) : D := .tup [.int q.num, .int q.den]
/-- small enough for every step -/
def Sz (q : Rat) : Prop := q.num.natAbs < 2 ^ 4000 ∧ q.den < 2 ^ 4000
theorem log_lt {n k : Nat} (h : n < 2 ^ (k + 1)) : n.log2 ≤ k := by
  by_cases h0 : n = 0
  · subst h0; simp
  · have := (Nat.log2_lt h0).mpr h
    omega
theorem mul_ok {i j : Int} {a b : Nat} (h1 : i.natAbs < 2 ^ (a + 1)) (h2 : j.natAbs < 2 ^ (b + 1)) (h : a + b < 1000000) : mulOk i j = true := by
  have := log_lt h1
  have := log_lt h2
  simp only [mulOk, decide_eq_true_eq]
  omega
theorem div_ok {j : Int} {a : Nat} (h0 : 0 < j) (h1 : j.natAbs < 2 ^ (a + 1)) (h : a < 9000) : divOk j = true := by
  have := log_lt h1
  simp only [divOk, Bool.and_eq_true, decide_eq_true_eq]
  exact ⟨h0, by omega⟩
theorem bop_mul {i j : Int} (h : mulOk i j = true) : bop .mul (.int i) (.int j) = some (.int (i * j)) := by simp only [bop, h, if_true]
theorem bop_div {i j : Int} (h : divOk j = true) : bop .fdiv (.int i) (.int j) = some (.int (i / j)) := by simp only [bop, h, if_true]
theorem rat_div (p q : Int) : (p : Rat) / (q : Rat) = Rat.divInt p q := (Rat.divInt_eq_div p q).symm
theorem natCast_toNat {q : Int} (h : 0 ≤ q) : ((q.toNat : Nat) : Rat) = (q : Rat) := by
  have h1 : ((q.toNat : Nat) : Rat) = ((q.toNat : Int) : Rat) := (Rat.intCast_natCast _).symm
  rw [h1, Int.toNat_of_nonneg h]
/-- in lowest terms -/
theorem rat_of {p q : Int} (h : 0 < q) : Rt ((p : Rat) / (q : Rat)) = .tup [.int (p / (Int.gcd p q : Int)), .int (q / (Int.gcd p q : Int))] := by
  have e : (p : Rat) / (q : Rat) = mkRat p q.toNat := by
    rw [Rat.mkRat_eq_div, natCast_toNat (by omega)]
  have hq : q.toNat ≠ 0 := by omega
  have hg : (Int.gcd p q : Int) = ((p.natAbs.gcd q.toNat : Nat) : Int) := by
    have : q.natAbs = q.toNat := by omega
    rw [← this]; rfl
  unfold Rt
  rw [e, Rat.mkRat_def, dif_neg hq, Rat.normalize_eq]
  simp only [hg]
  congr 3
  have : ((q.toNat / p.natAbs.gcd q.toNat : Nat) : Int) = (q.toNat : Int) / ((p.natAbs.gcd q.toNat : Nat) : Int) := by simp
  rw [this, Int.toNat_of_nonneg (by omega)]
theorem num_den (q : Rat) : (q.num : Rat) / ((q.den : Int) : Rat) = q := by
  rw [rat_div]; exact Rat.num_divInt_den q
theorem den_pos (q : Rat) : (0 : Int) < (q.den : Int) := by have := q.den_pos; omega
theorem den_ne (q : Rat) : ((q.den : Int) : Rat) ≠ 0 := by
  have := den_pos q
  intro h
  have : (q.den : Int) = 0 := by exact_mod_cast h
  omega
theorem fld_add (n d m e : Rat) (h1 : d ≠ 0) (h2 : e ≠ 0) : (n * e + m * d) / (d * e) = n / d + m / e := by grind
theorem fld_sub (n d m e : Rat) (h1 : d ≠ 0) (h2 : e ≠ 0) : (n * e - m * d) / (d * e) = n / d - m / e := by grind
theorem fld_mul (n d m e : Rat) (h1 : d ≠ 0) (h2 : e ≠ 0) : (n * m) / (d * e) = (n / d) * (m / e) := by grind
theorem fld_div (n d m e : Rat) (h1 : d ≠ 0) (h2 : e ≠ 0) (h3 : m ≠ 0) : (n * e) / (d * m) = (n / d) / (m / e) := by grind
theorem add_rat (x y : Rat) : ((x.num * (y.den : Int) + y.num * (x.den : Int) : Int) : Rat) / (((x.den : Int) * (y.den : Int) : Int) : Rat) = x + y := by
  rw [Rat.intCast_add, Rat.intCast_mul, Rat.intCast_mul, Rat.intCast_mul, fld_add _ _ _ _ (den_ne x) (den_ne y), num_den, num_den]
theorem sub_rat (x y : Rat) : ((x.num * (y.den : Int) - y.num * (x.den : Int) : Int) : Rat) / (((x.den : Int) * (y.den : Int) : Int) : Rat) = x - y := by
  rw [Rat.intCast_sub, Rat.intCast_mul, Rat.intCast_mul, Rat.intCast_mul, fld_sub _ _ _ _ (den_ne x) (den_ne y), num_den, num_den]
theorem mul_rat (x y : Rat) : ((x.num * y.num : Int) : Rat) / (((x.den : Int) * (y.den : Int) : Int) : Rat) = x * y := by
  rw [Rat.intCast_mul, Rat.intCast_mul, fld_mul _ _ _ _ (den_ne x) (den_ne y), num_den, num_den]
theorem num_ne {y : Rat} (h : y ≠ 0) : (y.num : Rat) ≠ 0 := by
  intro z
  apply h
  rw [← num_den y, z]
  grind
theorem div_rat (x y : Rat) (h : y ≠ 0) : ((x.num * (y.den : Int) : Int) : Rat) / (((x.den : Int) * y.num : Int) : Rat) = x / y := by
  rw [Rat.intCast_mul, Rat.intCast_mul, fld_div _ _ _ _ (den_ne x) (den_ne y) (num_ne h), num_den, num_den]
/-! ### a function of the program -/
section
variable {β : Type}
def Fnd (P : Prog β) (x : String) (f : Fn) : Prop := P.prim x = none ∧ P.fns x = some f
theorem call_at {P : Prog β} {x : String} {f : Fn} (h : Fnd P x f) {args : List D} {k : Nat} (hk : 1 ≤ k) (h3 : args.length = f.np) :
    call P k x args = endF (exs P.gl (call P (k - 1)) f.body (args.map Cell.im ++ List.replicate (f.names.length - f.np) Cell.un)) := by
  obtain ⟨j, rfl⟩ : ∃ j, k = j + 1 := ⟨k - 1, by omega⟩
  exact call_fn h.1 h.2 h3
/-- a function by its body -/
theorem s_of {P : Prog β} {x : String} {f : Fn} (h : Fnd P x f) {args : List D} {k : Nat} (hk : 1 ≤ k) (h3 : args.length = f.np) {ρ0 ρ1 : Env} {d : D} (h0 : args.map Cell.im ++ List.replicate (f.names.length - f.np) Cell.un = ρ0)
    (hb : exs P.gl (call P (k - 1)) f.body ρ0 = ret (.rt d, ρ1)) : call P k x args = ret d := by
  rw [call_at h hk h3, h0, hb]; rfl
namespace RF
def is_whole : Fn := ⟨["value"], 1,
    [.ret (.and [.isi (.var 0) .int, .no (.isi (.var 0) .bool)])]⟩
def common_divisor : Fn := ⟨["a", "b"], 2,
    [.par 0 1 false false (.bi .abs [.var 0]) (.bi .abs [.var 1]),
    .whl (.var 1)
      [.par 0 1 false false (.var 1) (.bin .mod (.var 0) (.var 1))],
    .ret (.var 0)]⟩
def is_ratio : Fn := ⟨["value"], 1,
    [.iff (.or [.no (.isi (.var 0) .tuple), .cmp .ne (.bi .len [.var 0]) (.lit (.int 2)), .no (.call "is_whole" [.idx (.var 0) (.lit (.int 0))]), .no (.call "is_whole" [.idx (.var 0) (.lit (.int 1))])])
      [.ret (.lit (.bl false))]
      [],
    .ret (.and [.cmp .gt (.idx (.var 0) (.lit (.int 1))) (.lit (.int 0)), .cmp .eq (.call "common_divisor" [.idx (.var 0) (.lit (.int 0)), .idx (.var 0) (.lit (.int 1))]) (.lit (.int 1))])]⟩
def ratio : Fn := ⟨["p", "q", "d"], 2,
    [.iff (.cmp .eq (.var 1) (.lit (.int 0)))
      [.bad]
      [],
    .iff (.cmp .lt (.var 1) (.lit (.int 0)))
      [.par 0 1 false false (.neg (.var 0)) (.neg (.var 1))]
      [],
    .asg (.nm 2) (.call "common_divisor" [.var 0, .var 1]),
    .ret (.tup [.bin .fdiv (.var 0) (.var 2), .bin .fdiv (.var 1) (.var 2)])]⟩
def plus : Fn := ⟨["one", "other"], 2,
    [.ret (.call "ratio" [.bin .add (.bin .mul (.idx (.var 0) (.lit (.int 0))) (.idx (.var 1) (.lit (.int 1)))) (.bin .mul (.idx (.var 1) (.lit (.int 0))) (.idx (.var 0) (.lit (.int 1)))), .bin .mul (.idx (.var 0) (.lit (.int 1))) (.idx (.var 1) (.lit (.int 1)))])]⟩
def minus : Fn := ⟨["one", "other"], 2,
    [.ret (.call "ratio" [.bin .sub (.bin .mul (.idx (.var 0) (.lit (.int 0))) (.idx (.var 1) (.lit (.int 1)))) (.bin .mul (.idx (.var 1) (.lit (.int 0))) (.idx (.var 0) (.lit (.int 1)))), .bin .mul (.idx (.var 0) (.lit (.int 1))) (.idx (.var 1) (.lit (.int 1)))])]⟩
def times : Fn := ⟨["one", "other"], 2,
    [.ret (.call "ratio" [.bin .mul (.idx (.var 0) (.lit (.int 0))) (.idx (.var 1) (.lit (.int 0))), .bin .mul (.idx (.var 0) (.lit (.int 1))) (.idx (.var 1) (.lit (.int 1)))])]⟩
def less : Fn := ⟨["one", "other"], 2,
    [.ret (.cmp .lt (.bin .mul (.idx (.var 0) (.lit (.int 0))) (.idx (.var 1) (.lit (.int 1)))) (.bin .mul (.idx (.var 1) (.lit (.int 0))) (.idx (.var 0) (.lit (.int 1)))))]⟩
end RF
theorem gcd_step (a b : Nat) : Nat.gcd b (a % b) = Nat.gcd a b := by rw [Nat.gcd_comm a b, Nat.gcd_rec b a, Nat.gcd_comm]
theorem abs_nat (a : Int) : (if a < 0 then -a else a) = (a.natAbs : Int) := by split <;> omega
theorem s_gcd {P : Prog β} (h : Fnd P "common_divisor" RF.common_divisor) {k : Nat} (hk : 1 ≤ k) (a b : Int) : call P k "common_divisor" [.int a, .int b] = ret (.int (Int.gcd a b)) := by
  rw [call_at h hk rfl]
  refine eq_ret fun s => ?_
  rw [run_endF]
  simp only [RF.common_divisor, List.map_cons, List.map_nil, List.length_cons, List.length_nil, run_exs_cons, run_exs_nil]
  have e1 : ex P.gl (call P (k - 1)) (.par 0 1 false false (.bi .abs [.var 0]) (.bi .abs [.var 1])) [.im (.int a), .im (.int b)] = ret (.nx, [.im (.int a.natAbs), .im (.int b.natAbs)]) := by
    rw [← abs_nat a, ← abs_nat b]; rfl
  show Run (ex P.gl (call P (k - 1)) (.par 0 1 false false (.bi .abs [.var 0]) (.bi .abs [.var 1])) [.im (.int a), .im (.int b)]) s _
  rw [e1, run_ret]
  simp only [nxts, run_exs_cons]
  simp only [ex]
  refine run_whl (fun n ρ t => ∃ x y : Nat, ρ = [.im (.int x), .im (.int y)] ∧ Nat.gcd x y = Int.gcd a b ∧ n = y ∧ t = s) ?_ (n := b.natAbs) ⟨a.natAbs, b.natAbs, rfl, rfl, rfl, rfl⟩
  rintro n ρ t ⟨x, y, rfl, hg, rfl, rfl⟩
  have e2 : tst P.gl (call P (k - 1)) (.var 1) [.im (.int x), .im (.int n)] = ret ((n : Int) != 0) := rfl
  rw [e2, run_ret]
  by_cases hn : n = 0
  · subst hn
    simp only [Nat.gcd_zero_right] at hg
    subst hg
    exact ⟨_, _, rfl, rfl, rfl⟩
  · have hb : ((n : Int) != 0) = true := by simp [hn]
    rw [if_pos hb, run_exs_cons]
    have e3 : ex P.gl (call P (k - 1)) (.par 0 1 false false (.var 1) (.bin .mod (.var 0) (.var 1))) [.im (.int x), .im (.int n)] = ret (.nx, [.im (.int n), .im (.int ((x : Int) % n))]) := by
      have hp : (0 : Int) < n := by omega
      show bnd (lft (if (0 : Int) < n then some (D.int ((x : Int) % n)) else none)) _ = _
      rw [if_pos hp]; rfl
    rw [e3, run_ret]
    refine run_exs_nil.mpr ?_
    exact ⟨x % n, Nat.mod_lt _ (by omega), n, x % n, by simp, by rw [gcd_step, hg], rfl, rfl⟩
theorem gcd_pos {p q : Int} (h : 0 < q) : 0 < (Int.gcd p q : Int) := by
  have : Int.gcd p q ≠ 0 := fun z => by
    have := (Int.gcd_eq_zero_iff.mp z).2
    omega
  omega
theorem gcd_le {p q : Int} (h : 0 < q) : (Int.gcd p q : Int) ≤ q := Int.le_of_dvd h (Int.gcd_dvd_right _ _)
theorem div_gcd {p q : Int} (h : 0 < q) (hb : q.natAbs < 2 ^ 9000) : divOk (Int.gcd p q) = true := by
  have h1 := gcd_pos (p := p) h
  have h2 := gcd_le (p := p) h
  exact div_ok (a := 8999) h1 (by have : ((Int.gcd p q : Int)).natAbs ≤ q.natAbs := by omega
                                  exact Nat.lt_of_le_of_lt this hb) (by decide)
/-- q above nought -/
theorem s_ratio {P : Prog β} (h : Fnd P "ratio" RF.ratio) (hg : Fnd P "common_divisor" RF.common_divisor) {k : Nat} (hk : 2 ≤ k) {p q : Int} (h0 : 0 < q) (hb : q.natAbs < 2 ^ 9000) :
    call P k "ratio" [.int p, .int q] = ret (Rt ((p : Rat) / (q : Rat))) := by
  rw [rat_of h0]
  have hd := div_gcd (p := p) h0 hb
  have n1 : q ≠ 0 := by omega
  have n2 : ¬ q < 0 := by omega
  refine s_of h (by omega) rfl (ρ0 := [.im (.int p), .im (.int q), .un]) rfl
    ((exs_F (by simp [n1])).trans ((exs_F (by simp [n2])).trans ((exs_asg (d := .int (Int.gcd p q)) (by simp [s_gcd hg (show 1 ≤ k - 1 by omega)])).trans (exs_rt ?_))))
  simp [bop_div hd, lim]
theorem s_ratio_neg {P : Prog β} (h : Fnd P "ratio" RF.ratio) (hg : Fnd P "common_divisor" RF.common_divisor) {k : Nat} (hk : 2 ≤ k) {p q : Int} (h0 : q < 0) (hb : q.natAbs < 2 ^ 9000) :
    call P k "ratio" [.int p, .int q] = ret (Rt ((p : Rat) / (q : Rat))) := by
  have e : (p : Rat) / (q : Rat) = ((-p : Int) : Rat) / ((-q : Int) : Rat) := by
    rw [Rat.intCast_neg, Rat.intCast_neg]; grind
  have h0' : 0 < -q := by omega
  have hb' : (-q).natAbs < 2 ^ 9000 := by rw [Int.natAbs_neg]; exact hb
  rw [e, rat_of h0']
  have hd := div_gcd (p := -p) h0' hb'
  have n1 : q ≠ 0 := by omega
  refine s_of h (by omega) rfl (ρ0 := [.im (.int p), .im (.int q), .un]) rfl
    ((exs_F (by simp [n1])).trans ((exs_Tn (ρ' := [.im (.int (-p)), .im (.int (-q)), .un]) (by simp [h0]) rfl).trans ((exs_asg (d := .int (Int.gcd (-p) (-q))) (by simp only [ev_call, evL_cons, evL_nil, ev_var, getV_zero, getV_succ, bnd_ret, s_gcd hg (show 1 ≤ k - 1 by omega)])).trans (exs_rt ?_))))
  simp only [List.set_cons_succ, List.set_cons_zero, ev_tup, evL_cons, evL_nil, ev_bin, ev_var, getV_zero, getV_succ, bnd_ret, bop_div hd, lft_some]
  rfl
theorem sz_mul {p q : Int} (h1 : p.natAbs < 2 ^ 4000) (h2 : q.natAbs < 2 ^ 4000) : mulOk p q = true := mul_ok (a := 3999) (b := 3999) h1 h2 (by decide)
theorem sz_den {x y : Rat} (h1 : Sz x) (h2 : Sz y) : ((x.den : Int) * (y.den : Int)).natAbs < 2 ^ 9000 := by
  rw [Int.natAbs_mul, Int.natAbs_natCast, Int.natAbs_natCast]
  have := Nat.mul_lt_mul'' h1.2 h2.2
  rw [← Nat.pow_add] at this
  exact Nat.lt_of_lt_of_le this (Nat.pow_le_pow_right (by decide) (by decide))
structure Rats (P : Prog β) : Prop where
  gcd : Fnd P "common_divisor" RF.common_divisor
  ratio : Fnd P "ratio" RF.ratio
  plus : Fnd P "plus" RF.plus
  minus : Fnd P "minus" RF.minus
  times : Fnd P "times" RF.times
  less : Fnd P "less" RF.less
theorem sz_dn {x : Rat} (h : Sz x) : ((x.den : Int)).natAbs < 2 ^ 4000 := h.2
variable {P : Prog β} {k : Nat} {x y : Rat}
theorem s_plus (h : Rats P) (hk : 3 ≤ k) (hx : Sz x) (hy : Sz y) : call P k "plus" [Rt x, Rt y] = ret (Rt (x + y)) := by
  refine s_of h.plus (by omega) rfl (ρ0 := [.im (Rt x), .im (Rt y)]) rfl (exs_rt ?_)
  have m1 := bop_mul (sz_mul hx.1 (sz_dn hy))
  have m2 := bop_mul (sz_mul hy.1 (sz_dn hx))
  have m3 := bop_mul (sz_mul (sz_dn hx) (sz_dn hy))
  have hp : (0 : Int) < (x.den : Int) * (y.den : Int) := Int.mul_pos (den_pos x) (den_pos y)
  have e := s_ratio h.ratio h.gcd (show 2 ≤ k - 1 by omega) (p := x.num * y.den + y.num * x.den) hp (sz_den hx hy)
  rw [add_rat] at e
  simp only [Rt, ev_call, evL_cons, evL_nil, ev_bin, ev_idx, ev_var, ev_lit, getV_zero, getV_succ, bnd_ret, ix_tup0, ix_tup1, lft_some, m1, m2, m3, bop_addI] at e ⊢
  exact e
theorem s_minus (h : Rats P) (hk : 3 ≤ k) (hx : Sz x) (hy : Sz y) : call P k "minus" [Rt x, Rt y] = ret (Rt (x - y)) := by
  refine s_of h.minus (by omega) rfl (ρ0 := [.im (Rt x), .im (Rt y)]) rfl (exs_rt ?_)
  have m1 := bop_mul (sz_mul hx.1 (sz_dn hy))
  have m2 := bop_mul (sz_mul hy.1 (sz_dn hx))
  have m3 := bop_mul (sz_mul (sz_dn hx) (sz_dn hy))
  have hp : (0 : Int) < (x.den : Int) * (y.den : Int) := Int.mul_pos (den_pos x) (den_pos y)
  have e := s_ratio h.ratio h.gcd (show 2 ≤ k - 1 by omega) (p := x.num * y.den - y.num * x.den) hp (sz_den hx hy)
  rw [sub_rat] at e
  simp only [Rt, ev_call, evL_cons, evL_nil, ev_bin, ev_idx, ev_var, ev_lit, getV_zero, getV_succ, bnd_ret, ix_tup0, ix_tup1, lft_some, m1, m2, m3, bop_subI] at e ⊢
  exact e
theorem s_times (h : Rats P) (hk : 3 ≤ k) (hx : Sz x) (hy : Sz y) : call P k "times" [Rt x, Rt y] = ret (Rt (x * y)) := by
  refine s_of h.times (by omega) rfl (ρ0 := [.im (Rt x), .im (Rt y)]) rfl (exs_rt ?_)
  have m1 := bop_mul (sz_mul hx.1 hy.1)
  have m3 := bop_mul (sz_mul (sz_dn hx) (sz_dn hy))
  have hp : (0 : Int) < (x.den : Int) * (y.den : Int) := Int.mul_pos (den_pos x) (den_pos y)
  have e := s_ratio h.ratio h.gcd (show 2 ≤ k - 1 by omega) (p := x.num * y.num) hp (sz_den hx hy)
  rw [mul_rat] at e
  simp only [Rt, ev_call, evL_cons, evL_nil, ev_bin, ev_idx, ev_var, ev_lit, getV_zero, getV_succ, bnd_ret, ix_tup0, ix_tup1, lft_some, m1, m3] at e ⊢
  exact e
theorem s_less (h : Rats P) (hk : 1 ≤ k) (hx : Sz x) (hy : Sz y) : call P k "less" [Rt x, Rt y] = ret (.bl (decide (x < y))) := by
  refine s_of h.less (by omega) rfl (ρ0 := [.im (Rt x), .im (Rt y)]) rfl (exs_rt ?_)
  have m1 := bop_mul (sz_mul hx.1 (sz_dn hy))
  have m2 := bop_mul (sz_mul hy.1 (sz_dn hx))
  simp only [Rt, ev_cmp, ev_bin, ev_idx, ev_var, ev_lit, getV_zero, getV_succ, bnd_ret, ix_tup0, ix_tup1, lft_some, m1, m2, cop_lt, Rat.lt_iff]
end
end PL

set_option autoImplicit false
set_option linter.all false
set_option maxRecDepth 100000
set_option maxHeartbeats 2000000
set_option exponentiation.threshold 20000
/-! M3: the law's own reckoning with ratios. -/
namespace PL
namespace RF
def l_ratio : Fn := ⟨["p", "q", "a", "b"], 2,
    [.iff (.cmp .lt (.var 1) (.lit (.int 0)))
      [.par 0 1 false false (.bin .sub (.lit (.int 0)) (.var 0)) (.bin .sub (.lit (.int 0)) (.var 1))]
      [],
    .par 2 3 false false (.bi .abs [.var 0]) (.var 1),
    .whl (.cmp .gt (.var 3) (.lit (.int 0)))
      [.par 2 3 false false (.var 3) (.bin .sub (.var 2) (.bin .mul (.bin .fdiv (.var 2) (.var 3)) (.var 3)))],
    .ret (.tup [.bin .fdiv (.var 0) (.var 2), .bin .fdiv (.var 1) (.var 2)])]⟩
def l_plus : Fn := ⟨["one", "other"], 2,
    [.ret (.call "_law_ratio" [.bin .add (.bin .mul (.idx (.var 0) (.lit (.int 0))) (.idx (.var 1) (.lit (.int 1)))) (.bin .mul (.idx (.var 1) (.lit (.int 0))) (.idx (.var 0) (.lit (.int 1)))), .bin .mul (.idx (.var 0) (.lit (.int 1))) (.idx (.var 1) (.lit (.int 1)))])]⟩
def l_minus : Fn := ⟨["one", "other"], 2,
    [.ret (.call "_law_ratio" [.bin .sub (.bin .mul (.idx (.var 0) (.lit (.int 0))) (.idx (.var 1) (.lit (.int 1)))) (.bin .mul (.idx (.var 1) (.lit (.int 0))) (.idx (.var 0) (.lit (.int 1)))), .bin .mul (.idx (.var 0) (.lit (.int 1))) (.idx (.var 1) (.lit (.int 1)))])]⟩
def l_times : Fn := ⟨["one", "other"], 2,
    [.ret (.call "_law_ratio" [.bin .mul (.idx (.var 0) (.lit (.int 0))) (.idx (.var 1) (.lit (.int 0))), .bin .mul (.idx (.var 0) (.lit (.int 1))) (.idx (.var 1) (.lit (.int 1)))])]⟩
def l_less : Fn := ⟨["one", "other"], 2,
    [.ret (.cmp .lt (.bin .mul (.idx (.var 0) (.lit (.int 0))) (.idx (.var 1) (.lit (.int 1)))) (.bin .mul (.idx (.var 1) (.lit (.int 0))) (.idx (.var 0) (.lit (.int 1)))))]⟩
end RF
section
variable {β : Type} {P : Prog β} {k : Nat} {x y : Rat}
theorem lt_pow {i : Int} {n m : Nat} (h : i.natAbs < 2 ^ n) (hm : n ≤ m) : i.natAbs < 2 ^ m := Nat.lt_of_lt_of_le h (Nat.pow_le_pow_right (by decide) hm)
theorem gcd_loop {gl : String → Option D} {F : String → List D → M β D} {p q : Int} (h0 : 0 < q) (hp : p.natAbs < 2 ^ 9000) (hq : q.natAbs < 2 ^ 9000) (s : β) {Q : Fl × Env → β → Prop}
    (hQ : Q (.nx, [.im (.int p), .im (.int q), .im (.int (Int.gcd p q)), .im (.int 0)]) s) :
    Run (whlM (tst gl F (.cmp .gt (.var 3) (.lit (.int 0)))) (exs gl F [.par 2 3 false false (.var 3) (.bin .sub (.var 2) (.bin .mul (.bin .fdiv (.var 2) (.var 3)) (.var 3)))]) [.im (.int p), .im (.int q), .im (.int p.natAbs), .im (.int q)]) s Q := by
  refine run_whl (fun n ρ t => ∃ a b : Nat, ρ = [.im (.int p), .im (.int q), .im (.int a), .im (.int b)] ∧ Nat.gcd a b = Int.gcd p q ∧ a < 2 ^ 9000 ∧ b < 2 ^ 9000 ∧ n = b ∧ t = s) ?_ (n := q.natAbs) ⟨p.natAbs, q.natAbs, by rw [Int.natAbs_of_nonneg (Int.le_of_lt h0)], rfl, hp, hq, rfl, rfl⟩
  rintro n ρ t ⟨a, b, rfl, hg, ha, hb, rfl, rfl⟩
  have e2 : tst gl F (.cmp .gt (.var 3) (.lit (.int 0))) [.im (.int p), .im (.int q), .im (.int a), .im (.int n)] = ret (decide ((0 : Int) < n)) := by simp
  rw [e2, run_ret]
  by_cases hn : n = 0
  · subst hn
    simp only [Nat.gcd_zero_right] at hg
    subst hg
    exact hQ
  · have hn0 : (0 : Int) < n := by omega
    rw [if_pos (decide_eq_true hn0), run_exs_cons]
    have d1 := bop_div (i := (a : Int)) (div_ok (a := 8999) hn0 (by simpa using hb) (by decide))
    have m1 : bop .mul (.int ((a : Int) / n)) (.int n) = some (.int ((a : Int) / n * n)) := by
      refine bop_mul (mul_ok (a := 8999) (b := 8999) ?_ (by simpa using hb) (by decide))
      have : ((a : Int) / n) = ((a / n : Nat) : Int) := by simp
      rw [this, Int.natAbs_natCast]
      exact Nat.lt_of_le_of_lt (Nat.div_le_self a n) ha
    have e3 : ex gl F (.par 2 3 false false (.var 3) (.bin .sub (.var 2) (.bin .mul (.bin .fdiv (.var 2) (.var 3)) (.var 3)))) [.im (.int p), .im (.int q), .im (.int a), .im (.int n)] = ret (.nx, [.im (.int p), .im (.int q), .im (.int n), .im (.int ((a : Int) - (a : Int) / n * n))]) := by
      simp only [ex, ev_var, ev_bin, getV_succ, getV_zero, bnd_ret, d1, lft_some, m1, bop_subI, cellOf]
      rfl
    rw [e3, run_ret]
    refine run_exs_nil.mpr ?_
    refine ⟨a % n, Nat.mod_lt _ (by omega), n, a % n, ?_, by rw [gcd_step, hg], hb, Nat.lt_of_lt_of_le (Nat.mod_lt _ (by omega)) (by omega), rfl, rfl⟩
    have : (a : Int) - (a : Int) / n * n = ((a % n : Nat) : Int) := by
      have := Int.mul_ediv_add_emod (a : Int) n
      rw [Int.natCast_emod, Int.mul_comm]
      omega
    rw [this]
theorem s_lratio (h : Fnd P "_law_ratio" RF.l_ratio) (hk : 1 ≤ k) {p q : Int} (h0 : 0 < q) (hp : p.natAbs < 2 ^ 9000) (hq : q.natAbs < 2 ^ 9000) :
    call P k "_law_ratio" [.int p, .int q] = ret (Rt ((p : Rat) / (q : Rat))) := by
  rw [rat_of h0]
  have hd := div_gcd (p := p) h0 hq
  rw [call_at h hk rfl]
  refine eq_ret fun s => run_endF.mpr ?_
  have e1 : ex P.gl (call P (k - 1)) (.iff (.cmp .lt (.var 1) (.lit (.int 0))) [.par 0 1 false false (.bin .sub (.lit (.int 0)) (.var 0)) (.bin .sub (.lit (.int 0)) (.var 1))] []) [.im (.int p), .im (.int q), .un, .un] = ret (.nx, [.im (.int p), .im (.int q), .un, .un]) := by
    have : ¬ q < 0 := by omega
    rw [ex_iff (t := false) (by simp [this])]
    simp only [Bool.false_eq_true, if_false, exs, nxt]
  have e2 : ex P.gl (call P (k - 1)) (.par 2 3 false false (.bi .abs [.var 0]) (.var 1)) [.im (.int p), .im (.int q), .un, .un] = ret (.nx, [.im (.int p), .im (.int q), .im (.int p.natAbs), .im (.int q)]) := by
    rw [← abs_nat p]; rfl
  show Run (exs P.gl (call P (k - 1)) RF.l_ratio.body [.im (.int p), .im (.int q), .un, .un]) s _
  unfold RF.l_ratio
  refine run_exs_cons.mpr ?_
  rw [e1, run_ret]
  refine run_exs_cons.mpr ?_
  rw [e2, run_ret]
  refine run_exs_cons.mpr ?_
  simp only [ex]
  refine gcd_loop h0 hp hq s ?_
  refine run_exs_cons.mpr ?_
  simp only [ex]
  have e3 : ev P.gl (call P (k - 1)) (.tup [.bin .fdiv (.var 0) (.var 2), .bin .fdiv (.var 1) (.var 2)]) [.im (.int p), .im (.int q), .im (.int (Int.gcd p q)), .im (.int 0)] = ret (.tup [.int (p / (Int.gcd p q : Int)), .int (q / (Int.gcd p q : Int))]) := by
    simp [bop_div hd, lim]
  rw [e3, bnd_ret, run_ret]
  exact ⟨rfl, rfl⟩
structure LRats (P : Prog β) : Prop where
  ratio : Fnd P "_law_ratio" RF.l_ratio
  plus : Fnd P "_law_plus" RF.l_plus
  minus : Fnd P "_law_minus" RF.l_minus
  times : Fnd P "_law_times" RF.l_times
  less : Fnd P "_law_less" RF.l_less
theorem mul_lt {p q : Int} (h1 : p.natAbs < 2 ^ 4000) (h2 : q.natAbs < 2 ^ 4000) : (p * q).natAbs < 2 ^ 8000 := by
  rw [Int.natAbs_mul]
  have := Nat.mul_lt_mul'' h1 h2
  rwa [← Nat.pow_add] at this
theorem p_lt {p q : Int} (h1 : p.natAbs < 2 ^ 8000) (h2 : q.natAbs < 2 ^ 8000) : (p + q).natAbs < 2 ^ 9000 ∧ (p - q).natAbs < 2 ^ 9000 ∧ p.natAbs < 2 ^ 9000 := by
  have e : 2 ^ 8000 + 2 ^ 8000 = 2 ^ 8001 := by rw [← Nat.mul_two, ← Nat.pow_succ]
  have h3 : 2 ^ 8001 ≤ 2 ^ 9000 := Nat.pow_le_pow_right (by decide) (by decide)
  generalize 2 ^ 8000 = u at *
  generalize 2 ^ 8001 = v at *
  generalize 2 ^ 9000 = w at *
  omega
theorem s_lplus (h : LRats P) (hk : 2 ≤ k) (hx : Sz x) (hy : Sz y) : call P k "_law_plus" [Rt x, Rt y] = ret (Rt (x + y)) := by
  refine s_of h.plus (by omega) rfl (ρ0 := [.im (Rt x), .im (Rt y)]) rfl (exs_rt ?_)
  have m1 := bop_mul (sz_mul hx.1 (sz_dn hy))
  have m2 := bop_mul (sz_mul hy.1 (sz_dn hx))
  have m3 := bop_mul (sz_mul (sz_dn hx) (sz_dn hy))
  have hp : (0 : Int) < (x.den : Int) * (y.den : Int) := Int.mul_pos (den_pos x) (den_pos y)
  have e := s_lratio h.ratio (show 1 ≤ k - 1 by omega) (p := x.num * y.den + y.num * x.den) hp (p_lt (mul_lt hx.1 (sz_dn hy)) (mul_lt hy.1 (sz_dn hx))).1 (sz_den hx hy)
  rw [add_rat] at e
  simp only [Rt, ev_call, evL_cons, evL_nil, ev_bin, ev_idx, ev_var, ev_lit, getV_zero, getV_succ, bnd_ret, ix_tup0, ix_tup1, lft_some, m1, m2, m3, bop_addI] at e ⊢
  exact e
theorem s_lminus (h : LRats P) (hk : 2 ≤ k) (hx : Sz x) (hy : Sz y) : call P k "_law_minus" [Rt x, Rt y] = ret (Rt (x - y)) := by
  refine s_of h.minus (by omega) rfl (ρ0 := [.im (Rt x), .im (Rt y)]) rfl (exs_rt ?_)
  have m1 := bop_mul (sz_mul hx.1 (sz_dn hy))
  have m2 := bop_mul (sz_mul hy.1 (sz_dn hx))
  have m3 := bop_mul (sz_mul (sz_dn hx) (sz_dn hy))
  have hp : (0 : Int) < (x.den : Int) * (y.den : Int) := Int.mul_pos (den_pos x) (den_pos y)
  have e := s_lratio h.ratio (show 1 ≤ k - 1 by omega) (p := x.num * y.den - y.num * x.den) hp (p_lt (mul_lt hx.1 (sz_dn hy)) (mul_lt hy.1 (sz_dn hx))).2.1 (sz_den hx hy)
  rw [sub_rat] at e
  simp only [Rt, ev_call, evL_cons, evL_nil, ev_bin, ev_idx, ev_var, ev_lit, getV_zero, getV_succ, bnd_ret, ix_tup0, ix_tup1, lft_some, m1, m2, m3, bop_subI] at e ⊢
  exact e
theorem s_ltimes (h : LRats P) (hk : 2 ≤ k) (hx : Sz x) (hy : Sz y) : call P k "_law_times" [Rt x, Rt y] = ret (Rt (x * y)) := by
  refine s_of h.times (by omega) rfl (ρ0 := [.im (Rt x), .im (Rt y)]) rfl (exs_rt ?_)
  have m1 := bop_mul (sz_mul hx.1 hy.1)
  have m3 := bop_mul (sz_mul (sz_dn hx) (sz_dn hy))
  have hp : (0 : Int) < (x.den : Int) * (y.den : Int) := Int.mul_pos (den_pos x) (den_pos y)
  have e := s_lratio h.ratio (show 1 ≤ k - 1 by omega) (p := x.num * y.num) hp (p_lt (mul_lt hx.1 hy.1) (mul_lt hx.1 hy.1)).2.2 (sz_den hx hy)
  rw [mul_rat] at e
  simp only [Rt, ev_call, evL_cons, evL_nil, ev_bin, ev_idx, ev_var, ev_lit, getV_zero, getV_succ, bnd_ret, ix_tup0, ix_tup1, lft_some, m1, m3] at e ⊢
  exact e
theorem s_lless (h : LRats P) (hk : 1 ≤ k) (hx : Sz x) (hy : Sz y) : call P k "_law_less" [Rt x, Rt y] = ret (.bl (decide (x < y))) := by
  refine s_of h.less (by omega) rfl (ρ0 := [.im (Rt x), .im (Rt y)]) rfl (exs_rt ?_)
  have m1 := bop_mul (sz_mul hx.1 (sz_dn hy))
  have m2 := bop_mul (sz_mul hy.1 (sz_dn hx))
  simp only [Rt, ev_cmp, ev_bin, ev_idx, ev_var, ev_lit, getV_zero, getV_succ, bnd_ret, ix_tup0, ix_tup1, lft_some, m1, m2, cop_lt, Rat.lt_iff]
end
end PL

set_option autoImplicit false
set_option linter.all false
set_option maxRecDepth 100000
set_option maxHeartbeats 2000000
set_option exponentiation.threshold 20000
/-! M4: plain data; the judges of ratios. -/
namespace PL
/-- plain data: ints to c, sequences to l, depth to n -/
def Pd (c l : Nat) : Nat → D → Prop
  | 0, d => (match d with
    | .non => True
    | .bl _ => True
    | .int i => i.natAbs ≤ c
    | .str s => s.cps.size ≤ lim ∧ s.cps.all (· < 0x110000) = true
    | _ => False)
  | n + 1, d => (match d with
    | .non => True
    | .bl _ => True
    | .int i => i.natAbs ≤ c
    | .str s => s.cps.size ≤ lim ∧ s.cps.all (· < 0x110000) = true
    | .tup xs => xs.length ≤ l ∧ ∀ x ∈ xs, Pd c l n x
    | .lst xs => xs.length ≤ l ∧ ∀ x ∈ xs, Pd c l n x
    | _ => False)
theorem Pd.tup {c l n : Nat} {xs : List D} (h : Pd c l n (.tup xs)) : ∃ m, n = m + 1 ∧ xs.length ≤ l ∧ ∀ x ∈ xs, Pd c l m x := by
  cases n with
  | zero => exact h.elim
  | succ m => exact ⟨m, rfl, h⟩
theorem Pd.lst {c l n : Nat} {xs : List D} (h : Pd c l n (.lst xs)) : ∃ m, n = m + 1 ∧ xs.length ≤ l ∧ ∀ x ∈ xs, Pd c l m x := by
  cases n with
  | zero => exact h.elim
  | succ m => exact ⟨m, rfl, h⟩
theorem Pd.int {c l n : Nat} {i : Int} (h : Pd c l n (.int i)) : i.natAbs ≤ c := by cases n <;> exact h
theorem Pd.of_int {c l n : Nat} {i : Int} (h : i.natAbs ≤ c) : Pd c l n (.int i) := by cases n <;> exact h
theorem Pd.bl {c l n : Nat} {b : Bool} : Pd c l n (.bl b) := by cases n <;> trivial
theorem Pd.non {c l n : Nat} : Pd c l n .non := by cases n <;> trivial
theorem Pd.of_tup {c l n : Nat} {xs : List D} (h : xs.length ≤ l) (h2 : ∀ x ∈ xs, Pd c l n x) : Pd c l (n + 1) (.tup xs) := ⟨h, h2⟩
theorem Pd.of_lst {c l n : Nat} {xs : List D} (h : xs.length ≤ l) (h2 : ∀ x ∈ xs, Pd c l n x) : Pd c l (n + 1) (.lst xs) := ⟨h, h2⟩
theorem Pd.mono {c l c' l' : Nat} (hc : c ≤ c') (hl : l ≤ l') : ∀ {n m : Nat} {d : D}, n ≤ m → Pd c l n d → Pd c' l' m d := by
  intro n
  induction n with
  | zero =>
    intro m d _ h
    cases d with
    | int i => exact Pd.of_int (Nat.le_trans h.int hc)
    | non => exact Pd.non
    | bl b => exact Pd.bl
    | str s => cases m <;> exact h
    | _ => exact h.elim
  | succ n ih =>
    intro m d hm h
    obtain ⟨m, rfl⟩ : ∃ j, m = j + 1 := ⟨m - 1, by omega⟩
    cases d with
    | int i => exact Pd.of_int (Nat.le_trans h.int hc)
    | non => exact Pd.non
    | bl b => exact Pd.bl
    | str s => exact h
    | tup xs => exact ⟨Nat.le_trans h.1 hl, fun x hx => ih (by omega) (h.2 x hx)⟩
    | lst xs => exact ⟨Nat.le_trans h.1 hl, fun x hx => ih (by omega) (h.2 x hx)⟩
    | _ => exact h.elim
theorem plnL_of {m : Nat} {xs : List D} (h : ∀ x ∈ xs, pln m x = true) : plnL m xs = true := by
  induction xs with
  | nil => simp only [plnL]
  | cons x xs ih => simp only [plnL, h x List.mem_cons_self, ih fun y hy => h y (List.mem_cons_of_mem _ hy), Bool.and_self]
theorem Pd.pln {c l : Nat} : ∀ {n m : Nat} {d : D}, n < m → Pd c l n d → pln m d = true := by
  intro n
  induction n with
  | zero =>
    intro m d hm h
    cases d with
    | int i => simp only [PL.pln]
    | non => simp only [PL.pln]
    | bl b => simp only [PL.pln]
    | str s => simp only [PL.pln]; exact h.2
    | _ => exact h.elim
  | succ n ih =>
    intro m d hm h
    obtain ⟨m, rfl⟩ : ∃ j, m = j + 1 := ⟨m - 1, by omega⟩
    cases d with
    | int i => simp only [PL.pln]
    | non => simp only [PL.pln]
    | bl b => simp only [PL.pln]
    | str s => simp only [PL.pln]; exact h.2
    | tup xs => simp only [PL.pln, plnT]; exact plnL_of fun x hx => ih (by omega) (h.2 x hx)
    | lst xs => simp only [PL.pln, plnT]; exact plnL_of fun x hx => ih (by omega) (h.2 x hx)
    | _ => exact h.elim
def dInt : D → Bool
  | .int _ => true
  | _ => false
def dTup : D → Bool
  | .tup _ => true
  | _ => false
def dLst : D → Bool
  | .lst _ => true
  | _ => false
def dBl : D → Bool
  | .bl _ => true
  | _ => false
def dStr : D → Bool
  | .str _ => true
  | _ => false
/-- a ratio in lowest terms -/
def isRt : D → Bool
  | .tup [.int p, .int q] => decide (0 < q) && decide ((Int.gcd p q : Int) = 1)
  | _ => false
theorem isRt_Rt (x : Rat) : isRt (Rt x) = true := by
  have h := x.reduced
  have hd := den_pos x
  have hg : (Int.gcd x.num x.den : Int) = 1 := by
    have : Int.gcd x.num x.den = 1 := h
    rw [this]; rfl
  simp only [isRt, Rt, hg, hd, decide_true, Bool.and_self]
theorem isRt_inv {d : D} (h : isRt d = true) : ∃ x, d = Rt x := by
  unfold isRt at h
  split at h
  · rename_i p q
    simp only [Bool.and_eq_true, decide_eq_true_eq] at h
    refine ⟨(p : Rat) / (q : Rat), ?_⟩
    rw [rat_of h.1, h.2]
    simp
  · cases h
section
variable {β : Type} {P : Prog β} {k c l n : Nat}
theorem Pd.isi {d : D} (h : Pd c l n d) : PL.isi d .int = some (dInt d || dBl d) ∧ PL.isi d .bool = some (dBl d) ∧ PL.isi d .tuple = some (dTup d) ∧ PL.isi d .list = some (dLst d) ∧ PL.isi d .str = some (dStr d) := by
  cases d with
  | box => cases n <;> exact h.elim
  | fn _ => cases n <;> exact h.elim
  | _ => exact ⟨rfl, rfl, rfl, rfl, rfl⟩
theorem s_whole (h : Fnd P "is_whole" RF.is_whole) (hk : 1 ≤ k) {d : D} (hd : Pd c l n d) : call P k "is_whole" [d] = ret (.bl (dInt d)) := by
  refine s_of h hk rfl (ρ0 := [.im d]) rfl (exs_rt ?_)
  simp [hd.isi.1, hd.isi.2.1]
  cases d <;> rfl
structure Judges (P : Prog β) : Prop where
  whole : Fnd P "is_whole" RF.is_whole
  is_ratio : Fnd P "is_ratio" RF.is_ratio
theorem s_is_ratio (h : Judges P) (hg : Fnd P "common_divisor" RF.common_divisor) (hk : 2 ≤ k) {d : D} (hd : Pd c l n d) : call P k "is_ratio" [d] = ret (.bl (isRt d)) := by
  have w : ∀ e, Pd c l (n - 1) e → call P (k - 1) "is_whole" [e] = ret (.bl (dInt e)) := fun e he => s_whole h.whole (by omega) he
  refine s_of h.is_ratio (by omega) rfl (ρ0 := [.im d]) rfl ?_ (ρ1 := [.im d])
  by_cases ht : dTup d = true
  · cases d with
    | tup xs =>
      obtain ⟨m, rfl, hl, hx⟩ := hd.tup
      match xs, hx with
      | [], _ => exact exs_T (by simp [hd.isi.2.2.1, dTup, bfn]) (exs_rt (by simp [isRt]))
      | [a], _ => exact exs_T (by simp [hd.isi.2.2.1, dTup, bfn]) (exs_rt (by simp [isRt]))
      | [a, b], hx =>
        have wa := w a (hx a (by simp))
        have wb := w b (hx b (by simp))
        cases ha : dInt a with
        | false =>
          refine exs_T (by simp [hd.isi.2.2.1, dTup, bfn, wa, ha]) (exs_rt ?_)
          cases a <;> first | rfl | cases ha
        | true =>
          cases hb : dInt b with
          | false =>
            refine exs_T (by simp [hd.isi.2.2.1, dTup, bfn, wa, ha, wb, hb]) (exs_rt ?_)
            cases a <;> cases b <;> first | rfl | (cases ha; done) | (cases hb; done)
          | true =>
            cases a with
            | int p =>
              cases b with
              | int q =>
                refine (exs_F (by simp [hd.isi.2.2.1, dTup, bfn, wa, ha, wb, hb])).trans (exs_rt ?_)
                have e := s_gcd hg (show 1 ≤ k - 1 by omega) p q
                by_cases hq : 0 < q
                · simp [e, isRt, hq]
                · simp [isRt, hq]
              | _ => cases hb
            | _ => cases ha
      | a :: b :: c :: r, _ =>
        refine exs_T ?_ (exs_rt (by simp [isRt]))
        have : ¬ ((r.length : Int) + 1 + 1 + 1 = 2) := by omega
        simp [hd.isi.2.2.1, dTup, bfn, this]
    | _ => cases ht
  · have ht : dTup d = false := by simpa using ht
    refine exs_T (by simp [hd.isi.2.2.1, ht]) (exs_rt ?_)
    cases d <;> first | rfl | cases ht
/-! ### all, any over what was listed -/
theorem isBls_map {xs : List D} {g : D → Bool} : isBls (xs.map fun x => .bl (g x)) = some (xs.map g) := by
  induction xs with
  | nil => rfl
  | cons x xs ih => simp [isBls, ih]
theorem bfn_all {xs : List D} {g : D → Bool} : bfn .all [.lst (xs.map fun x => .bl (g x))] = some (.bl (xs.all g)) := by
  simp [bfn, isBls_map]
theorem bfn_any {xs : List D} {g : D → Bool} : bfn .any [.lst (xs.map fun x => .bl (g x))] = some (.bl (xs.any g)) := by
  simp [bfn, isBls_map]
/-- a comprehension of bare values by one name -/
theorem ev_comp1 {gl : String → Option D} {F : String → List D → M β D} {ρ : Env} {e : E} {t : Tg} {ik : Ik} {es : List E} {own : List Nat} {ds xs : List D} {g : D → D}
    (h1 : evL gl F es ρ = ret ds) (h2 : iter ik ds = some xs) (h3 : xs.length ≤ lim) (h4 : ∀ x ∈ xs, ∃ ρ', bindT t x (wipeE ρ own) = some ρ' ∧ ev gl F e ρ' = ret (g x)) : ev gl F (.comp e t ik es [] own) ρ = ret (.lst (xs.map g)) := by
  rw [ev_comp, h1, bnd_ret, h2, lft_some, bnd_ret, if_pos h3, compM_map (g := g)]
  · rfl
  · intro x hx
    obtain ⟨ρ', h5, h6⟩ := h4 x hx
    simp only [h5, lft_some, bnd_ret, evC_nil, if_true, h6]
/-- .. with a test -/
theorem ev_compF {gl : String → Option D} {F : String → List D → M β D} {ρ : Env} {e c : E} {t : Tg} {ik : Ik} {es : List E} {own : List Nat} {ds xs : List D} {g : D → D} {p : D → Bool}
    (h1 : evL gl F es ρ = ret ds) (h2 : iter ik ds = some xs) (h3 : xs.length ≤ lim) (h4 : ∀ x ∈ xs, ∃ ρ', bindT t x (wipeE ρ own) = some ρ' ∧ tst gl F c ρ' = ret (p x) ∧ (p x = true → ev gl F e ρ' = ret (g x))) : ev gl F (.comp e t ik es [c] own) ρ = ret (.lst ((xs.filter p).map g)) := by
  rw [ev_comp, h1, bnd_ret, h2, lft_some, bnd_ret, if_pos h3, compM_ret (g := fun x => if p x = true then some (g x) else none)]
  · rw [bnd_ret]
    congr 2
    clear h2 h3 h4
    induction xs with
    | nil => rfl
    | cons x xs ih =>
      by_cases hp : p x = true
      · rw [List.filterMap_cons_some (by rw [if_pos hp]), List.filter_cons_of_pos hp, List.map_cons, ih]
      · rw [List.filterMap_cons_none (by rw [if_neg hp]), List.filter_cons_of_neg hp, ih]
  · intro x hx
    obtain ⟨ρ', h5, h6, h7⟩ := h4 x hx
    rw [h5, lft_some, bnd_ret]
    have e1 : evC gl F [c] ρ' = ret (p x) := by
      simp only [evC_cons, evC_nil]
      have h6 : bnd (ev gl F c ρ') (fun x => lft (truth x)) = ret (p x) := h6
      rw [← bnd_assoc, h6, bnd_ret]
      cases p x <;> rfl
    rw [e1, bnd_ret]
    by_cases hp : p x = true
    · rw [if_pos hp, if_pos hp, h7 hp, bnd_ret]
    · rw [if_neg hp, if_neg hp]
def l_same : Fn := ⟨["a", "b", "k"], 2,
    [.iff (.or [.and [.isi (.var 0) .tuple, .isi (.var 1) .tuple], .and [.isi (.var 0) .list, .isi (.var 1) .list]])
      [.ret (.and [.cmp .eq (.bi .len [.var 0]) (.bi .len [.var 1]), .bi .all [.comp (.call "_law_same" [.idx (.var 0) (.var 2), .idx (.var 1) (.var 2)]) (.nm 2) .ran [.bi .len [.var 0]] [] [2]]])]
      [],
    .iff (.or [.isi (.var 0) .bool, .isi (.var 1) .bool])
      [.ret (.and [.isi (.var 0) .bool, .isi (.var 1) .bool, .cmp .eq (.var 0) (.var 1)])]
      [],
    .iff (.or [.and [.isi (.var 0) .int, .isi (.var 1) .int], .and [.isi (.var 0) .str, .isi (.var 1) .str]])
      [.ret (.cmp .eq (.var 0) (.var 1))]
      [],
    .ret (.and [.cmp .iss (.var 0) (.lit .non), .cmp .iss (.var 1) (.lit .non)])]⟩
theorem mem_intsFrom {n : Nat} {x : D} (h : x ∈ intsFrom 0 n) : ∃ i : Nat, i < n ∧ x = .int i := by
  unfold intsFrom at h
  obtain ⟨i, hi, rfl⟩ := List.mem_map.mp h
  exact ⟨i, List.mem_range.mp hi, by simp⟩
theorem len_intsFrom {a : Int} {n : Nat} : (intsFrom a n).length = n := by simp [intsFrom]
theorem iter_ran {n : Nat} (h : n ≤ 4000) : iter .ran [.int (n : Int)] = some (intsFrom 0 n) := by
  have hs : small (n : Int) = true := by simp [small]; omega
  simp only [iter, hs, if_true]
  simp
theorem pyIx_nat {xs : List D} {i : Nat} : pyIx xs (i : Int) = xs[i]? := by
  unfold pyIx
  rw [if_pos (by omega)]
  simp
theorem deq_self {c l : Nat} : ∀ {n : Nat} {d : D}, Pd c l n d → deq d d = true := by
  have L : ∀ (xs : List D), (∀ x ∈ xs, deq x x = true) → deqL xs xs = true := by
    intro xs
    induction xs with
    | nil => intro _; simp only [deqL]
    | cons x xs ih => intro h; simp only [deqL, h x List.mem_cons_self, ih fun y hy => h y (List.mem_cons_of_mem _ hy), Bool.and_self]
  intro n
  induction n with
  | zero =>
    intro d h
    cases d with
    | int i => simp [deq]
    | non => simp [deq]
    | bl b => simp [deq]
    | str s => simp [deq]
    | _ => exact h.elim
  | succ n ih =>
    intro d h
    cases d with
    | int i => simp [deq]
    | non => simp [deq]
    | bl b => simp [deq]
    | str s => simp [deq]
    | tup xs => simp only [deq]; exact L xs fun x hx => ih (h.2 x hx)
    | lst xs => simp only [deq]; exact L xs fun x hx => ih (h.2 x hx)
    | _ => exact h.elim
theorem all_const {xs : List D} : bfn .all [.lst (xs.map fun _ => .bl true)] = some (.bl true) := by
  rw [bfn_all (g := fun _ => true)]; simp
theorem s_same (h : Fnd P "_law_same" l_same) : ∀ {n : Nat} {d : D} {k : Nat}, n ≤ 50 → l ≤ 4000 → n + 1 ≤ k → Pd c l n d → call P k "_law_same" [d, d] = ret (.bl true) := by
  have seq : ∀ (n k : Nat) (d : D) (xs : List D), (d = .tup xs ∨ d = .lst xs) → n + 1 ≤ 50 → l ≤ 4000 → n + 2 ≤ k → Pd c l (n + 1) d → xs.length ≤ l → (∀ x ∈ xs, call P (k - 1) "_law_same" [x, x] = ret (.bl true)) → call P k "_law_same" [d, d] = ret (.bl true) := by
    intro n k d xs hd hn hl hk hp hlen ih
    refine s_of h (by omega) rfl (ρ0 := [.im d, .im d, .un]) rfl (ρ1 := [.im d, .im d, .un]) ?_
    have el : bfn .len [d] = some (.int xs.length) := by rcases hd with rfl | rfl <;> rfl
    have ei : ∀ i : Nat, idx d (.int i) = xs[i]? := by intro i; rcases hd with rfl | rfl <;> exact pyIx_nat
    have t1 : tst P.gl (call P (k - 1)) (.or [.and [.isi (.var 0) .tuple, .isi (.var 1) .tuple], .and [.isi (.var 0) .list, .isi (.var 1) .list]]) [.im d, .im d, .un] = ret true := by
      simp [hp.isi.2.2.1, hp.isi.2.2.2.1]
      rcases hd with rfl | rfl <;> simp [dTup, dLst]
    refine exs_T t1 (exs_rt ?_)
    have e2 : ev P.gl (call P (k - 1)) (.comp (.call "_law_same" [.idx (.var 0) (.var 2), .idx (.var 1) (.var 2)]) (.nm 2) .ran [.bi .len [.var 0]] [] [2]) [.im d, .im d, .un] = ret (.lst ((intsFrom 0 xs.length).map fun _ => .bl true)) := by
      refine ev_comp1 (ds := [.int (xs.length : Int)]) (by simp [el]) (iter_ran (by omega)) (by rw [len_intsFrom]; unfold lim; omega) fun x hx => ?_
      obtain ⟨i, hi, rfl⟩ := mem_intsFrom hx
      refine ⟨[.im d, .im d, .im (.int i)], rfl, ?_⟩
      have e3 : idx d (.int i) = some xs[i] := by rw [ei, List.getElem?_eq_getElem hi]
      simp [e3, ih _ (List.getElem_mem hi)]
    simp only [ev_and, evA_cons, evA_one, ev_cmp, ev_bi, evL_cons, evL_nil, ev_var, getV_zero, getV_succ, bnd_ret, el, lft_some, cop_eqI, decide_true, truth_bl, if_true, e2, all_const]
  have flat : ∀ (n k : Nat) (d : D), n ≤ 50 → n + 1 ≤ k → Pd c l n d → dTup d = false → dLst d = false → call P k "_law_same" [d, d] = ret (.bl true) := by
    intro n k d hn hk hp h1 h2
    have hq : cop .eq d d = some true := by
      simp only [cop, hp.pln (show n < 60 by omega), Bool.and_self, if_true, deq_self hp]
    refine s_of h (by omega) rfl (ρ0 := [.im d, .im d, .un]) rfl (ρ1 := [.im d, .im d, .un]) ?_
    obtain ⟨i1, i2, i3, i4, i5⟩ := hp.isi
    rw [h1] at i3
    rw [h2] at i4
    refine (exs_F (by simp [i3, i4])).trans ?_
    cases hb : dBl d with
    | true =>
      rw [hb] at i2
      exact exs_T (by simp [i2]) (exs_rt (by simp [i2, hq]))
    | false =>
      rw [hb] at i2 i1
      refine (exs_F (by simp [i2])).trans ?_
      cases hi : dInt d with
      | true =>
        rw [hi] at i1
        exact exs_T (by simp [i1]) (exs_rt (by simp [hq]))
      | false =>
        rw [hi] at i1
        cases hs : dStr d with
        | true =>
          rw [hs] at i5
          exact exs_T (by simp [i1, i5]) (exs_rt (by simp [hq]))
        | false =>
          rw [hs] at i5
          refine (exs_F (by simp [i1, i5])).trans (exs_rt ?_)
          cases d with
          | non => simp [isSame]
          | int _ => cases hi
          | bl _ => cases hb
          | str _ => cases hs
          | tup _ => cases h1
          | lst _ => cases h2
          | _ => cases n <;> exact hp.elim
  intro n
  induction n with
  | zero =>
    intro d k hn hl hk hp
    refine flat 0 k d hn hk hp ?_ ?_ <;> (cases d <;> first | rfl | exact hp.elim)
  | succ n ih =>
    intro d k hn hl hk hp
    cases d with
    | tup xs => exact seq n k _ xs (.inl rfl) hn hl hk hp hp.1 fun x hx => ih (by omega) hl (by omega) (hp.2 x hx)
    | lst xs => exact seq n k _ xs (.inr rfl) hn hl hk hp hp.1 fun x hx => ih (by omega) hl (by omega) (hp.2 x hx)
    | _ => exact flat (n + 1) k _ hn hk hp rfl rfl
end
end PL

set_option autoImplicit false
set_option linter.all false
set_option maxRecDepth 100000
set_option maxHeartbeats 2000000
set_option exponentiation.threshold 20000
/-! M5: the laws that draw by a tape: what they share. -/
namespace PL
def l_is_ratio : Fn := ⟨["value", "part"], 1,
    [.iff (.or [.no (.isi (.var 0) .tuple), .cmp .ne (.bi .len [.var 0]) (.lit (.int 2)), .no (.bi .all [.comp (.and [.isi (.var 1) .int, .no (.isi (.var 1) .bool)]) (.nm 1) .seq [.var 0] [] [1]])])
      [.ret (.lit (.bl false))]
      [],
    .ret (.and [.cmp .gt (.idx (.var 0) (.lit (.int 1))) (.lit (.int 0)), .cmp .eq (.call "_law_ratio" [.idx (.var 0) (.lit (.int 0)), .idx (.var 0) (.lit (.int 1))]) (.var 0)])]⟩
def l_small : Fn := ⟨["tape", "top"], 2,
    [.ret (.call "_law_ratio" [.call "_law_take" [.var 0, .var 1], .bin .add (.lit (.int 1)) (.call "_law_take" [.var 0, .lit (.int 4)])])]⟩
def l_spoilt : Fn := ⟨["tape", "value", "at", "rows"], 2,
    [.iff (.and [.isi (.var 1) .tuple, .cmp .gt (.bi .len [.var 1]) (.lit (.int 0)), .cmp .gt (.call "_law_take" [.var 0, .lit (.int 4)]) (.lit (.int 0))])
      [.asg (.nm 2) (.call "_law_take" [.var 0, .bi .len [.var 1]]),
        .iff (.cmp .eq (.call "_law_take" [.var 0, .lit (.int 8)]) (.lit (.int 0)))
          [.ret (.bin .add (.sl2 (.var 1) (.var 2)) (.sl1 (.var 1) (.bin .add (.var 2) (.lit (.int 1)))))]
          [],
        .ret (.bin .add (.bin .add (.sl2 (.var 1) (.var 2)) (.tup [.call "_law_spoilt" [.var 0, .idx (.var 1) (.var 2)]])) (.sl1 (.var 1) (.bin .add (.var 2) (.lit (.int 1)))))]
      [],
    .asg (.nm 3) (.lst [.lit .non, .tup [], .lit (.int 0), .lit (.int 1), .lit (.bl true), .lit (.bl false), .lit (.str "a"), .neg (.lit (.int 1)), .tup [.lit (.int 0)], .tup [.tup [.lit (.int 0), .lit (.int 0)]]]),
    .iff (.isi (.var 1) .int)
      [.asg (.nm 3) (.bin .add (.var 3) (.lst [.bin .add (.var 1) (.lit (.int 1)), .bin .sub (.var 1) (.lit (.int 1)), .cmp .eq (.var 1) (.lit (.int 1)), .bin .add (.var 1) (.lit (.int 1))]))]
      [],
    .iff (.isi (.var 1) .tuple)
      [.asg (.nm 3) (.bin .add (.var 3) (.lst [.sl2 (.var 1) (.neg (.lit (.int 1))), .bin .add (.var 1) (.sl1 (.var 1) (.neg (.lit (.int 1)))), .rev (.var 1), .bin .add (.var 1) (.tup [.tup [.lit (.int 0), .lit (.int 0)]]), .tup [.var 1], .sl1 (.var 1) (.lit (.int 1))]))]
      [],
    .ret (.idx (.var 3) (.call "_law_take" [.var 0, .bi .len [.var 3]]))]⟩
def l_sum : Fn := ⟨["ratios", "found", "one"], 1,
    [.asg (.nm 1) (.tup [.lit (.int 0), .lit (.int 1)]),
    .fr (.nm 2) .seq [.var 0]
      [.asg (.nm 1) (.call "_law_plus" [.var 1, .var 2])],
    .ret (.var 1)]⟩
def l_max : Fn := ⟨["ratios", "found", "one"], 1,
    [.asg (.nm 1) (.idx (.var 0) (.lit (.int 0))),
    .fr (.nm 2) .seq [.var 0]
      [.asg (.nm 1) (.ite (.call "_law_less" [.var 1, .var 2]) (.var 2) (.var 1))],
    .ret (.var 1)]⟩
def sum_of : Fn := ⟨["ratios", "found", "one"], 1,
    [.asg (.nm 1) (.glob "ZERO"),
    .fr (.nm 2) .seq [.var 0]
      [.asg (.nm 1) (.call "plus" [.var 1, .var 2])],
    .ret (.var 1)]⟩
section
variable {β : Type} {P : Prog β} {k c l n : Nat}
theorem cop_eqT {a b p q : Int} : cop .eq (.tup [.int a, .int b]) (.tup [.int p, .int q]) = some (decide (a = p) && decide (b = q)) := by
  have h : ∀ u v : Int, pln 60 (.tup [.int u, .int v]) = true := fun u v => by simp only [pln, plnT, plnL, Bool.and_self]
  simp only [cop, h, Bool.and_self, if_true, deq, deqL, Bool.and_true]
  congr 1
theorem s_l_is_ratio (h : Fnd P "_law_is_ratio" l_is_ratio) (hr : Fnd P "_law_ratio" RF.l_ratio) (hc : c < 2 ^ 9000) (hl4 : l ≤ 4000) (hk : 2 ≤ k) {d : D} (hd : Pd c l n d) : call P k "_law_is_ratio" [d] = ret (.bl (isRt d)) := by
  refine s_of h (by omega) rfl (ρ0 := [.im d, .un]) rfl ?_ (ρ1 := [.im d, .un])
  by_cases ht : dTup d = true
  · cases d with
    | tup xs =>
      obtain ⟨m, rfl, hl, hx⟩ := hd.tup
      have ec : ev P.gl (call P (k - 1)) (.comp (.and [.isi (.var 1) .int, .no (.isi (.var 1) .bool)]) (.nm 1) .seq [.var 0] [] [1]) [.im (.tup xs), .un] = ret (.lst (xs.map fun x => .bl (dInt x))) := by
        refine ev_comp1 (ds := [.tup xs]) (by simp) rfl (by unfold lim; omega) fun x hx' => ⟨[.im (.tup xs), .im x], rfl, ?_⟩
        obtain ⟨i1, i2, _⟩ := (hx x hx').isi
        simp [i1, i2]
        cases x <;> rfl
      match xs, hx, ec with
      | [], _, _ => exact exs_T (by simp [hd.isi.2.2.1, dTup, bfn]) (exs_rt (by simp [isRt]))
      | [a], _, _ => exact exs_T (by simp [hd.isi.2.2.1, dTup, bfn]) (exs_rt (by simp [isRt]))
      | [a, b], hx, ec =>
        have hlen : bfn .len [.tup [a, b]] = some (.int 2) := rfl
        have ea : ∀ u v, bfn .all [.lst [.bl u, .bl v]] = some (.bl (u && v)) := by intro u v; simp [bfn, isBls]
        cases ha : dInt a && dInt b with
        | false =>
          refine exs_T (by simp [hd.isi.2.2.1, dTup, hlen, ec, ea, ha]) (exs_rt ?_)
          cases a <;> cases b <;> first | rfl | (cases ha; done)
        | true =>
          rw [Bool.and_eq_true] at ha
          cases a with
          | int p =>
            cases b with
            | int q =>
              refine (exs_F (by simp [hd.isi.2.2.1, dTup, hlen, ec, ea, dInt])).trans (exs_rt ?_)
              by_cases hq : 0 < q
              · have e := s_lratio hr (show 1 ≤ k - 1 by omega) (p := p) hq (Nat.lt_of_le_of_lt (hx _ (by simp)).int hc) (Nat.lt_of_le_of_lt (hx _ (by simp)).int hc)
                rw [rat_of hq] at e
                have key : (decide (p / (Int.gcd p q : Int) = p) && decide (q / (Int.gcd p q : Int) = q)) = decide ((Int.gcd p q : Int) = 1) := by
                  have hg := gcd_pos (p := p) hq
                  by_cases h1 : (Int.gcd p q : Int) = 1
                  · simp [h1]
                  · have : ¬ q / (Int.gcd p q : Int) = q := by
                      intro z
                      have h2 : q / (Int.gcd p q : Int) < q := by
                        apply Int.ediv_lt_of_lt_mul hg
                        have : q * 1 < q * (Int.gcd p q : Int) := Int.mul_lt_mul_of_pos_left (by omega) hq
                        omega
                      omega
                    simp [h1, this]
                simp [e, isRt, hq, cop_eqT, key]
              · simp [isRt, hq]
            | _ => simp [dInt] at ha
          | _ => simp [dInt] at ha
      | a :: b :: c :: r, _, _ =>
        refine exs_T ?_ (exs_rt (by simp [isRt]))
        have : ¬ ((r.length : Int) + 1 + 1 + 1 = 2) := by omega
        simp [hd.isi.2.2.1, dTup, bfn, this]
    | _ => cases ht
  · have ht : dTup d = false := by simpa using ht
    refine exs_T (by simp [hd.isi.2.2.1, ht]) (exs_rt ?_)
    cases d <;> first | rfl | cases ht
/-! ### draws -/
structure Draws (P : Prog β) (tk : String) : Prop where
  t : ∀ {k : Nat} {m : Int} {b : β}, 4 ≤ k → 0 < m → m < 1000000000 → ∃ i b', 0 ≤ i ∧ i < m ∧ call P k tk [.box, .int m] b = .ok (.int i) b'
theorem Draws.run {tk : String} (h : Draws P tk) (hk : 4 ≤ k) {m : Int} (h0 : 0 < m) (h1 : m < 1000000000) {b : β} {Q : D → β → Prop} (q : ∀ (i : Nat) b', (i : Int) < m → Q (.int i) b') : Run (call P k tk [.box, .int m]) b Q := by
  obtain ⟨i, b', h2, h3, e⟩ := h.t (b := b) hk h0 h1
  refine ⟨_, _, e, ?_⟩
  have := q i.toNat b' (by omega)
  rwa [Int.toNat_of_nonneg h2] at this
theorem run_call {x : String} {f : Fn} (h : Fnd P x f) {args : List D} (hk : 1 ≤ k) (h3 : args.length = f.np) {ρ0 : Env} (h0 : args.map Cell.im ++ List.replicate (f.names.length - f.np) Cell.un = ρ0) {b : β} {Q : D → β → Prop}
    (hb : Run (exs P.gl (call P (k - 1)) f.body ρ0) b (fun r b' => match r.1 with
      | .rt d => Q d b'
      | .nx => Q .non b'
      | _ => False)) : Run (call P k x args) b Q := by
  rw [call_at h hk h3, h0]
  exact run_endF.mpr hb
section
variable {gl : String → Option D} {F : String → List D → M β D} {ρ : Env} {b : β}
theorem run_rt {e : E} {r : List S} {Q : Fl × Env → β → Prop} (h : Run (ev gl F e ρ) b (fun d b' => Q (.rt d, ρ) b')) : Run (exs gl F (.ret e :: r) ρ) b Q := by
  rw [run_exs_cons]
  simp only [ex]
  rw [run_bnd]
  exact h.mono fun d b' q => run_ret.mpr q
theorem run_asg {i : Nat} {e : E} {r : List S} {Q : Fl × Env → β → Prop} (h : Run (ev gl F e ρ) b (fun d b' => Run (exs gl F r (ρ.set i (.im d))) b' Q)) : Run (exs gl F (.asg (.nm i) e :: r) ρ) b Q := by
  rw [run_exs_cons]
  simp only [ex]
  rw [run_bnd]
  refine h.mono fun d b' q => ?_
  simp only [bindT, lft_some, bnd_ret, nxt]
  exact run_ret.mpr q
theorem run_iff {c : E} {p q r : List S} {Q : Fl × Env → β → Prop} (h : Run (tst gl F c ρ) b (fun t b' => if t = true then Run (exs gl F p ρ) b' (nxts Q (exs gl F r)) else Run (exs gl F q ρ) b' (nxts Q (exs gl F r)))) : Run (exs gl F (.iff c p q :: r) ρ) b Q := by
  rw [run_exs_cons]
  simp only [ex]
  rw [run_bnd]
  exact h.mono fun t b' q => run_ite.mpr q
theorem run_tst {e : E} {Q : Bool → β → Prop} (h : Run (ev gl F e ρ) b (fun d b' => ∃ t, truth d = some t ∧ Q t b')) : Run (tst gl F e ρ) b Q := by
  simp only [tst]
  rw [run_bnd]
  exact h.mono fun d b' ⟨t, e, q⟩ => run_lft.mpr ⟨t, e, q⟩
end
structure Tape (P : Prog β) : Prop where
  dr : Draws P "_law_take"
  ratio : Fnd P "_law_ratio" RF.l_ratio
  small : Fnd P "_law_small" l_small
  spoilt : Fnd P "_law_spoilt" l_spoilt
theorem r_small (h : Tape P) (hk : 5 ≤ k) {m : Int} (h0 : 0 < m) (h1 : m < 1000000000) {b : β} {Q : D → β → Prop} (q : ∀ (i j : Nat) b', (i : Int) < m → j < 4 → Q (Rt (((i : Int) : Rat) / (((1 + j : Nat) : Int) : Rat))) b') : Run (call P k "_law_small" [.box, .int m]) b Q := by
  refine run_call h.small (by omega) rfl (ρ0 := [.im .box, .im (.int m)]) rfl (run_rt ?_)
  simp only [ev_call, evL_cons, evL_nil, ev_bin, ev_var, ev_lit, getV_zero, getV_succ, bnd_ret, run_bnd]
  refine h.dr.run (by omega) h0 h1 fun i b1 hi => ?_
  refine h.dr.run (by omega) (by decide) (by decide) fun j b2 hj => ?_
  simp only [bop_addI, lft_some, run_ret]
  have e := s_lratio h.ratio (show 1 ≤ k - 1 by omega) (p := (i : Int)) (q := 1 + (j : Int)) (by omega) ?_ ?_
  · rw [e, run_ret]
    have := q i j b2 hi (by omega)
    rwa [Int.natCast_add] at this
  · exact Nat.lt_of_lt_of_le (show ((i : Int)).natAbs < 2 ^ 30 by omega) (Nat.pow_le_pow_right (by decide) (by decide))
  · exact Nat.lt_of_lt_of_le (show (1 + (j : Int)).natAbs < 2 ^ 3 by omega) (Nat.pow_le_pow_right (by decide) (by decide))
/-- trees of ints -/
def It (c l : Nat) : Nat → D → Prop
  | 0, d => (match d with
    | .int i => i.natAbs ≤ c
    | _ => False)
  | n + 1, d => (match d with
    | .int i => i.natAbs ≤ c
    | .tup xs => xs.length ≤ l ∧ ∀ x ∈ xs, It c l n x
    | _ => False)
theorem It.pd : ∀ {n : Nat} {d : D}, It c l n d → Pd c l n d := by
  intro n
  induction n with
  | zero => intro d h; cases d <;> first | exact h | exact h.elim
  | succ n ih =>
    intro d h
    cases d with
    | int i => exact h
    | tup xs => exact ⟨h.1, fun x hx => ih (h.2 x hx)⟩
    | _ => exact h.elim
theorem len_take {xs : List D} : bfn .len [.tup xs] = some (.int xs.length) := rfl
theorem clip_nat {n i : Nat} (h : i ≤ n) (d : Nat) : clip n d (some (i : Int)) = i := by
  unfold clip
  simp only
  rw [if_neg (by omega)]
  omega
theorem cut_to {xs : List D} {i : Nat} (h : i ≤ xs.length) : cutD xs none (some (i : Int)) = xs.take i := by
  unfold cutD
  rw [clip_nat h]
  simp [clip]
theorem cut_from {xs : List D} {i : Nat} (h : i ≤ xs.length) : cutD xs (some (i : Int)) none = xs.drop i := by
  unfold cutD
  rw [clip_nat h]
  simp only [clip]
  rw [List.take_of_length_le (by rw [List.length_drop]; omega)]
theorem sub_take {xs : List D} {lo hi : Option Int} {x : D} (h : x ∈ cutD xs lo hi) : x ∈ xs := List.mem_of_mem_drop (List.mem_of_mem_take h)
theorem len_cut {xs : List D} {lo hi : Option Int} : (cutD xs lo hi).length ≤ xs.length := by
  unfold cutD
  rw [List.length_take, List.length_drop]
  omega
theorem bop_addT {a b : List D} (h : a.length + b.length ≤ lim) : bop .add (.tup a) (.tup b) = some (.tup (a ++ b)) := by simp only [bop, if_pos h]
theorem bop_addL {a b : List D} (h : a.length + b.length ≤ lim) : bop .add (.lst a) (.lst b) = some (.lst (a ++ b)) := by simp only [bop, if_pos h]
def base10 : List D := [.non, .tup [], .int 0, .int 1, .bl true, .bl false, .str "a", .int (-1), .tup [.int 0], .tup [.tup [.int 0, .int 0]]]
theorem base_pd (hc : 1 ≤ c) (hl : 2 ≤ l) : ∀ x ∈ base10, Pd c l (n + 2) x := by
  intro x hx
  simp only [base10, List.mem_cons, List.not_mem_nil, or_false] at hx
  have i0 : ∀ m, Pd c l m (.int 0) := fun m => Pd.of_int (by simp)
  rcases hx with rfl | rfl | rfl | rfl | rfl | rfl | rfl | rfl | rfl | rfl
  · exact Pd.non
  · exact ⟨by simp, by simp⟩
  · exact i0 _
  · exact Pd.of_int (by simpa using hc)
  · exact Pd.bl
  · exact Pd.bl
  · exact ⟨by decide +kernel, by decide +kernel⟩
  · exact Pd.of_int (by simpa using hc)
  · exact ⟨by first | (simp; done) | (simp; omega), by intro x hx; simp only [List.mem_cons, List.not_mem_nil, or_false] at hx; subst hx; exact i0 _⟩
  · refine ⟨by first | (simp; done) | (simp; omega), ?_⟩
    intro x hx
    simp only [List.mem_cons, List.not_mem_nil, or_false] at hx
    subst hx
    exact ⟨by simpa using hl, by intro x hx; simp only [List.mem_cons, List.not_mem_nil, or_false, or_self] at hx; subst hx; exact i0 _⟩
/-- the end: one of the rows -/
theorem sp_end (h : Draws P "_law_take") (hk : 4 ≤ k) {rows : List D} (h0 : rows ≠ []) (h1 : rows.length ≤ lim) {d : D} {c3 : Cell} {b : β} {Q : Fl × Env → β → Prop} (q : ∀ x ∈ rows, ∀ ρ b', Q (.rt x, ρ) b') :
    Run (exs P.gl (call P k) [.ret (.idx (.var 3) (.call "_law_take" [.var 0, .bi .len [.var 3]]))] [.im .box, .im d, c3, .im (.lst rows)]) b Q := by
  refine run_rt ?_
  have hp : 0 < rows.length := List.length_pos_iff.mpr h0
  have e : bfn .len [.lst rows] = some (.int rows.length) := rfl
  simp only [ev_idx, ev_call, evL_cons, evL_nil, ev_bi, ev_var, getV_zero, getV_succ, bnd_ret, e, lft_some, run_bnd]
  refine h.run hk (by omega) (by unfold lim at h1; omega) fun i b1 hi => ?_
  have hi : i < rows.length := by omega
  have e2 : idx (.lst rows) (.int i) = some rows[i] := by
    show pyIx rows i = _
    rw [pyIx_nat, List.getElem?_eq_getElem hi]
  rw [e2, lft_some, run_ret]
  exact q _ (List.getElem_mem hi) _ _
theorem sp_rest (h : Draws P "_law_take") (hk : 4 ≤ k) (hc : 1 ≤ c) (hl : 2 ≤ l) (hl2 : l ≤ 3000) {d : D} (hd : It c l n d) {b : β} {Q : Fl × Env → β → Prop} (q : ∀ x, Pd (c + 1) (l + 1) (n + 2) x → ∀ ρ b', Q (.rt x, ρ) b') :
    Run (exs P.gl (call P k) (l_spoilt.body.drop 1) [.im .box, .im d, .un, .un]) b Q := by
  show Run (exs P.gl (call P k) (.asg (.nm 3) _ :: .iff _ _ _ :: .iff _ _ _ :: [.ret _]) _) b Q
  refine run_asg ?_
  have e0 : ev P.gl (call P k) (.lst [.lit .non, .tup [], .lit (.int 0), .lit (.int 1), .lit (.bl true), .lit (.bl false), .lit (.str "a"), .neg (.lit (.int 1)), .tup [.lit (.int 0)], .tup [.tup [.lit (.int 0), .lit (.int 0)]]]) [.im .box, .im d, .un, .un] = ret (.lst base10) := by
    simp [lim, base10]
  rw [e0, run_ret]
  show Run (exs P.gl (call P k) _ [.im .box, .im d, .un, .im (.lst base10)]) b Q
  have hbase : ∀ x ∈ base10, Pd (c + 1) (l + 1) (n + 2) x := fun x hx => base_pd (by omega) (by omega) x hx
  refine run_iff (run_tst ?_)
  obtain ⟨i1, i2, i3, _⟩ := hd.pd.isi
  cases d with
  | int i =>
    have hi : i.natAbs ≤ c := hd.pd.int
    simp only [ev_isi, ev_var, getV_succ, getV_zero, bnd_ret, i1, lft_some, run_ret]
    refine ⟨true, rfl, ?_⟩
    rw [if_pos rfl]
    have e1 : ev P.gl (call P k) (.bin .add (.var 3) (.lst [.bin .add (.var 1) (.lit (.int 1)), .bin .sub (.var 1) (.lit (.int 1)), .cmp .eq (.var 1) (.lit (.int 1)), .bin .add (.var 1) (.lit (.int 1))])) [.im .box, .im (.int i), .un, .im (.lst base10)] =
        ret (.lst (base10 ++ [.int (i + 1), .int (i - 1), .bl (decide (i = 1)), .int (i + 1)])) := by
      simp only [ev_bin, ev_lst, evL_cons, evL_nil, ev_var, ev_lit, ev_cmp, getV_succ, getV_zero, bnd_ret, bop_addI, bop_subI, cop_eqI, lft_some]
      rw [if_pos (by simp [lim])]
      simp only [bnd_ret]
      rw [bop_addL (by simp [base10, lim])]
      rfl
    refine run_asg ?_
    rw [e1, run_ret]
    refine run_exs_nil.mpr ?_
    show Run (exs P.gl (call P k) _ [.im .box, .im (.int i), .un, .im (.lst (base10 ++ [.int (i + 1), .int (i - 1), .bl (decide (i = 1)), .int (i + 1)]))]) b Q
    refine run_iff (run_tst ?_)
    simp only [ev_isi, ev_var, getV_succ, getV_zero, bnd_ret, i3, lft_some, run_ret]
    refine ⟨false, rfl, ?_⟩
    rw [if_neg (by decide)]
    refine run_exs_nil.mpr ?_
    refine sp_end h hk (by simp [base10]) (by simp [base10, lim]) fun x hx ρ b' => q x ?_ ρ b'
    rw [List.mem_append] at hx
    rcases hx with hx | hx
    · exact hbase x hx
    · simp only [List.mem_cons, List.not_mem_nil, or_false] at hx
      rcases hx with rfl | rfl | rfl | rfl
      · exact Pd.of_int (by omega)
      · exact Pd.of_int (by omega)
      · exact Pd.bl
      · exact Pd.of_int (by omega)
  | tup xs =>
    obtain ⟨m, rfl, hlen, hx⟩ := hd.pd.tup
    simp only [ev_isi, ev_var, getV_succ, getV_zero, bnd_ret, i1, lft_some, run_ret]
    refine ⟨false, rfl, ?_⟩
    rw [if_neg (by decide)]
    refine run_exs_nil.mpr ?_
    refine run_iff (run_tst ?_)
    simp only [ev_isi, ev_var, getV_succ, getV_zero, bnd_ret, i3, lft_some, run_ret]
    refine ⟨true, rfl, ?_⟩
    rw [if_pos rfl]
    have hl1 : (cutD xs (some (-1)) none).length ≤ 1 := by
      unfold cutD
      simp only [clip]
      rw [List.length_take, List.length_drop]
      simp
      omega
    have e1 : ev P.gl (call P k) (.bin .add (.var 3) (.lst [.sl2 (.var 1) (.neg (.lit (.int 1))), .bin .add (.var 1) (.sl1 (.var 1) (.neg (.lit (.int 1)))), .rev (.var 1), .bin .add (.var 1) (.tup [.tup [.lit (.int 0), .lit (.int 0)]]), .tup [.var 1], .sl1 (.var 1) (.lit (.int 1))])) [.im .box, .im (.tup xs), .un, .im (.lst base10)] =
        ret (.lst (base10 ++ [.tup (cutD xs none (some (-1))), .tup (xs ++ cutD xs (some (-1)) none), .tup xs.reverse, .tup (xs ++ [.tup [.int 0, .int 0]]), .tup [.tup xs], .tup (cutD xs (some 1) none)])) := by
      simp only [ev_bin, ev_lst, ev_tup, evL_cons, evL_nil, ev_var, ev_lit, ev_cmp, ev_sl1, ev_sl2, ev_neg, ev_rev, getV_succ, getV_zero, bnd_ret, toI_int, lft_some, sli, revD]
      rw [bop_addT (by unfold lim; omega), if_pos (by simp [lim])]
      simp only [bnd_ret, lft_some]
      rw [if_pos (by simp [lim])]
      simp only [bnd_ret, lft_some]
      rw [bop_addT (by unfold lim; simp; omega)]
      simp only [bnd_ret, lft_some]
      rw [if_pos (by simp [lim])]
      simp only [bnd_ret, lft_some]
      rw [if_pos (by simp [lim])]
      simp only [bnd_ret, lft_some]
      rw [bop_addL (by simp [base10, lim])]
      rfl
    refine run_asg ?_
    rw [e1, run_ret]
    refine run_exs_nil.mpr ?_
    refine sp_end h hk (by simp [base10]) (by simp [base10, lim]) fun x hxx ρ b' => q x ?_ ρ b'
    have up : ∀ y ∈ xs, Pd (c + 1) (l + 1) (m + 2) y := fun y hy => (hx y hy).mono (by omega) (by omega) (by omega)
    rw [List.mem_append] at hxx
    rcases hxx with hxx | hxx
    · exact hbase x hxx
    · simp only [List.mem_cons, List.not_mem_nil, or_false] at hxx
      rcases hxx with rfl | rfl | rfl | rfl | rfl | rfl
      · exact ⟨Nat.le_trans len_cut (by omega), fun y hy => up y (sub_take hy)⟩
      · refine ⟨by rw [List.length_append]; omega, fun y hy => ?_⟩
        rcases List.mem_append.mp hy with hy | hy
        · exact up y hy
        · exact up y (sub_take hy)
      · exact ⟨by rw [List.length_reverse]; omega, fun y hy => up y (List.mem_reverse.mp hy)⟩
      · refine ⟨by rw [List.length_append]; simp; omega, fun y hy => ?_⟩
        rcases List.mem_append.mp hy with hy | hy
        · exact up y hy
        · simp only [List.mem_cons, List.not_mem_nil, or_false] at hy
          subst hy
          exact ⟨by first | (simp; done) | (simp; omega), by intro z hz; simp only [List.mem_cons, List.not_mem_nil, or_false, or_self] at hz; subst hz; exact Pd.of_int (by simp)⟩
      · refine ⟨by first | (simp; done) | (simp; omega), fun y hy => ?_⟩
        simp only [List.mem_cons, List.not_mem_nil, or_false] at hy
        subst hy
        exact ⟨by omega, fun z hz => (hx z hz).mono (by omega) (by omega) (by omega)⟩
      · exact ⟨Nat.le_trans len_cut (by omega), fun y hy => up y (sub_take hy)⟩
  | _ => cases n <;> exact hd.elim
theorem r_spoilt (h : Tape P) (hc : 1 ≤ c) (hl : 2 ≤ l) (hl2 : l ≤ 1000) : ∀ {n : Nat} {d : D} {k : Nat} {b : β} {Q : D → β → Prop}, n + 5 ≤ k → It c l n d → (∀ x b', Pd (c + 1) (l + 1) (n + 2) x → Q x b') → Run (call P k "_law_spoilt" [.box, d]) b Q := by
  intro n
  induction n with
  | zero =>
    intro d k b Q hk hd q
    refine run_call h.spoilt (by omega) rfl (ρ0 := [.im .box, .im d, .un, .un]) rfl ?_
    show Run (exs P.gl (call P (k - 1)) (.iff _ _ _ :: l_spoilt.body.drop 1) _) b _
    refine run_iff (run_tst ?_)
    cases d with
    | int i =>
      simp only [ev_and, evA_cons, ev_isi, ev_var, getV_succ, getV_zero, bnd_ret, hd.pd.isi.2.2.1, lft_some, truth_bl, dTup, Bool.false_eq_true, if_false, run_ret]
      refine ⟨false, rfl, ?_⟩
      rw [if_neg (by decide)]
      refine run_exs_nil.mpr ?_
      exact sp_rest h.dr (by omega) hc hl (by omega) hd fun x hx ρ b' => q x b' hx
    | _ => exact hd.elim
  | succ n ih =>
    intro d k b Q hk hd q
    refine run_call h.spoilt (by omega) rfl (ρ0 := [.im .box, .im d, .un, .un]) rfl ?_
    show Run (exs P.gl (call P (k - 1)) (.iff _ _ _ :: l_spoilt.body.drop 1) _) b _
    refine run_iff (run_tst ?_)
    have leaf : ∀ b', Run (exs P.gl (call P (k - 1)) (l_spoilt.body.drop 1) [.im .box, .im d, .un, .un]) b' (fun r b' => match r.1 with
      | .rt d => Q d b'
      | .nx => Q .non b'
      | _ => False) := fun b' => sp_rest h.dr (by omega) hc hl (by omega) hd fun x hx ρ b' => q x b' hx
    cases d with
    | int i =>
      simp only [ev_and, evA_cons, ev_isi, ev_var, getV_succ, getV_zero, bnd_ret, hd.pd.isi.2.2.1, lft_some, truth_bl, dTup, Bool.false_eq_true, if_false, run_ret]
      refine ⟨false, rfl, ?_⟩
      rw [if_neg (by decide)]
      refine run_exs_nil.mpr ?_
      exact leaf b
    | tup xs =>
      have hlen := hd.1
      have hx := hd.2
      have hpx := hd.pd.2
      by_cases h0 : 0 < xs.length
      case neg =>
        simp only [ev_and, evA_cons, evA_one, ev_isi, ev_cmp, ev_bi, evL_cons, evL_nil, ev_lit, ev_var, getV_succ, getV_zero, bnd_ret, hd.pd.isi.2.2.1, lft_some, truth_bl, dTup, if_true, len_take, cop_gt, decide_eq_false (show ¬ (0 : Int) < xs.length by omega), Bool.false_eq_true, if_false, run_ret]
        refine ⟨false, rfl, ?_⟩
        rw [if_neg (by decide)]
        refine run_exs_nil.mpr ?_
        exact leaf b
      simp only [ev_and, evA_cons, evA_one, ev_isi, ev_cmp, ev_bi, ev_call, evL_cons, evL_nil, ev_lit, ev_var, getV_succ, getV_zero, bnd_ret, hd.pd.isi.2.2.1, lft_some, truth_bl, dTup, if_true, len_take, cop_gt, decide_eq_true (show (0 : Int) < xs.length by omega), run_bnd]
      refine h.dr.run (by omega) (by decide) (by decide) fun t b1 ht => ?_
      simp only [cop_gt, lft_some, run_ret]
      refine ⟨_, rfl, ?_⟩
      by_cases hc0 : (0 : Int) < (t : Int)
      case neg =>
        rw [decide_eq_false hc0, if_neg (by decide)]
        refine run_exs_nil.mpr ?_
        exact leaf b1
      rw [decide_eq_true hc0, if_pos rfl]
      refine run_asg ?_
      simp only [ev_bi, ev_call, evL_cons, evL_nil, ev_var, getV_succ, getV_zero, bnd_ret, lft_some, len_take]
      refine h.dr.run (by omega) (by omega) (by omega) fun a b2 ha => ?_
      have ha : a < xs.length := by omega
      show Run (exs P.gl (call P (k - 1)) _ [.im .box, .im (.tup xs), .im (.int a), .un]) b2 _
      refine run_iff (run_tst ?_)
      simp only [ev_cmp, ev_call, evL_cons, evL_nil, ev_lit, ev_var, getV_succ, getV_zero, bnd_ret, run_bnd]
      refine h.dr.run (by omega) (by decide) (by decide) fun u b3 hu => ?_
      simp only [cop_eqI, lft_some, run_ret]
      refine ⟨_, rfl, ?_⟩
      have c1 : sli none (some (a : Int)) (.tup xs) = some (.tup (xs.take a)) := by simp only [sli, cut_to (Nat.le_of_lt ha)]
      have c2 : sli (some ((a : Int) + 1)) none (.tup xs) = some (.tup (xs.drop (a + 1))) := by
        have := cut_from (xs := xs) (i := a + 1) ha
        rw [Int.natCast_add] at this
        simp only [sli]
        rw [← this]; rfl
      have up : ∀ y ∈ xs, Pd (c + 1) (l + 1) (n + 2) y := fun y hy => (hpx y hy).mono (by omega) (by omega) (by omega)
      by_cases hu0 : (u : Int) = 0
      · rw [decide_eq_true hu0, if_pos rfl]
        refine run_rt ?_
        simp only [ev_bin, ev_sl1, ev_sl2, ev_lit, ev_var, getV_succ, getV_zero, bnd_ret, toI_int, bop_addI, lft_some, c1, c2]
        rw [bop_addT (by rw [List.length_take, List.length_drop]; unfold lim; omega), lft_some, run_ret]
        refine q _ _ ⟨by rw [List.length_append, List.length_take, List.length_drop]; omega, fun y hy => ?_⟩
        rcases List.mem_append.mp hy with hy | hy
        · exact up y (List.mem_of_mem_take hy)
        · exact up y (List.mem_of_mem_drop hy)
      · rw [decide_eq_false hu0, if_neg (by decide)]
        refine run_exs_nil.mpr ?_
        refine run_rt ?_
        have e2 : idx (.tup xs) (.int a) = some xs[a] := by
          show pyIx xs a = _
          rw [pyIx_nat, List.getElem?_eq_getElem ha]
        simp only [ev_bin, ev_tup, ev_call, ev_idx, evL_cons, evL_nil, ev_sl1, ev_sl2, ev_lit, ev_var, getV_succ, getV_zero, bnd_ret, toI_int, bop_addI, lft_some, c1, c2, e2, run_bnd]
        refine ih (by omega) (hx _ (List.getElem_mem ha)) fun y b4 hy => ?_
        simp only [run_ret]
        rw [if_pos (by simp [lim]), run_ret, bop_addT (by rw [List.length_take]; simp [lim]; omega), lft_some, run_ret, bop_addT (by rw [List.length_append, List.length_take, List.length_drop]; simp [lim]; omega), lft_some, run_ret]
        refine q _ _ ⟨by rw [List.length_append, List.length_append, List.length_take, List.length_drop]; simp; omega, fun z hz => ?_⟩
        rcases List.mem_append.mp hz with hz | hz
        · rcases List.mem_append.mp hz with hz | hz
          · exact up z (List.mem_of_mem_take hz)
          · simp only [List.mem_cons, List.not_mem_nil, or_false] at hz
            subst hz
            exact hy
        · exact up z (List.mem_of_mem_drop hz)
    | _ => exact hd.elim
end
end PL

set_option autoImplicit false
set_option linter.all false
set_option maxRecDepth 100000
set_option maxHeartbeats 2000000
set_option exponentiation.threshold 20000
/-! M6: how great numbers get; sums, the greatest. -/
namespace PL
/-- at most n bits above and below -/
def Bz (n : Nat) (q : Rat) : Prop := q.num.natAbs < 2 ^ n ∧ q.den < 2 ^ n
theorem Bz.mono {n m : Nat} {q : Rat} (h : Bz n q) (hm : n ≤ m) : Bz m q := ⟨Nat.lt_of_lt_of_le h.1 (Nat.pow_le_pow_right (by decide) hm), Nat.lt_of_lt_of_le h.2 (Nat.pow_le_pow_right (by decide) hm)⟩
theorem Bz.sz {n : Nat} {q : Rat} (h : Bz n q) (hn : n ≤ 4000) : Sz q := h.mono hn
/-- from any form -/
theorem Bz.of {p q : Int} {n : Nat} (h0 : 0 < q) (hp : p.natAbs < 2 ^ n) (hq : q.natAbs < 2 ^ n) : Bz n ((p : Rat) / (q : Rat)) := by
  have e := rat_of (p := p) h0
  simp only [Rt, D.tup.injEq, List.cons.injEq, D.int.injEq, and_true] at e
  have hg := gcd_pos (p := p) h0
  constructor
  · rw [e.1]
    have : (p / (Int.gcd p q : Int)).natAbs ≤ p.natAbs := Int.natAbs_ediv_le_natAbs _ _
    omega
  · have : ((((p : Rat) / (q : Rat)).den : Nat) : Int) ≤ q := by
      rw [e.2]
      exact Int.ediv_le_self _ (by omega)
    omega
theorem pow_mul_lt {a b n m : Nat} (h1 : a < 2 ^ n) (h2 : b < 2 ^ m) : a * b < 2 ^ (n + m) := by
  rw [Nat.pow_add]
  exact Nat.mul_lt_mul'' h1 h2
theorem Bz.mul {n m : Nat} {p q : Rat} (h1 : Bz n p) (h2 : Bz m q) : Bz (n + m) (p * q) := by
  rw [← mul_rat]
  refine Bz.of (Int.mul_pos (den_pos p) (den_pos q)) ?_ ?_
  · rw [Int.natAbs_mul]; exact pow_mul_lt h1.1 h2.1
  · rw [Int.natAbs_mul, Int.natAbs_natCast, Int.natAbs_natCast]; exact pow_mul_lt h1.2 h2.2
theorem two_lt {a b c d n m : Nat} (h1 : a < 2 ^ n) (h2 : b < 2 ^ m) (h3 : c < 2 ^ m) (h4 : d < 2 ^ n) : a * b + c * d < 2 ^ (n + m + 1) := by
  have e1 := pow_mul_lt h1 h2
  have e2 := pow_mul_lt h3 h4
  rw [Nat.add_comm m n] at e2
  rw [Nat.pow_succ]
  omega
theorem Bz.add {n m : Nat} {p q : Rat} (h1 : Bz n p) (h2 : Bz m q) : Bz (n + m + 1) (p + q) := by
  rw [← add_rat]
  refine Bz.of (Int.mul_pos (den_pos p) (den_pos q)) ?_ ?_
  · refine Nat.lt_of_le_of_lt (Int.natAbs_add_le _ _) ?_
    rw [Int.natAbs_mul, Int.natAbs_mul, Int.natAbs_natCast, Int.natAbs_natCast]
    exact two_lt h1.1 h2.2 h2.1 h1.2
  · rw [Int.natAbs_mul, Int.natAbs_natCast, Int.natAbs_natCast]
    exact Nat.lt_of_lt_of_le (pow_mul_lt h1.2 h2.2) (Nat.pow_le_pow_right (by decide) (by omega))
theorem Bz.sub {n m : Nat} {p q : Rat} (h1 : Bz n p) (h2 : Bz m q) : Bz (n + m + 1) (p - q) := by
  rw [← sub_rat]
  refine Bz.of (Int.mul_pos (den_pos p) (den_pos q)) ?_ ?_
  · refine Nat.lt_of_le_of_lt (Int.natAbs_sub_le _ _) ?_
    rw [Int.natAbs_mul, Int.natAbs_mul, Int.natAbs_natCast, Int.natAbs_natCast]
    exact two_lt h1.1 h2.2 h2.1 h1.2
  · rw [Int.natAbs_mul, Int.natAbs_natCast, Int.natAbs_natCast]
    exact Nat.lt_of_lt_of_le (pow_mul_lt h1.2 h2.2) (Nat.pow_le_pow_right (by decide) (by omega))
theorem Bz.zero {n : Nat} (h : 1 ≤ n) : Bz n 0 := by
  constructor
  · show (0 : Rat).num.natAbs < 2 ^ n
    exact Nat.lt_of_lt_of_le (by decide : (0 : Rat).num.natAbs < 2 ^ 1) (Nat.pow_le_pow_right (by decide) h)
  · exact Nat.lt_of_lt_of_le (by decide : (0 : Rat).den < 2 ^ 1) (Nat.pow_le_pow_right (by decide) h)
/-- the sum, from the left -/
def sm (xs : List Rat) : Rat := xs.foldl (· + ·) 0
theorem sm_nil : sm [] = 0 := rfl
theorem foldl_add (xs : List Rat) : ∀ a : Rat, xs.foldl (· + ·) a = a + sm xs := by
  induction xs with
  | nil => intro a; show a = a + 0; grind
  | cons x xs ih =>
    intro a
    show xs.foldl (· + ·) (a + x) = a + xs.foldl (· + ·) (0 + x)
    rw [ih (a + x), ih (0 + x)]; grind
theorem sm_cons (x : Rat) (xs : List Rat) : sm (x :: xs) = x + sm xs := by
  unfold sm
  rw [List.foldl_cons, foldl_add, foldl_add]; grind
theorem sm_append (xs ys : List Rat) : sm (xs ++ ys) = sm xs + sm ys := by
  unfold sm
  rw [List.foldl_append, foldl_add]; rfl
theorem sm_take {xs : List Rat} {i : Nat} (h : i < xs.length) : sm (xs.take (i + 1)) = sm (xs.take i) + xs[i] := by
  rw [List.take_succ_eq_append_getElem h, sm_append]
  congr 1
  rw [sm_cons, sm_nil]; grind
theorem Bz.sm {m : Nat} : ∀ {xs : List Rat}, (∀ x ∈ xs, Bz m x) → Bz (xs.length * (m + 1) + 1) (PL.sm xs)
  | [], _ => Bz.zero (by omega)
  | x :: xs, h => by
    rw [sm_cons]
    refine ((h x List.mem_cons_self).add (Bz.sm fun y hy => h y (List.mem_cons_of_mem _ hy))).mono ?_
    rw [List.length_cons, Nat.succ_mul]
    omega
theorem Bz.sm_take {m : Nat} {xs : List Rat} (h : ∀ x ∈ xs, Bz m x) (i : Nat) : Bz (xs.length * (m + 1) + 1) (PL.sm (xs.take i)) := by
  refine (Bz.sm (m := m) (xs := xs.take i) fun x hx => h x (List.mem_of_mem_take hx)).mono ?_
  have : (xs.take i).length * (m + 1) ≤ xs.length * (m + 1) := Nat.mul_le_mul_right _ (by rw [List.length_take]; omega)
  omega
theorem Rt_zero : Rt 0 = .tup [.int 0, .int 1] := rfl
section
variable {β : Type} {P : Prog β} {k c l n : Nat}
theorem for_add {gl : String → Option D} {F : String → List D → M β D} {nm : String} {xs : List Rat} {d : D} (hF : ∀ x y, Sz x → Sz y → F nm [Rt x, Rt y] = ret (Rt (x + y))) {m : Nat} (hm : xs.length * (m + 1) + 1 ≤ 4000) (hx : ∀ x ∈ xs, Bz m x) (b : β) {Q : Fl × Env → β → Prop}
    (hQ : ∀ c, Q (.nx, [.im d, .im (Rt (sm xs)), c]) b) : Run (forM (fun d ρ' => bnd (lft (bindT (.nm 2) d ρ')) fun ρ'' => exs gl F [.asg (.nm 1) (.call nm [.var 1, .var 2])] ρ'') (xs.map Rt) [.im d, .im (Rt 0), .un]) b Q := by
  have hm2 : m ≤ 4000 ∨ xs = [] := by
    cases xs with
    | nil => exact .inr rfl
    | cons x xs => left; rw [List.length_cons, Nat.succ_mul] at hm; omega
  refine run_for (fun i ρ b' => b' = b ∧ ∃ c, ρ = [.im d, .im (Rt (sm (xs.take i))), c]) ?_ ?_ ⟨rfl, _, rfl⟩
  · rintro i e ρ b' he ⟨rfl, c, rfl⟩
    rw [List.getElem?_map] at he
    have hi : i < xs.length := by
      refine Classical.byContradiction fun z => ?_
      rw [List.getElem?_eq_none (by omega)] at he
      cases he
    rw [List.getElem?_eq_getElem hi] at he
    simp only [Option.map_some, Option.some.injEq] at he
    subst he
    show Run (exs gl F _ [.im d, .im (Rt (sm (xs.take i))), .im (Rt xs[i])]) b' _
    refine run_asg ?_
    have hs : m ≤ 4000 := by
      rcases hm2 with h | h
      · exact h
      · rw [h] at hi; simp at hi
    simp only [ev_call, evL_cons, evL_nil, ev_var, getV_zero, getV_succ, bnd_ret]
    rw [hF _ _ ((Bz.sm_take hx i).sz hm) ((hx _ (List.getElem_mem hi)).sz hs), run_ret]
    refine run_exs_nil.mpr ⟨rfl, .im (Rt xs[i]), ?_⟩
    rw [sm_take hi]; rfl
  · rintro ρ b' ⟨rfl, c, rfl⟩
    rw [List.length_map, List.take_length]
    exact hQ c
theorem items_of {d : D} {xs : List D} (h : items d = some xs) : iter .seq [d] = some xs := h
theorem s_lsum (h : Fnd P "_law_sum" l_sum) (hr : LRats P) (hk : 3 ≤ k) {xs : List Rat} {d : D} (hd : items d = some (xs.map Rt)) {m : Nat} (hm : xs.length * (m + 1) + 1 ≤ 4000) (hx : ∀ x ∈ xs, Bz m x) :
    call P k "_law_sum" [d] = ret (Rt (sm xs)) := by
  refine eq_ret fun b => run_call h (by omega) rfl (ρ0 := [.im d, .un, .un]) rfl (run_asg ?_)
  have e : ev P.gl (call P (k - 1)) (.tup [.lit (.int 0), .lit (.int 1)]) [.im d, .un, .un] = ret (Rt 0) := by simp [lim]; rfl
  rw [e, run_ret]
  show Run (exs P.gl (call P (k - 1)) _ [.im d, .im (Rt 0), .un]) b _
  rw [run_exs_cons]
  simp only [ex, evL_cons, evL_nil, ev_var, getV_zero, bnd_ret, items_of hd, lft_some]
  refine for_add (fun x y h1 h2 => s_lplus hr (by omega) h1 h2) hm hx b fun c => ?_
  refine run_rt ?_
  simp only [ev_var, getV_succ, getV_zero, run_ret]
  exact ⟨trivial, trivial⟩
theorem s_sum_of (h : Fnd P "sum_of" sum_of) (hz : P.gl "ZERO" = some (Rt 0)) (hr : Rats P) (hk : 4 ≤ k) {xs : List Rat} {d : D} (hd : items d = some (xs.map Rt)) {m : Nat} (hm : xs.length * (m + 1) + 1 ≤ 4000) (hx : ∀ x ∈ xs, Bz m x) :
    call P k "sum_of" [d] = ret (Rt (sm xs)) := by
  refine eq_ret fun b => run_call h (by omega) rfl (ρ0 := [.im d, .un, .un]) rfl (run_asg ?_)
  simp only [ev_glob, hz, lft_some, run_ret]
  show Run (exs P.gl (call P (k - 1)) _ [.im d, .im (Rt 0), .un]) b _
  rw [run_exs_cons]
  simp only [ex, evL_cons, evL_nil, ev_var, getV_zero, bnd_ret, items_of hd, lft_some]
  refine for_add (fun x y h1 h2 => s_plus hr (by omega) h1 h2) hm hx b fun c => ?_
  refine run_rt ?_
  simp only [ev_var, getV_succ, getV_zero, run_ret]
  exact ⟨trivial, trivial⟩
/-- the first of the greatest so far -/
def mx (a : Rat) (xs : List Rat) : Rat := xs.foldl (fun a b => if a < b then b else a) a
theorem mx_mem : ∀ (xs : List Rat) (a : Rat), mx a xs = a ∨ mx a xs ∈ xs
  | [], a => .inl rfl
  | x :: xs, a => by
    show mx (if a < x then x else a) xs = a ∨ _
    by_cases h : a < x
    · rw [if_pos h]
      rcases mx_mem xs x with e | e
      · exact .inr (by show mx (if a < x then x else a) xs ∈ _; rw [if_pos h, e]; exact List.mem_cons_self)
      · exact .inr (by show mx (if a < x then x else a) xs ∈ _; rw [if_pos h]; exact List.mem_cons_of_mem _ e)
    · rw [if_neg h]
      rcases mx_mem xs a with e | e
      · exact .inl e
      · exact .inr (by show mx (if a < x then x else a) xs ∈ _; rw [if_neg h]; exact List.mem_cons_of_mem _ e)
theorem mx_ge : ∀ (xs : List Rat) (a : Rat), a ≤ mx a xs ∧ ∀ x ∈ xs, x ≤ mx a xs
  | [], a => ⟨Rat.le_refl, by simp⟩
  | x :: xs, a => by
    show a ≤ mx (if a < x then x else a) xs ∧ ∀ y ∈ x :: xs, y ≤ mx (if a < x then x else a) xs
    have h1 : a ≤ (if a < x then x else a) ∧ x ≤ (if a < x then x else a) := by split <;> grind
    obtain ⟨h2, h3⟩ := mx_ge xs (if a < x then x else a)
    refine ⟨Rat.le_trans h1.1 h2, fun y hy => ?_⟩
    rcases List.mem_cons.mp hy with rfl | hy
    · exact Rat.le_trans h1.2 h2
    · exact h3 y hy
theorem s_lmax (h : Fnd P "_law_max" l_max) (hr : LRats P) (hk : 2 ≤ k) {x : Rat} {xs : List Rat} {d : D} (hd : items d = some ((x :: xs).map Rt)) (hx : ∀ y ∈ x :: xs, Sz y) :
    call P k "_law_max" [d] = ret (Rt (mx x xs)) := by
  refine eq_ret fun b => run_call h (by omega) rfl (ρ0 := [.im d, .un, .un]) rfl (run_asg ?_)
  have e : idx d (.int 0) = some (Rt x) := by
    cases d <;> simp only [items, Option.some.injEq] at hd <;> first | (cases hd; done) | (subst hd; rfl)
  simp only [ev_idx, ev_var, ev_lit, getV_zero, bnd_ret, e, lft_some, run_ret]
  show Run (exs P.gl (call P (k - 1)) _ [.im d, .im (Rt x), .un]) b _
  rw [run_exs_cons]
  simp only [ex, evL_cons, evL_nil, ev_var, getV_zero, bnd_ret, items_of hd, lft_some]
  have e0 : mx x ((x :: xs).take 0) = x := rfl
  have e1 : mx x (x :: xs) = mx x xs := by
    show mx (if x < x then x else x) xs = _
    simp
  have hmem : ∀ i, Sz (mx x ((x :: xs).take i)) := fun i => by
    rcases mx_mem ((x :: xs).take i) x with h | h
    · rw [h]; exact hx x List.mem_cons_self
    · exact hx _ (List.mem_of_mem_take h)
  refine run_for (fun i ρ b' => b' = b ∧ ∃ c, ρ = [.im d, .im (Rt (mx x ((x :: xs).take i))), c]) ?_ ?_ ⟨rfl, _, rfl⟩
  · rintro i e ρ b' he ⟨rfl, c, rfl⟩
    rw [List.getElem?_map] at he
    have hi : i < (x :: xs).length := by
      refine Classical.byContradiction fun z => ?_
      rw [List.getElem?_eq_none (by omega)] at he
      cases he
    rw [List.getElem?_eq_getElem hi] at he
    simp only [Option.map_some, Option.some.injEq] at he
    subst he
    show Run (exs P.gl (call P (k - 1)) _ [.im d, .im (Rt (mx x ((x :: xs).take i))), .im (Rt (x :: xs)[i])]) b' _
    refine run_asg ?_
    simp only [ev_ite, ev_call, evL_cons, evL_nil, ev_var, getV_zero, getV_succ, bnd_ret]
    rw [s_lless hr (by omega) (hmem i) (hx _ (List.getElem_mem hi)), bnd_ret, truth_bl, lft_some, bnd_ret]
    have e2 : mx x ((x :: xs).take (i + 1)) = if mx x ((x :: xs).take i) < (x :: xs)[i] then (x :: xs)[i] else mx x ((x :: xs).take i) := by
      rw [List.take_succ_eq_append_getElem hi]
      unfold mx
      rw [List.foldl_append]; rfl
    by_cases hlt : mx x ((x :: xs).take i) < (x :: xs)[i]
    · rw [decide_eq_true hlt, if_pos rfl, run_ret]
      refine run_exs_nil.mpr ⟨rfl, .im (Rt (x :: xs)[i]), ?_⟩
      rw [e2, if_pos hlt]; rfl
    · rw [decide_eq_false hlt, if_neg (by decide), run_ret]
      refine run_exs_nil.mpr ⟨rfl, .im (Rt (x :: xs)[i]), ?_⟩
      rw [e2, if_neg hlt]; rfl
  · rintro ρ b' ⟨rfl, c, rfl⟩
    rw [List.length_map, List.take_length, e1]
    refine run_rt ?_
    simp only [ev_var, getV_succ, getV_zero, run_ret]
    exact ⟨trivial, trivial⟩
end
end PL

set_option autoImplicit false
set_option linter.all false
set_option maxRecDepth 100000
set_option maxHeartbeats 2000000
set_option exponentiation.threshold 20000
/-! M7: walks over lists of any things. -/
namespace PL
section
variable {β α : Type} {gl : String → Option D} {F : String → List D → M β D} {ρ : Env}
theorem ev_compL {e : E} {t : Tg} {ik : Ik} {es : List E} {own : List Nat} {ds : List D} {l : List α} {w : α → D} {g : α → D}
    (h1 : evL gl F es ρ = ret ds) (h2 : iter ik ds = some (l.map w)) (h3 : l.length ≤ lim) (h4 : ∀ x ∈ l, ∃ ρ', bindT t (w x) (wipeE ρ own) = some ρ' ∧ ev gl F e ρ' = ret (g x)) : ev gl F (.comp e t ik es [] own) ρ = ret (.lst (l.map g)) := by
  rw [ev_comp, h1, bnd_ret, h2, lft_some, bnd_ret, if_pos (by rw [List.length_map]; exact h3)]
  have key : ∀ l : List α, (∀ x ∈ l, ∃ ρ', bindT t (w x) (wipeE ρ own) = some ρ' ∧ ev gl F e ρ' = ret (g x)) → compM (fun d => bnd (lft (bindT t d (wipeE ρ own))) fun ρ' =>
      bnd (evC gl F [] ρ') fun b => if b = true then bnd (ev gl F e ρ') fun v => ret (some v) else ret none) (l.map w) = (ret (l.map g) : M β (List D)) := by
    intro l
    induction l with
    | nil => intro _; rfl
    | cons x l ih =>
      intro h
      obtain ⟨ρ', h5, h6⟩ := h x List.mem_cons_self
      rw [List.map_cons, compM, ih fun y hy => h y (List.mem_cons_of_mem _ hy)]
      simp only [h5, lft_some, bnd_ret, evC_nil, if_true, h6, List.map_cons]
  rw [key l h4]; rfl
theorem run_forL {f : D → Env → M β (Fl × Env)} {Q : Fl × Env → β → Prop} {l : List α} {w : α → D} (I : Nat → Env → β → Prop)
    (hs : ∀ i x ρ b, l[i]? = some x → I i ρ b → Run (f (w x) ρ) b (turn (I (i + 1)) Q)) (hd : ∀ ρ b, I l.length ρ b → Q (.nx, ρ) b) {b : β} (h0 : I 0 ρ b) : Run (forM f (l.map w) ρ) b Q := by
  refine run_for I (fun i d ρ b e h => ?_) (fun ρ b h => hd ρ b (by rwa [List.length_map] at h)) h0
  rw [List.getElem?_map] at e
  cases q : l[i]? with
  | none => rw [q] at e; cases e
  | some x =>
    rw [q] at e
    simp only [Option.map_some, Option.some.injEq] at e
    subst e
    exact hs i x ρ b q h
theorem bfn_allL {l : List α} {g : α → Bool} : bfn .all [.lst (l.map fun x => .bl (g x))] = some (.bl (l.all g)) := by
  have : isBls (l.map fun x => D.bl (g x)) = some (l.map g) := by
    induction l with
    | nil => rfl
    | cons x xs ih => simp [isBls, ih]
  simp [bfn, this]
theorem bfn_anyL {l : List α} {g : α → Bool} : bfn .any [.lst (l.map fun x => .bl (g x))] = some (.bl (l.any g)) := by
  have : isBls (l.map fun x => D.bl (g x)) = some (l.map g) := by
    induction l with
    | nil => rfl
    | cons x xs ih => simp [isBls, ih]
  simp [bfn, this]
end
theorem ran_map {n : Nat} (h : n ≤ 4000) : iter .ran [.int (n : Int)] = some ((List.range n).map fun (i : Nat) => .int i) := by
  rw [iter_ran h]
  unfold intsFrom
  congr 1
  apply List.map_congr_left
  intro i _
  simp
theorem ran2_map {a b : Nat} (h : b ≤ 4000) (h2 : a ≤ 4000) : iter .ran [.int (a : Int), .int (b : Int)] = some ((List.range (b - a)).map fun (i : Nat) => .int ((a + i : Nat) : Int)) := by
  have h1 : small (a : Int) = true := by simp [small]; omega
  have h3 : small (b : Int) = true := by simp [small]; omega
  simp only [iter, h1, h3, Bool.and_self, if_true, intsFrom]
  have : ((b : Int) - (a : Int)).toNat = b - a := by omega
  rw [this]
  congr 1
theorem zip_map {α γ : Type} {f : α → D} {g : γ → D} : ∀ {as : List α} {bs : List γ}, zipD (as.map f) (bs.map g) = (as.zip bs).map fun p => .tup [f p.1, g p.2]
  | [], _ => by simp [zipD]
  | _ :: _, [] => by simp [zipD]
  | a :: as, b :: bs => by simp only [List.map_cons, zipD, List.zip_cons_cons, zip_map]
theorem iter_zip {α γ : Type} {f : α → D} {g : γ → D} {as : List α} {bs : List γ} : iter .zip [.tup (as.map f), .tup (bs.map g)] = some ((as.zip bs).map fun p => .tup [f p.1, g p.2]) := by
  simp only [iter, zip_map]
theorem enu_map {α : Type} {f : α → D} : ∀ {as : List α} {k : Nat}, enuD k (as.map f) = (as.zipIdx k).map fun p => .tup [.int p.2, f p.1]
  | [], _ => by simp [enuD]
  | a :: as, k => by simp only [List.map_cons, enuD, List.zipIdx_cons, enu_map]
theorem all_range {α : Type} {l : List α} {d : α} {p : α → Bool} : ((List.range l.length).all fun i => p (l.getD i d)) = l.all p := by
  apply Bool.eq_iff_iff.mpr
  simp only [List.all_eq_true, List.mem_range]
  constructor
  · intro h x hx
    obtain ⟨i, hi, rfl⟩ := List.mem_iff_getElem.mp hx
    have := h i hi
    rwa [List.getD_eq_getElem?_getD, List.getElem?_eq_getElem hi] at this
  · intro h i hi
    rw [List.getD_eq_getElem?_getD, List.getElem?_eq_getElem hi]
    exact h _ (List.getElem_mem hi)
theorem any_range {α : Type} {l : List α} {d : α} {p : α → Bool} : ((List.range l.length).any fun i => p (l.getD i d)) = l.any p := by
  have := all_range (l := l) (d := d) (p := fun x => !p x)
  rw [← List.not_any_eq_all_not, ← List.not_any_eq_all_not] at this
  simpa using this
theorem getD_at {α : Type} {l : List α} {i : Nat} (h : i < l.length) (d : α) : l.getD i d = l[i] := by rw [List.getD_eq_getElem?_getD, List.getElem?_eq_getElem h]; rfl
end PL

set_option autoImplicit false
set_option linter.all false
/-! RFP: terms of functions, printed by rfgen.py -/
namespace PL
namespace RF
def over : Fn := ⟨["one", "other"], 2,
    [.ret (.call "ratio" [.bin .mul (.idx (.var 0) (.lit (.int 0))) (.idx (.var 1) (.lit (.int 1))), .bin .mul (.idx (.var 0) (.lit (.int 1))) (.idx (.var 1) (.lit (.int 0)))])]⟩
def sum_of : Fn := ⟨["ratios", "found", "one"], 1,
    [.asg (.nm 1) (.glob "ZERO"),
    .fr (.nm 2) .seq [.var 0]
      [.asg (.nm 1) (.call "plus" [.var 1, .var 2])],
    .ret (.var 1)]⟩
def is_piece : Fn := ⟨["value", "part"], 1,
    [.ret (.and [.isi (.var 0) .tuple, .cmp .eq (.bi .len [.var 0]) (.lit (.int 3)), .bi .all [.comp (.call "is_ratio" [.var 1]) (.nm 1) .seq [.var 0] [] [1]]])]⟩
def is_row : Fn := ⟨["value", "piece", "k"], 1,
    [.iff (.or [.no (.isi (.var 0) .tuple), .no (.chn .le .le (.lit (.int 1)) (.bi .len [.var 0]) (.glob "MAX_PIECES"))])
      [.ret (.lit (.bl false))]
      [],
    .iff (.no (.bi .all [.comp (.call "is_piece" [.var 1]) (.nm 1) .seq [.var 0] [] [1]]))
      [.ret (.lit (.bl false))]
      [],
    .iff (.cmp .ne (.idx (.idx (.var 0) (.lit (.int 0))) (.lit (.int 0))) (.glob "ZERO"))
      [.ret (.lit (.bl false))]
      [],
    .ret (.bi .all [.comp (.call "less" [.idx (.idx (.var 0) (.var 2)) (.lit (.int 0)), .idx (.idx (.var 0) (.bin .add (.var 2) (.lit (.int 1)))) (.lit (.int 0))]) (.nm 2) .ran [.bin .sub (.bi .len [.var 0]) (.lit (.int 1))] [] [2]])]⟩
def along : Fn := ⟨["piece", "x", "start", "value", "slope"], 2,
    [.asg (.tu [.nm 2, .nm 3, .nm 4]) (.var 0),
    .ret (.call "plus" [.var 3, .call "times" [.var 4, .call "minus" [.var 1, .var 2]]])]⟩
def limited : Fn := ⟨["pieces"], 1,
    [.iff (.cmp .gt (.bi .len [.var 0]) (.glob "MAX_PIECES"))
      [.bad]
      [],
    .ret (.bi .tuple [.var 0])]⟩
def normal : Fn := ⟨["row", "found", "piece"], 1,
    [.own 1 (.lst []),
    .fr (.nm 2) .seq [.var 0]
      [.iff (.or [.no (.bvar 1), .cmp .ne (.idx (.idx (.bvar 1) (.neg (.lit (.int 1)))) (.lit (.int 2))) (.idx (.var 2) (.lit (.int 2))), .cmp .ne (.call "along" [.idx (.bvar 1) (.neg (.lit (.int 1))), .idx (.var 2) (.lit (.int 0))]) (.idx (.var 2) (.lit (.int 1)))])
          [.app 1 (.var 2)]
          []],
    .frz 1,
    .ret (.call "limited" [.var 1])]⟩
def piece_at : Fn := ⟨["row", "x", "found", "piece"], 2,
    [.asg (.nm 2) (.idx (.var 0) (.lit (.int 0))),
    .fr (.nm 3) .seq [.var 0]
      [.iff (.no (.call "less" [.var 1, .idx (.var 3) (.lit (.int 0))]))
          [.asg (.nm 2) (.var 3)]
          []],
    .ret (.var 2)]⟩
def value_at : Fn := ⟨["row", "x"], 2,
    [.ret (.call "along" [.call "piece_at" [.var 0, .var 1], .var 1])]⟩
def left_value : Fn := ⟨["row", "x", "found", "piece"], 2,
    [.asg (.nm 2) (.idx (.var 0) (.lit (.int 0))),
    .fr (.nm 3) .seq [.var 0]
      [.iff (.call "less" [.idx (.var 3) (.lit (.int 0)), .var 1])
          [.asg (.nm 2) (.var 3)]
          []],
    .ret (.call "along" [.var 2, .var 1])]⟩
def is_steady : Fn := ⟨["row", "k"], 1,
    [.ret (.bi .all [.comp (.cmp .eq (.call "along" [.idx (.var 0) (.var 1), .idx (.idx (.var 0) (.bin .add (.var 1) (.lit (.int 1)))) (.lit (.int 0))]) (.idx (.idx (.var 0) (.bin .add (.var 1) (.lit (.int 1)))) (.lit (.int 1)))) (.nm 1) .ran [.bin .sub (.bi .len [.var 0]) (.lit (.int 1))] [] [1]])]⟩
def sorted_ratios : Fn := ⟨["ratios", "found", "r", "at", "other"], 1,
    [.own 1 (.lst []),
    .fr (.nm 2) .seq [.var 0]
      [.asg (.nm 3) (.bi .len [.comp (.var 4) (.nm 4) .seq [.bvar 1] [.call "less" [.var 4, .var 2]] [4]]),
        .iff (.or [.cmp .eq (.var 3) (.bi .len [.bvar 1]), .cmp .ne (.idx (.bvar 1) (.var 3)) (.var 2)])
          [.ins 1 (.var 3) (.var 2)]
          []],
    .frz 1,
    .ret (.var 1)]⟩
def all_starts : Fn := ⟨["one", "other", "piece"], 2,
    [.ret (.call "sorted_ratios" [.comp (.idx (.var 2) (.lit (.int 0))) (.nm 2) .seq [.bin .add (.var 0) (.var 1)] [] [2]])]⟩
def slope_at : Fn := ⟨["row", "x"], 2,
    [.ret (.idx (.call "piece_at" [.var 0, .var 1]) (.lit (.int 2)))]⟩
def added : Fn := ⟨["one", "other", "found", "x"], 2,
    [.own 2 (.lst []),
    .fr (.nm 3) .seq [.call "all_starts" [.var 0, .var 1]]
      [.app 2 (.tup [.var 3, .call "plus" [.call "value_at" [.var 0, .var 3], .call "value_at" [.var 1, .var 3]], .call "plus" [.call "slope_at" [.var 0, .var 3], .call "slope_at" [.var 1, .var 3]]])],
    .frz 2,
    .ret (.call "normal" [.call "limited" [.var 2]])]⟩
def scaled : Fn := ⟨["row", "r", "start", "value", "slope"], 2,
    [.ret (.call "normal" [.bi .tuple [.comp (.tup [.var 2, .call "times" [.var 3, .var 1], .call "times" [.var 4, .var 1]]) (.tu [.nm 2, .nm 3, .nm 4]) .seq [.var 0] [] [2, 3, 4]]])]⟩
def moved : Fn := ⟨["row", "a", "found", "start", "value", "slope"], 2,
    [.own 2 (.lst [.tup [.glob "ZERO", .call "value_at" [.var 0, .var 1], .call "slope_at" [.var 0, .var 1]]]),
    .fr (.tu [.nm 3, .nm 4, .nm 5]) .seq [.var 0]
      [.iff (.call "less" [.var 1, .var 3])
          [.app 2 (.tup [.call "minus" [.var 3, .var 1], .var 4, .var 5])]
          []],
    .ret (.call "normal" [.bi .tuple [.bvar 2]])]⟩
def jumps_down : Fn := ⟨["row", "k"], 2,
    [.ret (.and [.cmp .gt (.var 1) (.lit (.int 0)), .call "less" [.idx (.idx (.var 0) (.var 1)) (.lit (.int 1)), .call "left_value" [.var 0, .idx (.idx (.var 0) (.var 1)) (.lit (.int 0))]]])]⟩
def does_rise : Fn := ⟨["row", "k"], 1,
    [.asg (.nm 0) (.call "normal" [.var 0]),
    .ret (.no (.bi .any [.comp (.or [.call "less" [.idx (.idx (.var 0) (.var 1)) (.lit (.int 2)), .glob "ZERO"], .call "jumps_down" [.var 0, .var 1]]) (.nm 1) .ran [.bi .len [.var 0]] [] [1]]))]⟩
def is_supply : Fn := ⟨["value"], 1,
    [.ret (.and [.call "is_row" [.var 0], .call "is_steady" [.var 0], .call "does_rise" [.var 0], .no (.call "less" [.call "value_at" [.var 0, .glob "ZERO"], .glob "ZERO"])])]⟩
def excess : Fn := ⟨["supply", "demand"], 2,
    [.ret (.call "added" [.var 0, .call "scaled" [.var 1, .tup [.neg (.lit (.int 1)), .lit (.int 1)]]])]⟩
def meeting_prices : Fn := ⟨["supply", "demand", "row", "low", "later", "x"], 2,
    [.asg (.nm 2) (.call "excess" [.var 0, .var 1]),
    .asg (.nm 3) (.call "first_price" [.var 2]),
    .iff (.or [.cmp .iss (.var 3) (.lit .non), .cmp .ne (.call "value_at" [.var 2, .var 3]) (.glob "ZERO")])
      [.ret (.lit .non)]
      [],
    .asg (.nm 4) (.comp (.var 5) (.nm 5) .seq [.call "spots_of" [.var 2]] [.and [.call "less" [.var 3, .var 5], .call "less" [.glob "ZERO", .call "value_at" [.var 2, .var 5]]]] [5]),
    .iff (.var 4)
      [.ret (.tup [.var 3, .call "zero_before" [.var 2, .idx (.var 4) (.lit (.int 0))]])]
      [],
    .ret (.tup [.var 3, .ite (.cmp .eq (.idx (.idx (.call "normal" [.var 2]) (.neg (.lit (.int 1)))) (.lit (.int 2))) (.glob "ZERO")) (.lit .non) (.call "last_zero" [.var 2])])]⟩
def spots_of : Fn := ⟨["row", "start", "_"], 1,
    [.ret (.comp (.var 1) (.tu [.nm 1, .nm 2, .nm 2]) .seq [.call "normal" [.var 0]] [] [1, 2, 2])]⟩
def first_price : Fn := ⟨["row", "pieces", "k", "start", "value", "slope", "there"], 1,
    [.asg (.nm 1) (.call "normal" [.var 0]),
    .fr (.tu [.nm 2, .tu [.nm 3, .nm 4, .nm 5]]) .enu [.var 1]
      [.iff (.no (.call "less" [.var 4, .glob "ZERO"]))
          [.ret (.var 3)]
          [],
        .iff (.call "less" [.glob "ZERO", .var 5])
          [.asg (.nm 6) (.call "minus" [.var 3, .call "over" [.var 4, .var 5]]),
            .iff (.or [.cmp .eq (.bin .add (.var 2) (.lit (.int 1))) (.bi .len [.var 1]), .call "less" [.var 6, .idx (.idx (.var 1) (.bin .add (.var 2) (.lit (.int 1)))) (.lit (.int 0))]])
              [.ret (.var 6)]
              []]
          []],
    .ret (.lit .non)]⟩
def zero_before : Fn := ⟨["row", "x", "pieces", "piece", "start", "value", "slope"], 2,
    [.asg (.nm 2) (.comp (.var 3) (.nm 3) .seq [.call "normal" [.var 0]] [.call "less" [.idx (.var 3) (.lit (.int 0)), .var 1]] [3]),
    .asg (.tu [.nm 4, .nm 5, .nm 6]) (.idx (.var 2) (.neg (.lit (.int 1)))),
    .ret (.ite (.call "less" [.glob "ZERO", .var 6]) (.call "minus" [.var 4, .call "over" [.var 5, .var 6]]) (.var 4))]⟩
def last_zero : Fn := ⟨["row", "start", "value", "slope"], 1,
    [.asg (.tu [.nm 1, .nm 2, .nm 3]) (.idx (.call "normal" [.var 0]) (.neg (.lit (.int 1)))),
    .ret (.call "minus" [.var 1, .call "over" [.var 2, .var 3]])]⟩
def exchanged : Fn := ⟨["supply", "demand", "price", "offered", "asked"], 3,
    [.par 3 4 false false (.call "value_at" [.var 0, .var 2]) (.call "value_at" [.var 1, .var 2]),
    .ret (.ite (.call "less" [.var 3, .var 4]) (.var 3) (.var 4))]⟩
def joined_supply : Fn := ⟨["supplies", "found", "supply"], 1,
    [.asg (.nm 1) (.tup [.tup [.glob "ZERO", .glob "ZERO", .glob "ZERO"]]),
    .fr (.nm 2) .seq [.var 0]
      [.asg (.nm 1) (.call "added" [.var 1, .var 2])],
    .ret (.var 1)]⟩
def with_more : Fn := ⟨["row", "many", "start", "value", "slope"], 2,
    [.ret (.call "normal" [.bi .tuple [.comp (.tup [.var 2, .call "plus" [.var 3, .var 1], .var 4]) (.tu [.nm 2, .nm 3, .nm 4]) .seq [.var 0] [] [2, 3, 4]]])]⟩
def least_change : Fn := ⟨["supply", "demand", "price"], 3,
    [.ret (.call "minus" [.call "value_at" [.var 0, .var 2], .call "value_at" [.var 1, .var 2]])]⟩
def scaled_to_meet : Fn := ⟨["supply", "demand", "price", "asked"], 3,
    [.asg (.nm 3) (.call "value_at" [.var 1, .var 2]),
    .ret (.ite (.cmp .eq (.var 3) (.glob "ZERO")) (.lit .non) (.call "over" [.call "value_at" [.var 0, .var 2], .var 3]))]⟩
def halfway : Fn := ⟨["one", "other"], 2,
    [.ret (.call "times" [.call "plus" [.var 0, .var 1], .tup [.lit (.int 1), .lit (.int 2)]])]⟩
def area_between : Fn := ⟨["row", "low", "high", "spots", "start", "_", "parts", "one", "other", "middle"], 3,
    [.asg (.nm 3) (.bin .add (.bin .add (.lst [.var 1]) (.comp (.var 4) (.tu [.nm 4, .nm 5, .nm 5]) .seq [.call "normal" [.var 0]] [.and [.call "less" [.var 1, .var 4], .call "less" [.var 4, .var 2]]] [4, 5, 5])) (.lst [.var 2])),
    .own 6 (.lst []),
    .fr (.tu [.nm 7, .nm 8]) .zip [.var 3, .sl1 (.var 3) (.lit (.int 1))]
      [.asg (.nm 9) (.call "times" [.call "plus" [.call "value_at" [.var 0, .var 7], .call "value_at" [.var 0, .var 8]], .tup [.lit (.int 1), .lit (.int 2)]]),
        .app 6 (.call "times" [.var 9, .call "minus" [.var 8, .var 7]])],
    .frz 6,
    .ret (.call "sum_of" [.var 6])]⟩
def choking_price : Fn := ⟨["demand", "pieces"], 1,
    [.asg (.nm 1) (.call "normal" [.var 0]),
    .iff (.cmp .ne (.idx (.idx (.var 1) (.neg (.lit (.int 1)))) (.lit (.int 1))) (.glob "ZERO"))
      [.ret (.lit .non)]
      [],
    .ret (.idx (.idx (.var 1) (.neg (.lit (.int 1)))) (.lit (.int 0)))]⟩
def sellers_gain : Fn := ⟨["supply", "price"], 2,
    [.ret (.call "area_between" [.var 0, .glob "ZERO", .var 1])]⟩
def buyers_gain : Fn := ⟨["demand", "price", "end"], 2,
    [.asg (.nm 2) (.call "choking_price" [.var 0]),
    .iff (.cmp .iss (.var 2) (.lit .non))
      [.ret (.lit .non)]
      [],
    .ret (.ite (.call "less" [.var 1, .var 2]) (.call "area_between" [.var 0, .var 1, .var 2]) (.glob "ZERO"))]⟩
def both_gain : Fn := ⟨["supply", "demand", "price", "theirs"], 3,
    [.asg (.nm 3) (.call "buyers_gain" [.var 1, .var 2]),
    .ret (.ite (.cmp .iss (.var 3) (.lit .non)) (.lit .non) (.call "plus" [.call "sellers_gain" [.var 0, .var 2], .var 3]))]⟩
def with_tax : Fn := ⟨["demand", "tax"], 2,
    [.ret (.call "moved" [.var 0, .var 1])]⟩
def prices_with_tax : Fn := ⟨["supply", "demand", "tax", "meeting"], 3,
    [.asg (.nm 3) (.call "meeting_prices" [.var 0, .call "with_tax" [.var 1, .var 2]]),
    .ret (.ite (.cmp .iss (.var 3) (.lit .non)) (.lit .non) (.tup [.idx (.var 3) (.lit (.int 0)), .call "plus" [.idx (.var 3) (.lit (.int 0)), .var 2]]))]⟩
def exchanged_with_tax : Fn := ⟨["supply", "demand", "tax", "prices"], 3,
    [.asg (.nm 3) (.call "prices_with_tax" [.var 0, .var 1, .var 2]),
    .ret (.ite (.cmp .iss (.var 3) (.lit .non)) (.lit .non) (.call "value_at" [.var 0, .idx (.var 3) (.lit (.int 0))]))]⟩
def borne : Fn := ⟨["supply", "demand", "tax", "before", "after"], 3,
    [.par 3 4 false false (.call "meeting_prices" [.var 0, .var 1]) (.call "prices_with_tax" [.var 0, .var 1, .var 2]),
    .iff (.or [.cmp .iss (.var 3) (.lit .non), .cmp .iss (.var 4) (.lit .non)])
      [.ret (.lit .non)]
      [],
    .ret (.tup [.call "minus" [.idx (.var 3) (.lit (.int 0)), .idx (.var 4) (.lit (.int 0))], .call "minus" [.idx (.var 4) (.lit (.int 1)), .idx (.var 3) (.lit (.int 0))]])]⟩
def borne_2 : Fn := ⟨["layers", "x", "layer"], 2,
    [.ret (.call "sum_of" [.comp (.call "times" [.idx (.var 2) (.lit (.int 2)), .call "reached" [.var 2, .var 1]]) (.nm 2) .seq [.var 0] [] [2]])]⟩
def share_of_buyers : Fn := ⟨["supply", "demand", "tax", "parts"], 3,
    [.asg (.nm 3) (.call "borne" [.var 0, .var 1, .var 2]),
    .ret (.ite (.cmp .iss (.var 3) (.lit .non)) (.lit .non) (.call "over" [.idx (.var 3) (.lit (.int 1)), .var 2]))]⟩
def lost_by_tax : Fn := ⟨["supply", "demand", "tax", "before", "after", "free", "left"], 3,
    [.par 3 4 false false (.call "meeting_prices" [.var 0, .var 1]) (.call "prices_with_tax" [.var 0, .var 1, .var 2]),
    .iff (.or [.cmp .iss (.var 3) (.lit .non), .cmp .iss (.var 4) (.lit .non), .cmp .iss (.call "both_gain" [.var 0, .var 1, .idx (.var 3) (.lit (.int 0))]) (.lit .non)])
      [.ret (.lit .non)]
      [],
    .asg (.nm 5) (.call "both_gain" [.var 0, .var 1, .idx (.var 3) (.lit (.int 0))]),
    .asg (.nm 6) (.call "plus" [.call "gains_with" [.var 0, .var 1, .var 4], .call "times" [.var 2, .call "value_at" [.var 0, .idx (.var 4) (.lit (.int 0))]]]),
    .ret (.call "minus" [.var 5, .var 6])]⟩
def gains_with : Fn := ⟨["supply", "demand", "prices"], 3,
    [.ret (.call "plus" [.call "sellers_gain" [.var 0, .idx (.var 2) (.lit (.int 0))], .call "buyers_gain" [.var 1, .idx (.var 2) (.lit (.int 1))]])]⟩
def l_same : Fn := ⟨["a", "b", "k"], 2,
    [.iff (.or [.and [.isi (.var 0) .tuple, .isi (.var 1) .tuple], .and [.isi (.var 0) .list, .isi (.var 1) .list]])
      [.ret (.and [.cmp .eq (.bi .len [.var 0]) (.bi .len [.var 1]), .bi .all [.comp (.call "_law_same" [.idx (.var 0) (.var 2), .idx (.var 1) (.var 2)]) (.nm 2) .ran [.bi .len [.var 0]] [] [2]]])]
      [],
    .iff (.or [.isi (.var 0) .bool, .isi (.var 1) .bool])
      [.ret (.and [.isi (.var 0) .bool, .isi (.var 1) .bool, .cmp .eq (.var 0) (.var 1)])]
      [],
    .iff (.or [.and [.isi (.var 0) .int, .isi (.var 1) .int], .and [.isi (.var 0) .str, .isi (.var 1) .str]])
      [.ret (.cmp .eq (.var 0) (.var 1))]
      [],
    .ret (.and [.cmp .iss (.var 0) (.lit .non), .cmp .iss (.var 1) (.lit .non)])]⟩
def l_divisor : Fn := ⟨["a", "b"], 2,
    [.whl (.cmp .ne (.var 1) (.lit (.int 0)))
      [.par 0 1 false false (.var 1) (.bin .sub (.var 0) (.bin .mul (.bin .fdiv (.var 0) (.var 1)) (.var 1)))],
    .ret (.var 0)]⟩
def l_divisor_2 : Fn := ⟨["a", "b"], 2,
    [.par 0 1 false false (.bi .abs [.var 0]) (.bi .abs [.var 1]),
    .whl (.cmp .gt (.var 1) (.lit (.int 0)))
      [.par 0 1 false false (.var 1) (.bin .sub (.var 0) (.bin .mul (.bin .fdiv (.var 0) (.var 1)) (.var 1)))],
    .ret (.var 0)]⟩
def l_ratio_d : Fn := ⟨["p", "q", "d"], 2,
    [.asg (.nm 2) (.call "_law_divisor" [.bi .abs [.var 0], .bi .abs [.var 1]]),
    .ret (.ite (.cmp .gt (.var 1) (.lit (.int 0))) (.tup [.bin .fdiv (.var 0) (.var 2), .bin .fdiv (.var 1) (.var 2)]) (.tup [.bin .fdiv (.neg (.var 0)) (.var 2), .bin .fdiv (.neg (.var 1)) (.var 2)]))]⟩
def l_ratio_2 : Fn := ⟨["p", "q", "d"], 2,
    [.iff (.cmp .lt (.var 1) (.lit (.int 0)))
      [.par 0 1 false false (.neg (.var 0)) (.neg (.var 1))]
      [],
    .asg (.nm 2) (.call "_law_divisor" [.var 0, .var 1]),
    .ret (.tup [.bin .fdiv (.var 0) (.var 2), .bin .fdiv (.var 1) (.var 2)])]⟩
def l_plus_d : Fn := ⟨["one", "other"], 2,
    [.ret (.call "_law_ratio" [.bin .add (.bin .mul (.idx (.var 0) (.lit (.int 0))) (.idx (.var 1) (.lit (.int 1)))) (.bin .mul (.idx (.var 1) (.lit (.int 0))) (.idx (.var 0) (.lit (.int 1)))), .bin .mul (.idx (.var 0) (.lit (.int 1))) (.idx (.var 1) (.lit (.int 1)))])]⟩
def l_minus_d : Fn := ⟨["one", "other"], 2,
    [.ret (.call "_law_ratio" [.bin .sub (.bin .mul (.idx (.var 0) (.lit (.int 0))) (.idx (.var 1) (.lit (.int 1)))) (.bin .mul (.idx (.var 1) (.lit (.int 0))) (.idx (.var 0) (.lit (.int 1)))), .bin .mul (.idx (.var 0) (.lit (.int 1))) (.idx (.var 1) (.lit (.int 1)))])]⟩
def l_times_d : Fn := ⟨["one", "other"], 2,
    [.ret (.call "_law_ratio" [.bin .mul (.idx (.var 0) (.lit (.int 0))) (.idx (.var 1) (.lit (.int 0))), .bin .mul (.idx (.var 0) (.lit (.int 1))) (.idx (.var 1) (.lit (.int 1)))])]⟩
def l_less_d : Fn := ⟨["one", "other"], 2,
    [.ret (.cmp .lt (.bin .mul (.idx (.var 0) (.lit (.int 0))) (.idx (.var 1) (.lit (.int 1)))) (.bin .mul (.idx (.var 1) (.lit (.int 0))) (.idx (.var 0) (.lit (.int 1)))))]⟩
def l_some : Fn := ⟨["box", "low", "high"], 3,
    [.ret (.call "_law_ratio" [.bin .add (.var 1) (.call "_law_draw" [.var 0, .bin .add (.bin .sub (.var 2) (.var 1)) (.lit (.int 1))]), .ite (.cmp .gt (.call "_law_draw" [.var 0, .lit (.int 3)]) (.lit (.int 0))) (.lit (.int 1)) (.bin .add (.lit (.int 1)) (.call "_law_draw" [.var 0, .lit (.int 4)]))])]⟩
def l_total : Fn := ⟨["rows", "found", "one"], 1,
    [.asg (.nm 1) (.tup [.lit (.int 0), .lit (.int 1)]),
    .fr (.nm 2) .seq [.var 0]
      [.asg (.nm 1) (.call "_law_plus" [.var 1, .var 2])],
    .ret (.var 1)]⟩
def l_at : Fn := ⟨["row", "x", "piece"], 2,
    [.asg (.nm 2) (.idx (.comp (.var 2) (.nm 2) .seq [.var 0] [.no (.call "_law_less" [.var 1, .idx (.var 2) (.lit (.int 0))])] [2]) (.neg (.lit (.int 1)))),
    .ret (.call "_law_plus" [.idx (.var 2) (.lit (.int 1)), .call "_law_times" [.idx (.var 2) (.lit (.int 2)), .call "_law_minus" [.var 1, .idx (.var 2) (.lit (.int 0))]]])]⟩
def l_at_2 : Fn := ⟨["row", "x", "start", "value", "slope"], 2,
    [.asg (.tu [.nm 2, .nm 3, .nm 4]) (.call "_law_piece" [.var 0, .var 1]),
    .ret (.call "_law_add" [.var 3, .call "_law_mul" [.var 4, .call "_law_off" [.var 1, .var 2]]])]⟩
def l_supply : Fn := ⟨["box", "found", "start", "value", "k", "slope", "step"], 1,
    [.par3 1 2 3 true false false (.lst []) (.tup [.lit (.int 0), .lit (.int 1)]) (.call "_law_ratio" [.idx (.lst [.lit (.int 0), .lit (.int 0), .lit (.int 2)]) (.call "_law_draw" [.var 0, .lit (.int 3)]), .lit (.int 1)]),
    .fr (.nm 4) .ran [.bin .add (.lit (.int 1)) (.call "_law_draw" [.var 0, .lit (.int 4)])]
      [.asg (.nm 5) (.call "_law_ratio" [.call "_law_draw" [.var 0, .lit (.int 7)], .lit (.int 2)]),
        .iff (.or [.cmp .eq (.bvar 1) (.lst []), .cmp .ne (.idx (.idx (.bvar 1) (.neg (.lit (.int 1)))) (.lit (.int 2))) (.var 5)])
          [.app 1 (.tup [.var 2, .var 3, .var 5]),
            .asg (.nm 6) (.call "_law_some" [.var 0, .lit (.int 1), .lit (.int 6)]),
            .par 2 3 false false (.call "_law_plus" [.var 2, .var 6]) (.call "_law_plus" [.var 3, .call "_law_times" [.var 5, .var 6]])]
          []],
    .ret (.bi .tuple [.bvar 1])]⟩
def same : Fn := ⟨["one", "other"], 2,
    [.ret (.cmp .eq (.call "normal" [.var 0]) (.call "normal" [.var 1]))]⟩
def is_demand : Fn := ⟨["value", "last"], 1,
    [.iff (.or [.no (.call "is_row" [.var 0]), .no (.call "is_steady" [.var 0]), .no (.call "does_rise" [.call "scaled" [.var 0, .tup [.neg (.lit (.int 1)), .lit (.int 1)]]])])
      [.ret (.lit (.bl false))]
      [],
    .asg (.nm 1) (.idx (.call "normal" [.var 0]) (.neg (.lit (.int 1)))),
    .ret (.and [.cmp .eq (.idx (.var 1) (.lit (.int 2))) (.glob "ZERO"), .no (.call "less" [.idx (.var 1) (.lit (.int 1)), .glob "ZERO"])])]⟩
def priced : Fn := ⟨["row", "p", "start", "value", "slope"], 2,
    [.ret (.call "normal" [.bi .tuple [.comp (.tup [.call "times" [.var 2, .var 1], .call "times" [.var 3, .var 1], .var 4]) (.tu [.nm 2, .nm 3, .nm 4]) .seq [.var 0] [] [2, 3, 4]]])]⟩
def l_demand : Fn := ⟨["box", "ends_there", "found", "start", "value", "left", "slope", "step", "fall"], 2,
    [.par3 2 3 4 true false false (.lst []) (.tup [.lit (.int 0), .lit (.int 1)]) (.call "_law_ratio" [.bin .add (.lit (.int 4)) (.call "_law_draw" [.var 0, .lit (.int 20)]), .lit (.int 1)]),
    .asg (.nm 5) (.call "_law_ratio" [.ite (.var 1) (.lit (.int 0)) (.call "_law_draw" [.var 0, .lit (.int 4)]), .lit (.int 1)]),
    .whl (.call "_law_less" [.var 5, .var 4])
      [.asg (.nm 6) (.call "_law_ratio" [.ite (.or [.cmp .eq (.bvar 2) (.lst []), .cmp .ne (.idx (.idx (.idx (.bvar 2) (.neg (.lit (.int 1)))) (.lit (.int 2))) (.lit (.int 0))) (.lit (.int 0))]) (.neg (.call "_law_draw" [.var 0, .lit (.int 7)])) (.bin .sub (.neg (.lit (.int 1))) (.call "_law_draw" [.var 0, .lit (.int 6)])), .lit (.int 2)]),
        .asg (.nm 7) (.call "_law_some" [.var 0, .lit (.int 1), .lit (.int 6)]),
        .asg (.nm 8) (.call "_law_times" [.var 6, .var 7]),
        .iff (.and [.cmp .ne (.idx (.var 6) (.lit (.int 0))) (.lit (.int 0)), .no (.call "_law_less" [.var 5, .call "_law_plus" [.var 4, .var 8]])])
          [.asg (.nm 7) (.call "_law_times" [.call "_law_minus" [.var 5, .var 4], .tup [.neg (.idx (.var 6) (.lit (.int 1))), .neg (.idx (.var 6) (.lit (.int 0)))]]),
            .asg (.nm 8) (.call "_law_minus" [.var 5, .var 4])]
          [],
        .iff (.or [.cmp .eq (.bvar 2) (.lst []), .cmp .ne (.idx (.idx (.bvar 2) (.neg (.lit (.int 1)))) (.lit (.int 2))) (.var 6)])
          [.app 2 (.tup [.var 3, .var 4, .var 6])]
          [],
        .par 3 4 false false (.call "_law_plus" [.var 3, .var 7]) (.call "_law_plus" [.var 4, .var 8])],
    .ret (.bi .tuple [.bin .add (.bvar 2) (.lst [.tup [.var 3, .var 5, .tup [.lit (.int 0), .lit (.int 1)]]])])]⟩
def l_stretched : Fn := ⟨["row", "p", "start", "value", "slope"], 2,
    [.ret (.bi .tuple [.comp (.tup [.call "_law_times" [.var 2, .var 1], .var 3, .call "_law_times" [.var 4, .tup [.idx (.var 1) (.lit (.int 1)), .idx (.var 1) (.lit (.int 0))]]]) (.tu [.nm 2, .nm 3, .nm 4]) .seq [.var 0] [] [2, 3, 4]])]⟩
def price_of_last : Fn := ⟨["supply", "many", "k", "start", "value", "slope", "there", "later"], 2,
    [.fr (.tu [.nm 2, .tu [.nm 3, .nm 4, .nm 5]]) .enu [.call "normal" [.var 0]]
      [.iff (.no (.call "less" [.var 4, .var 1]))
          [.ret (.var 3)]
          [],
        .iff (.call "less" [.glob "ZERO", .var 5])
          [.asg (.nm 6) (.call "plus" [.var 3, .call "times" [.call "minus" [.var 1, .var 4], .tup [.idx (.var 5) (.lit (.int 1)), .idx (.var 5) (.lit (.int 0))]]]),
            .asg (.nm 7) (.sl1 (.call "normal" [.var 0]) (.bin .add (.var 2) (.lit (.int 1)))),
            .iff (.or [.no (.var 7), .no (.call "less" [.idx (.idx (.var 7) (.lit (.int 0))) (.lit (.int 0)), .var 6])])
              [.ret (.var 6)]
              []]
          []],
    .ret (.lit .non)]⟩
def worth_of_last : Fn := ⟨["demand", "many", "pieces", "found", "k", "start", "value", "slope", "there", "later"], 2,
    [.asg (.nm 2) (.call "normal" [.var 0]),
    .iff (.or [.no (.call "less" [.idx (.idx (.var 2) (.neg (.lit (.int 1)))) (.lit (.int 1)), .var 1]), .call "less" [.call "value_at" [.var 0, .glob "ZERO"], .var 1]])
      [.ret (.lit .non)]
      [],
    .asg (.nm 3) (.lit .non),
    .fr (.tu [.nm 4, .tu [.nm 5, .nm 6, .nm 7]]) .enu [.var 2]
      [.iff (.no (.call "less" [.var 6, .var 1]))
          [.asg (.nm 3) (.var 5),
            .iff (.call "less" [.var 7, .glob "ZERO"])
              [.asg (.nm 8) (.call "plus" [.var 5, .call "times" [.call "minus" [.var 1, .var 6], .tup [.neg (.idx (.var 7) (.lit (.int 1))), .neg (.idx (.var 7) (.lit (.int 0)))]]]),
                .asg (.nm 9) (.sl1 (.var 2) (.bin .add (.var 4) (.lit (.int 1)))),
                .asg (.nm 3) (.ite (.or [.no (.var 9), .call "less" [.var 8, .idx (.idx (.var 9) (.lit (.int 0))) (.lit (.int 0))]]) (.var 8) (.idx (.idx (.var 9) (.lit (.int 0))) (.lit (.int 0))))]
              [.iff (.cmp .lt (.bin .add (.var 4) (.lit (.int 1))) (.bi .len [.var 2]))
                  [.asg (.nm 3) (.idx (.idx (.var 2) (.bin .add (.var 4) (.lit (.int 1)))) (.lit (.int 0)))]
                  []]]
          []],
    .ret (.var 3)]⟩
def gain_left : Fn := ⟨["supply", "demand", "many", "worth", "cost"], 3,
    [.par 3 4 false false (.call "worth_of_last" [.var 1, .var 2]) (.call "price_of_last" [.var 0, .var 2]),
    .ret (.ite (.or [.cmp .iss (.var 3) (.lit .non), .cmp .iss (.var 4) (.lit .non)]) (.lit .non) (.call "minus" [.var 3, .var 4]))]⟩
def lost_by_price : Fn := ⟨["supply", "demand", "price", "meeting", "best", "many"], 3,
    [.asg (.nm 3) (.call "meeting_prices" [.var 0, .var 1]),
    .iff (.or [.cmp .iss (.var 3) (.lit .non), .cmp .iss (.call "choking_price" [.var 1]) (.lit .non)])
      [.ret (.lit .non)]
      [],
    .asg (.nm 4) (.call "both_gain" [.var 0, .var 1, .idx (.var 3) (.lit (.int 0))]),
    .asg (.nm 5) (.call "exchanged" [.var 0, .var 1, .var 2]),
    .ret (.call "minus" [.var 4, .call "gain_of" [.var 0, .var 1, .var 5]])]⟩
def gain_of : Fn := ⟨["supply", "demand", "many"], 3,
    [.ret (.call "minus" [.call "area_of_worth" [.var 1, .var 2], .call "area_of_cost" [.var 0, .var 2]])]⟩
def area_of_cost : Fn := ⟨["supply", "many", "price", "free"], 2,
    [.asg (.nm 2) (.call "price_of_last" [.var 0, .var 1]),
    .asg (.nm 3) (.call "value_at" [.var 0, .glob "ZERO"]),
    .iff (.no (.call "less" [.var 3, .var 1]))
      [.ret (.glob "ZERO")]
      [],
    .ret (.call "minus" [.call "times" [.var 1, .var 2], .call "area_between" [.var 0, .glob "ZERO", .var 2]])]⟩
def area_of_worth : Fn := ⟨["demand", "many", "end", "price"], 2,
    [.asg (.nm 2) (.call "choking_price" [.var 0]),
    .iff (.cmp .eq (.var 1) (.glob "ZERO"))
      [.ret (.glob "ZERO")]
      [],
    .asg (.nm 3) (.call "worth_of_last" [.var 0, .var 1]),
    .ret (.call "plus" [.call "times" [.var 1, .var 3], .call "area_between" [.var 0, .var 3, .var 2]])]⟩
def l_area : Fn := ⟨["row", "low", "high", "spots", "piece", "total", "one", "other", "middle_here"], 3,
    [.own 3 (.lst [.var 1]),
    .fr (.nm 4) .seq [.var 0]
      [.iff (.and [.call "_law_less" [.var 1, .idx (.var 4) (.lit (.int 0))], .call "_law_less" [.idx (.var 4) (.lit (.int 0)), .var 2]])
          [.app 3 (.idx (.var 4) (.lit (.int 0)))]
          []],
    .app 3 (.var 2),
    .asg (.nm 5) (.tup [.lit (.int 0), .lit (.int 1)]),
    .frz 3,
    .fr (.tu [.nm 6, .nm 7]) .zip [.var 3, .sl1 (.bvar 3) (.lit (.int 1))]
      [.asg (.nm 8) (.call "_law_at" [.var 0, .call "_law_times" [.call "_law_plus" [.var 6, .var 7], .tup [.lit (.int 1), .lit (.int 2)]]]),
        .asg (.nm 5) (.call "_law_plus" [.var 5, .call "_law_times" [.var 8, .call "_law_minus" [.var 7, .var 6]]])],
    .ret (.var 5)]⟩
def l_fine : Fn := ⟨["box", "supply", "demand", "end", "turn", "x", "y", "low", "high", "row", "paid", "many", "cost", "worth", "meeting", "best", "whole", "k", "gain", "price", "lost_there"], 3,
    [.asg (.nm 3) (.idx (.idx (.var 2) (.neg (.lit (.int 1)))) (.lit (.int 0))),
    .iff (.no (.call "_law_same" [.call "choking_price" [.var 2], .var 3]))
      [.ret (.lit (.bl false))]
      [],
    .fr (.nm 4) .ran [.lit (.int 4)]
      [.par 5 6 false false (.call "_law_some" [.var 0, .lit (.int 0), .lit (.int 20)]) (.call "_law_some" [.var 0, .lit (.int 0), .lit (.int 20)]),
        .asg (.tu [.nm 7, .nm 8]) (.ite (.call "_law_less" [.var 5, .var 6]) (.tup [.var 5, .var 6]) (.tup [.var 6, .var 5])),
        .fr (.nm 9) .seq [.tup [.var 1, .var 2]]
          [.iff (.no (.call "_law_same" [.call "area_between" [.var 9, .var 7, .var 8], .call "_law_area" [.var 9, .var 7, .var 8]]))
              [.ret (.lit (.bl false))]
              []],
        .asg (.nm 10) (.ite (.call "_law_less" [.var 5, .var 3]) (.call "_law_area" [.var 2, .var 5, .var 3]) (.tup [.lit (.int 0), .lit (.int 1)])),
        .iff (.no (.call "_law_same" [.tup [.call "sellers_gain" [.var 1, .var 5], .call "buyers_gain" [.var 2, .var 5], .call "both_gain" [.var 1, .var 2, .var 5]], .tup [.call "_law_area" [.var 1, .tup [.lit (.int 0), .lit (.int 1)], .var 5], .var 10, .call "_law_plus" [.call "_law_area" [.var 1, .tup [.lit (.int 0), .lit (.int 1)], .var 5], .var 10]]]))
          [.ret (.lit (.bl false))]
          [],
        .asg (.nm 11) (.call "_law_some" [.var 0, .lit (.int 0), .lit (.int 24)]),
        .par 12 13 false false (.call "price_of_last" [.var 1, .var 11]) (.call "worth_of_last" [.var 2, .var 11]),
        .iff (.and [.cmp .isnot (.var 12) (.lit .non), .or [.call "_law_less" [.call "_law_at" [.var 1, .var 12], .var 11], .and [.cmp .gt (.idx (.var 12) (.lit (.int 0))) (.lit (.int 0)), .no (.call "_law_less" [.call "_law_at" [.var 1, .call "_law_times" [.var 12, .tup [.lit (.int 999), .lit (.int 1000)]]], .var 11])]]])
          [.ret (.lit (.bl false))]
          [],
        .iff (.and [.cmp .iss (.var 12) (.lit .non), .or [.cmp .gt (.idx (.idx (.idx (.var 1) (.neg (.lit (.int 1)))) (.lit (.int 2))) (.lit (.int 0))) (.lit (.int 0)), .no (.call "_law_less" [.idx (.idx (.var 1) (.neg (.lit (.int 1)))) (.lit (.int 1)), .var 11])]])
          [.ret (.lit (.bl false))]
          [],
        .iff (.and [.cmp .isnot (.var 13) (.lit .non), .or [.call "_law_less" [.call "_law_at" [.var 2, .var 13], .var 11], .no (.call "_law_less" [.call "_law_at" [.var 2, .call "_law_plus" [.var 13, .tup [.lit (.int 1), .lit (.int 1000)]]], .var 11])]])
          [.ret (.lit (.bl false))]
          [],
        .iff (.cmp .ne (.cmp .iss (.var 13) (.lit .non)) (.or [.cmp .le (.idx (.var 11) (.lit (.int 0))) (.lit (.int 0)), .call "_law_less" [.call "_law_at" [.var 2, .tup [.lit (.int 0), .lit (.int 1)]], .var 11]]))
          [.ret (.lit (.bl false))]
          [],
        .iff (.no (.call "_law_same" [.call "gain_left" [.var 1, .var 2, .var 11], .ite (.or [.cmp .iss (.var 13) (.lit .non), .cmp .iss (.var 12) (.lit .non)]) (.lit .non) (.call "_law_minus" [.var 13, .var 12])]))
          [.ret (.lit (.bl false))]
          []],
    .asg (.nm 14) (.call "meeting_prices" [.var 1, .var 2]),
    .iff (.cmp .iss (.var 14) (.lit .non))
      [.ret (.cmp .iss (.call "lost_by_price" [.var 1, .var 2, .tup [.lit (.int 1), .lit (.int 1)]]) (.lit .non))]
      [],
    .asg (.nm 15) (.call "both_gain" [.var 1, .var 2, .idx (.var 14) (.lit (.int 0))]),
    .asg (.nm 16) (.call "_law_at" [.var 1, .idx (.var 14) (.lit (.int 0))]),
    .iff (.cmp .ne (.call "gain_of" [.var 1, .var 2, .var 16]) (.var 15))
      [.ret (.lit (.bl false))]
      [],
    .fr (.nm 17) .ran [.lit (.int 9)]
      [.asg (.nm 11) (.call "_law_times" [.var 16, .call "_law_ratio" [.var 17, .lit (.int 8)]]),
        .asg (.nm 18) (.call "gain_of" [.var 1, .var 2, .var 11]),
        .iff (.or [.no (.call "_law_same" [.var 18, .call "_law_minus" [.call "area_of_worth" [.var 2, .var 11], .call "area_of_cost" [.var 1, .var 11]]]), .call "_law_less" [.var 15, .var 18]])
          [.ret (.lit (.bl false))]
          [],
        .iff (.cmp .gt (.idx (.var 11) (.lit (.int 0))) (.lit (.int 0)))
          [.asg (.nm 19) (.call "worth_of_last" [.var 2, .var 11]),
            .iff (.cmp .ne (.call "area_of_worth" [.var 2, .var 11]) (.call "_law_plus" [.call "_law_times" [.var 11, .var 19], .ite (.call "_law_less" [.var 19, .var 3]) (.call "_law_area" [.var 2, .var 19, .var 3]) (.tup [.lit (.int 0), .lit (.int 1)])]))
              [.ret (.lit (.bl false))]
              [],
            .iff (.call "_law_less" [.call "_law_at" [.var 1, .tup [.lit (.int 0), .lit (.int 1)]], .var 11])
              [.asg (.nm 19) (.call "price_of_last" [.var 1, .var 11]),
                .iff (.cmp .ne (.call "area_of_cost" [.var 1, .var 11]) (.call "_law_minus" [.call "_law_times" [.var 11, .var 19], .call "_law_area" [.var 1, .tup [.lit (.int 0), .lit (.int 1)], .var 19]]))
                  [.ret (.lit (.bl false))]
                  []]
              []]
          [],
        .asg (.nm 19) (.call "_law_times" [.call "_law_plus" [.var 3, .tup [.lit (.int 1), .lit (.int 1)]], .call "_law_ratio" [.var 17, .lit (.int 8)]]),
        .asg (.nm 20) (.call "lost_by_price" [.var 1, .var 2, .var 19]),
        .iff (.or [.cmp .ne (.var 20) (.call "_law_minus" [.var 15, .call "gain_of" [.var 1, .var 2, .call "exchanged" [.var 1, .var 2, .var 19]]]), .cmp .lt (.idx (.var 20) (.lit (.int 0))) (.lit (.int 0))])
          [.ret (.lit (.bl false))]
          []],
    .ret (.lit (.bl true))]⟩
def l_fine_2 : Fn := ⟨["box", "supply", "demand", "ends_there", "before", "earlier", "lost_before", "k", "tax", "low", "told_prices", "x", "many", "parts", "lost_there", "whole", "value", "j", "due", "price"], 4,
    [.asg (.nm 4) (.call "meeting_prices" [.var 1, .var 2]),
    .par 5 6 false false (.lit .non) (.tup [.lit (.int 0), .lit (.int 1)]),
    .fr (.nm 7) .ran [.lit (.int 5)]
      [.asg (.nm 8) (.call "_law_ratio" [.bin .mul (.lit (.int 3)) (.var 7), .lit (.int 2)]),
        .asg (.nm 9) (.call "_law_least" [.var 1, .var 2, .var 8]),
        .asg (.nm 10) (.call "prices_with_tax" [.var 1, .var 2, .var 8]),
        .iff (.no (.call "_law_same" [.var 10, .ite (.cmp .iss (.var 9) (.lit .non)) (.lit .non) (.tup [.var 9, .call "_law_plus" [.var 9, .var 8]])]))
          [.ret (.lit (.bl false))]
          [],
        .asg (.nm 11) (.call "_law_some" [.var 0, .lit (.int 0), .lit (.int 12)]),
        .iff (.cmp .ne (.call "_law_at" [.call "with_tax" [.var 2, .var 8], .var 11]) (.call "_law_at" [.var 2, .call "_law_plus" [.var 11, .var 8]]))
          [.ret (.lit (.bl false))]
          [],
        .iff (.cmp .iss (.var 9) (.lit .non))
          [.iff (.no (.call "_law_same" [.tup [.call "exchanged_with_tax" [.var 1, .var 2, .var 8], .call "yield_of" [.var 1, .var 2, .var 8], .call "borne" [.var 1, .var 2, .var 8], .call "lost_by_tax" [.var 1, .var 2, .var 8]], .tup [.lit .non, .lit .non, .lit .non, .lit .non]]))
              [.ret (.lit (.bl false))]
              [],
            .cnt]
          [],
        .asg (.nm 12) (.call "_law_at" [.var 1, .var 9]),
        .asg (.nm 13) (.tup [.call "_law_minus" [.idx (.var 4) (.lit (.int 0)), .var 9], .call "_law_minus" [.call "_law_plus" [.var 9, .var 8], .idx (.var 4) (.lit (.int 0))]]),
        .iff (.no (.call "_law_same" [.tup [.call "exchanged_with_tax" [.var 1, .var 2, .var 8], .call "yield_of" [.var 1, .var 2, .var 8], .call "borne" [.var 1, .var 2, .var 8]], .tup [.var 12, .call "_law_times" [.var 8, .var 12], .var 13]]))
          [.ret (.lit (.bl false))]
          [],
        .iff (.or [.cmp .lt (.idx (.idx (.var 13) (.lit (.int 0))) (.lit (.int 0))) (.lit (.int 0)), .cmp .lt (.idx (.idx (.var 13) (.lit (.int 1))) (.lit (.int 0))) (.lit (.int 0)), .cmp .ne (.call "_law_plus" [.idx (.var 13) (.lit (.int 0)), .idx (.var 13) (.lit (.int 1))]) (.var 8), .and [.cmp .isnot (.var 5) (.lit .non), .or [.call "_law_less" [.idx (.var 13) (.lit (.int 0)), .idx (.var 5) (.lit (.int 0))], .call "_law_less" [.idx (.var 13) (.lit (.int 1)), .idx (.var 5) (.lit (.int 1))]]]])
          [.ret (.lit (.bl false))]
          [],
        .asg (.nm 5) (.var 13),
        .iff (.and [.cmp .gt (.var 7) (.lit (.int 0)), .no (.call "_law_same" [.call "share_of_buyers" [.var 1, .var 2, .var 8], .call "_law_times" [.idx (.var 13) (.lit (.int 1)), .tup [.idx (.var 8) (.lit (.int 1)), .idx (.var 8) (.lit (.int 0))]]])])
          [.ret (.lit (.bl false))]
          [],
        .asg (.nm 14) (.call "lost_by_tax" [.var 1, .var 2, .var 8]),
        .iff (.cmp .ne (.cmp .iss (.var 14) (.lit .non)) (.no (.var 3)))
          [.ret (.lit (.bl false))]
          [],
        .iff (.cmp .isnot (.var 14) (.lit .non))
          [.iff (.or [.cmp .lt (.idx (.var 14) (.lit (.int 0))) (.lit (.int 0)), .call "_law_less" [.var 14, .var 6], .and [.cmp .eq (.var 7) (.lit (.int 0)), .cmp .ne (.var 14) (.tup [.lit (.int 0), .lit (.int 1)])]])
              [.ret (.lit (.bl false))]
              [],
            .asg (.nm 6) (.var 14),
            .asg (.nm 15) (.call "gains_with" [.var 1, .var 2, .tup [.idx (.var 4) (.lit (.int 0)), .idx (.var 4) (.lit (.int 0))]]),
            .iff (.cmp .ne (.call "_law_minus" [.var 15, .var 14]) (.call "_law_plus" [.call "gains_with" [.var 1, .var 2, .var 10], .call "_law_times" [.var 8, .var 12]]))
              [.ret (.lit (.bl false))]
              []]
          [],
        .fr (.nm 16) .seq [.bin .add (.lst [.var 10, .rev (.var 10), .tup [.var 9, .var 9], .tup [.tup [.neg (.lit (.int 1)), .lit (.int 1)], .tup [.lit (.int 1), .lit (.int 1)]], .tup [.var 9], .lit .non, .tup [], .lit (.int 0)]) (.comp (.call "_law_bent" [.var 0, .var 10]) (.nm 17) .ran [.lit (.int 5)] [] [17])]
          [.asg (.nm 18) (.and [.isi (.var 16) .tuple, .cmp .eq (.bi .len [.var 16]) (.lit (.int 2)), .bi .all [.comp (.call "_law_is_ratio" [.var 19]) (.nm 19) .seq [.var 16] [] [19]]]),
            .asg (.nm 18) (.and [.var 18, .cmp .ge (.idx (.idx (.var 16) (.lit (.int 0))) (.lit (.int 0))) (.lit (.int 0)), .no (.call "_law_less" [.idx (.var 16) (.lit (.int 1)), .idx (.var 16) (.lit (.int 0))]), .cmp .eq (.call "_law_at" [.var 1, .idx (.var 16) (.lit (.int 0))]) (.call "_law_at" [.var 2, .idx (.var 16) (.lit (.int 1))])]),
            .iff (.no (.call "_law_same" [.call "is_wedge" [.var 1, .var 2, .var 16], .var 18]))
              [.ret (.lit (.bl false))]
              []]],
    .asg (.nm 19) (.call "_law_some" [.var 0, .lit (.int 0), .lit (.int 14)]),
    .asg (.nm 12) (.call "exchanged" [.var 1, .var 2, .var 19]),
    .ret (.call "_law_same" [.call "told_price" [.var 1, .var 2, .var 19], .tup [.var 12, .call "_law_minus" [.call "_law_at" [.var 2, .var 19], .var 12], .call "_law_minus" [.call "_law_at" [.var 1, .var 19], .var 12]]])]⟩
def l_fine_3 : Fn := ⟨["box", "supply", "demand", "meeting", "at_nought", "last", "piece", "end", "x", "gap_there", "none", "due", "spots", "k", "low", "high", "alike", "inside", "many", "told_most", "value"], 3,
    [.asg (.nm 3) (.call "meeting_prices" [.var 1, .var 2]),
    .asg (.nm 4) (.call "_law_minus" [.call "_law_at" [.var 2, .tup [.lit (.int 0), .lit (.int 1)]], .call "_law_at" [.var 1, .tup [.lit (.int 0), .lit (.int 1)]]]),
    .asg (.nm 5) (.comp (.idx (.var 6) (.lit (.int 0))) (.nm 6) .seq [.bin .add (.var 1) (.var 2)] [] [6]),
    .asg (.nm 7) (.idx (.var 5) (.lit (.int 0))),
    .fr (.nm 8) .seq [.var 5]
      [.asg (.nm 7) (.ite (.call "_law_less" [.var 7, .var 8]) (.var 8) (.var 7))],
    .asg (.nm 9) (.call "_law_minus" [.call "_law_at" [.var 1, .var 7], .call "_law_at" [.var 2, .var 7]]),
    .asg (.nm 10) (.or [.cmp .lt (.idx (.var 4) (.lit (.int 0))) (.lit (.int 0)), .and [.cmp .lt (.idx (.var 9) (.lit (.int 0))) (.lit (.int 0)), .cmp .eq (.idx (.idx (.idx (.var 1) (.neg (.lit (.int 1)))) (.lit (.int 2))) (.lit (.int 0))) (.lit (.int 0))]]),
    .asg (.nm 11) (.ite (.no (.var 10)) (.lit .non) (.ite (.cmp .lt (.idx (.var 4) (.lit (.int 0))) (.lit (.int 0))) (.lit (.str "offered")) (.lit (.str "asked")))),
    .iff (.or [.cmp .ne (.cmp .iss (.var 3) (.lit .non)) (.var 10), .no (.call "_law_same" [.call "why_no_meeting" [.var 1, .var 2], .var 11])])
      [.ret (.lit (.bl false))]
      [],
    .asg (.nm 12) (.bin .add (.bin .add (.comp (.call "_law_times" [.var 7, .call "_law_ratio" [.var 13, .lit (.int 12)]]) (.nm 13) .ran [.lit (.int 14)] [] [13]) (.var 5)) (.lst [.call "_law_plus" [.var 7, .tup [.lit (.int 1000), .lit (.int 1)]]])),
    .iff (.cmp .isnot (.var 3) (.lit .non))
      [.asg (.tu [.nm 14, .nm 15]) (.var 3),
        .asg (.nm 12) (.bin .add (.var 12) (.lst [.var 14, .call "_law_minus" [.var 14, .tup [.lit (.int 1), .lit (.int 1000)]], .call "_law_plus" [.var 14, .tup [.lit (.int 1), .lit (.int 1000)]]])),
        .iff (.cmp .isnot (.var 15) (.lit .non))
          [.asg (.nm 12) (.bin .add (.var 12) (.lst [.var 15, .call "_law_minus" [.var 15, .tup [.lit (.int 1), .lit (.int 1000)]], .call "_law_plus" [.var 15, .tup [.lit (.int 1), .lit (.int 1000)]]]))]
          []]
      [],
    .fr (.nm 8) .seq [.var 12]
      [.iff (.cmp .ge (.idx (.var 8) (.lit (.int 0))) (.lit (.int 0)))
          [.asg (.nm 16) (.cmp .eq (.call "_law_at" [.var 1, .var 8]) (.call "_law_at" [.var 2, .var 8])),
            .asg (.nm 17) (.and [.cmp .isnot (.var 3) (.lit .non), .no (.call "_law_less" [.var 8, .idx (.var 3) (.lit (.int 0))]), .or [.cmp .iss (.idx (.var 3) (.lit (.int 1))) (.lit .non), .no (.call "_law_less" [.idx (.var 3) (.lit (.int 1)), .var 8])]]),
            .iff (.or [.cmp .ne (.var 16) (.var 17), .no (.call "_law_same" [.call "is_meeting" [.var 1, .var 2, .var 8], .var 16])])
              [.ret (.lit (.bl false))]
              [],
            .asg (.nm 18) (.ite (.call "_law_less" [.call "_law_at" [.var 1, .var 8], .call "_law_at" [.var 2, .var 8]]) (.call "_law_at" [.var 1, .var 8]) (.call "_law_at" [.var 2, .var 8])),
            .iff (.no (.call "_law_same" [.tup [.call "exchanged" [.var 1, .var 2, .var 8], .call "value_at" [.call "excess" [.var 1, .var 2], .var 8]], .tup [.var 18, .call "_law_minus" [.call "_law_at" [.var 1, .var 8], .call "_law_at" [.var 2, .var 8]]]]))
              [.ret (.lit (.bl false))]
              [],
            .iff (.and [.cmp .ne (.var 11) (.lit (.str "asked")), .call "_law_less" [.idx (.call "most_exchanged" [.var 1, .var 2]) (.lit (.int 0)), .var 18]])
              [.ret (.lit (.bl false))]
              []]
          []],
    .asg (.nm 19) (.call "most_exchanged" [.var 1, .var 2]),
    .iff (.cmp .ne (.cmp .iss (.var 19) (.lit .non)) (.cmp .eq (.var 11) (.lit (.str "asked"))))
      [.ret (.lit (.bl false))]
      [],
    .iff (.and [.cmp .isnot (.var 3) (.lit .non), .or [.cmp .ne (.idx (.var 19) (.lit (.int 0))) (.call "_law_at" [.var 1, .idx (.var 3) (.lit (.int 0))]), .call "_law_less" [.idx (.var 3) (.lit (.int 0)), .idx (.var 19) (.lit (.int 1))], .cmp .ne (.call "exchanged" [.var 1, .var 2, .idx (.var 19) (.lit (.int 1))]) (.idx (.var 19) (.lit (.int 0)))]])
      [.ret (.lit (.bl false))]
      [],
    .fr (.nm 20) .seq [.tup [.lit .non, .tup [], .lit (.int 0), .tup [.neg (.lit (.int 1)), .lit (.int 1)], .tup [.lit (.int 2), .lit (.int 4)], .lit (.str "p"), .lit (.bl true)]]
      [.iff (.cmp .isnot (.call "is_meeting" [.var 1, .var 2, .var 20]) (.lit (.bl false)))
          [.ret (.lit (.bl false))]
          []],
    .ret (.lit (.bl true))]⟩
def yield_of : Fn := ⟨["supply", "demand", "tax", "many"], 3,
    [.asg (.nm 3) (.call "exchanged_with_tax" [.var 0, .var 1, .var 2]),
    .ret (.ite (.cmp .iss (.var 3) (.lit .non)) (.lit .non) (.call "times" [.var 2, .var 3]))]⟩
def is_wedge : Fn := ⟨["supply", "demand", "value", "price"], 3,
    [.iff (.or [.no (.isi (.var 2) .tuple), .cmp .ne (.bi .len [.var 2]) (.lit (.int 2)), .no (.bi .all [.comp (.call "is_ratio" [.var 3]) (.nm 3) .seq [.var 2] [] [3]])])
      [.ret (.lit (.bl false))]
      [],
    .iff (.or [.call "less" [.idx (.var 2) (.lit (.int 0)), .glob "ZERO"], .call "less" [.idx (.var 2) (.lit (.int 1)), .idx (.var 2) (.lit (.int 0))]])
      [.ret (.lit (.bl false))]
      [],
    .ret (.cmp .eq (.call "value_at" [.var 0, .idx (.var 2) (.lit (.int 0))]) (.call "value_at" [.var 1, .idx (.var 2) (.lit (.int 1))]))]⟩
def told_price : Fn := ⟨["supply", "demand", "price", "many"], 3,
    [.asg (.nm 3) (.call "exchanged" [.var 0, .var 1, .var 2]),
    .ret (.tup [.var 3, .call "minus" [.call "value_at" [.var 1, .var 2], .var 3], .call "minus" [.call "value_at" [.var 0, .var 2], .var 3]])]⟩
def l_is_ratio : Fn := ⟨["value", "part"], 1,
    [.iff (.or [.no (.isi (.var 0) .tuple), .cmp .ne (.bi .len [.var 0]) (.lit (.int 2)), .no (.bi .all [.comp (.and [.isi (.var 1) .int, .no (.isi (.var 1) .bool)]) (.nm 1) .seq [.var 0] [] [1]])])
      [.ret (.lit (.bl false))]
      [],
    .ret (.and [.cmp .gt (.idx (.var 0) (.lit (.int 1))) (.lit (.int 0)), .cmp .eq (.call "_law_divisor" [.bi .abs [.idx (.var 0) (.lit (.int 0))], .idx (.var 0) (.lit (.int 1))]) (.lit (.int 1))])]⟩
def l_is_ratio_2 : Fn := ⟨["value", "part"], 1,
    [.iff (.or [.no (.isi (.var 0) .tuple), .cmp .ne (.bi .len [.var 0]) (.lit (.int 2)), .no (.bi .all [.comp (.and [.isi (.var 1) .int, .no (.isi (.var 1) .bool)]) (.nm 1) .seq [.var 0] [] [1]])])
      [.ret (.lit (.bl false))]
      [],
    .ret (.and [.cmp .gt (.idx (.var 0) (.lit (.int 1))) (.lit (.int 0)), .cmp .eq (.call "_law_divisor" [.idx (.var 0) (.lit (.int 0)), .idx (.var 0) (.lit (.int 1))]) (.lit (.int 1))])]⟩
def l_least : Fn := ⟨["supply", "demand", "tax", "best", "spots", "piece", "one", "other", "turn", "gap", "x"], 3,
    [.asg (.nm 3) (.lit .non),
    .own 4 (.bin .add (.bin .add (.lst [.tup [.lit (.int 0), .lit (.int 1)]]) (.comp (.idx (.var 5) (.lit (.int 0))) (.nm 5) .seq [.var 0] [] [5])) (.comp (.call "_law_minus" [.idx (.var 5) (.lit (.int 0)), .var 2]) (.nm 5) .seq [.var 1] [] [5])),
    .fr (.nm 6) .seq [.var 0]
      [.fr (.nm 7) .seq [.var 1]
          [.asg (.nm 8) (.call "_law_minus" [.idx (.var 6) (.lit (.int 2)), .idx (.var 7) (.lit (.int 2))]),
            .iff (.cmp .ne (.idx (.var 8) (.lit (.int 0))) (.lit (.int 0)))
              [.asg (.nm 9) (.call "_law_minus" [.call "_law_plus" [.idx (.var 7) (.lit (.int 1)), .call "_law_times" [.idx (.var 7) (.lit (.int 2)), .call "_law_minus" [.var 2, .idx (.var 7) (.lit (.int 0))]]], .call "_law_minus" [.idx (.var 6) (.lit (.int 1)), .call "_law_times" [.idx (.var 6) (.lit (.int 2)), .idx (.var 6) (.lit (.int 0))]]]),
                .app 4 (.call "_law_times" [.var 9, .call "_law_ratio" [.idx (.var 8) (.lit (.int 1)), .idx (.var 8) (.lit (.int 0))]])]
              []]],
    .frz 4,
    .fr (.nm 10) .seq [.var 4]
      [.iff (.and [.cmp .ge (.idx (.var 10) (.lit (.int 0))) (.lit (.int 0)), .cmp .eq (.call "_law_at" [.var 0, .var 10]) (.call "_law_at" [.var 1, .call "_law_plus" [.var 10, .var 2]])])
          [.asg (.nm 3) (.ite (.or [.cmp .iss (.var 3) (.lit .non), .call "_law_less" [.var 10, .var 3]]) (.var 10) (.var 3))]
          []],
    .ret (.var 3)]⟩
def l_least_2 : Fn := ⟨["row", "years"], 2,
    [.ret (.call "tax_with" [.var 0, .var 1, .call "best_use" [.var 0, .var 1]])]⟩
def is_meeting : Fn := ⟨["supply", "demand", "value"], 3,
    [.iff (.or [.no (.call "is_ratio" [.var 2]), .call "less" [.var 2, .glob "ZERO"]])
      [.ret (.lit (.bl false))]
      [],
    .ret (.cmp .eq (.call "value_at" [.var 0, .var 2]) (.call "value_at" [.var 1, .var 2]))]⟩
def most_exchanged : Fn := ⟨["supply", "demand", "best", "price", "many"], 2,
    [.iff (.cmp .eq (.call "why_no_meeting" [.var 0, .var 1]) (.lit (.str "asked")))
      [.ret (.lit .non)]
      [],
    .asg (.nm 2) (.lit .non),
    .fr (.nm 3) .seq [.call "crossings" [.var 0, .var 1]]
      [.asg (.nm 4) (.call "exchanged" [.var 0, .var 1, .var 3]),
        .iff (.or [.cmp .iss (.var 2) (.lit .non), .call "less" [.idx (.var 2) (.lit (.int 0)), .var 4]])
          [.asg (.nm 2) (.tup [.var 4, .var 3])]
          []],
    .ret (.var 2)]⟩
def why_no_meeting : Fn := ⟨["supply", "demand"], 2,
    [.iff (.call "less" [.call "value_at" [.var 1, .glob "ZERO"], .call "value_at" [.var 0, .glob "ZERO"]])
      [.ret (.lit (.str "offered"))]
      [],
    .ret (.ite (.cmp .isnot (.call "meeting_prices" [.var 0, .var 1]) (.lit .non)) (.lit .non) (.lit (.str "asked")))]⟩
def l_runs : Fn := ⟨["value", "sign", "k"], 2,
    [.fr (.nm 2) .ran [.bi .len [.var 0]]
      [.iff (.cmp .lt (.bin .mul (.var 1) (.idx (.idx (.idx (.var 0) (.var 2)) (.lit (.int 2))) (.lit (.int 0)))) (.lit (.int 0)))
          [.ret (.lit (.bl false))]
          [],
        .iff (.and [.cmp .gt (.var 2) (.lit (.int 0)), .cmp .ne (.call "_law_plus" [.idx (.idx (.var 0) (.bin .sub (.var 2) (.lit (.int 1)))) (.lit (.int 1)), .call "_law_times" [.idx (.idx (.var 0) (.bin .sub (.var 2) (.lit (.int 1)))) (.lit (.int 2)), .call "_law_minus" [.idx (.idx (.var 0) (.var 2)) (.lit (.int 0)), .idx (.idx (.var 0) (.bin .sub (.var 2) (.lit (.int 1)))) (.lit (.int 0))]]]) (.idx (.idx (.var 0) (.var 2)) (.lit (.int 1)))])
          [.ret (.lit (.bl false))]
          []],
    .ret (.lit (.bl true))]⟩
def l_is_supply : Fn := ⟨["value"], 1,
    [.ret (.and [.call "is_row" [.var 0], .call "_law_runs" [.var 0, .lit (.int 1)], .cmp .ge (.idx (.idx (.idx (.var 0) (.lit (.int 0))) (.lit (.int 1))) (.lit (.int 0))) (.lit (.int 0))])]⟩
def l_is_demand : Fn := ⟨["value"], 1,
    [.ret (.and [.call "is_row" [.var 0], .call "_law_runs" [.var 0, .neg (.lit (.int 1))], .cmp .eq (.idx (.idx (.idx (.var 0) (.neg (.lit (.int 1)))) (.lit (.int 2))) (.lit (.int 0))) (.lit (.int 0)), .cmp .ge (.idx (.idx (.idx (.var 0) (.neg (.lit (.int 1)))) (.lit (.int 1))) (.lit (.int 0))) (.lit (.int 0))])]⟩
def creep : Fn := ⟨["row", "incomes", "p", "now", "x"], 3,
    [.asg (.nm 3) (.call "sum_of" [.comp (.call "value_at" [.var 0, .call "times" [.var 4, .var 2]]) (.nm 4) .seq [.var 1] [] [4]]),
    .ret (.call "minus" [.var 3, .call "times" [.var 2, .call "sum_of" [.comp (.call "value_at" [.var 0, .var 4]) (.nm 4) .seq [.var 1] [] [4]]]])]⟩
def is_rate : Fn := ⟨["value"], 1,
    [.ret (.and [.call "is_ratio" [.var 0], .no (.call "less" [.var 0, .glob "ZERO"]), .no (.call "less" [.glob "ONE", .var 0])])]⟩
def tax_of : Fn := ⟨["bands", "found", "value", "k", "start", "rate"], 1,
    [.par 1 2 true false (.lst []) (.glob "ZERO"),
    .fr (.tu [.nm 3, .tu [.nm 4, .nm 5]]) .enu [.var 0]
      [.app 1 (.tup [.var 4, .var 2, .var 5]),
        .iff (.cmp .lt (.bin .add (.var 3) (.lit (.int 1))) (.bi .len [.var 0]))
          [.asg (.nm 2) (.call "plus" [.var 2, .call "times" [.var 5, .call "minus" [.idx (.idx (.var 0) (.bin .add (.var 3) (.lit (.int 1)))) (.lit (.int 0)), .var 4]]])]
          []],
    .ret (.bi .tuple [.bvar 1])]⟩
def bands_of : Fn := ⟨["row", "piece", "start", "_", "slope"], 1,
    [.asg (.nm 0) (.call "normal" [.var 0]),
    .iff (.or [.no (.call "is_steady" [.var 0]), .cmp .ne (.idx (.idx (.var 0) (.lit (.int 0))) (.lit (.int 1))) (.glob "ZERO"), .no (.bi .all [.comp (.call "is_rate" [.idx (.var 1) (.lit (.int 2))]) (.nm 1) .seq [.var 0] [] [1]]), .cmp .gt (.bi .len [.var 0]) (.glob "MAX_BANDS")])
      [.bad]
      [],
    .ret (.bi .tuple [.comp (.tup [.var 2, .var 4]) (.tu [.nm 2, .nm 3, .nm 4]) .seq [.var 0] [] [2, 3, 4]])]⟩
def within : Fn := ⟨["row", "k", "start"], 2,
    [.asg (.nm 2) (.idx (.idx (.var 0) (.var 1)) (.lit (.int 0))),
    .ret (.ite (.cmp .lt (.bin .add (.var 1) (.lit (.int 1))) (.bi .len [.var 0])) (.call "over" [.call "plus" [.var 2, .idx (.idx (.var 0) (.bin .add (.var 1) (.lit (.int 1)))) (.lit (.int 0))], .glob "TWO_comparing"]) (.call "plus" [.var 2, .glob "ONE"]))]⟩
def near_below : Fn := ⟨["row", "k", "a", "goal"], 2,
    [.par 2 3 false false (.idx (.idx (.var 0) (.bin .sub (.var 1) (.lit (.int 1)))) (.lit (.int 0))) (.idx (.var 0) (.var 1)),
    .whl (.no (.call "less" [.idx (.var 3) (.lit (.int 1)), .call "value_at" [.var 0, .var 2]]))
      [.asg (.nm 2) (.call "over" [.call "plus" [.var 2, .idx (.var 3) (.lit (.int 0))], .glob "TWO_comparing"])],
    .ret (.var 2)]⟩
def average : Fn := ⟨["row", "x"], 2,
    [.ret (.call "over" [.call "value_at" [.var 0, .var 1], .var 1])]⟩
def is_marginal : Fn := ⟨["row", "k"], 1,
    [.asg (.nm 0) (.call "normal" [.var 0]),
    .fr (.nm 1) .ran [.lit (.int 1), .bi .len [.var 0]]
      [.iff (.or [.cmp .ne (.call "along" [.idx (.var 0) (.bin .sub (.var 1) (.lit (.int 1))), .idx (.idx (.var 0) (.var 1)) (.lit (.int 0))]) (.idx (.idx (.var 0) (.var 1)) (.lit (.int 1))), .call "less" [.idx (.idx (.var 0) (.var 1)) (.lit (.int 2)), .idx (.idx (.var 0) (.bin .sub (.var 1) (.lit (.int 1)))) (.lit (.int 2))]])
          [.ret (.lit (.bl false))]
          []],
    .ret (.lit (.bl true))]⟩
def is_dip : Fn := ⟨["row", "value"], 2,
    [.iff (.or [.no (.isi (.var 1) .tuple), .cmp .ne (.bi .len [.var 1]) (.lit (.int 2)), .no (.call "is_ratio" [.idx (.var 1) (.lit (.int 0))]), .no (.call "is_ratio" [.idx (.var 1) (.lit (.int 1))])])
      [.ret (.lit (.bl false))]
      [],
    .iff (.or [.no (.call "less" [.glob "ZERO", .idx (.var 1) (.lit (.int 0))]), .no (.call "less" [.idx (.var 1) (.lit (.int 0)), .idx (.var 1) (.lit (.int 1))])])
      [.ret (.lit (.bl false))]
      [],
    .ret (.call "less" [.call "average" [.var 0, .idx (.var 1) (.lit (.int 1))], .call "average" [.var 0, .idx (.var 1) (.lit (.int 0))]])]⟩
def dips : Fn := ⟨["row", "k", "start", "value", "slope"], 2,
    [.asg (.tu [.nm 2, .nm 3, .nm 4]) (.idx (.var 0) (.var 1)),
    .ret (.call "less" [.call "times" [.var 4, .var 2], .var 3])]⟩
def is_average : Fn := ⟨["row", "k"], 1,
    [.asg (.nm 0) (.call "normal" [.var 0]),
    .ret (.no (.bi .any [.comp (.or [.call "dips" [.var 0, .var 1], .call "jumps_down" [.var 0, .var 1]]) (.nm 1) .ran [.bi .len [.var 0]] [] [1]]))]⟩
def dip_of : Fn := ⟨["row", "k", "a", "b"], 1,
    [.asg (.nm 0) (.call "normal" [.var 0]),
    .fr (.nm 1) .ran [.bi .len [.var 0]]
      [.iff (.call "jumps_down" [.var 0, .var 1])
          [.asg (.nm 2) (.call "near_below" [.var 0, .var 1]),
            .whl (.no (.call "is_dip" [.var 0, .tup [.var 2, .idx (.idx (.var 0) (.var 1)) (.lit (.int 0))]]))
              [.asg (.nm 2) (.call "over" [.call "plus" [.var 2, .idx (.idx (.var 0) (.var 1)) (.lit (.int 0))], .glob "TWO_progressive"])],
            .ret (.tup [.var 2, .idx (.idx (.var 0) (.var 1)) (.lit (.int 0))])]
          [],
        .iff (.call "dips" [.var 0, .var 1])
          [.asg (.nm 3) (.call "within" [.var 0, .var 1]),
            .ret (.tup [.call "over" [.call "plus" [.idx (.idx (.var 0) (.var 1)) (.lit (.int 0)), .var 3], .glob "TWO_progressive"], .var 3])]
          []],
    .ret (.lit .non)]⟩
def l_steady : Fn := ⟨["box", "many", "low", "high", "ascending", "slopes_there", "k", "found", "start", "value", "slope", "step"], 5,
    [.asg (.nm 5) (.comp (.bin .add (.var 2) (.call "_law_draw" [.var 0, .bin .add (.bin .sub (.var 3) (.var 2)) (.lit (.int 1))])) (.nm 6) .ran [.bin .add (.lit (.int 1)) (.call "_law_draw" [.var 0, .var 1])] [] [6]),
    .asg (.nm 5) (.ite (.var 4) (.bi .ssort [.var 5]) (.comp (.idx (.var 5) (.var 6)) (.nm 6) .ran [.bi .len [.var 5]] [.or [.cmp .eq (.var 6) (.lit (.int 0)), .cmp .ne (.idx (.var 5) (.var 6)) (.idx (.var 5) (.bin .sub (.var 6) (.lit (.int 1))))]] [6])),
    .par3 7 8 9 true false false (.lst []) (.tup [.lit (.int 0), .lit (.int 1)]) (.call "_law_ratio" [.ite (.no (.var 4)) (.bin .sub (.call "_law_draw" [.var 0, .lit (.int 5)]) (.lit (.int 2))) (.lit (.int 0)), .lit (.int 1)]),
    .fr (.nm 10) .seq [.var 5]
      [.app 7 (.tup [.var 8, .var 9, .call "_law_ratio" [.var 10, .lit (.int 10)]]),
        .asg (.nm 11) (.call "_law_ratio" [.bin .add (.lit (.int 1)) (.call "_law_draw" [.var 0, .lit (.int 12)]), .bin .add (.lit (.int 1)) (.call "_law_draw" [.var 0, .lit (.int 2)])]),
        .asg (.nm 9) (.call "_law_plus" [.var 9, .call "_law_times" [.call "_law_ratio" [.var 10, .lit (.int 10)], .var 11]]),
        .asg (.nm 8) (.call "_law_plus" [.var 8, .var 11])],
    .ret (.bi .tuple [.bvar 7])]⟩
def line : Fn := ⟨["value", "slope"], 2,
    [.ret (.tup [.tup [.glob "ZERO", .var 0, .var 1]])]⟩
def upper : Fn := ⟨["one", "other"], 2,
    [.ret (.ite (.call "less" [.var 0, .var 1]) (.var 1) (.var 0))]⟩
def lower : Fn := ⟨["one", "other"], 2,
    [.ret (.ite (.call "less" [.var 0, .var 1]) (.var 0) (.var 1))]⟩
def gains_of : Fn := ⟨["years", "x"], 1,
    [.ret (.bi .tuple [.comp (.call "upper" [.var 1, .glob "ZERO"]) (.nm 1) .seq [.var 0] [] [1]])]⟩
def losses_of : Fn := ⟨["years", "x"], 1,
    [.ret (.bi .tuple [.comp (.call "upper" [.call "minus" [.glob "ZERO", .var 1], .glob "ZERO"]) (.nm 1) .seq [.var 0] [] [1]])]⟩
def plain_tax : Fn := ⟨["row", "years", "x"], 2,
    [.ret (.call "sum_of" [.comp (.call "value_at" [.var 0, .var 2]) (.nm 2) .seq [.call "gains_of" [.var 1]] [] [2]])]⟩
def carried_at_once : Fn := ⟨["years", "left", "found", "x", "part"], 1,
    [.par 1 2 false true (.glob "ZERO") (.lst []),
    .fr (.nm 3) .seq [.var 0]
      [.asg (.nm 4) (.call "lower" [.var 1, .call "upper" [.var 3, .glob "ZERO"]]),
        .app 2 (.var 4),
        .asg (.nm 1) (.call "plus" [.call "minus" [.var 1, .var 4], .call "upper" [.call "minus" [.glob "ZERO", .var 3], .glob "ZERO"]])],
    .ret (.tup [.bi .tuple [.bvar 2], .var 1])]⟩
def rooms_of : Fn := ⟨["years", "use", "found", "free", "x", "part"], 2,
    [.par 2 3 true false (.lst []) (.glob "ZERO"),
    .fr (.tu [.nm 4, .nm 5]) .zip [.var 0, .var 1]
      [.asg (.nm 3) (.call "minus" [.var 3, .var 5]),
        .app 2 (.var 3),
        .asg (.nm 3) (.call "plus" [.var 3, .call "upper" [.call "minus" [.glob "ZERO", .var 4], .glob "ZERO"]])],
    .ret (.bi .tuple [.bvar 2])]⟩
def tax_with : Fn := ⟨["row", "years", "use", "gain", "part"], 3,
    [.ret (.call "sum_of" [.comp (.call "value_at" [.var 0, .call "minus" [.var 3, .var 4]]) (.tu [.nm 3, .nm 4]) .zip [.call "gains_of" [.var 1], .var 2] [] [3, 4]])]⟩
def slope_below : Fn := ⟨["row", "x", "pieces", "piece"], 2,
    [.asg (.nm 2) (.comp (.var 3) (.nm 3) .seq [.call "normal" [.var 0]] [.call "less" [.idx (.var 3) (.lit (.int 0)), .var 1]] [3]),
    .ret (.tup [.idx (.idx (.var 2) (.neg (.lit (.int 1)))) (.lit (.int 2)), .call "minus" [.var 1, .idx (.idx (.var 2) (.neg (.lit (.int 1)))) (.lit (.int 0))]])]⟩
def best_use : Fn := ⟨["row", "years", "use", "best", "k", "gain", "here", "room", "slope", "far"], 2,
    [.own 2 (.bin .mul (.lst [.glob "ZERO"]) (.bi .len [.var 1])),
    .whl (.lit (.bl true))
      [.asg (.nm 3) (.lit .non),
        .fr (.tu [.nm 4, .nm 5]) .enu [.call "gains_of" [.var 1]]
          [.frz 2,
            .par 6 7 false false (.call "minus" [.var 5, .idx (.bvar 2) (.var 4)]) (.call "least_room" [.var 1, .var 2, .var 4]),
            .iff (.and [.call "less" [.glob "ZERO", .var 6], .call "less" [.glob "ZERO", .var 7]])
              [.asg (.tu [.nm 8, .nm 9]) (.call "slope_below" [.var 0, .var 6]),
                .iff (.and [.call "less" [.glob "ZERO", .var 8], .or [.cmp .iss (.var 3) (.lit .non), .call "less" [.idx (.var 3) (.lit (.int 0)), .var 8]]])
                  [.asg (.nm 3) (.tup [.var 8, .var 4, .call "lower" [.var 9, .var 7]])]
                  []]
              []],
        .iff (.cmp .iss (.var 3) (.lit .non))
          [.ret (.bi .tuple [.bvar 2])]
          [],
        .sto 2 (.idx (.var 3) (.lit (.int 1))) (.call "plus" [.idx (.bvar 2) (.idx (.var 3) (.lit (.int 1))), .idx (.var 3) (.lit (.int 2))])]]⟩
def least_room : Fn := ⟨["years", "use", "k", "rooms", "found", "free"], 3,
    [.asg (.nm 3) (.call "rooms_of" [.var 0, .var 1]),
    .asg (.nm 4) (.idx (.var 3) (.var 2)),
    .fr (.nm 5) .seq [.sl1 (.var 3) (.var 2)]
      [.asg (.nm 4) (.call "lower" [.var 4, .var 5])],
    .ret (.var 4)]⟩
def l_years : Fn := ⟨["box", "many", "k"], 2,
    [.ret (.bi .tuple [.comp (.call "_law_some" [.var 0, .neg (.lit (.int 12)), .lit (.int 20)]) (.nm 2) .ran [.bin .add (.lit (.int 1)) (.call "_law_draw" [.var 0, .var 1])] [] [2]])]⟩
def apart : Fn := ⟨["row", "x", "y"], 3,
    [.ret (.call "plus" [.call "value_at" [.var 0, .var 1], .call "value_at" [.var 0, .var 2]])]⟩
def together : Fn := ⟨["joint", "x", "y"], 3,
    [.ret (.call "value_at" [.var 0, .call "plus" [.var 1, .var 2]])]⟩
def split_row : Fn := ⟨["row", "start", "value", "slope"], 1,
    [.ret (.call "normal" [.bi .tuple [.comp (.tup [.call "times" [.var 1, .glob "TWO_couples"], .call "times" [.var 2, .glob "TWO_couples"], .var 3]) (.tu [.nm 1, .nm 2, .nm 3]) .seq [.var 0] [] [1, 2, 3]]])]⟩
def split_row_2 : Fn := ⟨["row", "start", "value", "slope"], 1,
    [.ret (.call "normal" [.bi .tuple [.comp (.tup [.call "times" [.var 1, .glob "TWO"], .call "times" [.var 2, .glob "TWO"], .var 3]) (.tu [.nm 1, .nm 2, .nm 3]) .seq [.var 0] [] [1, 2, 3]]])]⟩
def lost : Fn := ⟨["row", "joint", "x", "y"], 4,
    [.ret (.call "minus" [.call "together" [.var 1, .var 2, .var 3], .call "apart" [.var 0, .var 2, .var 3]])]⟩
def is_earned : Fn := ⟨["value"], 1,
    [.ret (.and [.call "is_row" [.tup [.tup [.glob "ZERO", .var 0, .glob "ZERO"]]], .no (.call "less" [.var 0, .glob "ZERO"])])]⟩
def is_couple : Fn := ⟨["value", "part"], 1,
    [.iff (.or [.no (.isi (.var 0) .tuple), .cmp .ne (.bi .len [.var 0]) (.lit (.int 2)), .no (.bi .all [.comp (.call "is_earned" [.var 1]) (.nm 1) .seq [.var 0] [] [1]])])
      [.ret (.lit (.bl false))]
      [],
    .ret (.no (.call "less" [.idx (.var 0) (.lit (.int 1)), .idx (.var 0) (.lit (.int 0))]))]⟩
def couple_of : Fn := ⟨["x", "y"], 2,
    [.ret (.ite (.call "less" [.var 1, .var 0]) (.tup [.var 1, .var 0]) (.tup [.var 0, .var 1]))]⟩
def bounds_of : Fn := ⟨["row", "joint", "piece"], 2,
    [.ret (.call "sorted_ratios" [.comp (.idx (.var 2) (.lit (.int 0))) (.nm 2) .seq [.bin .add (.call "normal" [.var 0]) (.call "normal" [.var 1])] [] [2]])]⟩
def corners : Fn := ⟨["row", "joint", "most", "mine", "start", "_", "sums", "found", "x", "y", "z", "fit", "pair"], 3,
    [.asg (.nm 3) (.comp (.var 4) (.tu [.nm 4, .nm 5, .nm 5]) .seq [.call "normal" [.var 0]] [] [4, 5, 5]),
    .asg (.nm 6) (.bin .add (.comp (.var 4) (.tu [.nm 4, .nm 5, .nm 5]) .seq [.call "normal" [.var 1]] [] [4, 5, 5]) (.lst [.var 2])),
    .own 7 (.lst []),
    .fr (.nm 8) .seq [.var 3]
      [.ext 7 (.comp (.call "couple_of" [.var 8, .var 9]) (.nm 9) .seq [.var 3] [] [9]),
        .ext 7 (.comp (.call "couple_of" [.var 8, .call "minus" [.var 10, .var 8]]) (.nm 10) .seq [.var 6] [.no (.call "less" [.var 10, .var 8])] [10])],
    .asg (.nm 11) (.comp (.var 12) (.nm 12) .seq [.bvar 7] [.no (.call "less" [.var 2, .call "plus" [.idx (.var 12) (.lit (.int 0)), .idx (.var 12) (.lit (.int 1))]])] [12]),
    .ret (.bi .tuple [.call "sorted_couples" [.var 11]])]⟩
def sorted_couples : Fn := ⟨["couples", "found", "pair", "at", "other"], 1,
    [.own 1 (.lst []),
    .fr (.nm 2) .seq [.var 0]
      [.asg (.nm 3) (.bi .len [.comp (.var 4) (.nm 4) .seq [.bvar 1] [.call "is_ahead_of" [.var 4, .var 2]] [4]]),
        .iff (.or [.cmp .eq (.var 3) (.bi .len [.bvar 1]), .cmp .ne (.idx (.bvar 1) (.var 3)) (.var 2)])
          [.ins 1 (.var 3) (.var 2)]
          []],
    .frz 1,
    .ret (.var 1)]⟩
def is_ahead_of : Fn := ⟨["one", "other"], 2,
    [.ret (.or [.call "less" [.idx (.var 0) (.lit (.int 0)), .idx (.var 1) (.lit (.int 0))], .and [.cmp .eq (.idx (.var 0) (.lit (.int 0))) (.idx (.var 1) (.lit (.int 0))), .call "less" [.idx (.var 0) (.lit (.int 1)), .idx (.var 1) (.lit (.int 1))]]])]⟩
def most_lost : Fn := ⟨["row", "joint", "most", "best", "pair", "cost"], 3,
    [.asg (.nm 3) (.lit .non),
    .fr (.nm 4) .seq [.call "corners" [.var 0, .var 1, .var 2]]
      [.asg (.nm 5) (.call "lost" [.var 0, .var 1, .idx (.var 4) (.lit (.int 0)), .idx (.var 4) (.lit (.int 1))]),
        .iff (.or [.cmp .iss (.var 3) (.lit .non), .call "less" [.idx (.var 3) (.lit (.int 0)), .var 5]])
          [.asg (.nm 3) (.tup [.var 5, .var 4])]
          []],
    .ret (.var 3)]⟩
def most_gained : Fn := ⟨["row", "joint", "most", "best", "pair", "gain"], 3,
    [.asg (.nm 3) (.lit .non),
    .fr (.nm 4) .seq [.call "corners" [.var 0, .var 1, .var 2]]
      [.asg (.nm 5) (.call "minus" [.glob "ZERO", .call "lost" [.var 0, .var 1, .idx (.var 4) (.lit (.int 0)), .idx (.var 4) (.lit (.int 1))]]),
        .iff (.or [.cmp .iss (.var 3) (.lit .non), .call "less" [.idx (.var 3) (.lit (.int 0)), .var 5]])
          [.asg (.nm 3) (.tup [.var 5, .var 4])]
          []],
    .ret (.var 3)]⟩
def far_couple : Fn := ⟨["row", "joint", "rise", "end", "here"], 2,
    [.asg (.nm 2) (.call "minus" [.idx (.idx (.call "normal" [.var 1]) (.neg (.lit (.int 1)))) (.lit (.int 2)), .idx (.idx (.call "normal" [.var 0]) (.neg (.lit (.int 1)))) (.lit (.int 2))]),
    .iff (.no (.call "less" [.glob "ZERO", .var 2]))
      [.ret (.lit .non)]
      [],
    .asg (.nm 3) (.idx (.call "bounds_of" [.var 0, .var 1]) (.neg (.lit (.int 1)))),
    .asg (.nm 4) (.call "lost" [.var 0, .var 1, .glob "ZERO", .var 3]),
    .ret (.tup [.glob "ZERO", .ite (.call "less" [.var 4, .glob "ONE"]) (.call "plus" [.var 3, .call "over" [.call "minus" [.glob "ONE", .var 4], .var 2]]) (.var 3)])]⟩
def losing_couple : Fn := ⟨["row", "joint", "end", "cost", "pair"], 2,
    [.asg (.nm 2) (.idx (.call "bounds_of" [.var 0, .var 1]) (.neg (.lit (.int 1)))),
    .asg (.tu [.nm 3, .nm 4]) (.call "most_lost" [.var 0, .var 1, .call "plus" [.var 2, .var 2]]),
    .ret (.ite (.call "less" [.glob "ZERO", .var 3]) (.var 4) (.call "far_couple" [.var 0, .var 1]))]⟩
def gaining_couple : Fn := ⟨["row", "joint", "end", "gain", "pair", "rise", "here"], 2,
    [.asg (.nm 2) (.idx (.call "bounds_of" [.var 0, .var 1]) (.neg (.lit (.int 1)))),
    .asg (.tu [.nm 3, .nm 4]) (.call "most_gained" [.var 0, .var 1, .call "plus" [.var 2, .var 2]]),
    .iff (.call "less" [.glob "ZERO", .var 3])
      [.ret (.var 4)]
      [],
    .asg (.nm 5) (.call "minus" [.idx (.idx (.call "normal" [.var 0]) (.neg (.lit (.int 1)))) (.lit (.int 2)), .idx (.idx (.call "normal" [.var 1]) (.neg (.lit (.int 1)))) (.lit (.int 2))]),
    .iff (.no (.call "less" [.glob "ZERO", .var 5]))
      [.ret (.lit .non)]
      [],
    .asg (.nm 6) (.call "lost" [.var 0, .var 1, .glob "ZERO", .var 2]),
    .ret (.tup [.glob "ZERO", .call "plus" [.var 2, .call "over" [.call "plus" [.glob "ONE", .var 6], .var 5]]])]⟩
def is_losing : Fn := ⟨["row", "joint", "value"], 3,
    [.ret (.and [.call "is_couple" [.var 2], .call "less" [.glob "ZERO", .call "lost" [.var 0, .var 1, .idx (.var 2) (.lit (.int 0)), .idx (.var 2) (.lit (.int 1))]]])]⟩
def is_gaining : Fn := ⟨["row", "joint", "value"], 3,
    [.ret (.and [.call "is_couple" [.var 2], .call "less" [.call "lost" [.var 0, .var 1, .idx (.var 2) (.lit (.int 0)), .idx (.var 2) (.lit (.int 1))], .glob "ZERO"]])]⟩
def ordered : Fn := ⟨["incomes", "found", "x", "other"], 1,
    [.own 1 (.lst []),
    .fr (.nm 2) .seq [.var 0]
      [.ins 1 (.bi .len [.comp (.var 3) (.nm 3) .seq [.bvar 1] [.no (.call "less" [.var 2, .var 3])] [3]]) (.var 2)],
    .ret (.bi .tuple [.bvar 1])]⟩
def begun_sums : Fn := ⟨["incomes", "found", "x"], 1,
    [.own 1 (.lst [.glob "ZERO"]),
    .fr (.nm 2) .seq [.call "ordered" [.var 0]]
      [.app 1 (.call "plus" [.idx (.bvar 1) (.neg (.lit (.int 1))), .var 2])],
    .ret (.bi .tuple [.bvar 1])]⟩
def is_more_even : Fn := ⟨["one", "other"], 2,
    [.ret (.cmp .iss (.call "first_below" [.var 0, .var 1]) (.lit .non))]⟩
def shares_of : Fn := ⟨["incomes", "total", "x"], 1,
    [.asg (.nm 1) (.call "sum_of" [.var 0]),
    .ret (.bi .tuple [.comp (.call "over" [.var 2, .var 1]) (.nm 2) .seq [.var 0] [] [2]])]⟩
def taxes_of : Fn := ⟨["row", "incomes", "x"], 2,
    [.ret (.bi .tuple [.comp (.call "value_at" [.var 0, .var 2]) (.nm 2) .seq [.var 1] [] [2]])]⟩
def nets_of : Fn := ⟨["row", "incomes", "x"], 2,
    [.ret (.bi .tuple [.comp (.call "minus" [.var 2, .call "value_at" [.var 0, .var 2]]) (.nm 2) .seq [.var 1] [] [2]])]⟩
def evens_out : Fn := ⟨["row", "incomes"], 2,
    [.ret (.cmp .iss (.call "first_below" [.call "shares_of" [.call "nets_of" [.var 0, .var 1]], .call "shares_of" [.var 1]]) (.lit .non))]⟩
def uneven_pair : Fn := ⟨["row"], 1,
    [.ret (.ite (.call "is_average" [.var 0]) (.lit .non) (.call "dip_of" [.var 0]))]⟩
def paid_by : Fn := ⟨["row", "incomes"], 2,
    [.ret (.call "sum_of" [.call "taxes_of" [.var 0, .var 1]])]⟩
def partings : Fn := ⟨["row", "z", "found", "start", "_"], 2,
    [.own 2 (.lst [.glob "ZERO", .var 1, .call "times" [.var 1, .glob "HALF"]]),
    .fr (.tu [.nm 3, .nm 4, .nm 4]) .seq [.var 0]
      [.iff (.call "less" [.var 3, .var 1])
          [.ext 2 (.lst [.var 3, .call "minus" [.var 1, .var 3]])]
          []],
    .frz 2,
    .ret (.call "sorted_ratios" [.var 2])]⟩
def least_parting : Fn := ⟨["row", "z", "best", "x", "paid"], 2,
    [.asg (.nm 2) (.lit .non),
    .fr (.nm 3) .seq [.call "partings" [.var 0, .var 1]]
      [.asg (.nm 4) (.call "apart" [.var 0, .var 3, .call "minus" [.var 1, .var 3]]),
        .iff (.or [.cmp .iss (.var 2) (.lit .non), .call "less" [.var 4, .idx (.var 2) (.lit (.int 0))]])
          [.asg (.nm 2) (.tup [.var 4, .var 3])]
          []],
    .ret (.var 2)]⟩
def is_nowhere_above : Fn := ⟨["one", "other", "spots", "x"], 2,
    [.asg (.nm 2) (.call "crossings" [.var 0, .var 1]),
    .iff (.bi .any [.comp (.call "less" [.call "value_at" [.var 1, .var 3], .call "value_at" [.var 0, .var 3]]) (.nm 3) .seq [.var 2] [] [3]])
      [.ret (.lit (.bl false))]
      [],
    .ret (.no (.call "less" [.idx (.idx (.call "normal" [.var 1]) (.neg (.lit (.int 1)))) (.lit (.int 2)), .idx (.idx (.call "normal" [.var 0]) (.neg (.lit (.int 1)))) (.lit (.int 2))]))]⟩
def spares_all : Fn := ⟨["row", "joint"], 2,
    [.ret (.call "is_nowhere_above" [.var 1, .call "split_row" [.var 0]])]⟩
def slope_above : Fn := ⟨["row", "x", "piece"], 2,
    [.ret (.idx (.idx (.comp (.var 2) (.nm 2) .seq [.call "normal" [.var 0]] [.no (.call "less" [.var 1, .idx (.var 2) (.lit (.int 0))])] [2]) (.neg (.lit (.int 1)))) (.lit (.int 2)))]⟩
def averaged_tax : Fn := ⟨["row", "incomes", "many"], 2,
    [.asg (.nm 2) (.tup [.bi .len [.var 1], .lit (.int 1)]),
    .ret (.call "times" [.var 2, .call "value_at" [.var 0, .call "over" [.call "sum_of" [.var 1], .var 2]]])]⟩
def room_above : Fn := ⟨["row", "x", "most", "later", "start", "_"], 3,
    [.asg (.nm 3) (.comp (.var 4) (.tu [.nm 4, .nm 5, .nm 5]) .seq [.call "normal" [.var 0]] [.call "less" [.var 1, .var 4]] [4, 5, 5]),
    .ret (.ite (.var 3) (.call "lower" [.call "minus" [.idx (.var 3) (.lit (.int 0)), .var 1], .var 2]) (.var 2))]⟩
def tax_spread : Fn := ⟨["row", "incomes", "parts", "x", "part"], 3,
    [.ret (.call "sum_of" [.comp (.call "value_at" [.var 0, .call "plus" [.var 3, .var 4]]) (.tu [.nm 3, .nm 4]) .zip [.var 1, .var 2] [] [3, 4]])]⟩
def even_spread : Fn := ⟨["incomes", "extra"], 2,
    [.ret (.bin .mul (.tup [.call "over" [.var 1, .tup [.bi .len [.var 0], .lit (.int 1)]]]) (.bi .len [.var 0]))]⟩
def is_layer : Fn := ⟨["value", "begin", "end", "part"], 1,
    [.iff (.or [.no (.isi (.var 0) .tuple), .cmp .ne (.bi .len [.var 0]) (.lit (.int 3)), .no (.call "is_ratio" [.idx (.var 0) (.lit (.int 0))]), .no (.call "is_ratio" [.idx (.var 0) (.lit (.int 2))])])
      [.ret (.lit (.bl false))]
      [],
    .asg (.tu [.nm 1, .nm 2, .nm 3]) (.var 0),
    .iff (.or [.call "less" [.var 1, .glob "ZERO"], .call "less" [.var 3, .glob "ZERO"], .call "less" [.glob "ONE", .var 3]])
      [.ret (.lit (.bl false))]
      [],
    .ret (.or [.cmp .iss (.var 2) (.lit .non), .and [.call "is_ratio" [.var 2], .call "less" [.var 1, .var 2]]])]⟩
def are_layers : Fn := ⟨["value", "layer"], 1,
    [.ret (.and [.isi (.var 0) .tuple, .cmp .le (.bi .len [.var 0]) (.glob "MAX_LAYERS"), .bi .all [.comp (.call "is_layer" [.var 1]) (.nm 1) .seq [.var 0] [] [1]]])]⟩
def reached : Fn := ⟨["layer", "x", "begin", "end", "_", "top"], 2,
    [.asg (.tu [.nm 2, .nm 3, .nm 4]) (.var 0),
    .asg (.nm 5) (.ite (.and [.cmp .isnot (.var 3) (.lit .non), .call "less" [.var 3, .var 1]]) (.var 3) (.var 1)),
    .ret (.ite (.call "less" [.var 2, .var 5]) (.call "minus" [.var 5, .var 2]) (.glob "ZERO"))]⟩
def layer_row : Fn := ⟨["layer", "begin", "end", "part", "found"], 1,
    [.asg (.tu [.nm 1, .nm 2, .nm 3]) (.var 0),
    .own 4 (.ite (.call "less" [.glob "ZERO", .var 1]) (.lst [.tup [.glob "ZERO", .glob "ZERO", .glob "ZERO"]]) (.lst [])),
    .app 4 (.tup [.var 1, .glob "ZERO", .var 3]),
    .iff (.cmp .isnot (.var 2) (.lit .non))
      [.app 4 (.tup [.var 2, .call "times" [.var 3, .call "minus" [.var 2, .var 1]], .glob "ZERO"])]
      [],
    .ret (.call "normal" [.bi .tuple [.bvar 4]])]⟩
def row_of : Fn := ⟨["layers", "found", "layer"], 1,
    [.asg (.nm 1) (.call "line" [.glob "ZERO", .glob "ZERO"]),
    .fr (.nm 2) .seq [.var 0]
      [.asg (.nm 1) (.call "added" [.var 1, .call "layer_row" [.var 2]])],
    .ret (.var 1)]⟩
def parts_at : Fn := ⟨["layers", "x", "found", "begin", "end", "part", "inside"], 2,
    [.own 2 (.lst []),
    .fr (.tu [.nm 3, .nm 4, .nm 5]) .seq [.var 0]
      [.asg (.nm 6) (.and [.no (.call "less" [.var 1, .var 3]), .or [.cmp .iss (.var 4) (.lit .non), .call "less" [.var 1, .var 4]]]),
        .app 2 (.ite (.var 6) (.var 5) (.glob "ZERO"))],
    .frz 2,
    .ret (.var 2)]⟩
def first_too_much : Fn := ⟨["layers", "x"], 1,
    [.fr (.nm 1) .seq [.call "edges_of" [.var 0]]
      [.iff (.call "less" [.glob "ONE", .call "sum_of" [.call "parts_at" [.var 0, .var 1]]])
          [.ret (.var 1)]
          []],
    .ret (.lit .non)]⟩
def last_unit : Fn := ⟨["layers", "x", "parts"], 2,
    [.asg (.nm 2) (.call "parts_at" [.var 0, .var 1]),
    .ret (.tup [.bi .tuple [.var 2], .call "minus" [.glob "ONE", .call "sum_of" [.var 2]]])]⟩
def l_add : Fn := ⟨["one", "other"], 2,
    [.ret (.call "_law_ratio" [.bin .add (.bin .mul (.idx (.var 0) (.lit (.int 0))) (.idx (.var 1) (.lit (.int 1)))) (.bin .mul (.idx (.var 1) (.lit (.int 0))) (.idx (.var 0) (.lit (.int 1)))), .bin .mul (.idx (.var 0) (.lit (.int 1))) (.idx (.var 1) (.lit (.int 1)))])]⟩
def l_off : Fn := ⟨["one", "other"], 2,
    [.ret (.call "_law_ratio" [.bin .sub (.bin .mul (.idx (.var 0) (.lit (.int 0))) (.idx (.var 1) (.lit (.int 1)))) (.bin .mul (.idx (.var 1) (.lit (.int 0))) (.idx (.var 0) (.lit (.int 1)))), .bin .mul (.idx (.var 0) (.lit (.int 1))) (.idx (.var 1) (.lit (.int 1)))])]⟩
def l_mul : Fn := ⟨["one", "other"], 2,
    [.ret (.call "_law_ratio" [.bin .mul (.idx (.var 0) (.lit (.int 0))) (.idx (.var 1) (.lit (.int 0))), .bin .mul (.idx (.var 0) (.lit (.int 1))) (.idx (.var 1) (.lit (.int 1)))])]⟩
def l_by : Fn := ⟨["one", "other"], 2,
    [.ret (.call "_law_ratio" [.bin .mul (.idx (.var 0) (.lit (.int 0))) (.idx (.var 1) (.lit (.int 1))), .bin .mul (.idx (.var 0) (.lit (.int 1))) (.idx (.var 1) (.lit (.int 0)))])]⟩
def l_layers : Fn := ⟨["box", "many", "found", "step", "begin", "end"], 2,
    [.own 2 (.lst []),
    .fr (.nm 3) .ran [.call "_law_draw" [.var 0, .bin .add (.var 1) (.lit (.int 1))]]
      [.asg (.nm 4) (.call "_law_ratio" [.call "_law_draw" [.var 0, .lit (.int 12)], .bin .add (.lit (.int 1)) (.call "_law_draw" [.var 0, .lit (.int 2)])]),
        .asg (.nm 5) (.ite (.cmp .eq (.call "_law_draw" [.var 0, .lit (.int 3)]) (.lit (.int 0))) (.lit .non) (.call "_law_add" [.var 4, .call "_law_ratio" [.bin .add (.lit (.int 1)) (.call "_law_draw" [.var 0, .lit (.int 8)]), .lit (.int 2)]])),
        .app 2 (.tup [.var 4, .var 5, .call "_law_ratio" [.call "_law_draw" [.var 0, .lit (.int 5)], .lit (.int 4)]])],
    .ret (.bi .tuple [.bvar 2])]⟩
def l_borne : Fn := ⟨["layers", "x", "found", "begin", "end", "part", "top"], 2,
    [.asg (.nm 2) (.tup [.lit (.int 0), .lit (.int 1)]),
    .fr (.tu [.nm 3, .nm 4, .nm 5]) .seq [.var 0]
      [.asg (.nm 6) (.ite (.and [.cmp .isnot (.var 4) (.lit .non), .call "_law_less" [.var 4, .var 1]]) (.var 4) (.var 1)),
        .iff (.call "_law_less" [.var 3, .var 6])
          [.asg (.nm 2) (.call "_law_add" [.var 2, .call "_law_mul" [.var 5, .call "_law_off" [.var 6, .var 3]]])]
          []],
    .ret (.var 2)]⟩
def l_edges : Fn := ⟨["layers", "found", "begin", "end", "part", "edge", "row", "x", "other"], 1,
    [.own 1 (.lst [.tup [.lit (.int 0), .lit (.int 1)]]),
    .fr (.tu [.nm 2, .nm 3, .nm 4]) .seq [.var 0]
      [.fr (.nm 5) .seq [.tup [.var 2, .var 3]]
          [.iff (.and [.cmp .isnot (.var 5) (.lit .non), .cmp .notin (.var 5) (.bvar 1)])
              [.app 1 (.var 5)]
              []]],
    .own 6 (.lst []),
    .frz 1,
    .fr (.nm 7) .seq [.var 1]
      [.ins 6 (.bi .len [.comp (.var 8) (.nm 8) .seq [.bvar 6] [.call "_law_less" [.var 8, .var 7]] [8]]) (.var 7)],
    .frz 6,
    .ret (.var 6)]⟩
def l_losses : Fn := ⟨["layers", "row", "k"], 1,
    [.asg (.nm 1) (.call "_law_edges" [.var 0]),
    .ret (.bin .add (.bin .add (.var 1) (.comp (.call "_law_mul" [.call "_law_add" [.idx (.var 1) (.var 2), .idx (.var 1) (.bin .add (.var 2) (.lit (.int 1)))], .tup [.lit (.int 1), .lit (.int 2)]]) (.nm 2) .ran [.bin .sub (.bi .len [.var 1]) (.lit (.int 1))] [] [2])) (.lst [.call "_law_add" [.idx (.var 1) (.neg (.lit (.int 1))), .tup [.lit (.int 1), .lit (.int 1)]], .call "_law_add" [.idx (.var 1) (.neg (.lit (.int 1))), .tup [.lit (.int 7), .lit (.int 3)]]]))]⟩
def l_are : Fn := ⟨["value", "layer", "begin", "end", "part"], 1,
    [.iff (.or [.no (.isi (.var 0) .tuple), .cmp .gt (.bi .len [.var 0]) (.lit (.int 20)), .no (.bi .all [.comp (.and [.isi (.var 1) .tuple, .cmp .eq (.bi .len [.var 1]) (.lit (.int 3))]) (.nm 1) .seq [.var 0] [] [1]])])
      [.ret (.lit (.bl false))]
      [],
    .fr (.tu [.nm 2, .nm 3, .nm 4]) .seq [.var 0]
      [.iff (.or [.no (.call "_law_is_ratio" [.var 2]), .no (.call "_law_is_ratio" [.var 4]), .and [.cmp .isnot (.var 3) (.lit .non), .no (.call "_law_is_ratio" [.var 3])]])
          [.ret (.lit (.bl false))]
          [],
        .iff (.or [.cmp .lt (.idx (.var 2) (.lit (.int 0))) (.lit (.int 0)), .cmp .lt (.idx (.var 4) (.lit (.int 0))) (.lit (.int 0)), .cmp .gt (.idx (.var 4) (.lit (.int 0))) (.idx (.var 4) (.lit (.int 1))), .and [.cmp .isnot (.var 3) (.lit .non), .no (.call "_law_less" [.var 2, .var 3])]])
          [.ret (.lit (.bl false))]
          []],
    .ret (.lit (.bl true))]⟩
def l_parts : Fn := ⟨["layers", "x", "begin", "end", "part"], 2,
    [.ret (.comp (.ite (.and [.no (.call "_law_less" [.var 1, .var 2]), .or [.cmp .iss (.var 3) (.lit .non), .call "_law_less" [.var 1, .var 3]]]) (.var 4) (.tup [.lit (.int 0), .lit (.int 1)])) (.tu [.nm 2, .nm 3, .nm 4]) .seq [.var 0] [] [2, 3, 4])]⟩
def l_sum : Fn := ⟨["ratios", "found", "one"], 1,
    [.asg (.nm 1) (.tup [.lit (.int 0), .lit (.int 1)]),
    .fr (.nm 2) .seq [.var 0]
      [.asg (.nm 1) (.call "_law_add" [.var 1, .var 2])],
    .ret (.var 1)]⟩
def is_list : Fn := ⟨["value", "loss"], 1,
    [.iff (.or [.no (.isi (.var 0) .tuple), .no (.chn .le .le (.lit (.int 1)) (.bi .len [.var 0]) (.glob "MAX_LOSSES")), .no (.bi .all [.comp (.call "is_ratio" [.var 1]) (.nm 1) .seq [.var 0] [] [1]])])
      [.ret (.lit (.bl false))]
      [],
    .ret (.no (.bi .any [.comp (.call "less" [.var 1, .glob "ZERO"]) (.nm 1) .seq [.var 0] [] [1]]))]⟩
def above : Fn := ⟨["loss", "d"], 2,
    [.ret (.ite (.call "less" [.var 1, .var 0]) (.call "minus" [.var 0, .var 1]) (.glob "ZERO"))]⟩
def stop_loss : Fn := ⟨["losses", "d", "loss"], 2,
    [.ret (.call "sum_of" [.comp (.call "above" [.var 2, .var 1]) (.nm 2) .seq [.var 0] [] [2]])]⟩
def stop_row : Fn := ⟨["losses", "found", "loss"], 1,
    [.asg (.nm 1) (.call "line" [.glob "ZERO", .glob "ZERO"]),
    .fr (.nm 2) .seq [.var 0]
      [.iff (.call "less" [.glob "ZERO", .var 2])
          [.asg (.nm 1) (.call "added" [.var 1, .tup [.tup [.glob "ZERO", .var 2, .tup [.neg (.lit (.int 1)), .lit (.int 1)]], .tup [.var 2, .glob "ZERO", .glob "ZERO"]]])]
          []],
    .ret (.var 1)]⟩
def first_greater : Fn := ⟨["one", "other", "d"], 2,
    [.fr (.nm 2) .seq [.call "sorted_ratios" [.bin .add (.bin .add (.lst [.glob "ZERO"]) (.bi .list [.var 0])) (.bi .list [.var 1])]]
      [.iff (.call "less" [.call "stop_loss" [.var 1, .var 2], .call "stop_loss" [.var 0, .var 2]])
          [.ret (.var 2)]
          []],
    .ret (.lit .non)]⟩
def is_safer : Fn := ⟨["one", "other"], 2,
    [.ret (.cmp .iss (.call "first_greater" [.var 0, .var 1]) (.lit .non))]⟩
def greatest_gap_of : Fn := ⟨["one", "other", "best", "d", "gap"], 2,
    [.asg (.nm 2) (.glob "ZERO"),
    .fr (.nm 3) .seq [.call "sorted_ratios" [.bin .add (.bin .add (.lst [.glob "ZERO"]) (.bi .list [.var 0])) (.bi .list [.var 1])]]
      [.asg (.nm 4) (.call "minus" [.call "value_at" [.call "stop_row" [.var 1], .var 3], .call "value_at" [.call "stop_row" [.var 0], .var 3]]),
        .asg (.nm 2) (.ite (.call "less" [.var 2, .var 4]) (.var 4) (.var 2))],
    .ret (.var 2)]⟩
def l_list : Fn := ⟨["box", "n", "k"], 2,
    [.ret (.bi .tuple [.comp (.call "_law_ratio" [.call "_law_draw" [.var 0, .lit (.int 16)], .bin .add (.lit (.int 1)) (.call "_law_draw" [.var 0, .lit (.int 2)])]) (.nm 2) .ran [.var 1] [] [2]])]⟩
def l_stop : Fn := ⟨["losses", "d", "found", "loss"], 2,
    [.asg (.nm 2) (.tup [.lit (.int 0), .lit (.int 1)]),
    .fr (.nm 3) .seq [.var 0]
      [.asg (.nm 2) (.ite (.call "_law_less" [.var 1, .var 3]) (.call "_law_add" [.var 2, .call "_law_off" [.var 3, .var 1]]) (.var 2))],
    .ret (.var 2)]⟩
def l_limits : Fn := ⟨["one", "other", "found", "loss", "row", "x", "y"], 2,
    [.own 2 (.lst [.tup [.lit (.int 0), .lit (.int 1)]]),
    .fr (.nm 3) .seq [.bin .add (.var 0) (.var 1)]
      [.iff (.cmp .notin (.var 3) (.bvar 2))
          [.app 2 (.var 3)]
          []],
    .own 4 (.lst []),
    .frz 2,
    .fr (.nm 5) .seq [.var 2]
      [.ins 4 (.bi .len [.comp (.var 6) (.nm 6) .seq [.bvar 4] [.call "_law_less" [.var 6, .var 5]] [6]]) (.var 5)],
    .frz 4,
    .ret (.var 4)]⟩
def l_falling : Fn := ⟨["losses", "row", "loss", "y"], 1,
    [.own 1 (.lst []),
    .fr (.nm 2) .seq [.var 0]
      [.ins 1 (.bi .len [.comp (.var 3) (.nm 3) .seq [.bvar 1] [.no (.call "_law_less" [.var 3, .var 2])] [3]]) (.var 2)],
    .frz 1,
    .ret (.var 1)]⟩
def l_is : Fn := ⟨["value", "loss", "part"], 1,
    [.iff (.or [.no (.isi (.var 0) .tuple), .cmp .lt (.bi .len [.var 0]) (.lit (.int 1)), .cmp .gt (.bi .len [.var 0]) (.lit (.int 12))])
      [.ret (.lit (.bl false))]
      [],
    .fr (.nm 1) .seq [.var 0]
      [.iff (.or [.no (.isi (.var 1) .tuple), .cmp .ne (.bi .len [.var 1]) (.lit (.int 2)), .no (.bi .all [.comp (.and [.isi (.var 2) .int, .no (.isi (.var 2) .bool)]) (.nm 2) .seq [.var 1] [] [2]])])
          [.ret (.lit (.bl false))]
          [],
        .iff (.or [.cmp .lt (.idx (.var 1) (.lit (.int 1))) (.lit (.int 1)), .cmp .lt (.idx (.var 1) (.lit (.int 0))) (.lit (.int 0)), .cmp .ne (.call "_law_divisor" [.idx (.var 1) (.lit (.int 0)), .idx (.var 1) (.lit (.int 1))]) (.lit (.int 1))])
          [.ret (.lit (.bl false))]
          []],
    .ret (.lit (.bl true))]⟩
def slopes : Fn := ⟨["row", "_", "slope"], 1,
    [.ret (.bi .tuple [.comp (.var 2) (.tu [.nm 1, .nm 1, .nm 2]) .seq [.call "normal" [.var 0]] [] [1, 1, 2]])]⟩
def is_taker : Fn := ⟨["row", "slope"], 1,
    [.iff (.or [.no (.call "is_steady" [.var 0]), .cmp .ne (.idx (.idx (.var 0) (.lit (.int 0))) (.lit (.int 1))) (.glob "ZERO")])
      [.ret (.lit (.bl false))]
      [],
    .ret (.no (.bi .any [.comp (.or [.call "less" [.var 1, .glob "ZERO"], .call "less" [.glob "ONE", .var 1]]) (.nm 1) .seq [.call "slopes" [.var 0]] [] [1]]))]⟩
def left_by : Fn := ⟨["row"], 1,
    [.ret (.call "added" [.call "line" [.glob "ZERO", .glob "ONE"], .call "scaled" [.var 0, .tup [.neg (.lit (.int 1)), .lit (.int 1)]]])]⟩
def first_with : Fn := ⟨["row", "y", "k", "start", "value", "slope", "x"], 2,
    [.fr (.tu [.nm 2, .tu [.nm 3, .nm 4, .nm 5]]) .enu [.var 0]
      [.iff (.no (.call "less" [.var 4, .var 1]))
          [.ret (.var 3)]
          [],
        .iff (.call "less" [.glob "ZERO", .var 5])
          [.asg (.nm 6) (.call "plus" [.var 3, .call "over" [.call "minus" [.var 1, .var 4], .var 5]]),
            .iff (.or [.cmp .eq (.bin .add (.var 2) (.lit (.int 1))) (.bi .len [.var 0]), .no (.call "less" [.idx (.idx (.var 0) (.bin .add (.var 2) (.lit (.int 1)))) (.lit (.int 0)), .var 6])])
              [.ret (.var 6)]
              []]
          []],
    .ret (.lit .non)]⟩
def behind : Fn := ⟨["row", "inner", "edges", "piece", "x", "found", "points", "k", "later", "here", "there"], 2,
    [.own 2 (.comp (.idx (.var 3) (.lit (.int 0))) (.nm 3) .seq [.var 1] [] [3]),
    .fr (.nm 3) .seq [.var 0]
      [.asg (.nm 4) (.call "first_with" [.var 1, .idx (.var 3) (.lit (.int 0))]),
        .agl 2 (.ite (.cmp .isnot (.var 4) (.lit .non)) (.lst [.var 4]) (.lst []))],
    .frz 2,
    .par 5 6 true false (.lst []) (.call "sorted_ratios" [.var 2]),
    .fr (.tu [.nm 7, .nm 4]) .enu [.var 6]
      [.asg (.nm 8) (.ite (.cmp .lt (.bin .add (.var 7) (.lit (.int 1))) (.bi .len [.var 6])) (.idx (.var 6) (.bin .add (.var 7) (.lit (.int 1)))) (.call "plus" [.var 4, .glob "ONE"])),
        .par 9 10 false false (.call "value_at" [.var 0, .call "value_at" [.var 1, .var 4]]) (.call "value_at" [.var 0, .call "value_at" [.var 1, .var 8]]),
        .app 5 (.tup [.var 4, .var 9, .call "over" [.call "minus" [.var 10, .var 9], .call "minus" [.var 8, .var 4]]])],
    .ret (.call "normal" [.bi .tuple [.bvar 5]])]⟩
def left_behind : Fn := ⟨["takers", "found", "row"], 1,
    [.asg (.nm 1) (.call "line" [.glob "ZERO", .glob "ONE"]),
    .fr (.nm 2) .seq [.var 0]
      [.asg (.nm 1) (.call "behind" [.call "left_by" [.var 2], .var 1])],
    .ret (.var 1)]⟩
def taken_by : Fn := ⟨["takers", "x", "found", "row"], 2,
    [.own 2 (.lst []),
    .fr (.nm 3) .seq [.var 0]
      [.app 2 (.call "value_at" [.var 3, .var 1]),
        .asg (.nm 1) (.call "minus" [.var 1, .idx (.bvar 2) (.neg (.lit (.int 1)))])],
    .ret (.bi .tuple [.bvar 2])]⟩
def may_change : Fn := ⟨["one", "other"], 2,
    [.ret (.call "same" [.call "left_behind" [.tup [.var 0, .var 1]], .call "left_behind" [.tup [.var 1, .var 0]]])]⟩
def falls_where : Fn := ⟨["row", "k", "start", "value", "slope"], 1,
    [.fr (.tu [.nm 1, .tu [.nm 2, .nm 3, .nm 4]]) .enu [.var 0]
      [.iff (.and [.cmp .gt (.var 1) (.lit (.int 0)), .call "less" [.var 3, .call "along" [.idx (.var 0) (.bin .sub (.var 1) (.lit (.int 1))), .var 2]]])
          [.ret (.tup [.lit (.str "jump"), .var 2])]
          [],
        .iff (.call "less" [.var 4, .glob "ZERO"])
          [.ret (.tup [.lit (.str "slope"), .var 2])]
          []],
    .ret (.lit .non)]⟩
def does_not_fall : Fn := ⟨["row"], 1,
    [.ret (.cmp .iss (.call "falls_where" [.var 0]) (.lit .non))]⟩
def l_piece : Fn := ⟨["row", "x", "piece"], 2,
    [.ret (.idx (.comp (.var 2) (.nm 2) .seq [.var 0] [.no (.call "_law_less" [.var 1, .idx (.var 2) (.lit (.int 0))])] [2]) (.neg (.lit (.int 1))))]⟩
def l_from_below : Fn := ⟨["row", "x", "start", "value", "slope", "piece"], 2,
    [.asg (.tu [.nm 2, .nm 3, .nm 4]) (.idx (.comp (.var 5) (.nm 5) .seq [.var 0] [.call "_law_less" [.idx (.var 5) (.lit (.int 0)), .var 1]] [5]) (.neg (.lit (.int 1)))),
    .ret (.call "_law_add" [.var 3, .call "_law_mul" [.var 4, .call "_law_off" [.var 1, .var 2]]])]⟩
def l_row : Fn := ⟨["box", "slopes_there", "steady", "found", "x", "step", "value", "slope"], 3,
    [.par 3 4 true false (.lst []) (.tup [.lit (.int 0), .lit (.int 1)]),
    .fr (.nm 5) .ran [.bin .add (.lit (.int 1)) (.call "_law_draw" [.var 0, .lit (.int 5)])]
      [.asg (.nm 6) (.tup [.call "_law_draw" [.var 0, .lit (.int 9)], .lit (.int 1)]),
        .iff (.cmp .gt (.var 5) (.lit (.int 0)))
          [.asg (.nm 6) (.call "_law_at" [.bi .tuple [.bvar 3], .var 4]),
            .iff (.and [.no (.var 2), .cmp .eq (.call "_law_draw" [.var 0, .lit (.int 2)]) (.lit (.int 0))])
              [.asg (.nm 6) (.call "_law_add" [.var 6, .tup [.bin .sub (.call "_law_draw" [.var 0, .lit (.int 9)]) (.lit (.int 4)), .lit (.int 1)]])]
              []]
          [],
        .asg (.nm 7) (.idx (.var 1) (.call "_law_draw" [.var 0, .bi .len [.var 1]])),
        .app 3 (.tup [.var 4, .var 6, .var 7]),
        .asg (.nm 4) (.call "_law_add" [.var 4, .call "_law_ratio" [.bin .add (.lit (.int 1)) (.call "_law_draw" [.var 0, .lit (.int 8)]), .lit (.int 2)]])],
    .ret (.bi .tuple [.bvar 3])]⟩
def l_tried : Fn := ⟨["row", "found", "k", "end", "wide", "j"], 1,
    [.own 1 (.lst []),
    .fr (.nm 2) .ran [.bi .len [.var 0]]
      [.asg (.nm 3) (.ite (.cmp .lt (.bin .add (.var 2) (.lit (.int 1))) (.bi .len [.var 0])) (.idx (.idx (.var 0) (.bin .add (.var 2) (.lit (.int 1)))) (.lit (.int 0))) (.call "_law_add" [.idx (.idx (.var 0) (.var 2)) (.lit (.int 0)), .tup [.lit (.int 12), .lit (.int 1)]])),
        .asg (.nm 4) (.call "_law_off" [.var 3, .idx (.idx (.var 0) (.var 2)) (.lit (.int 0))]),
        .ext 1 (.comp (.call "_law_add" [.idx (.idx (.var 0) (.var 2)) (.lit (.int 0)), .call "_law_mul" [.var 4, .tup [.var 5, .lit (.int 7)]]]) (.nm 5) .ran [.lit (.int 7)] [] [5])],
    .frz 1,
    .ret (.var 1)]⟩
def l_taker : Fn := ⟨["box", "pick", "d", "row", "start", "value", "slope"], 1,
    [.asg (.nm 1) (.call "_law_draw" [.var 0, .lit (.int 4)]),
    .iff (.cmp .eq (.var 1) (.lit (.int 0)))
      [.ret (.tup [.tup [.tup [.lit (.int 0), .lit (.int 1)], .tup [.lit (.int 0), .lit (.int 1)], .call "_law_ratio" [.call "_law_draw" [.var 0, .lit (.int 5)], .lit (.int 4)]]])]
      [],
    .asg (.nm 2) (.tup [.call "_law_draw" [.var 0, .lit (.int 9)], .lit (.int 1)]),
    .iff (.cmp .eq (.var 1) (.lit (.int 1)))
      [.ret (.ite (.cmp .gt (.idx (.var 2) (.lit (.int 0))) (.lit (.int 0))) (.tup [.tup [.tup [.lit (.int 0), .lit (.int 1)], .tup [.lit (.int 0), .lit (.int 1)], .tup [.lit (.int 0), .lit (.int 1)]], .tup [.var 2, .tup [.lit (.int 0), .lit (.int 1)], .tup [.lit (.int 1), .lit (.int 1)]]]) (.tup [.tup [.tup [.lit (.int 0), .lit (.int 1)], .tup [.lit (.int 0), .lit (.int 1)], .tup [.lit (.int 1), .lit (.int 1)]]]))]
      [],
    .iff (.cmp .eq (.var 1) (.lit (.int 2)))
      [.ret (.ite (.cmp .gt (.idx (.var 2) (.lit (.int 0))) (.lit (.int 0))) (.tup [.tup [.tup [.lit (.int 0), .lit (.int 1)], .tup [.lit (.int 0), .lit (.int 1)], .tup [.lit (.int 1), .lit (.int 1)]], .tup [.var 2, .var 2, .tup [.lit (.int 0), .lit (.int 1)]]]) (.tup [.tup [.tup [.lit (.int 0), .lit (.int 1)], .tup [.lit (.int 0), .lit (.int 1)], .tup [.lit (.int 0), .lit (.int 1)]]]))]
      [],
    .asg (.nm 3) (.call "_law_row" [.var 0, .lst [.tup [.lit (.int 0), .lit (.int 1)], .tup [.lit (.int 1), .lit (.int 1)], .tup [.lit (.int 1), .lit (.int 2)], .tup [.lit (.int 1), .lit (.int 3)], .tup [.lit (.int 3), .lit (.int 4)]], .lit (.bl true)]),
    .ret (.bin .add (.tup [.tup [.idx (.idx (.var 3) (.lit (.int 0))) (.lit (.int 0)), .tup [.lit (.int 0), .lit (.int 1)], .idx (.idx (.var 3) (.lit (.int 0))) (.lit (.int 2))]]) (.bi .tuple [.comp (.tup [.var 4, .call "_law_off" [.var 5, .idx (.idx (.var 3) (.lit (.int 0))) (.lit (.int 1))], .var 6]) (.tu [.nm 4, .nm 5, .nm 6]) .seq [.sl1 (.var 3) (.lit (.int 1))] [] [4, 5, 6]]))]⟩
def l_left : Fn := ⟨["takers", "x", "row"], 2,
    [.fr (.nm 2) .seq [.var 0]
      [.asg (.nm 1) (.call "_law_off" [.var 1, .call "_law_at" [.var 2, .var 1]])],
    .ret (.var 1)]⟩
def l_turns : Fn := ⟨["takers", "k"], 1,
    [.ret (.bin .add (.comp (.call "_law_ratio" [.var 1, .lit (.int 6)]) (.nm 1) .ran [.lit (.int 150)] [] [1]) (.comp (.tup [.bin .add (.lit (.int 30)) (.bin .mul (.lit (.int 7)) (.var 1)), .lit (.int 1)]) (.nm 1) .ran [.lit (.int 12)] [] [1]))]⟩
end RF
end PL

set_option autoImplicit false
set_option linter.all false
set_option maxRecDepth 100000
set_option maxHeartbeats 2000000
set_option exponentiation.threshold 20000
/-! N1: rows of the small language one by one, locked. -/
namespace PL
section
variable {β α γ δ : Type} {gl : String → Option D} {F : String → List D → M β D} {ρ : Env}
/-- a block, locked: what it is cannot be reckoned, only told -/
theorem xo_ex (β : Type) : ∃ f : (String → Option D) → (String → List D → M β D) → List S → Env → M β (Fl × Env), f = exs := ⟨exs, rfl⟩
noncomputable def xo {β : Type} : (String → Option D) → (String → List D → M β D) → List S → Env → M β (Fl × Env) := Classical.choose (xo_ex β)
theorem xo_eq (gl : String → Option D) (F : String → List D → M β D) (r : List S) (ρ : Env) : xo gl F r ρ = exs gl F r ρ := by
  unfold xo; rw [Classical.choose_spec (xo_ex β)]
/-- a block, open -/
noncomputable def lk (gl : String → Option D) (F : String → List D → M β D) (r : List S) (ρ : Env) : M β (Fl × Env) := exs gl F r ρ
theorem lk_def (r : List S) (ρ : Env) : exs gl F r ρ = lk gl F r ρ := rfl
theorem xo_lk (r : List S) (ρ : Env) : xo gl F r ρ = lk gl F r ρ := xo_eq gl F r ρ
noncomputable def cont (gl : String → Option D) (F : String → List D → M β D) (r : List S) : Fl × Env → M β (Fl × Env) := fun x => match x.1 with
  | .nx => xo gl F r x.2
  | .bk => ret (.bk, x.2)
  | .ct => ret (.ct, x.2)
  | .rt d => ret (.rt d, x.2)
theorem cont_nx {r : List S} : cont gl F r (.nx, ρ) = xo gl F r ρ := rfl
theorem cont_eq (r : List S) : cont gl F r = fun x => match x.1 with
  | .nx => exs gl F r x.2
  | .bk => ret (.bk, x.2)
  | .ct => ret (.ct, x.2)
  | .rt d => ret (.rt d, x.2) := by
  funext x; unfold cont; simp only [xo_eq]
theorem cont_bk {r : List S} : cont gl F r (.bk, ρ) = ret (.bk, ρ) := rfl
theorem cont_ct {r : List S} : cont gl F r (.ct, ρ) = ret (.ct, ρ) := rfl
theorem cont_rt {r : List S} {d : D} : cont gl F r (.rt d, ρ) = ret (.rt d, ρ) := rfl
theorem lk_nil : lk gl F [] ρ = ret (.nx, ρ) := by unfold lk; simp only [exs, nxt]
theorem lk_cons {s : S} {r : List S} : lk gl F (s :: r) ρ = bnd (ex gl F s ρ) (cont gl F r) := by rw [cont_eq]; unfold lk; simp only [exs] <;> rfl
theorem nxt_cont {r : List S} : bnd (nxt ρ : M β (Fl × Env)) (cont gl F r) = xo gl F r ρ := rfl
theorem lk_asg {i : Nat} {e : E} {r : List S} : lk gl F (.asg (.nm i) e :: r) ρ = bnd (ev gl F e ρ) fun v => xo gl F r (ρ.set i (.im v)) := by
  rw [lk_cons]; simp only [ex, ← xo_eq, bindT, lft_some, bnd_ret, bnd_assoc]; rfl
theorem lk_asgT {ts : List Tg} {e : E} {r : List S} : lk gl F (.asg (.tu ts) e :: r) ρ = bnd (ev gl F e ρ) fun v => bnd (lft (bindT (.tu ts) v ρ)) fun ρ' => xo gl F r ρ' := by
  rw [lk_cons]; simp only [ex, ← xo_eq, bnd_assoc]; rfl
theorem lk_own {i : Nat} {e : E} {r : List S} : lk gl F (.own i e :: r) ρ = bnd (ev gl F e ρ) fun v => bnd (lft (asL v)) fun xs => xo gl F r (ρ.set i (.ow xs)) := by
  rw [lk_cons]; simp only [ex, ← xo_eq, bnd_assoc]; rfl
theorem lk_par {i j : Nat} {oi oj : Bool} {a b : E} {r : List S} : lk gl F (.par i j oi oj a b :: r) ρ = bnd (ev gl F a ρ) fun v => bnd (ev gl F b ρ) fun w => bnd (lft (cellOf oi v)) fun c => bnd (lft (cellOf oj w)) fun d => xo gl F r ((ρ.set i c).set j d) := by
  rw [lk_cons]; simp only [ex, ← xo_eq, bnd_assoc]; rfl
theorem lk_par3 {i j l : Nat} {oi oj ol : Bool} {a b e : E} {r : List S} : lk gl F (.par3 i j l oi oj ol a b e :: r) ρ = bnd (ev gl F a ρ) fun v => bnd (ev gl F b ρ) fun w => bnd (ev gl F e ρ) fun u => bnd (lft (cellOf oi v)) fun c => bnd (lft (cellOf oj w)) fun d => bnd (lft (cellOf ol u)) fun g => xo gl F r (((ρ.set i c).set j d).set l g) := by
  rw [lk_cons]; simp only [ex, ← xo_eq, bnd_assoc]; rfl
theorem lk_whl {c : E} {a r : List S} : lk gl F (.whl c a :: r) ρ = bnd (whlM (tst gl F c) (fun ρ' => xo gl F a ρ') ρ) (cont gl F r) := by
  have : (fun ρ' => xo gl F a ρ') = exs gl F a := funext fun ρ' => xo_eq gl F a ρ'
  rw [lk_cons, this]; simp only [ex]
theorem lk_iff {c : E} {a b r : List S} : lk gl F (.iff c a b :: r) ρ = bnd (tst gl F c ρ) fun t => bnd (if t = true then xo gl F a ρ else xo gl F b ρ) (cont gl F r) := by
  rw [lk_cons]; simp only [ex, ← xo_eq, bnd_assoc]
theorem lk_ret {e : E} {r : List S} : lk gl F (.ret e :: r) ρ = bnd (ev gl F e ρ) fun v => ret (.rt v, ρ) := by
  rw [lk_cons]; simp only [ex, ← xo_eq, bnd_assoc]; rfl
theorem lk_retN {r : List S} : lk gl F (.retN :: r) ρ = ret (.rt .non, ρ) := by rw [lk_cons]; simp only [ex, ← xo_eq]; rfl
theorem lk_brk {r : List S} : lk gl F (.brk :: r) ρ = ret (.bk, ρ) := by rw [lk_cons]; simp only [ex, ← xo_eq]; rfl
theorem lk_cnt {r : List S} : lk gl F (.cnt :: r) ρ = ret (.ct, ρ) := by rw [lk_cons]; simp only [ex, ← xo_eq]; rfl
theorem lk_pas {r : List S} : lk gl F (.pas :: r) ρ = xo gl F r ρ := by rw [lk_cons]; simp only [ex, ← xo_eq]; rfl
theorem lk_app {i : Nat} {e : E} {r : List S} : lk gl F (.app i e :: r) ρ = bnd (getO ρ i) fun xs => bnd (ev gl F e ρ) fun v => if xs.length < lim then xo gl F r (ρ.set i (.ow (xs ++ [v]))) else stk := by
  rw [lk_cons]; simp only [ex, ← xo_eq, bnd_assoc]
  congr 1; funext xs; congr 1; funext v
  by_cases h : xs.length < lim <;> simp only [h, if_true, if_false] <;> rfl
theorem lk_ins {i : Nat} {k e : E} {r : List S} : lk gl F (.ins i k e :: r) ρ = bnd (getO ρ i) fun xs => bnd (ev gl F k ρ) fun z => bnd (lft (toI z)) fun k => bnd (ev gl F e ρ) fun v => if xs.length < lim ∧ 0 ≤ k ∧ k ≤ 100000000 then xo gl F r (ρ.set i (.ow (xs.take k.toNat ++ [v] ++ xs.drop k.toNat))) else stk := by
  rw [lk_cons]; simp only [ex, ← xo_eq, bnd_assoc]
  congr 1; funext xs; congr 1; funext z; congr 1; funext k; congr 1; funext v
  by_cases h : xs.length < lim ∧ 0 ≤ k ∧ k ≤ 100000000
  · rw [if_pos h, if_pos h]; rfl
  · rw [if_neg h, if_neg h]; rfl
theorem lk_ext {i : Nat} {e : E} {r : List S} : lk gl F (.ext i e :: r) ρ = bnd (getO ρ i) fun xs => bnd (ev gl F e ρ) fun v => bnd (lft (asL v)) fun ys => if xs.length + ys.length ≤ lim then xo gl F r (ρ.set i (.ow (xs ++ ys))) else stk := by
  rw [lk_cons]; simp only [ex, ← xo_eq, bnd_assoc]
  congr 1; funext xs; congr 1; funext v; congr 1; funext ys
  by_cases h : xs.length + ys.length ≤ lim <;> simp only [h, if_true, if_false] <;> rfl
theorem lk_aug {i : Nat} {o : Bop} {e : E} {r : List S} : lk gl F (.aug i o e :: r) ρ = bnd (getV ρ i) fun x => bnd (ev gl F e ρ) fun y => bnd (lft ((toI x).bind fun _ => (toI y).bind fun _ => if o = .add ∨ o = .sub then bop o x y else none)) fun z => xo gl F r (ρ.set i (.im z)) := by
  rw [lk_cons]; simp only [ex, ← xo_eq, bnd_assoc]; rfl
/-- a name frozen -/
def frzE (ρ : Env) (i : Nat) : Env := match ρ[i]? with
  | some (.ow xs) => ρ.set i (.im (.lst xs))
  | _ => ρ
theorem lk_frz {i : Nat} {r : List S} : lk gl F (.frz i :: r) ρ = xo gl F r (frzE ρ i) := by
  rw [lk_cons]; simp only [ex, ← xo_eq, frzE]
  cases ρ[i]? with
  | none => rfl
  | some c => cases c <;> rfl
theorem frz_ow {xs : List D} : frzE (.ow xs :: ρ) 0 = .im (.lst xs) :: ρ := rfl
theorem frz_im {d : D} : frzE (.im d :: ρ) 0 = .im d :: ρ := rfl
theorem frz_un : frzE (.un :: ρ) 0 = .un :: ρ := rfl
theorem frz_succ {c : Cell} {n : Nat} : frzE (c :: ρ) (n + 1) = c :: frzE ρ n := by
  unfold frzE
  simp only [List.getElem?_cons_succ, List.set_cons_succ]
  cases ρ[n]? with
  | none => rfl
  | some c => cases c <;> rfl
noncomputable def forB (gl : String → Option D) (F : String → List D → M β D) (t : Tg) (a : List S) (xs : List D) (ρ : Env) : M β (Fl × Env) := forM (fun d ρ' => bnd (lft (bindT t d ρ')) fun ρ'' => xo gl F a ρ'') xs ρ
theorem lk_fr {t : Tg} {k : Ik} {es : List E} {a r : List S} : lk gl F (.fr t k es a :: r) ρ = bnd (evL gl F es ρ) fun ds => bnd (lft (iter k ds)) fun xs => bnd (forB gl F t a xs ρ) (cont gl F r) := by
  rw [lk_cons]; simp only [ex, ← xo_eq, bnd_assoc]; rfl
theorem bnd_ite {c : Prop} [Decidable c] {m n : M β α} {f : α → M β γ} : bnd (if c then m else n) f = if c then bnd m f else bnd n f := by
  by_cases h : c <;> simp only [h, if_true, if_false]
theorem endF_ret {d : D} : endF (ret (.rt d, ρ) : M β (Fl × Env)) = ret d := rfl
theorem endF_nx : endF (ret (.nx, ρ) : M β (Fl × Env)) = ret .non := rfl
theorem tst_lk {e : E} : tst gl F e ρ = bnd (ev gl F e ρ) fun x => lft (truth x) := rfl
theorem bindT_nm {i : Nat} {d : D} : bindT (.nm i) d ρ = some (ρ.set i (.im d)) := by simp only [bindT]
theorem bindT_tu {ts : List Tg} {ds : List D} : bindT (.tu ts) (.tup ds) ρ = bindTs ts ds ρ := by simp only [bindT]
theorem bindTs_nil : bindTs [] [] ρ = some ρ := by simp only [bindTs]
theorem bindTs_cons {t : Tg} {ts : List Tg} {d : D} {ds : List D} : bindTs (t :: ts) (d :: ds) ρ = (bindT t d ρ).bind fun ρ' => bindTs ts ds ρ' := by simp only [bindTs]
theorem ite_true_t {m n : M β α} : (if true = true then m else n) = m := rfl
theorem ite_false_t {m n : M β α} : (if false = true then m else n) = n := rfl
theorem if_true_eq {m n : M β α} : (if True then m else n) = m := if_pos trivial
theorem if_false_eq {m n : M β α} : (if False then m else n) = n := if_neg not_false
theorem len_tupB {xs : List D} : bfn .len [.tup xs] = some (.int xs.length) := rfl
theorem len_lstB {xs : List D} : bfn .len [.lst xs] = some (.int xs.length) := rfl
theorem tupB_lst {xs : List D} : bfn .tuple [.lst xs] = some (.tup xs) := rfl
theorem lstB_tup {xs : List D} : bfn .list [.tup xs] = some (.lst xs) := rfl
theorem wipe_nil : wipeE ρ [] = ρ := by simp only [wipeE]
theorem wipe_cons {i : Nat} {r : List Nat} : wipeE ρ (i :: r) = (wipeE ρ r).set i .un := by simp only [wipeE]
theorem isSame_nn : isSame .non .non = some true := rfl
theorem isSame_tn {xs : List D} : isSame (.tup xs) .non = some false := rfl
theorem isSame_bl {a b : Bool} : isSame (.bl a) (.bl b) = some (decide (a = b)) := rfl
theorem lim_eq : lim = 4000 := rfl
theorem asLlst {xs : List D} : asL (.lst xs) = some xs := rfl
theorem cellOf_f {d : D} : cellOf false d = some (.im d) := rfl
theorem cellOf_t {xs : List D} : cellOf true (.lst xs) = some (.ow xs) := rfl
theorem iter_seqT {xs : List D} : iter .seq [.tup xs] = some xs := rfl
theorem iter_seqL' {xs : List D} : iter .seq [.lst xs] = some xs := rfl
theorem cop_eqR {x y : Rat} : cop .eq (Rt x) (Rt y) = some (decide (x = y)) := by
  have := cop_eqT (a := x.num) (b := (x.den : Int)) (p := y.num) (q := (y.den : Int))
  unfold Rt
  rw [this]
  congr 1
  by_cases h : x = y
  · subst h; simp
  · rw [decide_eq_false h]
    by_cases h1 : x.num = y.num
    · have : ¬ ((x.den : Int) = (y.den : Int)) := fun z => h (Rat.ext h1 (by exact_mod_cast z))
      simp [this]
    · simp [h1]
theorem cop_neR {x y : Rat} : cop .ne (Rt x) (Rt y) = some (!decide (x = y)) := by
  have h1 := cop_eqR (x := x) (y := y)
  simp only [cop] at h1 ⊢
  split at h1
  · rename_i h2
    rw [if_pos h2]
    simp only [Option.some.injEq] at h1 ⊢
    rw [h1]
  · cases h1
/-! ### comprehensions -/
theorem comp_map {l : List α} (w : α → D) (g : α → D) {e : E} {t : Tg} {k : Ik} {es : List E} {own : List Nat} (hl : l.length ≤ lim) (h1 : bnd (evL gl F es ρ) (fun ds => lft (iter k ds)) = ret (l.map w))
    (h2 : ∀ a ∈ l, bnd (lft (bindT t (w a) (wipeE ρ own))) (fun ρ' => ev gl F e ρ') = ret (g a)) : ev gl F (.comp e t k es [] own) ρ = ret (.lst (l.map g)) := by
  rw [ev_comp]
  rw [← bnd_assoc (f := fun ds => lft (iter k ds)), h1, bnd_ret, if_pos (by rw [List.length_map]; exact hl)]
  have : ∀ (l : List α), (∀ a ∈ l, bnd (lft (bindT t (w a) (wipeE ρ own))) (fun ρ' => ev gl F e ρ') = ret (g a)) → compM (fun d => bnd (lft (bindT t d (wipeE ρ own))) fun ρ' => bnd (evC gl F [] ρ') fun b => if b = true then bnd (ev gl F e ρ') fun v => ret (some v) else ret none) (l.map w) = ret (l.map g) := by
    intro l
    induction l with
    | nil => intro _; rfl
    | cons a l ih =>
      intro h
      have h0 := h a List.mem_cons_self
      simp only [List.map_cons, compM, evC_nil, bnd_ret, if_true] at ih ⊢
      rw [← bnd_assoc (g := fun v => ret (some v)), h0, bnd_ret, bnd_ret, ih fun b hb => h b (List.mem_cons_of_mem _ hb)]
      rfl
  rw [this l h2]
  rfl
theorem comp_fil {l : List α} (w : α → D) (p : α → Bool) (g : α → D) {e c : E} {t : Tg} {k : Ik} {es : List E} {own : List Nat} (hl : l.length ≤ lim) (h1 : bnd (evL gl F es ρ) (fun ds => lft (iter k ds)) = ret (l.map w))
    (h2 : ∀ a ∈ l, ∃ ρ', bindT t (w a) (wipeE ρ own) = some ρ' ∧ tst gl F c ρ' = ret (p a) ∧ (p a = true → ev gl F e ρ' = ret (g a))) :
    ev gl F (.comp e t k es [c] own) ρ = ret (.lst ((l.filter p).map g)) := by
  rw [ev_comp]
  rw [← bnd_assoc (f := fun ds => lft (iter k ds)), h1, bnd_ret, if_pos (by rw [List.length_map]; exact hl)]
  have : ∀ (l : List α), (∀ a ∈ l, ∃ ρ', bindT t (w a) (wipeE ρ own) = some ρ' ∧ tst gl F c ρ' = ret (p a) ∧ (p a = true → ev gl F e ρ' = ret (g a))) →
      compM (fun d => bnd (lft (bindT t d (wipeE ρ own))) fun ρ' => bnd (evC gl F [c] ρ') fun b => if b = true then bnd (ev gl F e ρ') fun v => ret (some v) else ret none) (l.map w) = ret ((l.filter p).map g) := by
    intro l
    induction l with
    | nil => intro _; rfl
    | cons a l ih =>
      intro h
      obtain ⟨ρ', hb, h0, h0'⟩ := h a List.mem_cons_self
      have ihl := ih (fun b hb => h b (List.mem_cons_of_mem _ hb))
      simp only [List.map_cons, compM]
      rw [hb]
      simp only [lft_some, bnd_ret]
      have e1 : evC gl F [c] ρ' = ret (p a) := by
        simp only [evC_cons, evC_nil]
        have h0 : bnd (ev gl F c ρ') (fun x => lft (truth x)) = ret (p a) := h0
        rw [← bnd_assoc, h0, bnd_ret]
        cases p a <;> rfl
      rw [e1, bnd_ret]
      by_cases hp : p a = true
      · rw [if_pos hp, h0' hp, bnd_ret, bnd_ret, ihl, List.filter_cons_of_pos hp]; rfl
      · rw [if_neg hp, bnd_ret, ihl, List.filter_cons_of_neg hp]; rfl
  rw [this l h2]
  rfl
/-! ### loops -/
/-- what a for's rows leave besides -/
def jf {σ γ : Type} (step : σ → α → σ) (J : σ → α → γ) : List α → σ → γ → γ
  | [], _, c => c
  | a :: l, s, _ => jf step J l (step s a) (J s a)
/-- a fold by a for: E the cells by the state and what the body leaves besides -/
theorem for_eq {σ γ : Type} {l : List α} {w : α → D} {t : Tg} {body : List S} (E : σ → γ → Env) (J : σ → α → γ) (step : σ → α → σ) (inv : σ → Prop) (s : σ) (c : γ) {ρ0 : Env} (h0 : inv s) (hE : ρ0 = E s c)
    (hb : ∀ a ∈ l, ∀ s c, inv s → bnd (lft (bindT t (w a) (E s c))) (fun ρ' => xo gl F body ρ') = ret (.nx, E (step s a) (J s a)) ∧ inv (step s a)) :
    forB gl F t body (l.map w) ρ0 = ret (.nx, E (l.foldl step s) (jf step J l s c)) := by
  subst hE
  induction l generalizing s c with
  | nil => rfl
  | cons a l ih =>
    obtain ⟨e1, h1⟩ := hb a List.mem_cons_self s c h0
    have e2 := ih (step s a) (J s a) h1 (fun b hb' => hb b (List.mem_cons_of_mem _ hb'))
    unfold forB at e2 ⊢
    simp only [List.map_cons, forM, e1, bnd_ret]
    exact e2
theorem for_eqI {σ γ : Type} {l : List α} {w : α → D} {t : Tg} {body : List S} (E : σ → γ → Env) (J : σ → α → γ) (step : σ → α → σ) (inv : Nat → σ → Prop) (s : σ) (c : γ) {ρ0 : Env} (h0 : inv 0 s) (hE : ρ0 = E s c)
    (hb : ∀ (i : Nat) (hi : i < l.length), ∀ s c, inv i s → bnd (lft (bindT t (w l[i]) (E s c))) (fun ρ' => xo gl F body ρ') = ret (.nx, E (step s l[i]) (J s l[i])) ∧ inv (i + 1) (step s l[i])) :
    forB gl F t body (l.map w) ρ0 = ret (.nx, E (l.foldl step s) (jf step J l s c)) := by
  subst hE
  induction l generalizing s c inv with
  | nil => rfl
  | cons a l ih =>
    obtain ⟨e1, h1⟩ := hb 0 (by simp) s c h0
    have e2 := ih (fun i => inv (i + 1)) (step s a) (J s a) h1 (fun i hi s c h => hb (i + 1) (by simpa using hi) s c h)
    unfold forB at e2 ⊢
    simp only [List.getElem_cons_zero] at e1
    simp only [List.map_cons, forM, e1, bnd_ret]
    exact e2
theorem foldl_inv {σ : Type} {l : List α} {step : σ → α → σ} (inv : σ → Prop) {s : σ} (h0 : inv s) (hb : ∀ a ∈ l, ∀ s, inv s → inv (step s a)) : inv (l.foldl step s) := by
  induction l generalizing s with
  | nil => exact h0
  | cons a l ih => exact ih (hb a List.mem_cons_self s h0) fun b hb' => hb b (List.mem_cons_of_mem _ hb')
/-- a for whose rows do nothing, but return at the first that is so -/
theorem for_find {γ : Type} {l : List α} {w : α → D} {t : Tg} {body r : List S} (E : γ → Env) (J : γ → α → γ) (p : α → Bool) (g : α → D) (c : γ) {ρ0 : Env} (hE : ρ0 = E c)
    (hb : ∀ a ∈ l, ∀ c, (p a = false → bnd (lft (bindT t (w a) (E c))) (fun ρ' => xo gl F body ρ') = ret (.nx, E (J c a))) ∧ (p a = true → ∃ ρ', bnd (lft (bindT t (w a) (E c))) (fun ρ' => xo gl F body ρ') = ret (.rt (g a), ρ'))) :
    endF (bnd (forB gl F t body (l.map w) ρ0) (cont gl F r)) = match l.find? p with
    | none => endF (xo gl F r (E (l.foldl J c)))
    | some a => ret (g a) := by
  subst hE
  induction l generalizing c with
  | nil => rfl
  | cons a l ih =>
    have h1 := hb a List.mem_cons_self c
    cases hp : p a with
    | false =>
      have e1 := h1.1 hp
      have h2 := ih (J c a) (fun b hb' => hb b (List.mem_cons_of_mem _ hb'))
      rw [List.find?_cons_of_neg (by simp [hp])]
      unfold forB at h2 ⊢
      simp only [List.map_cons, forM, e1, bnd_ret]
      exact h2
    | true =>
      obtain ⟨ρ', e1⟩ := h1.2 hp
      rw [List.find?_cons_of_pos hp]
      unfold forB
      simp only [List.map_cons, forM, e1, bnd_ret]
      rfl
end
/-! ### functions as facts that are found by themselves -/
class FN {β : Type} (P : Prog β) (x : String) (f : Fn) : Prop where
  fn : Fnd P x f
class GN {β : Type} (P : Prog β) (x : String) (d : D) : Prop where
  gl : P.gl x = some d
section
variable {β : Type} {P : Prog β} {k : Nat}
theorem call_fnd {x : String} (f : Fn) [h : FN P x f] {args : List D} (hk : 1 ≤ k) (h3 : args.length = f.np) {ρ0 : Env} (h0 : args.map Cell.im ++ List.replicate (f.names.length - f.np) Cell.un = ρ0) :
    call P k x args = endF (exs P.gl (call P (k - 1)) f.body ρ0) := by
  rw [call_at h.fn hk h3, h0]
class FRat (P : Prog β) : Prop where
  rats : Rats P
  zero : P.gl "ZERO" = some (Rt 0)
theorem g_zero [h : FRat P] : P.gl "ZERO" = some (Rt 0) := h.zero
theorem g_gl {x : String} {d : D} [h : GN P x d] : P.gl x = some d := h.gl
variable {x y : Rat} [h : FRat P]
theorem t_plus (hk : 3 ≤ k) (hx : Sz x) (hy : Sz y) : call P k "plus" [Rt x, Rt y] = ret (Rt (x + y)) := s_plus h.rats hk hx hy
theorem t_minus (hk : 3 ≤ k) (hx : Sz x) (hy : Sz y) : call P k "minus" [Rt x, Rt y] = ret (Rt (x - y)) := s_minus h.rats hk hx hy
theorem t_times (hk : 3 ≤ k) (hx : Sz x) (hy : Sz y) : call P k "times" [Rt x, Rt y] = ret (Rt (x * y)) := s_times h.rats hk hx hy
theorem t_less (hk : 1 ≤ k) (hx : Sz x) (hy : Sz y) : call P k "less" [Rt x, Rt y] = ret (.bl (decide (x < y))) := s_less h.rats hk hx hy
end
theorem Bz.sz' {n : Nat} {q : Rat} (h : Bz n q) (hn : n ≤ 4000) : Sz q := h.sz hn
theorem Bz.zero1 : Bz 1 0 := Bz.zero (by decide)
end PL

set_option autoImplicit false
set_option linter.all false
set_option maxRecDepth 100000
set_option maxHeartbeats 2000000
set_option exponentiation.threshold 20000
/-! N2: rows of straight pieces. -/
namespace PL
local macro_rules
  | `(tactic| simp! [$as,*]) => `(tactic| simp (disch := (first | omega | assumption | array_get_dec)) only [lk_asg, lk_asgT, lk_own, lk_iff, lk_ret, lk_retN, lk_app, lk_ins, lk_nil, lk_brk, lk_cnt, lk_pas, lk_frz, lk_par, lk_par3, lk_whl, lk_ext, lk_aug, lk_fr, cont_nx, cont_rt, cont_bk, cont_ct, ev_var, ev_bvar, ev_glob, ev_lit, ev_bin, ev_neg, ev_no, ev_and, ev_or, ev_cmp, ev_chn, ev_isi, ev_ite, ev_idx, ev_sl1, ev_sl2, ev_sl3, ev_rev, ev_tup, ev_lst, ev_bi, ev_call, evL_nil, evL_cons, evA_one, evA_cons, evO_one, evO_cons, evC_nil, evC_cons, getV_zero, getV_succ, getB_zero, getB_ow, getB_succ, getO_zero, getO_succ, List.set_cons_zero, List.set_cons_succ, bnd_ret, bnd_assoc, lft_some, lft_none, bnd_stk, truth_bl, truth_int, truth_non, truth_tup, truth_lst, toI_int, ix_tup0, ix_tup1, ix_tup2, cop_eqI, cop_neI, cop_lt, cop_le, cop_gt, cop_ge, cop_is, cop_isnot, cop_eqR, cop_neR, bop_addI, bop_subI, bnd_ite, run_ret, run_bnd, endF_ret, endF_nx, tst_lk, bindT_nm, bindT_tu, bindTs_nil, bindTs_cons, Option.bind_some, Option.map_some, if_true_eq, if_false_eq, Bool.not_true, Bool.not_false, decide_true, decide_false, Bool.not_eq_true, Bool.not_eq_false, decide_eq_true_eq, if_true, if_false, ite_true_t, ite_false_t, len_tupB, len_lstB, tupB_lst, lstB_tup, wipe_nil, wipe_cons, List.map_cons, List.map_nil, isSame_nn, isSame_tn, Bool.false_eq_true, reduceCtorEq, Nat.reduceLeDiff, List.length_cons, List.length_nil, Nat.reduceAdd, lim_eq, asLlst, cellOf_f, cellOf_t, iter_seqT, iter_seqL', List.cons_append, List.nil_append, List.append_nil, Nat.reduceSub, List.replicate_succ, List.replicate_zero, frz_ow, frz_im, frz_un, frz_succ, Nat.reduceLT, Nat.reduceEqDiff, Int.reduceLT, Int.reduceLE, Int.reduceEq, Int.reduceNeg, Int.reduceAdd, Int.reduceSub, List.isEmpty_nil, List.isEmpty_cons, true_and, and_true, false_and, and_false, Bool.true_and, Bool.false_and, Bool.and_true, Bool.and_false, Bool.true_or, Bool.false_or, Bool.or_true, Bool.or_false, List.length_append, List.length_map, eq_self, isSame_bl, $as,*])
structure Pc where
  s : Rat
  v : Rat
  m : Rat
  deriving DecidableEq, Inhabited
abbrev Rw := List Pc
def pcD (p : Pc) : D := .tup [Rt p.s, Rt p.v, Rt p.m]
def rwD (r : Rw) : D := .tup (r.map pcD)
def Pc.at (p : Pc) (x : Rat) : Rat := p.v + p.m * (x - p.s)
def PB (n : Nat) (p : Pc) : Prop := Bz n p.s ∧ Bz n p.v ∧ Bz n p.m
theorem PB.s {n : Nat} {p : Pc} (h : PB n p) : Bz n p.s := h.1
theorem PB.v {n : Nat} {p : Pc} (h : PB n p) : Bz n p.v := h.2.1
theorem PB.m {n : Nat} {p : Pc} (h : PB n p) : Bz n p.m := h.2.2
theorem PB.at {n k : Nat} {p : Pc} {x : Rat} (h : PB n p) (hx : Bz k x) : Bz (3 * n + k + 2) (p.at x) := (h.v.add (h.m.mul (hx.sub h.s))).mono (by omega)
local macro_rules
  | `(tactic| array_get_dec) => `(tactic| (apply Bz.sz'; (focus (repeat' (with_reducible first | assumption | exact Bz.zero1 | apply Bz.add | apply Bz.sub | apply Bz.mul | apply PB.at | (apply PB.s; assumption) | (apply PB.v; assumption) | (apply PB.m; assumption)))); omega))
section
variable {β : Type} {P : Prog β} {k n m : Nat} [FRat P]
theorem s_along [FN P "along" RF.along] {p : Pc} {x : Rat} (hp : PB n p) (hx : Bz m x) (hs : 2 * n + m + 1 ≤ 4000) (hk : 4 ≤ k) : call P k "along" [pcD p, Rt x] = ret (Rt (p.at x)) := by
  rw [call_fnd RF.along (by omega) rfl rfl]
  unfold RF.along pcD
  ((first | rw [xo_lk] | rw [lk_def]); simp! [])
  ((first | rw [xo_lk] | rw [lk_def]); simp! [t_plus, t_times, t_minus])
  rfl
/-! ### the piece at an income -/
def pcAt (f : Pc) (r : Rw) (x : Rat) : Pc := r.foldl (fun f p => if x < p.s then f else p) f
/-- the first piece, or none -/
def Rw.hd (r : Rw) : Pc := r.headD default
def rp (r : Rw) (x : Rat) : Pc := pcAt (Rw.hd r) r x
def val (r : Rw) (x : Rat) : Rat := (rp r x).at x
def slp (r : Rw) (x : Rat) : Rat := (rp r x).m
theorem pcAt_mem : ∀ (r : Rw) (f : Pc) (x : Rat), pcAt f r x = f ∨ pcAt f r x ∈ r
  | [], _, _ => .inl rfl
  | p :: r, f, x => by
    unfold pcAt
    rw [List.foldl_cons]
    rcases pcAt_mem r (if x < p.s then f else p) x with h | h
    · by_cases hx : x < p.s
      · rw [if_pos hx] at h ⊢; exact .inl h
      · rw [if_neg hx] at h ⊢; exact .inr (by rw [show List.foldl _ p r = p from h]; exact List.mem_cons_self)
    · exact .inr (List.mem_cons_of_mem _ h)
theorem Rw.hd_mem {r : Rw} (h : r ≠ []) : Rw.hd r ∈ r := by
  cases r with
  | nil => exact absurd rfl h
  | cons p r => exact List.mem_cons_self
theorem rp_mem {r : Rw} (h : r ≠ []) (x : Rat) : rp r x ∈ r := by
  rcases pcAt_mem r (Rw.hd r) x with e | e
  · unfold rp; rw [e]; exact Rw.hd_mem h
  · exact e
def RB (n : Nat) (r : Rw) : Prop := ∀ p ∈ r, PB n p
theorem RB.rp {r : Rw} (h : RB n r) (h0 : r ≠ []) (x : Rat) : PB n (rp r x) := h _ (rp_mem h0 x)
theorem RB.val {r : Rw} {x : Rat} (h : RB n r) (h0 : r ≠ []) (hx : Bz m x) : Bz (3 * n + m + 2) (val r x) := (h.rp h0 x).at hx
theorem RB.slp {r : Rw} {x : Rat} (h : RB n r) (h0 : r ≠ []) : Bz n (slp r x) := (h.rp h0 x).m
theorem ix0_row {r : Rw} (h : r ≠ []) : idx (.tup (r.map pcD)) (.int 0) = some (pcD (Rw.hd r)) := by
  cases r with
  | nil => exact absurd rfl h
  | cons p r => rfl
theorem ixs_pc (p : Pc) : idx (pcD p) (.int 0) = some (Rt p.s) ∧ idx (pcD p) (.int 1) = some (Rt p.v) ∧ idx (pcD p) (.int 2) = some (Rt p.m) := ⟨rfl, rfl, rfl⟩
theorem ix_pc0 {p : Pc} : idx (pcD p) (.int 0) = some (Rt p.s) := rfl
theorem ix_pc1 {p : Pc} : idx (pcD p) (.int 1) = some (Rt p.v) := rfl
theorem ix_pc2 {p : Pc} : idx (pcD p) (.int 2) = some (Rt p.m) := rfl
theorem pyIx_last {xs : List D} {d : D} : pyIx (xs ++ [d]) (-1) = some d := by
  unfold pyIx
  rw [if_neg (by decide), if_pos (by simp; omega)]
  have : ((-1 : Int) + ((xs ++ [d]).length : Int)).toNat = xs.length := by simp; omega
  rw [this, List.getElem?_append_right (Nat.le_refl _)]
  simp
theorem ix_lastL {xs : List D} {d : D} : idx (.lst (xs ++ [d])) (.int (-1)) = some d := pyIx_last
theorem ix_lastT {xs : List D} {d : D} : idx (.tup (xs ++ [d])) (.int (-1)) = some d := pyIx_last
theorem s_piece_at [FN P "piece_at" RF.piece_at] {r : Rw} {x : Rat} (h0 : r ≠ []) (hr : RB n r) (hx : Bz m x) (hs : n ≤ 4000 ∧ m ≤ 4000) (hk : 2 ≤ k) : call P k "piece_at" [rwD r, Rt x] = ret (pcD (rp r x)) := by
  rw [call_fnd RF.piece_at (by omega) rfl rfl]
  unfold RF.piece_at rwD
  ((first | rw [xo_lk] | rw [lk_def]); simp! [ix0_row h0])
  ((first | rw [xo_lk] | rw [lk_def]); simp! [])
  rw [for_eq (fun (f : Pc) c => [.im (.tup (r.map pcD)), .im (Rt x), .im (pcD f), c]) (fun _ p => .im (pcD p)) (fun f p => if x < p.s then f else p) (fun _ => True) (Rw.hd r) .un trivial ?_ fun p hp f c _ => ⟨?_, trivial⟩]
  · simp! []
    ((first | rw [xo_lk] | rw [lk_def]); simp! [])
    rfl
  · rfl
  · have hp := hr p hp
    simp! []
    ((first | rw [xo_lk] | rw [lk_def]); simp! [t_less, ix_pc0])
    by_cases h : x < p.s <;> simp! [h] <;> repeat ((first | rw [xo_lk] | rw [lk_def]); simp! [])
theorem s_value_at [FN P "along" RF.along] [FN P "piece_at" RF.piece_at] [FN P "value_at" RF.value_at] {r : Rw} {x : Rat} (h0 : r ≠ []) (hr : RB n r) (hx : Bz m x) (hs : 2 * n + m + 1 ≤ 4000) (hk : 5 ≤ k) : call P k "value_at" [rwD r, Rt x] = ret (Rt (val r x)) := by
  rw [call_fnd RF.value_at (by omega) rfl rfl]
  unfold RF.value_at
  ((first | rw [xo_lk] | rw [lk_def]); simp! [s_piece_at h0 hr hx, s_along (hr.rp h0 x) hx hs])
  rfl
theorem s_slope_at [FN P "piece_at" RF.piece_at] [FN P "slope_at" RF.slope_at] {r : Rw} {x : Rat} (h0 : r ≠ []) (hr : RB n r) (hx : Bz m x) (hs : n ≤ 4000 ∧ m ≤ 4000) (hk : 5 ≤ k) : call P k "slope_at" [rwD r, Rt x] = ret (Rt (slp r x)) := by
  rw [call_fnd RF.slope_at (by omega) rfl rfl]
  unfold RF.slope_at
  ((first | rw [xo_lk] | rw [lk_def]); simp! [s_piece_at h0 hr hx, ix_pc2])
  rfl
/-! ### the normal form -/
def nstep (acc : Rw) (p : Pc) : Rw := match acc.getLast? with
  | none => acc ++ [p]
  | some q => if q.m = p.m ∧ q.at p.s = p.v then acc else acc ++ [p]
def nrm (r : Rw) : Rw := r.foldl nstep []
theorem nstep_mem {acc : Rw} {p q : Pc} (h : q ∈ nstep acc p) : q ∈ acc ∨ q = p := by
  unfold nstep at h
  split at h
  · simpa using h
  · split at h
    · exact .inl h
    · simpa using h
theorem nstep_len (acc : Rw) (p : Pc) : (nstep acc p).length ≤ acc.length + 1 := by
  unfold nstep
  split
  · simp
  · split <;> simp
theorem nrm_mem {r : Rw} {q : Pc} (h : q ∈ nrm r) : q ∈ r := foldl_inv (l := r) (step := nstep) (fun acc => ∀ q ∈ acc, q ∈ r) (s := []) (by simp) (fun p hp acc ha q hq => by
  rcases nstep_mem hq with z | rfl
  · exact ha q z
  · exact hp) q h
theorem nrm_len (r : Rw) : (nrm r).length ≤ r.length := by
  have : ∀ (r acc : Rw), (r.foldl nstep acc).length ≤ acc.length + r.length := by
    intro r
    induction r with
    | nil => intro acc; simp
    | cons p r ih =>
      intro acc
      have := ih (nstep acc p)
      have := nstep_len acc p
      simp only [List.foldl_cons, List.length_cons]
      omega
  have h := this r []
  rw [List.length_nil, Nat.zero_add] at h
  exact h
theorem RB.nrm {r : Rw} (h : RB n r) : RB n (nrm r) := fun q hq => h q (nrm_mem hq)
theorem s_limited [FN P "limited" RF.limited] [GN P "MAX_PIECES" (.int 60)] {xs : List D} (hl : xs.length ≤ 60) (hk : 1 ≤ k) : call P k "limited" [.lst xs] = ret (.tup xs) := by
  rw [call_fnd RF.limited (by omega) rfl rfl]
  unfold RF.limited
  have h : ¬ ((60 : Int) < xs.length) := by omega
  ((first | rw [xo_lk] | rw [lk_def]); simp! [g_gl (P := P) (x := "MAX_PIECES"), h])
  ((first | rw [xo_lk] | rw [lk_def]); simp! [])
  ((first | rw [xo_lk] | rw [lk_def]); simp! [])
theorem s_limitedT [FN P "limited" RF.limited] [GN P "MAX_PIECES" (.int 60)] {xs : List D} (hl : xs.length ≤ 60) (hk : 1 ≤ k) : call P k "limited" [.tup xs] = ret (.tup xs) := by
  rw [call_fnd RF.limited (by omega) rfl rfl]
  unfold RF.limited
  have h : ¬ ((60 : Int) < xs.length) := by omega
  have e : bfn .tuple [.tup xs] = some (.tup xs) := rfl
  ((first | rw [xo_lk] | rw [lk_def]); simp! [g_gl (P := P) (x := "MAX_PIECES"), h])
  ((first | rw [xo_lk] | rw [lk_def]); simp! [])
  ((first | rw [xo_lk] | rw [lk_def]); simp! [e])
theorem ne_app {α : Type} {xs : List α} {x : α} : (xs ++ [x]).isEmpty = false := by cases xs <;> rfl
theorem nstep_nil {p : Pc} : nstep [] p = [p] := rfl
theorem nstep_app {acc : Rw} {q p : Pc} : nstep (acc ++ [q]) p = if q.m = p.m ∧ q.at p.s = p.v then acc ++ [q] else acc ++ [q] ++ [p] := by
  unfold nstep; simp
theorem s_normal [FN P "along" RF.along] [FN P "limited" RF.limited] [GN P "MAX_PIECES" (.int 60)] [FN P "normal" RF.normal] {r : Rw} (hr : RB n r) (hl : r.length ≤ 60) (hs : 3 * n + 1 ≤ 4000) (hk : 6 ≤ k) : call P k "normal" [rwD r] = ret (rwD (nrm r)) := by
  rw [call_fnd RF.normal (by omega) rfl rfl]
  unfold RF.normal rwD
  ((first | rw [xo_lk] | rw [lk_def]); simp! [])
  ((first | rw [xo_lk] | rw [lk_def]); simp! [])
  rw [for_eqI (fun (acc : Rw) c => [.im (.tup (r.map pcD)), .ow (acc.map pcD), c]) (fun _ p => .im (pcD p)) nstep (fun i acc => acc.length ≤ i ∧ RB n acc) [] .un ⟨Nat.le_refl _, by intro p hp; cases hp⟩ ?_ fun i hi acc c hi' => ⟨?_, ?_⟩]
  · simp! []
    ((first | rw [xo_lk] | rw [lk_def]); simp! [])
    have := nrm_len r
    ((first | rw [xo_lk] | rw [lk_def]); simp! [s_limited (xs := (List.foldl nstep [] r).map pcD) (by rw [List.length_map]; exact Nat.le_trans (nrm_len r) hl)])
    rfl
  · rfl
  · have hp := hr _ (List.getElem_mem hi)
    obtain ⟨ha, hb⟩ := hi'
    rcases List.eq_nil_or_concat acc with rfl | ⟨acc', q, rfl⟩
    · simp! []
      ((first | rw [xo_lk] | rw [lk_def]); simp! [])
      ((first | rw [xo_lk] | rw [lk_def]); simp! [])
      ((first | rw [xo_lk] | rw [lk_def]); simp! [])
      ((first | rw [xo_lk] | rw [lk_def]); simp! [nstep_nil])
    · rw [List.concat_eq_append] at hb ha ⊢
      have hq := hb q (by simp)
      have hlt : acc'.length + 1 < 4000 := by rw [List.length_append] at ha; simp at ha; omega
      rw [nstep_app]
      simp! [List.map_append]
      ((first | rw [xo_lk] | rw [lk_def]); simp! [ix_lastL, ix_pc2, s_along hq hp.s, ix_pc0, ix_pc1, ne_app, List.map_append])
      by_cases h1 : q.m = r[i].m
      · by_cases h2 : q.at r[i].s = r[i].v
        · simp! [h1, h2, List.map_append]
          repeat ((first | rw [xo_lk] | rw [lk_def]); simp! [])
        · simp! [h1, h2, List.map_append]
          repeat ((first | rw [xo_lk] | rw [lk_def]); simp! [hlt, List.map_append])
      · simp! [h1, List.map_append]
        repeat ((first | rw [xo_lk] | rw [lk_def]); simp! [hlt, List.map_append])
  · exact ⟨Nat.le_trans (nstep_len _ _) (by omega), fun q hq => by
      rcases nstep_mem hq with z | rfl
      · exact hi'.2 q z
      · exact hr _ (List.getElem_mem hi)⟩
end
end PL

set_option autoImplicit false
set_option linter.all false
set_option maxRecDepth 100000
set_option maxHeartbeats 2000000
/-! N3: rows as functions: plain. -/
namespace PL
/-- ascending starts -/
def Asc (r : Rw) : Prop := r.Pairwise fun p q => p.s < q.s
theorem Asc.tail {p : Pc} {r : Rw} (h : Asc (p :: r)) : Asc r := (List.pairwise_cons.mp h).2
theorem Asc.lt {p q : Pc} {r : Rw} (h : Asc (p :: r)) (hq : q ∈ r) : p.s < q.s := (List.pairwise_cons.mp h).1 q hq
theorem pcAt_lt {f : Pc} {x : Rat} : ∀ {r : Rw}, (∀ p ∈ r, x < p.s) → pcAt f r x = f
  | [], _ => rfl
  | p :: r, h => by
    unfold pcAt
    rw [List.foldl_cons, if_pos (h p List.mem_cons_self)]
    exact pcAt_lt fun q hq => h q (List.mem_cons_of_mem _ hq)
theorem rp_one (p : Pc) (x : Rat) : rp [p] x = p := by
  show (if x < p.s then p else p) = p
  split <;> rfl
theorem pcAt_cons (f p : Pc) (r : Rw) (x : Rat) : pcAt f (p :: r) x = pcAt (if x < p.s then f else p) r x := rfl
theorem rp_cons {p q : Pc} {r : Rw} (h : Asc (p :: q :: r)) (x : Rat) : rp (p :: q :: r) x = if x < q.s then p else rp (q :: r) x := by
  unfold rp
  show pcAt p (p :: q :: r) x = if x < q.s then p else pcAt q (q :: r) x
  rw [pcAt_cons, pcAt_cons, pcAt_cons]
  have e : (if x < p.s then p else p) = p := by split <;> rfl
  have e2 : (if x < q.s then q else q) = q := by split <;> rfl
  rw [e, e2]
  by_cases hx : x < q.s
  · rw [if_pos hx, if_pos hx]
    exact pcAt_lt fun p' hp' => by have := h.tail.lt hp'; grind
  · rw [if_neg hx, if_neg hx]
theorem val_one (p : Pc) (x : Rat) : val [p] x = p.at x := by unfold val; rw [rp_one]
theorem val_cons {p q : Pc} {r : Rw} (h : Asc (p :: q :: r)) (x : Rat) : val (p :: q :: r) x = if x < q.s then p.at x else val (q :: r) x := by
  unfold val; rw [rp_cons h]; split <;> rfl
theorem slp_one (p : Pc) (x : Rat) : slp [p] x = p.m := by unfold slp; rw [rp_one]
theorem slp_cons {p q : Pc} {r : Rw} (h : Asc (p :: q :: r)) (x : Rat) : slp (p :: q :: r) x = if x < q.s then p.m else slp (q :: r) x := by
  unfold slp; rw [rp_cons h]; split <;> rfl
/-! ### the normal form -/
def nf (p : Pc) : Rw → Rw
  | [] => [p]
  | q :: r => if p.m = q.m ∧ p.at q.s = q.v then nf p r else p :: nf q r
theorem nrm_nf (p : Pc) (r : Rw) : nrm (p :: r) = nf p r := by
  have key : ∀ (r acc : Rw) (p : Pc), r.foldl nstep (acc ++ [p]) = acc ++ nf p r := by
    intro r
    induction r with
    | nil => intro acc p; rfl
    | cons q r ih =>
      intro acc p
      rw [List.foldl_cons, nstep_app]
      unfold nf
      by_cases h : p.m = q.m ∧ p.at q.s = q.v
      · rw [if_pos h, if_pos h]; exact ih acc p
      · rw [if_neg h, if_neg h, ih (acc ++ [p]) q, List.append_assoc]; rfl
  exact key r [] p
theorem Pc.at_eq {p q : Pc} (h1 : p.m = q.m) (h2 : p.at q.s = q.v) (x : Rat) : p.at x = q.at x := by
  unfold Pc.at at *
  rw [← h2, h1]
  grind
theorem nf_mem {p a : Pc} : ∀ {r : Rw}, a ∈ nf p r → a = p ∨ a ∈ r
  | [], h => by simp [nf] at h; exact .inl h
  | q :: r, h => by
    unfold nf at h
    split at h
    · rcases nf_mem h with z | z
      · exact .inl z
      · exact .inr (List.mem_cons_of_mem _ z)
    · rcases List.mem_cons.mp h with z | z
      · exact .inl z
      · rcases nf_mem z with y | y
        · exact .inr (by rw [y]; exact List.mem_cons_self)
        · exact .inr (List.mem_cons_of_mem _ y)
theorem nf_hd (p : Pc) : ∀ r : Rw, ∃ t, nf p r = p :: t
  | [] => ⟨[], rfl⟩
  | q :: r => by
    unfold nf
    split
    · exact nf_hd p r
    · exact ⟨_, rfl⟩
theorem nf_asc : ∀ {r : Rw} {p : Pc}, Asc (p :: r) → Asc (nf p r)
  | [], p, _ => List.pairwise_singleton _ _
  | q :: r, p, h => by
    unfold nf
    split
    · exact nf_asc (List.pairwise_cons.mpr ⟨fun a ha => h.lt (List.mem_cons_of_mem _ ha), h.tail.tail⟩)
    · refine List.pairwise_cons.mpr ⟨fun a ha => ?_, nf_asc h.tail⟩
      rcases nf_mem ha with z | z
      · rw [z]; exact h.lt List.mem_cons_self
      · exact h.lt (List.mem_cons_of_mem _ z)
theorem nf_rp : ∀ {r : Rw} {p : Pc}, Asc (p :: r) → ∀ x, (rp (nf p r) x).m = (rp (p :: r) x).m ∧ ∀ y, (rp (nf p r) x).at y = (rp (p :: r) x).at y
  | [], p, _, x => ⟨rfl, fun _ => rfl⟩
  | q :: r, p, h, x => by
    have h' : Asc (p :: r) := List.pairwise_cons.mpr ⟨fun a ha => h.lt (List.mem_cons_of_mem _ ha), h.tail.tail⟩
    have ih := nf_rp h'
    have ih2 := nf_rp h.tail
    unfold nf
    split
    · rename_i hc
      obtain ⟨e1, e2⟩ := ih x
      rw [e1]
      have key : (rp (p :: r) x).m = (rp (p :: q :: r) x).m ∧ ∀ y, (rp (p :: r) x).at y = (rp (p :: q :: r) x).at y := by
        rw [rp_cons h]
        cases r with
        | nil =>
          rw [rp_one, rp_one]
          split
          · exact ⟨rfl, fun _ => rfl⟩
          · exact ⟨hc.1, Pc.at_eq hc.1 hc.2⟩
        | cons a r =>
          rw [rp_cons h', rp_cons h.tail]
          have := h.tail.lt (List.mem_cons_self (a := a) (l := r))
          by_cases hx : x < q.s
          · rw [if_pos hx, if_pos (by grind)]; exact ⟨rfl, fun _ => rfl⟩
          · rw [if_neg hx]
            by_cases hy : x < a.s
            · rw [if_pos hy, if_pos hy]; exact ⟨hc.1, Pc.at_eq hc.1 hc.2⟩
            · rw [if_neg hy, if_neg hy]; exact ⟨rfl, fun _ => rfl⟩
      exact ⟨key.1, fun y => (e2 y).trans (key.2 y)⟩
    · obtain ⟨t, ht⟩ := nf_hd q r
      have ha := nf_asc h.tail
      rw [ht] at ha
      have ha2 : Asc (p :: q :: t) := List.pairwise_cons.mpr ⟨fun a hm => by
        have : a ∈ nf q r := by rw [ht]; exact hm
        rcases nf_mem this with z | z
        · rw [z]; exact h.lt List.mem_cons_self
        · exact h.lt (List.mem_cons_of_mem _ z), ha⟩
      rw [ht, rp_cons ha2, rp_cons h]
      by_cases hx : x < q.s
      · rw [if_pos hx, if_pos hx]; exact ⟨rfl, fun _ => rfl⟩
      · rw [if_neg hx, if_neg hx, ← ht]; exact ih2 x
theorem nrm_ne {r : Rw} (h : r ≠ []) : nrm r ≠ [] := by
  cases r with
  | nil => exact absurd rfl h
  | cons p r => rw [nrm_nf]; obtain ⟨t, e⟩ := nf_hd p r; rw [e]; exact List.cons_ne_nil _ _
theorem nrm_asc {r : Rw} (h : Asc r) : Asc (nrm r) := by
  cases r with
  | nil => exact List.Pairwise.nil
  | cons p r => rw [nrm_nf]; exact nf_asc h
theorem val_nrm {r : Rw} (h : Asc r) (x : Rat) : val (nrm r) x = val r x := by
  cases r with
  | nil => rfl
  | cons p r => rw [nrm_nf]; exact (nf_rp h x).2 x
theorem slp_nrm {r : Rw} (h : Asc r) (x : Rat) : slp (nrm r) x = slp r x := by
  cases r with
  | nil => rfl
  | cons p r => rw [nrm_nf]; exact (nf_rp h x).1
theorem nrm_hd {r : Rw} : Rw.hd (nrm r) = Rw.hd r := by
  cases r with
  | nil => rfl
  | cons p r => rw [nrm_nf]; obtain ⟨t, e⟩ := nf_hd p r; rw [e]; rfl
/-- no two neighbours go on alike -/
def Nf : Rw → Prop
  | p :: q :: r => ¬ (p.m = q.m ∧ p.at q.s = q.v) ∧ Nf (q :: r)
  | _ => True
theorem nf_of : ∀ {r : Rw} {p : Pc}, Nf (p :: r) → nf p r = p :: r
  | [], _, _ => rfl
  | q :: r, p, h => by unfold nf; rw [if_neg h.1, nf_of h.2]
theorem nrm_of {r : Rw} (h : Nf r) : nrm r = r := by
  cases r with
  | nil => rfl
  | cons p r => rw [nrm_nf, nf_of h]
theorem nf_is : ∀ {r : Rw} {p : Pc}, Nf (nf p r)
  | [], _ => trivial
  | q :: r, p => by
    unfold nf
    split
    · exact nf_is
    · rename_i hc
      obtain ⟨t, e⟩ := nf_hd q r
      have h := nf_is (r := r) (p := q)
      rw [e] at h ⊢
      exact ⟨hc, h⟩
theorem nrm_nrm (r : Rw) : nrm (nrm r) = nrm r := by
  refine nrm_of ?_
  cases r with
  | nil => trivial
  | cons p r => rw [nrm_nf]; exact nf_is
/-! ### a row by its values -/
def smp (f g : Rat → Rat) (L : List Rat) : Rw := L.map fun x => ⟨x, f x, g x⟩
theorem smp_asc {f g : Rat → Rat} {L : List Rat} (h : L.Pairwise (· < ·)) : Asc (smp f g L) := by
  unfold smp Asc
  rw [List.pairwise_map]
  exact h
/-- between the places f is a line -/
theorem val_smp {f g : Rat → Rat} : ∀ {L : List Rat} {a : Rat}, (a :: L).Pairwise (· < ·) → (∀ x ∈ a :: L, ∀ y, x ≤ y → (∀ z ∈ a :: L, z ≤ y → z ≤ x) → f y = f x + g x * (y - x) ∧ g y = g x) →
    ∀ {y : Rat}, a ≤ y → val (smp f g (a :: L)) y = f y ∧ slp (smp f g (a :: L)) y = g y
  | [], a, _, h, y, hy => by
    have h1 := h a List.mem_cons_self y hy (by intro z hz _; simp at hz; rw [hz]; exact Rat.le_refl)
    show val [⟨a, f a, g a⟩] y = f y ∧ slp [⟨a, f a, g a⟩] y = g y
    rw [val_one, slp_one]
    exact ⟨h1.1.symm, h1.2.symm⟩
  | b :: L, a, hp, h, y, hy => by
    have hp2 := (List.pairwise_cons.mp hp).2
    have hab := (List.pairwise_cons.mp hp).1
    have hasc : Asc (⟨a, f a, g a⟩ :: ⟨b, f b, g b⟩ :: smp f g L) := smp_asc (f := f) (g := g) hp
    show val (⟨a, f a, g a⟩ :: ⟨b, f b, g b⟩ :: smp f g L) y = f y ∧ slp (⟨a, f a, g a⟩ :: ⟨b, f b, g b⟩ :: smp f g L) y = g y
    rw [val_cons hasc, slp_cons hasc]
    by_cases hb : y < b
    · have hb' : y < (⟨b, f b, g b⟩ : Pc).s := hb
      rw [if_pos hb', if_pos hb']
      have h1 := h a List.mem_cons_self y hy (by
        intro z hz hzy
        rcases List.mem_cons.mp hz with rfl | hz
        · exact Rat.le_refl
        · rcases List.mem_cons.mp hz with rfl | hz
          · grind
          · have := (List.pairwise_cons.mp hp2).1 z hz; grind)
      exact ⟨h1.1.symm, h1.2.symm⟩
    · have hb' : ¬ y < (⟨b, f b, g b⟩ : Pc).s := hb
      rw [if_neg hb', if_neg hb']
      refine val_smp hp2 (fun x hx y' hxy hz => h x (List.mem_cons_of_mem _ hx) y' hxy fun z hz' hzy => ?_) (by grind)
      rcases List.mem_cons.mp hz' with rfl | hz'
      · rcases List.mem_cons.mp hx with rfl | hx
        · have := hab x List.mem_cons_self; grind
        · have := hab x (List.mem_cons_of_mem _ hx); grind
      · exact hz z hz' hzy
/-- a row goes on with its slope up to the next start -/
theorem val_line : ∀ {r : Rw}, Asc r → ∀ {x y : Rat}, x ≤ y → (∀ p ∈ r, p.s ≤ y → p.s ≤ x) → val r y = val r x + slp r x * (y - x) ∧ slp r y = slp r x
  | [], _, x, y, _, _ => by
    constructor
    · show (Rw.hd []).at y = (Rw.hd []).at x + (Rw.hd []).m * (y - x)
      unfold Pc.at; grind
    · rfl
  | [p], _, x, y, _, _ => by
    rw [val_one, val_one, slp_one, slp_one]
    unfold Pc.at
    exact ⟨by grind, rfl⟩
  | p :: q :: r, h, x, y, hxy, hz => by
    rw [val_cons h, val_cons h, slp_cons h, slp_cons h]
    have hq := hz q (by simp)
    by_cases hy : y < q.s
    · rw [if_pos hy, if_pos (by grind), if_pos hy, if_pos (by grind)]
      unfold Pc.at
      exact ⟨by grind, rfl⟩
    · have hx : ¬ x < q.s := by grind
      rw [if_neg hy, if_neg hx, if_neg hy, if_neg hx]
      exact val_line h.tail hxy fun a ha => hz a (List.mem_cons_of_mem _ ha)
end PL

set_option autoImplicit false
set_option linter.all false
set_option maxRecDepth 100000
set_option maxHeartbeats 2000000
set_option exponentiation.threshold 20000
/-! N4: the program's functions of rows. -/
namespace PL
local macro_rules
  | `(tactic| simp! [$as,*]) => `(tactic| simp (disch := (first | omega | assumption | array_get_dec)) only [lk_asg, lk_asgT, lk_own, lk_iff, lk_ret, lk_retN, lk_app, lk_ins, lk_nil, lk_brk, lk_cnt, lk_pas, lk_frz, lk_par, lk_par3, lk_whl, lk_ext, lk_aug, lk_fr, cont_nx, cont_rt, cont_bk, cont_ct, ev_var, ev_bvar, ev_glob, ev_lit, ev_bin, ev_neg, ev_no, ev_and, ev_or, ev_cmp, ev_chn, ev_isi, ev_ite, ev_idx, ev_sl1, ev_sl2, ev_sl3, ev_rev, ev_tup, ev_lst, ev_bi, ev_call, evL_nil, evL_cons, evA_one, evA_cons, evO_one, evO_cons, evC_nil, evC_cons, getV_zero, getV_succ, getB_zero, getB_ow, getB_succ, getO_zero, getO_succ, List.set_cons_zero, List.set_cons_succ, bnd_ret, bnd_assoc, lft_some, lft_none, bnd_stk, truth_bl, truth_int, truth_non, truth_tup, truth_lst, toI_int, ix_tup0, ix_tup1, ix_tup2, cop_eqI, cop_neI, cop_lt, cop_le, cop_gt, cop_ge, cop_is, cop_isnot, cop_eqR, cop_neR, bop_addI, bop_subI, bnd_ite, run_ret, run_bnd, endF_ret, endF_nx, tst_lk, bindT_nm, bindT_tu, bindTs_nil, bindTs_cons, Option.bind_some, Option.map_some, if_true_eq, if_false_eq, Bool.not_true, Bool.not_false, decide_true, decide_false, Bool.not_eq_true, Bool.not_eq_false, decide_eq_true_eq, if_true, if_false, ite_true_t, ite_false_t, len_tupB, len_lstB, tupB_lst, lstB_tup, wipe_nil, wipe_cons, List.map_cons, List.map_nil, isSame_nn, isSame_tn, Bool.false_eq_true, reduceCtorEq, Nat.reduceLeDiff, List.length_cons, List.length_nil, Nat.reduceAdd, lim_eq, asLlst, cellOf_f, cellOf_t, iter_seqT, iter_seqL', List.cons_append, List.nil_append, List.append_nil, Nat.reduceSub, List.replicate_succ, List.replicate_zero, frz_ow, frz_im, frz_un, frz_succ, Nat.reduceLT, Nat.reduceEqDiff, Int.reduceLT, Int.reduceLE, Int.reduceEq, Int.reduceNeg, Int.reduceAdd, Int.reduceSub, List.isEmpty_nil, List.isEmpty_cons, true_and, and_true, false_and, and_false, Bool.true_and, Bool.false_and, Bool.and_true, Bool.and_false, Bool.true_or, Bool.false_or, Bool.or_true, Bool.or_false, List.length_append, List.length_map, eq_self, isSame_bl, $as,*])
/-! ### ratios in order, each once -/
def insQ (r : Rat) : List Rat → List Rat
  | [] => [r]
  | a :: l => if a < r then a :: insQ r l else if a = r then a :: l else r :: a :: l
def srIns (found : List Rat) (r : Rat) : List Rat := if (found.filter fun o => decide (o < r)).length = found.length ∨ found.getD (found.filter fun o => decide (o < r)).length 0 ≠ r then found.take (found.filter fun o => decide (o < r)).length ++ [r] ++ found.drop (found.filter fun o => decide (o < r)).length else found
def srt (L : List Rat) : List Rat := L.foldl srIns []
theorem srIns_eq {r : Rat} : ∀ {l : List Rat}, l.Pairwise (· < ·) → srIns l r = insQ r l
  | [], _ => by simp [srIns, insQ]
  | a :: l, h => by
    have h2 := (List.pairwise_cons.mp h).2
    have h1 := (List.pairwise_cons.mp h).1
    have ih := srIns_eq (r := r) h2
    unfold insQ
    by_cases ha : a < r
    · rw [if_pos ha, ← ih]
      unfold srIns
      rw [List.filter_cons_of_pos (by simp [ha])]
      simp only [List.length_cons, List.getD_cons_succ, List.take_succ_cons, List.drop_succ_cons, Nat.add_right_cancel_iff]
      split <;> rfl
    · rw [if_neg ha]
      have e : (a :: l).filter (fun o => decide (o < r)) = [] := by
        rw [List.filter_eq_nil_iff]
        intro b hb
        rcases List.mem_cons.mp hb with rfl | hb
        · simp [ha]
        · have := h1 b hb
          simp; grind
      unfold srIns
      rw [e]
      by_cases hr : a = r
      · subst hr; simp
      · simp [hr]
theorem mem_insQ {r x : Rat} : ∀ {l : List Rat}, x ∈ insQ r l ↔ x = r ∨ x ∈ l
  | [] => by simp [insQ]
  | a :: l => by
    unfold insQ
    split
    · simp only [List.mem_cons, mem_insQ (l := l)]; grind
    · split
      · rename_i h; subst h; simp only [List.mem_cons]; grind
      · simp only [List.mem_cons]
theorem insQ_srt {r : Rat} : ∀ {l : List Rat}, l.Pairwise (· < ·) → (insQ r l).Pairwise (· < ·)
  | [], _ => List.pairwise_singleton _ _
  | a :: l, h => by
    have h2 := (List.pairwise_cons.mp h).2
    have h1 := (List.pairwise_cons.mp h).1
    unfold insQ
    split
    · rename_i ha
      refine List.pairwise_cons.mpr ⟨fun b hb => ?_, insQ_srt h2⟩
      rcases mem_insQ.mp hb with rfl | hb
      · exact ha
      · exact h1 b hb
    · split
      · exact h
      · rename_i ha hb
        refine List.pairwise_cons.mpr ⟨fun c hc => ?_, h⟩
        rcases List.mem_cons.mp hc with rfl | hc
        · grind
        · have := h1 c hc; grind
theorem insQ_len {r : Rat} : ∀ {l : List Rat}, (insQ r l).length ≤ l.length + 1
  | [] => by simp [insQ]
  | a :: l => by
    unfold insQ
    have := insQ_len (r := r) (l := l)
    split
    · simp only [List.length_cons]; omega
    · split <;> simp only [List.length_cons] <;> omega
theorem srt_spec (L : List Rat) : (srt L).Pairwise (· < ·) ∧ (∀ x, x ∈ srt L ↔ x ∈ L) ∧ (srt L).length ≤ L.length := by
  have key : ∀ (L acc : List Rat), acc.Pairwise (· < ·) → (L.foldl srIns acc).Pairwise (· < ·) ∧ (∀ x, x ∈ L.foldl srIns acc ↔ x ∈ acc ∨ x ∈ L) ∧ (L.foldl srIns acc).length ≤ acc.length + L.length := by
    intro L
    induction L with
    | nil => intro acc h; exact ⟨h, by simp, by simp⟩
    | cons a L ih =>
      intro acc h
      rw [List.foldl_cons, srIns_eq h]
      obtain ⟨h1, h2, h3⟩ := ih (insQ a acc) (insQ_srt h)
      refine ⟨h1, fun x => ?_, ?_⟩
      · rw [h2, mem_insQ, List.mem_cons]; grind
      · have := insQ_len (r := a) (l := acc)
        simp only [List.length_cons]; omega
  have := key L [] List.Pairwise.nil
  exact ⟨this.1, fun x => by rw [show srt L = L.foldl srIns [] from rfl, this.2.1]; simp, by have h := this.2.2; rw [List.length_nil, Nat.zero_add] at h; exact h⟩
theorem srt_sorted (L : List Rat) : (srt L).Pairwise (· < ·) := (srt_spec L).1
theorem mem_srt {L : List Rat} {x : Rat} : x ∈ srt L ↔ x ∈ L := (srt_spec L).2.1 x
theorem srt_len (L : List Rat) : (srt L).length ≤ L.length := (srt_spec L).2.2
local macro_rules
  | `(tactic| array_get_dec) => `(tactic| (apply Bz.sz'; (focus (repeat' (with_reducible first | assumption | exact Bz.zero1 | apply Bz.add | apply Bz.sub | apply Bz.mul | apply PB.at | (apply PB.s; assumption) | (apply PB.v; assumption) | (apply PB.m; assumption) | (apply RB.val; assumption; assumption) | (apply RB.slp; assumption; assumption)))); omega))
theorem ix_lstRt {vs : List Rat} {i : Nat} (h : i < vs.length) : idx (.lst (vs.map Rt)) (.int (i : Int)) = some (Rt (vs.getD i 0)) := by
  show pyIx _ _ = _
  rw [pyIx_nat, List.getElem?_map, List.getElem?_eq_getElem h, getD_at h]; rfl
theorem ix_tupRt {vs : List Rat} {i : Nat} (h : i < vs.length) : idx (.tup (vs.map Rt)) (.int (i : Int)) = some (Rt (vs.getD i 0)) := by
  show pyIx _ _ = _
  rw [pyIx_nat, List.getElem?_map, List.getElem?_eq_getElem h, getD_at h]; rfl
theorem ix_row {r : Rw} {i : Nat} (h : i < r.length) : idx (.tup (r.map pcD)) (.int (i : Int)) = some (pcD (r.getD i default)) := by
  show pyIx _ _ = _
  rw [pyIx_nat, List.getElem?_map, List.getElem?_eq_getElem h, getD_at h]; rfl
theorem ix_row1 {r : Rw} {i : Nat} (h : i + 1 < r.length) : idx (.tup (r.map pcD)) (.int ((i : Int) + 1)) = some (pcD (r.getD (i + 1) default)) := by
  have := ix_row (r := r) (i := i + 1) h
  rw [Int.natCast_add] at this
  exact this
section
variable {β : Type} {P : Prog β} {k n m : Nat} [FRat P]
theorem mem_getD {α : Type} {l : List α} {i : Nat} (h : i < l.length) (d : α) : l.getD i d ∈ l := by rw [getD_at h]; exact List.getElem_mem h
theorem s_sorted_ratios [FN P "sorted_ratios" RF.sorted_ratios] {L : List Rat} {d : D} (hd : items d = some (L.map Rt)) (hL : ∀ x ∈ L, Bz n x) (hl : L.length ≤ 1000) (hs : n ≤ 4000) (hk : 3 ≤ k) : call P k "sorted_ratios" [d] = ret (.lst ((srt L).map Rt)) := by
  rw [call_fnd RF.sorted_ratios (by omega) rfl rfl]
  unfold RF.sorted_ratios
  ((first | rw [xo_lk] | rw [lk_def]); simp! [])
  ((first | rw [xo_lk] | rw [lk_def]); simp! [])
  rw [show iter .seq [d] = some (L.map Rt) from hd]
  simp! []
  rw [for_eqI (fun (acc : List Rat) (c : Cell × Cell) => [.im d, .ow (acc.map Rt), c.1, c.2, .un]) (fun acc r => (.im (Rt r), .im (.int (acc.filter fun o => decide (o < r)).length))) srIns (fun i acc => acc.length ≤ i ∧ (∀ x ∈ acc, Bz n x)) [] (.un, .un) ⟨Nat.le_refl _, by simp⟩ ?_ fun i hi acc c hi' => ⟨?_, ?_⟩]
  · simp! []
    ((first | rw [xo_lk] | rw [lk_def]); simp! [])
    ((first | rw [xo_lk] | rw [lk_def]); simp! [])
    rfl
  · rfl
  · obtain ⟨ha, hb⟩ := hi'
    obtain ⟨c1, c2⟩ := c
    have hr := hL _ (List.getElem_mem hi)
    simp! []
    ((first | rw [xo_lk] | rw [lk_def]); simp! [])
    rw [comp_fil (l := acc) Rt (fun o => decide (o < L[i])) Rt (by rw [lim_eq]; omega) (by simp! []) fun o ho => ⟨_, rfl, by have := hb o ho; simp! [t_less], fun _ => by simp! []⟩]
    simp! []
    have hle := List.length_filter_le (fun o => decide (o < L[i])) acc
    have f1 : acc.length < 4000 := by omega
    have f2 : ((acc.filter fun o => decide (o < L[i])).length : Int) ≤ 100000000 := by omega
    have f3 : (0 : Int) ≤ ((acc.filter fun o => decide (o < L[i])).length : Int) := by omega
    unfold srIns
    generalize (acc.filter fun o => decide (o < L[i])).length = at_ at *
    ((first | rw [xo_lk] | rw [lk_def]); simp! [])
    by_cases h1 : at_ = acc.length
    · have h1' : (at_ : Int) = (acc.length : Int) := by rw [h1]
      have f2' : (acc.length : Int) ≤ 100000000 := by omega
      have f3' : (0 : Int) ≤ (acc.length : Int) := by omega
      simp! [h1', h1]
      ((first | rw [xo_lk] | rw [lk_def]); simp! [f1, f2', f3'])
      repeat ((first | rw [xo_lk] | rw [lk_def]); simp! [])
      simp [List.take_of_length_le, List.drop_of_length_le]
    · have h1' : ¬ (at_ : Int) = (acc.length : Int) := by omega
      simp! [h1', h1, ix_lstRt (show at_ < acc.length by omega)]
      by_cases h2 : acc.getD at_ 0 = L[i]
      · simp! [h2]
        repeat ((first | rw [xo_lk] | rw [lk_def]); simp! [])
        simp
      · simp! [h2]
        ((first | rw [xo_lk] | rw [lk_def]); simp! [f1, f2, f3])
        repeat ((first | rw [xo_lk] | rw [lk_def]); simp! [])
        rw [List.getD_eq_getElem?_getD] at h2
        simp [h2, List.map_take, List.map_drop]
  · obtain ⟨ha, hb⟩ := hi'
    have hr := hL _ (List.getElem_mem hi)
    unfold srIns
    split
    · constructor
      · simp only [List.length_append, List.length_take, List.length_drop, List.length_cons, List.length_nil]; omega
      · intro x hx
        simp only [List.mem_append, List.mem_cons, List.not_mem_nil, or_false] at hx
        rcases hx with (hx | rfl) | hx
        · exact hb x (List.mem_of_mem_take hx)
        · exact hr
        · exact hb x (List.mem_of_mem_drop hx)
    · exact ⟨by omega, hb⟩
def sts (r : Rw) : List Rat := r.map Pc.s
def allS (a b : Rw) : List Rat := srt (sts a ++ sts b)
theorem s_all_starts [FN P "sorted_ratios" RF.sorted_ratios] [FN P "all_starts" RF.all_starts] {a b : Rw} (ha : RB n a) (hb : RB n b) (hl : a.length + b.length ≤ 1000) (hs : n ≤ 4000) (hk : 4 ≤ k) : call P k "all_starts" [rwD a, rwD b] = ret (.lst ((allS a b).map Rt)) := by
  rw [call_fnd RF.all_starts (by omega) rfl rfl]
  unfold RF.all_starts rwD
  have e : bop .add (.tup (a.map pcD)) (.tup (b.map pcD)) = some (.tup ((a ++ b).map pcD)) := by
    rw [bop_addT (by rw [List.length_map, List.length_map, lim_eq]; omega), List.map_append]
  ((first | rw [xo_lk] | rw [lk_def]); simp! [])
  rw [comp_map (l := a ++ b) pcD (fun p => Rt p.s) (by rw [List.length_append, lim_eq]; omega) (by simp! [e]) fun p hp => by simp! [ix_pc0]]
  have hd : items (.lst ((a ++ b).map fun p => Rt p.s)) = some ((sts a ++ sts b).map Rt) := by
    unfold sts
    rw [← List.map_append, List.map_map]; rfl
  simp! []
  rw [s_sorted_ratios hd (n := n) (fun x hx => by
    unfold sts at hx
    rw [← List.map_append] at hx
    obtain ⟨p, hp, rfl⟩ := List.mem_map.mp hx
    rcases List.mem_append.mp hp with z | z
    · exact (ha p z).s
    · exact (hb p z).s) (by unfold sts; rw [List.length_append, List.length_map, List.length_map]; omega) hs (by omega)]
  simp! []
  rfl
/-- the sum of two rows -/
def addR (a b : Rw) : Rw := nrm (smp (fun x => val a x + val b x) (fun x => slp a x + slp b x) (allS a b))
theorem allS_len (a b : Rw) : (allS a b).length ≤ a.length + b.length := by
  have := srt_len (sts a ++ sts b)
  unfold allS
  unfold sts at *
  rw [List.length_append, List.length_map, List.length_map] at this
  exact this
theorem mem_allS {a b : Rw} {x : Rat} : x ∈ allS a b ↔ (∃ p ∈ a, p.s = x) ∨ ∃ p ∈ b, p.s = x := by
  unfold allS sts
  rw [mem_srt, List.mem_append, List.mem_map, List.mem_map]
theorem allS_bz {a b : Rw} (ha : RB n a) (hb : RB n b) {x : Rat} (hx : x ∈ allS a b) : Bz n x := by
  rcases mem_allS.mp hx with ⟨p, hp, rfl⟩ | ⟨p, hp, rfl⟩
  · exact (ha p hp).s
  · exact (hb p hp).s
theorem smp_map {f g : Rat → Rat} {L : List Rat} : (smp f g L).map pcD = L.map fun x => .tup [Rt x, Rt (f x), Rt (g x)] := by
  unfold smp; rw [List.map_map]; rfl
theorem s_added [FN P "along" RF.along] [FN P "limited" RF.limited] [GN P "MAX_PIECES" (.int 60)] [FN P "normal" RF.normal] [FN P "piece_at" RF.piece_at] [FN P "value_at" RF.value_at] [FN P "slope_at" RF.slope_at] [FN P "sorted_ratios" RF.sorted_ratios] [FN P "all_starts" RF.all_starts] [FN P "added" RF.added]
    {a b : Rw} (ha : RB n a) (hb : RB n b) (a0 : a ≠ []) (b0 : b ≠ []) (hl : a.length + b.length ≤ 60) (hs : 24 * n + 20 ≤ 4000) (hk : 8 ≤ k) : call P k "added" [rwD a, rwD b] = ret (rwD (addR a b)) := by
  rw [call_fnd RF.added (by omega) rfl rfl]
  unfold RF.added
  ((first | rw [xo_lk] | rw [lk_def]); simp! [])
  ((first | rw [xo_lk] | rw [lk_def]); simp! [s_all_starts ha hb])
  have hlen := allS_len a b
  rw [for_eqI (fun (acc : List Rat) c => [.im (rwD a), .im (rwD b), .ow ((smp (fun x => val a x + val b x) (fun x => slp a x + slp b x) acc).map pcD), c]) (fun _ x => .im (Rt x)) (fun acc x => acc ++ [x]) (fun i acc => acc.length ≤ i) [] .un (Nat.le_refl _) ?_ fun i hi acc c hi' => ⟨?_, ?_⟩]
  · have hf : ∀ (l acc : List Rat), l.foldl (fun acc x => acc ++ [x]) acc = acc ++ l := by
      intro l
      induction l with
      | nil => intro acc; simp
      | cons x l ih => intro acc; rw [List.foldl_cons, ih]; simp
    rw [hf, List.nil_append]
    simp! []
    ((first | rw [xo_lk] | rw [lk_def]); simp! [])
    have hb2 : RB (8 * n + 6) (smp (fun x => val a x + val b x) (fun x => slp a x + slp b x) (allS a b)) := by
      intro p hp
      obtain ⟨x, hx, rfl⟩ := List.mem_map.mp hp
      have hx := allS_bz ha hb hx
      exact ⟨hx.mono (by omega), ((ha.val a0 hx).add (hb.val b0 hx)).mono (by omega), ((ha.slp a0).add (hb.slp b0)).mono (by omega)⟩
    have h60 : (smp (fun x => val a x + val b x) (fun x => slp a x + slp b x) (allS a b)).length ≤ 60 := by unfold smp; rw [List.length_map]; omega
    ((first | rw [xo_lk] | rw [lk_def]); simp! [s_limited (xs := (smp (fun x => val a x + val b x) (fun x => slp a x + slp b x) (allS a b)).map pcD) (by rw [List.length_map]; exact h60)])
    have := s_normal (P := P) (k := k - 1) hb2 h60 (by omega) (by omega)
    rw [show D.tup ((smp (fun x => val a x + val b x) (fun x => slp a x + slp b x) (allS a b)).map pcD) = rwD (smp (fun x => val a x + val b x) (fun x => slp a x + slp b x) (allS a b)) from rfl, this]
    simp! []
    rfl
  · rfl
  · have hx := allS_bz ha hb (List.getElem_mem hi)
    have f1 : acc.length < 4000 := by omega
    simp! []
    ((first | rw [xo_lk] | rw [lk_def]); simp! [s_value_at a0 ha hx, s_value_at b0 hb hx, s_slope_at a0 ha hx, s_slope_at b0 hb hx, t_plus])
    have e1 : (smp (fun x => val a x + val b x) (fun x => slp a x + slp b x) acc).length < 4000 := by unfold smp; rw [List.length_map]; exact f1
    ((first | rw [xo_lk] | rw [lk_def]); simp! [e1])
    unfold smp
    simp [pcD]
  · simp; omega
end
end PL

set_option autoImplicit false
set_option linter.all false
set_option maxRecDepth 100000
set_option maxHeartbeats 2000000
set_option exponentiation.threshold 20000
/-! N5: more functions of rows. -/
namespace PL
local macro_rules
  | `(tactic| simp! [$as,*]) => `(tactic| simp (disch := (first | omega | assumption | array_get_dec)) only [lk_asg, lk_asgT, lk_own, lk_iff, lk_ret, lk_retN, lk_app, lk_ins, lk_nil, lk_brk, lk_cnt, lk_pas, lk_frz, lk_par, lk_par3, lk_whl, lk_ext, lk_aug, lk_fr, cont_nx, cont_rt, cont_bk, cont_ct, ev_var, ev_bvar, ev_glob, ev_lit, ev_bin, ev_neg, ev_no, ev_and, ev_or, ev_cmp, ev_chn, ev_isi, ev_ite, ev_idx, ev_sl1, ev_sl2, ev_sl3, ev_rev, ev_tup, ev_lst, ev_bi, ev_call, evL_nil, evL_cons, evA_one, evA_cons, evO_one, evO_cons, evC_nil, evC_cons, getV_zero, getV_succ, getB_zero, getB_ow, getB_succ, getO_zero, getO_succ, List.set_cons_zero, List.set_cons_succ, bnd_ret, bnd_assoc, lft_some, lft_none, bnd_stk, truth_bl, truth_int, truth_non, truth_tup, truth_lst, toI_int, ix_tup0, ix_tup1, ix_tup2, cop_eqI, cop_neI, cop_lt, cop_le, cop_gt, cop_ge, cop_is, cop_isnot, cop_eqR, cop_neR, bop_addI, bop_subI, bnd_ite, run_ret, run_bnd, endF_ret, endF_nx, tst_lk, bindT_nm, bindT_tu, bindTs_nil, bindTs_cons, Option.bind_some, Option.map_some, if_true_eq, if_false_eq, Bool.not_true, Bool.not_false, decide_true, decide_false, Bool.not_eq_true, Bool.not_eq_false, decide_eq_true_eq, if_true, if_false, ite_true_t, ite_false_t, len_tupB, len_lstB, tupB_lst, lstB_tup, wipe_nil, wipe_cons, List.map_cons, List.map_nil, isSame_nn, isSame_tn, Bool.false_eq_true, reduceCtorEq, Nat.reduceLeDiff, List.length_cons, List.length_nil, Nat.reduceAdd, lim_eq, asLlst, cellOf_f, cellOf_t, iter_seqT, iter_seqL', List.cons_append, List.nil_append, List.append_nil, Nat.reduceSub, List.replicate_succ, List.replicate_zero, frz_ow, frz_im, frz_un, frz_succ, Nat.reduceLT, Nat.reduceEqDiff, Int.reduceLT, Int.reduceLE, Int.reduceEq, Int.reduceNeg, Int.reduceAdd, Int.reduceSub, List.isEmpty_nil, List.isEmpty_cons, true_and, and_true, false_and, and_false, Bool.true_and, Bool.false_and, Bool.and_true, Bool.and_false, Bool.true_or, Bool.false_or, Bool.or_true, Bool.or_false, List.length_append, List.length_map, eq_self, isSame_bl, $as,*])
local macro_rules
  | `(tactic| array_get_dec) => `(tactic| (apply Bz.sz'; (focus (repeat' (with_reducible first | assumption | exact Bz.zero1 | apply Bz.add | apply Bz.sub | apply Bz.mul | apply PB.at | (apply PB.s; assumption) | (apply PB.v; assumption) | (apply PB.m; assumption) | (apply RB.val; assumption; assumption) | (apply RB.slp; assumption; assumption)))); omega))
/-! ### the sum as a function -/
theorem addR_spec {a b : Rw} (ha : Asc a) (hb : Asc b) (a0 : a ≠ []) (b0 : b ≠ []) {t : Rat} (h1 : (Rw.hd a).s = t) (h2 : (Rw.hd b).s = t) {x : Rat} (hx : t ≤ x) :
    val (addR a b) x = val a x + val b x ∧ slp (addR a b) x = slp a x + slp b x := by
  have hs := srt_sorted (sts a ++ sts b)
  have ht : t ∈ allS a b := mem_allS.mpr (.inl ⟨_, Rw.hd_mem a0, h1⟩)
  have hmin : ∀ y ∈ allS a b, t ≤ y := by
    intro y hy
    have key : ∀ (r : Rw), Asc r → (Rw.hd r).s = t → ∀ p ∈ r, t ≤ p.s := by
      intro r hr h p hp
      cases r with
      | nil => cases hp
      | cons q r =>
        have h : q.s = t := h
        rcases List.mem_cons.mp hp with rfl | hp
        · rw [h]; exact Rat.le_refl
        · have := hr.lt hp; grind
    rcases mem_allS.mp hy with ⟨p, hp, rfl⟩ | ⟨p, hp, rfl⟩
    · exact key a ha h1 p hp
    · exact key b hb h2 p hp
  unfold addR
  have hasc : Asc (smp (fun x => val a x + val b x) (fun x => slp a x + slp b x) (allS a b)) := smp_asc hs
  rw [val_nrm hasc, slp_nrm hasc]
  cases hL : allS a b with
  | nil => rw [hL] at ht; cases ht
  | cons u L =>
    have hu : u ≤ x := by
      rw [hL] at ht
      have := hmin u (by rw [hL]; exact List.mem_cons_self)
      have hp : (u :: L).Pairwise (· < ·) := by rw [← hL]; exact hs
      rcases List.mem_cons.mp ht with e | e
      · grind
      · have := (List.pairwise_cons.mp hp).1 t e; grind
    refine val_smp (by rw [← hL]; exact hs) (fun y hy z hyz hz => ?_) hu
    have va := val_line ha hyz fun p hp hpz => hz p.s (by rw [← hL]; exact mem_allS.mpr (.inl ⟨p, hp, rfl⟩)) hpz
    have vb := val_line hb hyz fun p hp hpz => hz p.s (by rw [← hL]; exact mem_allS.mpr (.inr ⟨p, hp, rfl⟩)) hpz
    rw [va.1, vb.1, va.2, vb.2]
    exact ⟨by grind, rfl⟩
theorem addR_asc {a b : Rw} : Asc (addR a b) := nrm_asc (smp_asc (srt_sorted _))
theorem addR_ne {a b : Rw} (a0 : a ≠ []) : addR a b ≠ [] := by
  refine nrm_ne fun z => ?_
  have : allS a b = [] := List.map_eq_nil_iff.mp z
  have h := mem_allS (a := a) (b := b).mpr (.inl ⟨_, Rw.hd_mem a0, rfl⟩)
  rw [this] at h; cases h
theorem addR_len (a b : Rw) : (addR a b).length ≤ a.length + b.length := by
  have h1 := nrm_len (smp (fun x => val a x + val b x) (fun x => slp a x + slp b x) (allS a b))
  have h2 := allS_len a b
  unfold addR
  unfold smp at h1 ⊢
  rw [List.length_map] at h1
  omega
/-- a row all of whose pieces are changed alike -/
def mapR (f g h : Rat → Rat) (r : Rw) : Rw := r.map fun p => ⟨f p.s, g p.v, h p.m⟩
theorem mapR_rp {f g h : Rat → Rat} (hf : ∀ x y, x < y ↔ f x < f y) {r : Rw} (r0 : r ≠ []) (x : Rat) : rp (mapR f g h r) (f x) = (fun p => ⟨f p.s, g p.v, h p.m⟩ : Pc → Pc) (rp r x) := by
  have key : ∀ (r : Rw) (q : Pc), pcAt (⟨f q.s, g q.v, h q.m⟩ : Pc) (mapR f g h r) (f x) = (fun p => ⟨f p.s, g p.v, h p.m⟩ : Pc → Pc) (pcAt q r x) := by
    intro r
    induction r with
    | nil => intro q; rfl
    | cons p r ih =>
      intro q
      show pcAt (if f x < f p.s then (⟨f q.s, g q.v, h q.m⟩ : Pc) else ⟨f p.s, g p.v, h p.m⟩) (mapR f g h r) (f x) = _
      rw [pcAt_cons]
      by_cases hx : x < p.s
      · rw [if_pos hx, if_pos ((hf _ _).mp hx)]; exact ih q
      · rw [if_neg hx, if_neg fun z => hx ((hf _ _).mpr z)]; exact ih p
  cases r with
  | nil => exact absurd rfl r0
  | cons p r => exact key (p :: r) p
theorem mapR_asc {f g h : Rat → Rat} (hf : ∀ x y, x < y ↔ f x < f y) {r : Rw} (hr : Asc r) : Asc (mapR f g h r) := by
  unfold mapR Asc
  rw [List.pairwise_map]
  exact hr.imp fun h => (hf _ _).mp h
theorem mapR_ne {f g h : Rat → Rat} {r : Rw} (r0 : r ≠ []) : mapR f g h r ≠ [] := fun z => r0 (List.map_eq_nil_iff.mp z)
theorem mapR_hd {f g h : Rat → Rat} {r : Rw} (r0 : r ≠ []) : Rw.hd (mapR f g h r) = ⟨f (Rw.hd r).s, g (Rw.hd r).v, h (Rw.hd r).m⟩ := by
  cases r with
  | nil => exact absurd rfl r0
  | cons p r => rfl
theorem mapR_len {f g h : Rat → Rat} {r : Rw} : (mapR f g h r).length = r.length := List.length_map ..
def sclR (r : Rw) (c : Rat) : Rw := nrm (mapR id (· * c) (· * c) r)
theorem sclR_spec {r : Rw} (hr : Asc r) (r0 : r ≠ []) (c x : Rat) : val (sclR r c) x = val r x * c ∧ slp (sclR r c) x = slp r x * c := by
  have ha : Asc (mapR id (· * c) (· * c) r) := mapR_asc (fun _ _ => Iff.rfl) hr
  unfold sclR
  rw [val_nrm ha, slp_nrm ha]
  have e := mapR_rp (f := id) (g := (· * c)) (h := (· * c)) (fun _ _ => Iff.rfl) r0 x
  unfold val slp
  rw [show x = id x from rfl, e]
  refine ⟨?_, rfl⟩
  unfold Pc.at
  simp only [id]
  grind
theorem sclR_asc {r : Rw} (hr : Asc r) (c : Rat) : Asc (sclR r c) := nrm_asc (mapR_asc (fun _ _ => Iff.rfl) hr)
theorem sclR_ne {r : Rw} (r0 : r ≠ []) (c : Rat) : sclR r c ≠ [] := nrm_ne (mapR_ne r0)
theorem sclR_hd {r : Rw} (r0 : r ≠ []) (c : Rat) : (Rw.hd (sclR r c)).s = (Rw.hd r).s := by unfold sclR; rw [nrm_hd, mapR_hd r0]; rfl
theorem sclR_len (r : Rw) (c : Rat) : (sclR r c).length ≤ r.length := by have := nrm_len (mapR id (· * c) (· * c) r); rw [mapR_len] at this; exact this
theorem addR_hd {a b : Rw} (ha : Asc a) (hb : Asc b) (a0 : a ≠ []) (b0 : b ≠ []) {t : Rat} (h1 : (Rw.hd a).s = t) (h2 : (Rw.hd b).s = t) : (Rw.hd (addR a b)).s = t := by
  have hs := srt_sorted (sts a ++ sts b)
  have ht : t ∈ allS a b := mem_allS.mpr (.inl ⟨_, Rw.hd_mem a0, h1⟩)
  unfold addR
  rw [nrm_hd]
  cases hL : allS a b with
  | nil => rw [hL] at ht; cases ht
  | cons u L =>
    show u = t
    have hp : (u :: L).Pairwise (· < ·) := by rw [← hL]; exact hs
    rw [hL] at ht
    rcases List.mem_cons.mp ht with e | e
    · exact e.symm
    · have h3 := (List.pairwise_cons.mp hp).1 t e
      have hu : u ∈ allS a b := by rw [hL]; exact List.mem_cons_self
      have key : ∀ (r : Rw), Asc r → (Rw.hd r).s = t → ∀ p ∈ r, t ≤ p.s := by
        intro r hr h p hp
        cases r with
        | nil => cases hp
        | cons q r =>
          have h : q.s = t := h
          rcases List.mem_cons.mp hp with rfl | hp
          · rw [h]; exact Rat.le_refl
          · have := hr.lt hp; grind
      rcases mem_allS.mp hu with ⟨p, hq, e⟩ | ⟨p, hq, e⟩
      · have := key a ha h1 p hq; grind
      · have := key b hb h2 p hq; grind
/-- a row from further on -/
def mov0 (r : Rw) (a : Rat) : Rw := ⟨0, val r a, slp r a⟩ :: (r.filter fun p => decide (a < p.s)).map fun p => ⟨p.s - a, p.v, p.m⟩
def movR (r : Rw) (a : Rat) : Rw := nrm (mov0 r a)
theorem movR_asc0 {r : Rw} (hr : Asc r) (a : Rat) : Asc (mov0 r a) := by
  refine List.pairwise_cons.mpr ⟨fun q hq => ?_, ?_⟩
  · obtain ⟨p, hp, rfl⟩ := List.mem_map.mp hq
    have := of_decide_eq_true (List.mem_filter.mp hp).2
    show (0 : Rat) < p.s - a
    grind
  · rw [List.pairwise_map]
    exact (hr.filter _).imp fun h => by show _ - a < _ - a; grind
theorem movR_spec {r : Rw} (hr : Asc r) {a : Rat} {x : Rat} (hx : 0 ≤ x) : val (movR r a) x = val r (x + a) ∧ slp (movR r a) x = slp r (x + a) := by
  unfold movR
  rw [val_nrm (movR_asc0 hr a), slp_nrm (movR_asc0 hr a)]
  -- by the rows behind a
  have key : ∀ (r : Rw), Asc r → ∀ (p : Pc), Asc (p :: r) → ∀ (q : Pc), q.m = p.m → (∀ y, q.at y = p.at (y + a)) → q.s = 0 → p.s ≤ a →
      ∀ x, 0 ≤ x → val (q :: (r.filter fun p => decide (a < p.s)).map fun p => ⟨p.s - a, p.v, p.m⟩) x = val (p :: r) (x + a) → True := fun _ _ _ _ _ _ _ _ _ _ _ _ => trivial
  have gen : ∀ (r : Rw), Asc r → ∀ (f : Pc) (x : Rat), 0 ≤ x → (pcAt ⟨0, (pcAt f r a).at a, (pcAt f r a).m⟩ ((r.filter fun p => decide (a < p.s)).map fun p => ⟨p.s - a, p.v, p.m⟩) x).m = (pcAt f r (x + a)).m ∧
      (pcAt ⟨0, (pcAt f r a).at a, (pcAt f r a).m⟩ ((r.filter fun p => decide (a < p.s)).map fun p => ⟨p.s - a, p.v, p.m⟩) x).at x = (pcAt f r (x + a)).at (x + a) := by
    intro r
    induction r with
    | nil =>
      intro _ f x _
      refine ⟨rfl, ?_⟩
      show (f.at a) + f.m * (x - 0) = f.at (x + a)
      unfold Pc.at; grind
    | cons p r ih =>
      intro hr f x hx
      by_cases hp : a < p.s
      · -- all from here on lie behind a
        have hall : ∀ q ∈ p :: r, a < q.s := by
          intro q hq
          rcases List.mem_cons.mp hq with rfl | hq
          · exact hp
          · have := hr.lt hq; grind
        rw [pcAt_lt hall]
        have e : (p :: r).filter (fun p => decide (a < p.s)) = p :: r := by
          rw [List.filter_eq_self]; intro q hq; exact decide_eq_true (hall q hq)
        rw [e]
        have run : ∀ (l : Rw) (g f : Pc), g.m = f.m → g.at x = f.at (x + a) → (pcAt g (l.map fun p => (⟨p.s - a, p.v, p.m⟩ : Pc)) x).m = (pcAt f l (x + a)).m ∧ (pcAt g (l.map fun p => (⟨p.s - a, p.v, p.m⟩ : Pc)) x).at x = (pcAt f l (x + a)).at (x + a) := by
          intro l
          induction l with
          | nil => intro g f h1 h2; exact ⟨h1, h2⟩
          | cons q l ih2 =>
            intro g f h1 h2
            rw [List.map_cons, pcAt_cons, pcAt_cons]
            by_cases hq : x + a < q.s
            · rw [if_pos hq, if_pos (show x < q.s - a by grind)]; exact ih2 g f h1 h2
            · rw [if_neg hq, if_neg (show ¬ x < q.s - a by grind)]
              refine ih2 _ q rfl ?_
              show q.v + q.m * (x - (q.s - a)) = q.v + q.m * (x + a - q.s)
              grind
        refine run (p :: r) _ f rfl ?_
        show f.at a + f.m * (x - 0) = f.at (x + a)
        unfold Pc.at; grind
      · rw [List.filter_cons_of_neg (by simpa using hp), pcAt_cons, pcAt_cons, if_neg hp, if_neg (show ¬ x + a < p.s by grind)]
        exact ih hr.tail p x hx
  have h := gen r hr (Rw.hd r) x hx
  unfold mov0
  have c0 : ∀ l : Rw, rp ((⟨0, val r a, slp r a⟩ : Pc) :: l) x = pcAt ⟨0, val r a, slp r a⟩ l x := by
    intro l
    show pcAt _ (_ :: l) x = _
    rw [pcAt_cons]
    congr 1
    split <;> rfl
  unfold val slp at *
  rw [c0]
  exact ⟨h.2, h.1⟩
theorem movR_asc {r : Rw} (hr : Asc r) (a : Rat) : Asc (movR r a) := nrm_asc (movR_asc0 hr a)
theorem movR_ne (r : Rw) (a : Rat) : movR r a ≠ [] := nrm_ne (List.cons_ne_nil _ _)
theorem movR_hd (r : Rw) (a : Rat) : (Rw.hd (movR r a)).s = 0 := by unfold movR; rw [nrm_hd]; rfl
theorem movR_len (r : Rw) (a : Rat) : (movR r a).length ≤ r.length + 1 := by
  have := nrm_len (mov0 r a)
  have h2 := List.length_filter_le (fun p : Pc => decide (a < p.s)) r
  unfold movR
  have e : (mov0 r a).length = (r.filter fun p => decide (a < p.s)).length + 1 := by unfold mov0; rw [List.length_cons, List.length_map]
  omega
section
variable {β : Type} {P : Prog β} {k n m : Nat} [FRat P]
theorem s_scaled [FN P "along" RF.along] [FN P "limited" RF.limited] [GN P "MAX_PIECES" (.int 60)] [FN P "normal" RF.normal] [FN P "scaled" RF.scaled] {r : Rw} {c : Rat} (hr : RB n r) (hc : Bz m c) (hl : r.length ≤ 60) (hs : 3 * (n + m) + 1 ≤ 4000) (hk : 7 ≤ k) :
    call P k "scaled" [rwD r, Rt c] = ret (rwD (sclR r c)) := by
  rw [call_fnd RF.scaled (by omega) rfl rfl]
  unfold RF.scaled
  ((first | rw [xo_lk] | rw [lk_def]); simp! [])
  rw [comp_map (l := r) pcD (fun p => pcD ⟨p.s, p.v * c, p.m * c⟩) (by rw [lim_eq]; omega) (by unfold rwD; simp! []) fun p hp => by
    have := hr p hp
    unfold pcD
    simp! [t_times]]
  have e : D.tup (r.map fun p => pcD ⟨p.s, p.v * c, p.m * c⟩) = rwD (mapR id (· * c) (· * c) r) := by unfold rwD mapR; rw [List.map_map]; rfl
  have hb : RB (n + m) (mapR id (· * c) (· * c) r) := by
    intro q hq
    obtain ⟨p, hp, rfl⟩ := List.mem_map.mp hq
    have := hr p hp
    exact ⟨this.s.mono (by omega), this.v.mul hc, this.m.mul hc⟩
  simp! [e, s_normal hb (by rw [mapR_len]; exact hl)]
  rfl
theorem s_moved [FN P "along" RF.along] [FN P "limited" RF.limited] [GN P "MAX_PIECES" (.int 60)] [FN P "normal" RF.normal] [FN P "piece_at" RF.piece_at] [FN P "value_at" RF.value_at] [FN P "slope_at" RF.slope_at] [FN P "moved" RF.moved]
    {r : Rw} {a : Rat} (hr : RB n r) (r0 : r ≠ []) (ha : Bz m a) (hl : r.length ≤ 59) (hs : 9 * (n + m) + 7 ≤ 4000) (hk : 7 ≤ k) : call P k "moved" [rwD r, Rt a] = ret (rwD (movR r a)) := by
  rw [call_fnd RF.moved (by omega) rfl rfl]
  unfold RF.moved
  ((first | rw [xo_lk] | rw [lk_def]); simp! [g_zero, s_value_at r0 hr ha, s_slope_at r0 hr ha])
  ((first | rw [xo_lk] | rw [lk_def]); simp! [])
  rw [show iter .seq [rwD r] = some (r.map pcD) from rfl]
  simp! []
  rw [for_eqI (fun (acc : Rw) (c : Cell × Cell × Cell) => [.im (rwD r), .im (Rt a), .ow (acc.map pcD), c.1, c.2.1, c.2.2]) (fun _ p => (.im (Rt p.s), .im (Rt p.v), .im (Rt p.m))) (fun acc p => if a < p.s then acc ++ [⟨p.s - a, p.v, p.m⟩] else acc) (fun i acc => acc.length ≤ i + 1) [⟨0, val r a, slp r a⟩] (.un, .un, .un) (Nat.le_refl _) ?_ fun i hi acc c hi' => ⟨?_, ?_⟩]
  · have hf : ∀ (l acc : Rw), l.foldl (fun acc p => if a < p.s then acc ++ [(⟨p.s - a, p.v, p.m⟩ : Pc)] else acc) acc = acc ++ (l.filter fun p => decide (a < p.s)).map fun p => ⟨p.s - a, p.v, p.m⟩ := by
      intro l
      induction l with
      | nil => intro acc; simp
      | cons p l ih =>
        intro acc
        rw [List.foldl_cons, ih]
        by_cases h : a < p.s
        · rw [if_pos h, List.filter_cons_of_pos (by simpa using h)]; simp
        · rw [if_neg h, List.filter_cons_of_neg (by simpa using h)]
    rw [hf, show [(⟨0, val r a, slp r a⟩ : Pc)] ++ (r.filter fun p => decide (a < p.s)).map (fun p => (⟨p.s - a, p.v, p.m⟩ : Pc)) = mov0 r a from rfl]
    simp! []
    have hb : RB (3 * (n + m) + 2) (mov0 r a) := by
      intro q hq
      rcases List.mem_cons.mp hq with z | z
      · rw [z]
        exact ⟨Bz.zero1.mono (by omega), (hr.val r0 ha).mono (by omega), (hr.slp r0).mono (by omega)⟩
      · obtain ⟨p, hp, rfl⟩ := List.mem_map.mp z
        have := hr p (List.mem_filter.mp hp).1
        exact ⟨(this.s.sub ha).mono (by omega), this.v.mono (by omega), this.m.mono (by omega)⟩
    have h2 := List.length_filter_le (fun p : Pc => decide (a < p.s)) r
    have hlen : (mov0 r a).length ≤ 60 := by unfold mov0; rw [List.length_cons, List.length_map]; omega
    ((first | rw [xo_lk] | rw [lk_def]); simp! [])
    rw [show D.tup ((mov0 r a).map pcD) = rwD (mov0 r a) from rfl, s_normal hb hlen (by omega) (by omega)]
    simp! []
    rfl
  · rfl
  · obtain ⟨c1, c2, c3⟩ := c
    have hp := hr _ (List.getElem_mem hi)
    unfold pcD
    simp! []
    by_cases h : a < r[i].s
    · ((first | rw [xo_lk] | rw [lk_def]); simp! [t_less, h])
      have f : acc.length < 4000 := by omega
      ((first | rw [xo_lk] | rw [lk_def]); simp! [t_minus, f])
      repeat ((first | rw [xo_lk] | rw [lk_def]); simp! [])
      simp
    · ((first | rw [xo_lk] | rw [lk_def]); simp! [t_less, h])
      repeat ((first | rw [xo_lk] | rw [lk_def]); simp! [])
  · split
    · simp; omega
    · omega
end
end PL

set_option autoImplicit false
set_option linter.all false
set_option maxRecDepth 100000
set_option maxHeartbeats 2000000
set_option exponentiation.threshold 20000
/-! N6: steady rows, rows that rise; the judges of rows. -/
namespace PL
local macro_rules
  | `(tactic| simp! [$as,*]) => `(tactic| simp (disch := (first | omega | assumption | array_get_dec)) only [lk_asg, lk_asgT, lk_own, lk_iff, lk_ret, lk_retN, lk_app, lk_ins, lk_nil, lk_brk, lk_cnt, lk_pas, lk_frz, lk_par, lk_par3, lk_whl, lk_ext, lk_aug, lk_fr, cont_nx, cont_rt, cont_bk, cont_ct, ev_var, ev_bvar, ev_glob, ev_lit, ev_bin, ev_neg, ev_no, ev_and, ev_or, ev_cmp, ev_chn, ev_isi, ev_ite, ev_idx, ev_sl1, ev_sl2, ev_sl3, ev_rev, ev_tup, ev_lst, ev_bi, ev_call, evL_nil, evL_cons, evA_one, evA_cons, evO_one, evO_cons, evC_nil, evC_cons, getV_zero, getV_succ, getB_zero, getB_ow, getB_succ, getO_zero, getO_succ, List.set_cons_zero, List.set_cons_succ, bnd_ret, bnd_assoc, lft_some, lft_none, bnd_stk, truth_bl, truth_int, truth_non, truth_tup, truth_lst, toI_int, ix_tup0, ix_tup1, ix_tup2, cop_eqI, cop_neI, cop_lt, cop_le, cop_gt, cop_ge, cop_is, cop_isnot, cop_eqR, cop_neR, bop_addI, bop_subI, bnd_ite, run_ret, run_bnd, endF_ret, endF_nx, tst_lk, bindT_nm, bindT_tu, bindTs_nil, bindTs_cons, Option.bind_some, Option.map_some, if_true_eq, if_false_eq, Bool.not_true, Bool.not_false, decide_true, decide_false, Bool.not_eq_true, Bool.not_eq_false, decide_eq_true_eq, if_true, if_false, ite_true_t, ite_false_t, len_tupB, len_lstB, tupB_lst, lstB_tup, wipe_nil, wipe_cons, List.map_cons, List.map_nil, isSame_nn, isSame_tn, Bool.false_eq_true, reduceCtorEq, Nat.reduceLeDiff, List.length_cons, List.length_nil, Nat.reduceAdd, lim_eq, asLlst, cellOf_f, cellOf_t, iter_seqT, iter_seqL', List.cons_append, List.nil_append, List.append_nil, Nat.reduceSub, List.replicate_succ, List.replicate_zero, frz_ow, frz_im, frz_un, frz_succ, Nat.reduceLT, Nat.reduceEqDiff, Int.reduceLT, Int.reduceLE, Int.reduceEq, Int.reduceNeg, Int.reduceAdd, Int.reduceSub, List.isEmpty_nil, List.isEmpty_cons, true_and, and_true, false_and, and_false, Bool.true_and, Bool.false_and, Bool.and_true, Bool.and_false, Bool.true_or, Bool.false_or, Bool.or_true, Bool.or_false, List.length_append, List.length_map, eq_self, isSame_bl, $as,*])
local macro_rules
  | `(tactic| array_get_dec) => `(tactic| (apply Bz.sz'; (focus (repeat' (with_reducible first | assumption | exact Bz.zero1 | apply Bz.add | apply Bz.sub | apply Bz.mul | apply PB.at | (apply PB.s; assumption) | (apply PB.v; assumption) | (apply PB.m; assumption) | (apply RB.val; assumption; assumption) | (apply RB.slp; assumption; assumption)))); omega))
/-- no jumps -/
def Stdy : Rw → Prop
  | p :: q :: r => p.at q.s = q.v ∧ Stdy (q :: r)
  | _ => True
def rising (r : Rw) : Prop := ∀ p ∈ r, 0 ≤ p.m
theorem Stdy.tail {p : Pc} {r : Rw} (h : Stdy (p :: r)) : Stdy r := by
  cases r with
  | nil => trivial
  | cons q r => exact h.2
theorem Pc.at_mono {p : Pc} (h : 0 ≤ p.m) {x y : Rat} (hxy : x ≤ y) : p.at x ≤ p.at y := by
  unfold Pc.at
  have : p.m * (x - p.s) ≤ p.m * (y - p.s) := Rat.mul_le_mul_of_nonneg_left (by grind) h
  grind
theorem val_hd {p : Pc} : ∀ {r : Rw}, Asc (p :: r) → val (p :: r) p.s = p.v
  | [], _ => by rw [val_one]; unfold Pc.at; grind
  | q :: r, h => by
    rw [val_cons h, if_pos (h.lt List.mem_cons_self)]
    unfold Pc.at; grind
/-- values never fall along a steady row with slopes from nought on -/
theorem val_mono : ∀ {r : Rw}, Asc r → Stdy r → rising r → ∀ {x y : Rat}, x ≤ y → val r x ≤ val r y
  | [], _, _, _, x, y, _ => by
    show (Rw.hd []).at x ≤ (Rw.hd []).at y
    have : (Rw.hd []).m = 0 := rfl
    exact Pc.at_mono (by rw [this]; exact Rat.le_refl) ‹_›
  | [p], _, _, hr, x, y, h => by rw [val_one, val_one]; exact Pc.at_mono (hr p List.mem_cons_self) h
  | p :: q :: r, ha, hs, hr, x, y, h => by
    have hr2 : rising (q :: r) := fun a h => hr a (List.mem_cons_of_mem _ h)
    have ih : ∀ {x y : Rat}, x ≤ y → val (q :: r) x ≤ val (q :: r) y := val_mono ha.tail hs.tail hr2
    have hp := hr p List.mem_cons_self
    rw [val_cons ha, val_cons ha]
    by_cases hx : x < q.s
    · rw [if_pos hx]
      by_cases hy : y < q.s
      · rw [if_pos hy]; exact Pc.at_mono hp h
      · rw [if_neg hy]
        have h1 : p.at x ≤ p.at q.s := Pc.at_mono hp (by grind)
        have h2 : val (q :: r) q.s = q.v := val_hd ha.tail
        have h3 : val (q :: r) q.s ≤ val (q :: r) y := ih (by grind)
        have h4 := hs.1
        grind
    · rw [if_neg hx, if_neg (by grind)]; exact ih h
/-! ### from below -/
def lpAt (f : Pc) (r : Rw) (x : Rat) : Pc := r.foldl (fun f p => if p.s < x then p else f) f
def lp (r : Rw) (x : Rat) : Pc := lpAt (Rw.hd r) r x
def lval (r : Rw) (x : Rat) : Rat := (lp r x).at x
theorem lpAt_mem : ∀ (r : Rw) (f : Pc) (x : Rat), lpAt f r x = f ∨ lpAt f r x ∈ r
  | [], _, _ => .inl rfl
  | p :: r, f, x => by
    unfold lpAt
    rw [List.foldl_cons]
    rcases lpAt_mem r (if p.s < x then p else f) x with h | h
    · by_cases hx : p.s < x
      · rw [if_pos hx] at h ⊢; exact .inr (by rw [show List.foldl _ p r = p from h]; exact List.mem_cons_self)
      · rw [if_neg hx] at h ⊢; exact .inl h
    · exact .inr (List.mem_cons_of_mem _ h)
theorem lp_mem {r : Rw} (h : r ≠ []) (x : Rat) : lp r x ∈ r := by
  rcases lpAt_mem r (Rw.hd r) x with e | e
  · unfold lp; rw [e]; exact Rw.hd_mem h
  · exact e
theorem lpAt_lt {f : Pc} {x : Rat} : ∀ {r : Rw}, (∀ p ∈ r, ¬ p.s < x) → lpAt f r x = f
  | [], _ => rfl
  | p :: r, h => by
    unfold lpAt
    rw [List.foldl_cons, if_neg (h p List.mem_cons_self)]
    exact lpAt_lt fun q hq => h q (List.mem_cons_of_mem _ hq)
theorem lpAt_cons (f p : Pc) (r : Rw) (x : Rat) : lpAt f (p :: r) x = lpAt (if p.s < x then p else f) r x := rfl
theorem lp_one (p : Pc) (x : Rat) : lp [p] x = p := by
  show (if p.s < x then p else p) = p
  split <;> rfl
theorem lp_cons {p q : Pc} {r : Rw} (h : Asc (p :: q :: r)) (x : Rat) : lp (p :: q :: r) x = if q.s < x then lp (q :: r) x else p := by
  unfold lp
  show lpAt p (p :: q :: r) x = if q.s < x then lpAt q (q :: r) x else p
  rw [lpAt_cons, lpAt_cons, lpAt_cons]
  have e : (if p.s < x then p else p) = p := by split <;> rfl
  have e2 : (if q.s < x then q else q) = q := by split <;> rfl
  rw [e, e2]
  by_cases hx : q.s < x
  · rw [if_pos hx, if_pos hx]
  · rw [if_neg hx, if_neg hx]
    exact lpAt_lt fun p' hp' => by have := h.tail.lt hp'; grind
/-- a steady row comes to each start from below as it goes on -/
theorem lval_steady : ∀ {r : Rw}, Asc r → Stdy r → ∀ x, lval r x = val r x
  | [], _, _, x => rfl
  | [p], _, _, x => by unfold lval; rw [lp_one, val_one]
  | p :: q :: r, ha, hs, x => by
    unfold lval
    rw [lp_cons ha, val_cons ha]
    by_cases h1 : q.s < x
    · rw [if_pos h1, if_neg (by grind)]
      exact lval_steady ha.tail hs.tail x
    · rw [if_neg h1]
      by_cases h2 : x < q.s
      · rw [if_pos h2]
      · rw [if_neg h2]
        have : x = q.s := by grind
        rw [this, val_hd ha.tail]
        exact hs.1
def stB (r : Rw) : Bool := (List.range (r.length - 1)).all fun k => decide ((r.getD k default).at (r.getD (k + 1) default).s = (r.getD (k + 1) default).v)
theorem range_all_succ {n : Nat} {p : Nat → Bool} : (List.range (n + 1)).all p = (p 0 && (List.range n).all fun k => p (k + 1)) := by
  rw [List.range_succ_eq_map, List.all_cons, List.all_map]; rfl
theorem stB_cons {p q : Pc} {r : Rw} : stB (p :: q :: r) = (decide (p.at q.s = q.v) && stB (q :: r)) := by
  unfold stB
  show (List.range (r.length + 1)).all _ = (_ && (List.range r.length).all _)
  rw [range_all_succ]; rfl
theorem stB_iff : ∀ {r : Rw}, stB r = true ↔ Stdy r
  | [] => by constructor <;> intro <;> first | trivial | rfl
  | [p] => by constructor <;> intro <;> first | trivial | rfl
  | p :: q :: r => by
    rw [stB_cons, Bool.and_eq_true, decide_eq_true_eq, stB_iff (r := q :: r)]; rfl
def ascB (r : Rw) : Bool := (List.range (r.length - 1)).all fun k => decide ((r.getD k default).s < (r.getD (k + 1) default).s)
theorem ascB_cons {p q : Pc} {r : Rw} : ascB (p :: q :: r) = (decide (p.s < q.s) && ascB (q :: r)) := by
  unfold ascB
  show (List.range (r.length + 1)).all _ = (_ && (List.range r.length).all _)
  rw [range_all_succ]; rfl
theorem ascB_iff : ∀ {r : Rw}, ascB r = true ↔ Asc r
  | [] => by constructor <;> intro <;> first | exact List.Pairwise.nil | rfl
  | [p] => by constructor <;> intro <;> first | exact List.pairwise_singleton _ _ | rfl
  | p :: q :: r => by
    rw [ascB_cons, Bool.and_eq_true, decide_eq_true_eq, ascB_iff (r := q :: r)]
    constructor
    · rintro ⟨h1, h2⟩
      refine List.pairwise_cons.mpr ⟨fun a ha => ?_, h2⟩
      rcases List.mem_cons.mp ha with rfl | ha
      · exact h1
      · have := h2.lt ha; grind
    · intro h; exact ⟨h.lt List.mem_cons_self, h.tail⟩
/-- the values behind normal form: steady, rising -/
theorem nf_stdy : ∀ {r : Rw} {p : Pc}, Stdy (p :: r) → Stdy (nf p r)
  | [], _, _ => trivial
  | q :: r, p, h => by
    unfold nf
    split
    · rename_i hc
      refine nf_stdy ?_
      cases r with
      | nil => trivial
      | cons a r => exact ⟨by rw [Pc.at_eq hc.1 hc.2]; exact h.2.1, h.2.2⟩
    · obtain ⟨t, e⟩ := nf_hd q r
      have := nf_stdy (r := r) (p := q) h.2
      rw [e] at this ⊢
      exact ⟨h.1, this⟩
theorem nrm_stdy {r : Rw} (h : Stdy r) : Stdy (nrm r) := by
  cases r with
  | nil => trivial
  | cons p r => rw [nrm_nf]; exact nf_stdy h
theorem nrm_rising {r : Rw} (h : rising r) : rising (nrm r) := fun p hp => h p (nrm_mem hp)
/-- sampled rows of what is steady are steady: by values at the next place -/
theorem smp_stdy {f g : Rat → Rat} : ∀ {L : List Rat}, (∀ i, i + 1 < L.length → f (L.getD (i + 1) 0) = f (L.getD i 0) + g (L.getD i 0) * (L.getD (i + 1) 0 - L.getD i 0)) → Stdy (smp f g L)
  | [], _ => trivial
  | [a], _ => trivial
  | a :: b :: L, h => by
    refine ⟨?_, smp_stdy (L := b :: L) fun i hi => h (i + 1) (by simp at hi ⊢; omega)⟩
    have := h 0 (by simp)
    show f a + g a * (b - a) = f b
    simp only [List.getD_cons_zero, List.getD_cons_succ] at this
    exact this.symm
/-- the values of a steady row between two places with no start behind the first -/
theorem val_line_s : ∀ {r : Rw}, Asc r → Stdy r → ∀ {x y : Rat}, x ≤ y → (∀ p ∈ r, p.s < y → p.s ≤ x) → val r y = val r x + slp r x * (y - x)
  | [], _, _, x, y, h, hz => (val_line (r := []) List.Pairwise.nil h (by simp)).1
  | [p], _, _, x, y, _, _ => by rw [val_one, val_one, slp_one]; unfold Pc.at; grind
  | p :: q :: r, ha, hs, x, y, hxy, hz => by
    rw [val_cons ha, val_cons ha, slp_cons ha]
    have hq := hz q (by simp)
    by_cases hy : y < q.s
    · rw [if_pos hy, if_pos (by grind), if_pos (by grind)]; unfold Pc.at; grind
    · rw [if_neg hy]
      by_cases hx : x < q.s
      · have hyq : y = q.s := by grind
        rw [if_pos hx, if_pos hx, hyq, val_hd ha.tail, ← hs.1]
        unfold Pc.at; grind
      · rw [if_neg hx, if_neg hx]
        exact val_line_s ha.tail hs.tail hxy fun a hm => hz a (List.mem_cons_of_mem _ hm)
theorem getD_lt_of {L : List Rat} (h : L.Pairwise (· < ·)) {i j : Nat} (hij : i < j) (hj : j < L.length) : L.getD i 0 < L.getD j 0 := by
  rw [getD_at (by omega), getD_at hj]
  exact List.pairwise_iff_getElem.mp h i j (by omega) hj hij
theorem addR_stdy {a b : Rw} (ha : Asc a) (hb : Asc b) (sa : Stdy a) (sb : Stdy b) : Stdy (addR a b) := by
  refine nrm_stdy (smp_stdy fun i hi => ?_)
  have hs : (allS a b).Pairwise (· < ·) := srt_sorted _
  have hlt := getD_lt_of hs (i := i) (j := i + 1) (by omega) hi
  have gap : ∀ z ∈ allS a b, z < (allS a b).getD (i + 1) 0 → z ≤ (allS a b).getD i 0 := by
    intro z hz hlt
    obtain ⟨j, hj, rfl⟩ := List.mem_iff_getElem.mp hz
    rcases Nat.lt_or_ge j (i + 1) with h | h
    · rcases Nat.lt_or_ge j i with h' | h'
      · have := getD_lt_of hs (i := j) (j := i) h' (show i < (allS a b).length by omega)
        rw [getD_at hj] at this
        have : (allS a b)[j] < (allS a b).getD i 0 := this
        grind
      · have : j = i := by omega
        subst this; rw [getD_at hj]; exact Rat.le_refl
    · exfalso
      rcases Nat.lt_or_ge (i + 1) j with h' | h'
      · have := getD_lt_of hs (i := i + 1) (j := j) h' hj
        rw [getD_at hj] at this
        have h3 : (allS a b).getD (i + 1) 0 < (allS a b)[j] := this
        grind
      · have : j = i + 1 := by omega
        subst this
        rw [getD_at hj] at hlt; grind
  have hle : (allS a b).getD i 0 ≤ (allS a b).getD (i + 1) 0 := by
    have : (allS a b).getD i 0 < (allS a b).getD (i + 1) 0 := hlt
    grind
  have va := val_line_s ha sa hle fun p hp hpz => gap p.s (mem_allS.mpr (.inl ⟨p, hp, rfl⟩)) hpz
  have vb := val_line_s hb sb hle fun p hp hpz => gap p.s (mem_allS.mpr (.inr ⟨p, hp, rfl⟩)) hpz
  rw [va, vb]; grind
theorem addR_rising {a b : Rw} (a0 : a ≠ []) (b0 : b ≠ []) (ha : rising a) (hb : rising b) : rising (addR a b) := by
  refine nrm_rising fun p hp => ?_
  obtain ⟨x, _, rfl⟩ := List.mem_map.mp hp
  have h1 := ha _ (rp_mem a0 x)
  have h2 := hb _ (rp_mem b0 x)
  show 0 ≤ (rp a x).m + (rp b x).m
  grind
theorem sclR_stdy {r : Rw} (h : Stdy r) (c : Rat) : Stdy (sclR r c) := by
  refine nrm_stdy ?_
  have : ∀ r : Rw, Stdy r → Stdy (mapR id (· * c) (· * c) r) := by
    intro r
    induction r with
    | nil => intro _; trivial
    | cons p r ih =>
      intro h
      cases r with
      | nil => trivial
      | cons q r =>
        refine ⟨?_, ih h.2⟩
        have h1 := h.1
        unfold Pc.at at h1 ⊢
        show p.v * c + p.m * c * (q.s - p.s) = q.v * c
        rw [← h1]; grind
  exact this r h
theorem movR_stdy {r : Rw} (ha : Asc r) (h : Stdy r) (a : Rat) : Stdy (movR r a) := by
  refine nrm_stdy ?_
  have run : ∀ (r : Rw), Asc r → Stdy r → ∀ (p : Pc), (∀ x, val r x = p.at x → True) → True := fun _ _ _ _ _ => trivial
  have shf : ∀ r : Rw, Stdy r → Stdy (r.map fun p => (⟨p.s - a, p.v, p.m⟩ : Pc)) := by
    intro r
    induction r with
    | nil => intro _; trivial
    | cons p r ih =>
      intro h
      cases r with
      | nil => trivial
      | cons q r =>
        refine ⟨?_, ih h.2⟩
        have h1 := h.1
        unfold Pc.at at h1 ⊢
        show p.v + p.m * (q.s - a - (p.s - a)) = q.v
        rw [← h1]; grind
  have key : ∀ r : Rw, Asc r → Stdy r → Stdy (mov0 r a) := by
    intro r
    induction r with
    | nil => intro _ _; trivial
    | cons p r ih =>
      intro ha hs
      cases r with
      | nil =>
        unfold mov0
        by_cases hp : a < p.s
        · rw [List.filter_cons_of_pos (by simpa using hp)]
          refine ⟨?_, trivial⟩
          rw [val_one, slp_one]
          unfold Pc.at
          show p.v + p.m * (a - p.s) + p.m * (p.s - a - 0) = p.v
          grind
        · rw [List.filter_cons_of_neg (by simpa using hp)]; trivial
      | cons q r =>
        by_cases hq : a < q.s
        · unfold mov0
          rw [val_cons ha, slp_cons ha, if_pos hq, if_pos hq]
          have hall : ∀ b ∈ q :: r, a < b.s := by
            intro b hb
            rcases List.mem_cons.mp hb with rfl | hb
            · exact hq
            · have := ha.tail.lt hb; grind
          have e : (q :: r).filter (fun p => decide (a < p.s)) = q :: r := by
            rw [List.filter_eq_self]; intro b hb; exact decide_eq_true (hall b hb)
          by_cases hp : a < p.s
          · rw [List.filter_cons_of_pos (by simpa using hp), e]
            refine ⟨?_, shf (p :: q :: r) hs⟩
            unfold Pc.at
            show p.v + p.m * (a - p.s) + p.m * (p.s - a - 0) = p.v
            grind
          · rw [List.filter_cons_of_neg (by simpa using hp), e]
            refine ⟨?_, shf (q :: r) hs.2⟩
            have h1 := hs.1
            unfold Pc.at at h1 ⊢
            show p.v + p.m * (a - p.s) + p.m * (q.s - a - 0) = q.v
            rw [← h1]; grind
        · have h2 := ih ha.tail hs.tail
          unfold mov0 at h2 ⊢
          rw [val_cons ha, slp_cons ha, if_neg hq, if_neg hq]
          have hp : ¬ a < p.s := by have := ha.lt (List.mem_cons_self (a := q) (l := r)); grind
          rw [List.filter_cons_of_neg (by simpa using hp)]
          exact h2
  exact key r ha h
section
variable {β : Type} {P : Prog β} {k n m : Nat} [FRat P]
theorem RB.lp {r : Rw} (h : RB n r) (h0 : r ≠ []) (x : Rat) : PB n (PL.lp r x) := h _ (lp_mem h0 x)
theorem s_left_value [FN P "along" RF.along] [FN P "left_value" RF.left_value] {r : Rw} {x : Rat} (h0 : r ≠ []) (hr : RB n r) (hx : Bz m x) (hs : 2 * n + m + 1 ≤ 4000) (hk : 5 ≤ k) : call P k "left_value" [rwD r, Rt x] = ret (Rt (lval r x)) := by
  rw [call_fnd RF.left_value (by omega) rfl rfl]
  unfold RF.left_value rwD
  ((first | rw [xo_lk] | rw [lk_def]); simp! [ix0_row h0])
  ((first | rw [xo_lk] | rw [lk_def]); simp! [])
  rw [for_eq (fun (f : Pc) c => [.im (.tup (r.map pcD)), .im (Rt x), .im (pcD f), c]) (fun _ p => .im (pcD p)) (fun f p => if p.s < x then p else f) (fun _ => True) (Rw.hd r) .un trivial ?_ fun p hp f c _ => ⟨?_, trivial⟩]
  · simp! []
    have h := hr.lp h0 x
    ((first | rw [xo_lk] | rw [lk_def]); simp! [show (List.foldl (fun f p => if p.s < x then p else f) (Rw.hd r) r) = lp r x from rfl, s_along h hx])
    rfl
  · rfl
  · have hp := hr p hp
    simp! []
    ((first | rw [xo_lk] | rw [lk_def]); simp! [t_less, ix_pc0])
    by_cases h : p.s < x <;> simp! [h] <;> repeat ((first | rw [xo_lk] | rw [lk_def]); simp! [])
theorem s_is_steady [FN P "along" RF.along] [FN P "is_steady" RF.is_steady] {r : Rw} (hr : RB n r) (hl : r.length ≤ 60) (h0 : r ≠ []) (hs : 3 * n + 1 ≤ 4000) (hk : 5 ≤ k) : call P k "is_steady" [rwD r] = ret (.bl (stB r)) := by
  rw [call_fnd RF.is_steady (by omega) rfl rfl]
  unfold RF.is_steady rwD
  have hpos : 0 < r.length := by cases r with
    | nil => exact absurd rfl h0
    | cons p r => simp
  have e : (r.length : Int) - 1 = ((r.length - 1 : Nat) : Int) := by omega
  ((first | rw [xo_lk] | rw [lk_def]); simp! [])
  rw [comp_map (l := List.range (r.length - 1)) (fun (i : Nat) => .int i) (fun i => .bl (decide ((r.getD i default).at (r.getD (i + 1) default).s = (r.getD (i + 1) default).v))) (by rw [lim_eq, List.length_range]; omega) (by simp! [e, ran_map (show r.length - 1 ≤ 4000 by omega)]) fun i hi => by
    have hi := List.mem_range.mp hi
    have h1 := hr _ (mem_getD (show i < r.length by omega) default)
    have h2 := hr _ (mem_getD (show i + 1 < r.length by omega) default)
    simp! [ix_row (show i < r.length by omega), ix_row1 (show i + 1 < r.length by omega), ix_pc0, ix_pc1, s_along h1 h2.s]]
  simp! [bfn_allL]
  rfl
theorem s_jumps_down [FN P "along" RF.along] [FN P "left_value" RF.left_value] [FN P "jumps_down" RF.jumps_down] {r : Rw} {i : Nat} (hr : RB n r) (hi : i < r.length) (hl : r.length ≤ 60) (hs : 4 * n + 2 ≤ 4000) (hk : 6 ≤ k) :
    call P k "jumps_down" [rwD r, .int i] = ret (.bl (decide (0 < i) && decide ((r.getD i default).v < lval r (r.getD i default).s))) := by
  have h0 : r ≠ [] := by rintro rfl; simp at hi
  rw [call_fnd RF.jumps_down (by omega) rfl rfl]
  unfold RF.jumps_down
  have h1 := hr _ (mem_getD hi default)
  have hlv : Bz (3 * n + n + 2) (lval r (r.getD i default).s) := (hr.lp h0 _).at h1.s
  by_cases hp : 0 < i
  · have hp' : (0 : Int) < i := by omega
    have e : idx (rwD r) (.int (i : Int)) = some (pcD (r.getD i default)) := ix_row hi
    ((first | rw [xo_lk] | rw [lk_def]); simp! [hp', hp, e, ix_pc1, ix_pc0, s_left_value h0 hr h1.s, t_less])
  · have hp' : ¬ (0 : Int) < i := by omega
    ((first | rw [xo_lk] | rw [lk_def]); simp! [hp', hp])
def riseB (r : Rw) : Bool := !(List.range r.length).any fun i => decide ((r.getD i default).m < 0) || (decide (0 < i) && decide ((r.getD i default).v < lval r (r.getD i default).s))
theorem s_does_rise [FN P "along" RF.along] [FN P "limited" RF.limited] [GN P "MAX_PIECES" (.int 60)] [FN P "normal" RF.normal] [FN P "left_value" RF.left_value] [FN P "jumps_down" RF.jumps_down] [FN P "does_rise" RF.does_rise] {r : Rw} (hr : RB n r) (hl : r.length ≤ 60) (hs : 4 * n + 2 ≤ 4000) (hk : 7 ≤ k) :
    call P k "does_rise" [rwD r] = ret (.bl (riseB (nrm r))) := by
  rw [call_fnd RF.does_rise (by omega) rfl rfl]
  unfold RF.does_rise
  ((first | rw [xo_lk] | rw [lk_def]); simp! [s_normal hr hl])
  have hr' := hr.nrm
  have hl' : (nrm r).length ≤ 60 := Nat.le_trans (nrm_len r) hl
  ((first | rw [xo_lk] | rw [lk_def]); simp! [])
  rw [comp_map (l := List.range (nrm r).length) (fun (i : Nat) => .int i) (fun i => .bl (decide (((nrm r).getD i default).m < 0) || (decide (0 < i) && decide (((nrm r).getD i default).v < lval (nrm r) ((nrm r).getD i default).s)))) (by rw [lim_eq, List.length_range]; omega) (by unfold rwD; simp! [ran_map (show (nrm r).length ≤ 4000 by omega)]) fun i hi => by
    have hi := List.mem_range.mp hi
    have h1 := hr' _ (mem_getD hi default)
    have e : idx (rwD (nrm r)) (.int (i : Int)) = some (pcD ((nrm r).getD i default)) := ix_row hi
    simp! [e, ix_pc2, g_zero, t_less, s_jumps_down hr' hi]
    by_cases h : ((nrm r).getD i default).m < 0 <;> simp! [h]]
  simp! [bfn_anyL]
  rfl
theorem riseB_iff {r : Rw} (ha : Asc r) (hs : Stdy r) : riseB r = true ↔ rising r := by
  unfold riseB
  rw [Bool.not_eq_true', List.any_eq_false]
  have e : ∀ i, i < r.length → ((decide ((r.getD i default).m < 0) || (decide (0 < i) && decide ((r.getD i default).v < lval r (r.getD i default).s))) = true ↔ (r.getD i default).m < 0) := by
    intro i hi
    have hv : lval r (r.getD i default).s = (r.getD i default).v := by
      rw [lval_steady ha hs]
      have : ∀ (r : Rw), Asc r → ∀ p ∈ r, val r p.s = p.v := by
        intro r
        induction r with
        | nil => intro _ p hp; cases hp
        | cons q r ih =>
          intro ha p hp
          rcases List.mem_cons.mp hp with rfl | hp
          · exact val_hd ha
          · cases r with
            | nil => cases hp
            | cons a r =>
              have h1 : ¬ p.s < a.s := by
                rcases List.mem_cons.mp hp with rfl | h
                · grind
                · have := ha.tail.lt h; grind
              rw [val_cons ha, if_neg h1]
              exact ih ha.tail p hp
      exact this r ha _ (mem_getD hi default)
    rw [hv]
    have : ¬ (r.getD i default).v < (r.getD i default).v := by grind
    simp [this]
  constructor
  · intro h p hp
    obtain ⟨i, hi, rfl⟩ := List.mem_iff_getElem.mp hp
    have h1 := h i (List.mem_range.mpr hi)
    rw [e i hi, getD_at hi] at h1
    grind
  · intro h i hi
    have hi := List.mem_range.mp hi
    rw [e i hi]
    have := h _ (mem_getD hi default)
    grind
theorem val_at : ∀ {r : Rw}, Asc r → ∀ p ∈ r, val r p.s = p.v := by
  intro r
  induction r with
  | nil => intro _ p hp; cases hp
  | cons q r ih =>
    intro ha p hp
    rcases List.mem_cons.mp hp with rfl | hp
    · exact val_hd ha
    · cases r with
      | nil => cases hp
      | cons a r =>
        have h1 : ¬ p.s < a.s := by
          rcases List.mem_cons.mp hp with rfl | h
          · grind
          · have := ha.tail.lt h; grind
        rw [val_cons ha, if_neg h1]
        exact ih ha.tail p hp
/-! ### the judges of rows, of any plain data -/
def isPc : D → Bool
  | .tup [a, b, c] => isRt a && isRt b && isRt c
  | _ => false
theorem isPc_inv {d : D} (h : isPc d = true) : ∃ p, d = pcD p := by
  unfold isPc at h
  split at h
  · rename_i a b c
    simp only [Bool.and_eq_true] at h
    obtain ⟨x, rfl⟩ := isRt_inv h.1.1
    obtain ⟨y, rfl⟩ := isRt_inv h.1.2
    obtain ⟨z, rfl⟩ := isRt_inv h.2
    exact ⟨⟨x, y, z⟩, rfl⟩
  · cases h
theorem isPc_pcD (p : Pc) : isPc (pcD p) = true := by simp [isPc, pcD, isRt_Rt]
class FJ (P : Prog β) : Prop where
  whole : Fnd P "is_whole" RF.is_whole
  is_ratio : Fnd P "is_ratio" RF.is_ratio
theorem t_is_ratio [h : FJ P] {c l j : Nat} {d : D} (hd : Pd c l j d) (hk : 2 ≤ k) : call P k "is_ratio" [d] = ret (.bl (isRt d)) := s_is_ratio ⟨h.whole, h.is_ratio⟩ ‹FRat P›.rats.gcd hk hd
theorem s_is_piece [FJ P] [FN P "is_piece" RF.is_piece] {c l j : Nat} {d : D} (hd : Pd c l j d) (hl : l ≤ 4000) (hk : 3 ≤ k) : call P k "is_piece" [d] = ret (.bl (isPc d)) := by
  rw [call_fnd RF.is_piece (by omega) rfl rfl]
  unfold RF.is_piece
  obtain ⟨i1, i2, i3, i4, i5⟩ := hd.isi
  cases ht : dTup d with
  | false =>
    rw [ht] at i3
    ((first | rw [xo_lk] | rw [lk_def]); simp! [i3])
    cases d <;> first | rfl | cases ht
  | true =>
    rw [ht] at i3
    cases d with
    | tup xs =>
      obtain ⟨m', rfl, hlen, hx⟩ := hd.tup
      by_cases h3 : xs.length = 3
      · have h3' : (xs.length : Int) = 3 := by omega
        ((first | rw [xo_lk] | rw [lk_def]); simp! [i3, h3'])
        rw [comp_map (l := xs) id (fun x => .bl (isRt x)) (by rw [lim_eq]; omega) (by simp! [List.map_id]) fun x hx' => by
          have e := t_is_ratio (P := P) (k := k - 1) (hx x hx') (by omega)
          simp! [id, e]]
        simp! [bfn_allL]
        match xs, h3 with
        | [a, b, c], _ => simp [isPc, Bool.and_assoc]
      · have h3' : ¬ (xs.length : Int) = 3 := by omega
        ((first | rw [xo_lk] | rw [lk_def]); simp! [i3, h3'])
        match xs, h3 with
        | [], _ => rfl
        | [_], _ => rfl
        | [_, _], _ => rfl
        | [_, _, _], h => exact absurd rfl h
        | _ :: _ :: _ :: _ :: _, _ => rfl
    | _ => cases ht
def rv : D → Rat
  | .tup [.int p, .int q] => (p : Rat) / (q : Rat)
  | _ => 0
theorem rv_Rt (x : Rat) : rv (Rt x) = x := num_den x
def pcOf : D → Pc
  | .tup [a, b, c] => ⟨rv a, rv b, rv c⟩
  | _ => default
theorem pcOf_pcD (p : Pc) : pcOf (pcD p) = p := by
  show (⟨rv (Rt p.s), rv (Rt p.v), rv (Rt p.m)⟩ : Pc) = p
  rw [rv_Rt, rv_Rt, rv_Rt]
theorem pd_bz {c l j : Nat} {x : Rat} (h : Pd c l j (Rt x)) (hc : c < 2 ^ 4000) : Bz 4000 x := by
  obtain ⟨m, rfl, _, h2⟩ := h.tup
  exact ⟨Nat.lt_of_le_of_lt (h2 (.int x.num) (by simp)).int hc, Nat.lt_of_le_of_lt (h2 (.int x.den) (by simp)).int hc⟩
theorem pd_pb {c l j : Nat} {p : Pc} (h : Pd c l j (pcD p)) (hc : c < 2 ^ 4000) : PB 4000 p := by
  obtain ⟨m, rfl, _, h2⟩ := h.tup
  exact ⟨pd_bz (h2 (Rt p.s) (by simp)) hc, pd_bz (h2 (Rt p.v) (by simp)) hc, pd_bz (h2 (Rt p.m) (by simp)) hc⟩
theorem all_pc : ∀ {xs : List D}, xs.all isPc = true → ∃ r : Rw, xs = r.map pcD
  | [], _ => ⟨[], rfl⟩
  | x :: xs, h => by
    rw [List.all_cons, Bool.and_eq_true] at h
    obtain ⟨p, rfl⟩ := isPc_inv h.1
    obtain ⟨r, rfl⟩ := all_pc h.2
    exact ⟨p :: r, rfl⟩
def rowB (r : Rw) : Bool := decide ((Rw.hd r).s = 0) && ascB r
def isRow : D → Bool
  | .tup xs => decide (1 ≤ xs.length) && (decide (xs.length ≤ 60) && (xs.all isPc && rowB (xs.map pcOf)))
  | _ => false
theorem map_pcOf (r : Rw) : (r.map pcD).map pcOf = r := by
  rw [List.map_map]
  have : pcOf ∘ pcD = id := by funext p; exact pcOf_pcD p
  rw [this, List.map_id]
theorem all_isPc (r : Rw) : (r.map pcD).all isPc = true := by
  rw [List.all_eq_true]
  intro x hx
  obtain ⟨p, _, rfl⟩ := List.mem_map.mp hx
  exact isPc_pcD p
theorem isRow_rwD (r : Rw) : isRow (rwD r) = (decide (1 ≤ r.length) && (decide (r.length ≤ 60) && rowB r)) := by
  show (decide (1 ≤ (r.map pcD).length) && (decide ((r.map pcD).length ≤ 60) && ((r.map pcD).all isPc && rowB ((r.map pcD).map pcOf)))) = _
  rw [List.length_map, all_isPc, map_pcOf, Bool.true_and]
theorem isRow_inv {d : D} (h : isRow d = true) : ∃ r : Rw, d = rwD r ∧ 1 ≤ r.length ∧ r.length ≤ 60 ∧ (Rw.hd r).s = 0 ∧ Asc r := by
  cases d with
  | tup xs =>
    have h : (decide (1 ≤ xs.length) && (decide (xs.length ≤ 60) && (xs.all isPc && rowB (xs.map pcOf)))) = true := h
    simp only [Bool.and_eq_true, decide_eq_true_eq] at h
    obtain ⟨h1, h2, h3, h4⟩ := h
    obtain ⟨r, rfl⟩ := all_pc h3
    rw [map_pcOf] at h4
    rw [List.length_map] at h1 h2
    unfold rowB at h4
    rw [Bool.and_eq_true, decide_eq_true_eq] at h4
    exact ⟨r, rfl, h1, h2, h4.1, ascB_iff.mp h4.2⟩
  | _ => cases h
theorem s_is_row [FJ P] [FN P "is_piece" RF.is_piece] [FN P "is_row" RF.is_row] [GN P "MAX_PIECES" (.int 60)] {c l j : Nat} {d : D} (hd : Pd c l j d) (hc : c < 2 ^ 4000) (hl : l ≤ 4000) (hk : 4 ≤ k) : call P k "is_row" [d] = ret (.bl (isRow d)) := by
  rw [call_fnd RF.is_row (by omega) rfl rfl]
  unfold RF.is_row
  obtain ⟨i1, i2, i3, i4, i5⟩ := hd.isi
  cases ht : dTup d with
  | false =>
    rw [ht] at i3
    ((first | rw [xo_lk] | rw [lk_def]); simp! [i3])
    ((first | rw [xo_lk] | rw [lk_def]); simp! [])
    cases d <;> first | rfl | cases ht
  | true =>
    rw [ht] at i3
    cases d with
    | tup xs =>
      obtain ⟨m', rfl, hlen, hx⟩ := hd.tup
      by_cases h1 : 1 ≤ xs.length
      · have h1' : (1 : Int) ≤ xs.length := by omega
        by_cases h2 : xs.length ≤ 60
        · have h2' : (xs.length : Int) ≤ 60 := by omega
          ((first | rw [xo_lk] | rw [lk_def]); simp! [i3, h1', h2', g_gl (P := P) (x := "MAX_PIECES")])
          ((first | rw [xo_lk] | rw [lk_def]); simp! [])
          ((first | rw [xo_lk] | rw [lk_def]); simp! [])
          rw [comp_map (l := xs) id (fun x => .bl (isPc x)) (by rw [lim_eq]; omega) (by simp! [List.map_id]) fun x hx' => by
            have e := s_is_piece (P := P) (k := k - 1) (hx x hx') hl (by omega)
            simp! [id, e]]
          cases ha : xs.all isPc with
          | false =>
            simp! [bfn_allL, ha]
            ((first | rw [xo_lk] | rw [lk_def]); simp! [])
            simp [isRow, ha]
          | true =>
            obtain ⟨r, rfl⟩ := all_pc ha
            rw [List.length_map] at h1 h2
            have r0 : r ≠ [] := by rintro rfl; simp at h1
            have hr : RB 4000 r := fun p hp => pd_pb (hx (pcD p) (List.mem_map_of_mem hp)) hc
            simp! [bfn_allL, ha]
            ((first | rw [xo_lk] | rw [lk_def]); simp! [])
            ((first | rw [xo_lk] | rw [lk_def]); simp! [ix0_row r0, ix_pc0, g_zero])
            have e0 : isRow (.tup (r.map pcD)) = (decide ((Rw.hd r).s = 0) && ascB r) := by
              rw [show D.tup (r.map pcD) = rwD r from rfl, isRow_rwD, decide_eq_true h1, decide_eq_true h2]; rfl
            rw [e0]
            by_cases h5 : (Rw.hd r).s = 0
            · simp! [h5]
              ((first | rw [xo_lk] | rw [lk_def]); simp! [])
              ((first | rw [xo_lk] | rw [lk_def]); simp! [])
              have e : (r.length : Int) - 1 = ((r.length - 1 : Nat) : Int) := by omega
              rw [comp_map (l := List.range (r.length - 1)) (fun (i : Nat) => .int i) (fun i => .bl (decide ((r.getD i default).s < (r.getD (i + 1) default).s))) (by rw [lim_eq, List.length_range]; omega) (by simp! [e, ran_map (show r.length - 1 ≤ 4000 by omega)]) fun i hi => by
                have hi := List.mem_range.mp hi
                have h1 := (hr _ (mem_getD (show i < r.length by omega) default)).s.sz (by decide)
                have h2 := (hr _ (mem_getD (show i + 1 < r.length by omega) default)).s.sz (by decide)
                simp! [ix_row (show i < r.length by omega), ix_row1 (show i + 1 < r.length by omega), ix_pc0, t_less]]
              simp! [bfn_allL]
              rfl
            · simp! [h5]
              ((first | rw [xo_lk] | rw [lk_def]); simp! [])
        · have h2' : ¬ (xs.length : Int) ≤ 60 := by omega
          ((first | rw [xo_lk] | rw [lk_def]); simp! [i3, h1', h2', g_gl (P := P) (x := "MAX_PIECES")])
          ((first | rw [xo_lk] | rw [lk_def]); simp! [])
          simp [isRow, h2]
      · have h1' : ¬ (1 : Int) ≤ xs.length := by omega
        ((first | rw [xo_lk] | rw [lk_def]); simp! [i3, h1', g_gl (P := P) (x := "MAX_PIECES")])
        ((first | rw [xo_lk] | rw [lk_def]); simp! [])
        simp [isRow, h1]
    | _ => cases ht
end
end PL

set_option autoImplicit false
set_option linter.all false
set_option maxRecDepth 100000
set_option maxHeartbeats 2000000
set_option exponentiation.threshold 20000
/-! N7: where a rising row is nought. -/
namespace PL
local macro_rules
  | `(tactic| simp! [$as,*]) => `(tactic| simp (disch := (first | omega | assumption | array_get_dec)) only [lk_asg, lk_asgT, lk_own, lk_iff, lk_ret, lk_retN, lk_app, lk_ins, lk_nil, lk_brk, lk_cnt, lk_pas, lk_frz, lk_par, lk_par3, lk_whl, lk_ext, lk_aug, lk_fr, cont_nx, cont_rt, cont_bk, cont_ct, ev_var, ev_bvar, ev_glob, ev_lit, ev_bin, ev_neg, ev_no, ev_and, ev_or, ev_cmp, ev_chn, ev_isi, ev_ite, ev_idx, ev_sl1, ev_sl2, ev_sl3, ev_rev, ev_tup, ev_lst, ev_bi, ev_call, evL_nil, evL_cons, evA_one, evA_cons, evO_one, evO_cons, evC_nil, evC_cons, getV_zero, getV_succ, getB_zero, getB_ow, getB_succ, getO_zero, getO_succ, List.set_cons_zero, List.set_cons_succ, bnd_ret, bnd_assoc, lft_some, lft_none, bnd_stk, truth_bl, truth_int, truth_non, truth_tup, truth_lst, toI_int, ix_tup0, ix_tup1, ix_tup2, cop_eqI, cop_neI, cop_lt, cop_le, cop_gt, cop_ge, cop_is, cop_isnot, cop_eqR, cop_neR, bop_addI, bop_subI, bnd_ite, run_ret, run_bnd, endF_ret, endF_nx, tst_lk, bindT_nm, bindT_tu, bindTs_nil, bindTs_cons, Option.bind_some, Option.map_some, if_true_eq, if_false_eq, Bool.not_true, Bool.not_false, decide_true, decide_false, Bool.not_eq_true, Bool.not_eq_false, decide_eq_true_eq, if_true, if_false, ite_true_t, ite_false_t, len_tupB, len_lstB, tupB_lst, lstB_tup, wipe_nil, wipe_cons, List.map_cons, List.map_nil, isSame_nn, isSame_tn, Bool.false_eq_true, reduceCtorEq, Nat.reduceLeDiff, List.length_cons, List.length_nil, Nat.reduceAdd, lim_eq, asLlst, cellOf_f, cellOf_t, iter_seqT, iter_seqL', List.cons_append, List.nil_append, List.append_nil, Nat.reduceSub, List.replicate_succ, List.replicate_zero, frz_ow, frz_im, frz_un, frz_succ, Nat.reduceLT, Nat.reduceEqDiff, Int.reduceLT, Int.reduceLE, Int.reduceEq, Int.reduceNeg, Int.reduceAdd, Int.reduceSub, List.isEmpty_nil, List.isEmpty_cons, true_and, and_true, false_and, and_false, Bool.true_and, Bool.false_and, Bool.and_true, Bool.and_false, Bool.true_or, Bool.false_or, Bool.or_true, Bool.or_false, List.length_append, List.length_map, eq_self, isSame_bl, $as,*])
theorem Bz.div {n m : Nat} {p q : Rat} (h1 : Bz n p) (h2 : Bz m q) (h0 : q ≠ 0) : Bz (n + m) (p / q) := by
  have hq : (p / q) = ((p.num * (q.den : Int) : Int) : Rat) / (((p.den : Int) * q.num : Int) : Rat) := (div_rat p q h0).symm
  have b1 : (p.num * (q.den : Int)).natAbs < 2 ^ (n + m) := by rw [Int.natAbs_mul, Int.natAbs_natCast]; exact pow_mul_lt h1.1 h2.2
  have b2 : ((p.den : Int) * q.num).natAbs < 2 ^ (n + m) := by rw [Int.natAbs_mul, Int.natAbs_natCast]; exact pow_mul_lt h1.2 h2.1
  have hd := den_pos p
  rcases Int.lt_trichotomy q.num 0 with h | h | h
  · have e : p / q = ((-(p.num * (q.den : Int)) : Int) : Rat) / ((-((p.den : Int) * q.num) : Int) : Rat) := by
      rw [hq, Rat.intCast_neg, Rat.intCast_neg]; grind
    have hneg : (p.den : Int) * q.num < 0 := Int.mul_neg_of_pos_of_neg hd h
    rw [e]
    exact Bz.of (by omega) (by rw [Int.natAbs_neg]; exact b1) (by rw [Int.natAbs_neg]; exact b2)
  · exact absurd h (fun z => num_ne h0 (by rw [z]; rfl))
  · rw [hq]
    exact Bz.of (Int.mul_pos hd h) b1 b2
section
variable {β : Type} {P : Prog β} {k n m : Nat} {x y : Rat} [h : FRat P]
theorem t_over [FN P "over" RF.over] (hx : Sz x) (hy : Sz y) (h0 : y ≠ 0) (hk : 3 ≤ k) : call P k "over" [Rt x, Rt y] = ret (Rt (x / y)) := by
  rw [call_fnd RF.over (by omega) rfl rfl]
  unfold RF.over
  have m1 := bop_mul (sz_mul hx.1 (sz_dn hy))
  have m3 := bop_mul (sz_mul (sz_dn hx) hy.1)
  have hd := den_pos x
  have hb : ((x.den : Int) * y.num).natAbs < 2 ^ 9000 := Nat.lt_of_lt_of_le (mul_lt (sz_dn hx) hy.1) (Nat.pow_le_pow_right (by decide) (by decide))
  have e : call P (k - 1) "ratio" [.int (x.num * (y.den : Int)), .int ((x.den : Int) * y.num)] = ret (Rt (x / y)) := by
    rw [← div_rat x y h0]
    rcases Int.lt_trichotomy y.num 0 with h1 | h1 | h1
    · exact s_ratio_neg h.rats.ratio h.rats.gcd (by omega) (Int.mul_neg_of_pos_of_neg hd h1) hb
    · exact absurd h1 (fun z => num_ne h0 (by rw [z]; rfl))
    · exact s_ratio h.rats.ratio h.rats.gcd (by omega) (Int.mul_pos hd h1) hb
  unfold Rt
  ((first | rw [xo_lk] | rw [lk_def]); simp! [m1, m3, e])
  rfl
end
local macro_rules
  | `(tactic| array_get_dec) => `(tactic| (apply Bz.sz'; (focus (repeat' (with_reducible first | assumption | exact Bz.zero1 | apply Bz.add | apply Bz.sub | apply Bz.mul | apply PB.at | (apply PB.s; assumption) | (apply PB.v; assumption) | (apply PB.m; assumption) | (apply RB.val; assumption; assumption) | (apply RB.slp; assumption; assumption) | (apply Bz.div; focus (skip))))); omega))
/-! ### the first price -/
def opt (o : Option Rat) : D := match o with
  | none => .non
  | some x => Rt x
def fpC (r : Rw) (i : Nat) : Bool := !decide ((r.getD i default).v < 0) || (decide (0 < (r.getD i default).m) && (decide (i + 1 = r.length) || decide ((r.getD i default).s - (r.getD i default).v / (r.getD i default).m < (r.getD (i + 1) default).s)))
def fpV (p : Pc) : Rat := if p.v < 0 then p.s - p.v / p.m else p.s
def fpR (r : Rw) : Option Rat := ((List.range r.length).find? (fpC r)).map fun i => fpV (r.getD i default)
theorem fpR_nil : fpR [] = none := rfl
theorem fpR_one (p : Pc) : fpR [p] = if p.v < 0 ∧ ¬ 0 < p.m then none else some (fpV p) := by
  unfold fpR
  show ((List.range 1).find? (fpC [p])).map _ = _
  rw [show List.range 1 = [0] from rfl, List.find?_cons]
  have e : fpC [p] 0 = (!decide (p.v < 0) || decide (0 < p.m)) := by
    show (!decide (p.v < 0) || (decide (0 < p.m) && (decide (0 + 1 = 1) || _))) = _
    simp
  rw [e]
  by_cases h1 : p.v < 0 <;> by_cases h2 : 0 < p.m <;> simp [h1, h2]
theorem fpR_cons (p q : Pc) (r : Rw) : fpR (p :: q :: r) = if p.v < 0 ∧ ¬ (0 < p.m ∧ p.s - p.v / p.m < q.s) then fpR (q :: r) else some (fpV p) := by
  unfold fpR
  show ((List.range (r.length + 1 + 1)).find? (fpC (p :: q :: r))).map _ = _
  rw [List.range_succ_eq_map, List.find?_cons]
  have e : fpC (p :: q :: r) 0 = (!decide (p.v < 0) || (decide (0 < p.m) && decide (p.s - p.v / p.m < q.s))) := by
    show (!decide (p.v < 0) || (decide (0 < p.m) && (decide (0 + 1 = r.length + 1 + 1) || _))) = _
    have : ¬ (0 + 1 = r.length + 1 + 1) := by omega
    rw [decide_eq_false this, Bool.false_or]; rfl
  have e2 : ∀ i, fpC (p :: q :: r) (i + 1) = fpC (q :: r) i := by
    intro i
    unfold fpC
    have : (i + 1 + 1 = (p :: q :: r).length) ↔ (i + 1 = (q :: r).length) := by simp only [List.length_cons]; omega
    simp only [List.getD_cons_succ, this]
  have e3 : (fpC (p :: q :: r) ∘ Nat.succ) = fpC (q :: r) := by funext i; exact e2 i
  have e4 : ((List.range (r.length + 1)).map Nat.succ).find? (fpC (p :: q :: r)) = ((List.range (q :: r).length).find? (fpC (q :: r))).map Nat.succ := by
    rw [List.find?_map, e3]; rfl
  rw [e4]
  cases hc : (!decide (p.v < 0) || (decide (0 < p.m) && decide (p.s - p.v / p.m < q.s))) with
  | true =>
    rw [hc] at e
    rw [e, if_neg (by
      rintro ⟨h1, h2⟩
      have : (decide (0 < p.m) && decide (p.s - p.v / p.m < q.s)) = false := by
        rw [Bool.and_eq_false_iff, decide_eq_false_iff_not, decide_eq_false_iff_not]
        by_cases h3 : 0 < p.m
        · exact .inr fun z => h2 ⟨h3, z⟩
        · exact .inl h3
      rw [this] at hc
      simp [h1] at hc)]
    rfl
  | false =>
    rw [hc] at e
    rw [e, if_pos (by
      rw [Bool.or_eq_false_iff, Bool.not_eq_false', decide_eq_true_eq, Bool.and_eq_false_iff, decide_eq_false_iff_not, decide_eq_false_iff_not] at hc
      exact ⟨hc.1, fun z => hc.2.elim (fun w => w z.1) fun w => w z.2⟩)]
    show Option.map _ (Option.map Nat.succ _) = _
    rw [Option.map_map]
    rfl
theorem Pc.zero {p : Pc} (h : 0 < p.m) : p.at (p.s - p.v / p.m) = 0 := by unfold Pc.at; grind
theorem Pc.at_lt {p : Pc} (h : 0 < p.m) {x y : Rat} (hxy : x < y) : p.at x < p.at y := by
  unfold Pc.at
  have : p.m * (x - p.s) < p.m * (y - p.s) := Rat.mul_lt_mul_of_pos_left (by grind) h
  grind
theorem div_neg {a b : Rat} (ha : a < 0) (hb : 0 < b) : a / b < 0 := by
  by_cases h : a / b < 0
  · exact h
  · have := Rat.mul_nonneg (show 0 ≤ a / b by grind) (Rat.le_of_lt hb)
    have e : a / b * b = a := by grind
    grind
/-- the least place from which on the row is not below nought -/
theorem fpR_spec : ∀ {r : Rw}, r ≠ [] → Asc r → Stdy r → rising r → match fpR r with
    | none => ∀ y, (Rw.hd r).s ≤ y → val r y < 0
    | some x => (Rw.hd r).s ≤ x ∧ 0 ≤ val r x ∧ ((Rw.hd r).s < x → val r x = 0) ∧ ∀ y, (Rw.hd r).s ≤ y → y < x → val r y < 0
  | [], h, _, _, _ => absurd rfl h
  | [p], _, _, _, hr => by
    have hm := hr p List.mem_cons_self
    rw [fpR_one]
    have hh : (Rw.hd [p]).s = p.s := rfl
    by_cases h1 : p.v < 0
    · by_cases h2 : 0 < p.m
      · rw [if_neg (by grind)]
        have e : fpV p = p.s - p.v / p.m := if_pos h1
        have hz := Pc.zero h2
        have hd := div_neg h1 h2
        simp only [e, hh, val_one]
        exact ⟨by grind, by grind, fun _ => hz, fun y _ hy => by have := Pc.at_lt h2 hy; grind⟩
      · rw [if_pos ⟨h1, h2⟩]
        have : p.m = 0 := by grind
        intro y _
        rw [val_one]; unfold Pc.at; rw [this]; grind
    · rw [if_neg (by grind)]
      have e : fpV p = p.s := if_neg h1
      have e2 : p.at p.s = p.v := by unfold Pc.at; grind
      simp only [e, hh, val_one]
      exact ⟨Rat.le_refl, by grind, fun z => by grind, fun y a b => by grind⟩
  | p :: q :: r, _, ha, hs, hr => by
    have hm := hr p List.mem_cons_self
    have hpq := ha.lt (List.mem_cons_self (a := q) (l := r))
    have hh : (Rw.hd (p :: q :: r)).s = p.s := rfl
    have e2 : p.at p.s = p.v := by unfold Pc.at; grind
    have ih := fpR_spec (r := q :: r) (List.cons_ne_nil _ _) ha.tail hs.tail fun a h => hr a (List.mem_cons_of_mem _ h)
    rw [fpR_cons]
    by_cases h1 : p.v < 0
    · by_cases h2 : 0 < p.m ∧ p.s - p.v / p.m < q.s
      · rw [if_neg (by grind)]
        have e : fpV p = p.s - p.v / p.m := if_pos h1
        have hz := Pc.zero h2.1
        have hd := div_neg h1 h2.1
        simp only [e, hh, val_cons ha, if_pos h2.2]
        exact ⟨by grind, by grind, fun _ => hz, fun y _ hy => by
          rw [if_pos (by grind)]
          have := Pc.at_lt h2.1 hy; grind⟩
      · rw [if_pos ⟨h1, h2⟩]
        -- below nought on the whole piece
        have low : ∀ y, p.s ≤ y → y < q.s → p.at y < 0 := by
          intro y h3 h4
          by_cases h5 : 0 < p.m
          · have h6 : q.s ≤ p.s - p.v / p.m := by grind
            have := Pc.at_lt h5 (show y < p.s - p.v / p.m by grind)
            rw [Pc.zero h5] at this; exact this
          · have : p.m = 0 := by grind
            unfold Pc.at; rw [this]; grind
        have qv : q.v ≤ 0 := by
          rw [← hs.1]
          by_cases h5 : 0 < p.m
          · have h6 : q.s ≤ p.s - p.v / p.m := by grind
            have := Pc.at_mono hm h6
            rw [Pc.zero h5] at this; exact this
          · have : p.m = 0 := by grind
            unfold Pc.at; rw [this]; grind
        have hq : (Rw.hd (q :: r)).s = q.s := rfl
        have vq : val (q :: r) q.s = q.v := val_hd ha.tail
        cases hf : fpR (q :: r) with
        | none =>
          rw [hf] at ih
          intro y hy
          rw [val_cons ha]
          by_cases h3 : y < q.s
          · rw [if_pos h3]; exact low y hy h3
          · rw [if_neg h3]; exact ih y (by rw [hq]; grind)
        | some x =>
          rw [hf] at ih
          obtain ⟨i1, i2, i3, i4⟩ := ih
          rw [hq] at i1 i3 i4
          have nx : ¬ x < q.s := by grind
          simp only [hh, val_cons ha, if_neg nx]
          refine ⟨by grind, i2, fun _ => ?_, fun y h3 h4 => ?_⟩
          · by_cases h5 : q.s < x
            · exact i3 h5
            · have : x = q.s := by grind
              subst this; rw [vq] at i2 ⊢; grind
          · by_cases h5 : y < q.s
            · rw [if_pos h5]; exact low y h3 h5
            · rw [if_neg h5]; exact i4 y (by grind) h4
    · rw [if_neg (by grind)]
      have e : fpV p = p.s := if_neg h1
      simp only [e, hh, val_cons ha, if_pos hpq, e2]
      exact ⟨Rat.le_refl, by grind, fun z => by grind, fun y a b => by grind⟩
section
variable {β : Type} {P : Prog β} {k n m : Nat} [FRat P]
theorem enu_row (r : Rw) : enuD 0 (r.map pcD) = (List.range r.length).map fun (i : Nat) => .tup [.int i, pcD (r.getD i default)] := by
  have : ∀ (r : Rw) (k : Nat), enuD k (r.map pcD) = (List.range r.length).map fun (i : Nat) => .tup [.int ((k + i : Nat) : Int), pcD (r.getD i default)] := by
    intro r
    induction r with
    | nil => intro k; rfl
    | cons p r ih =>
      intro k
      rw [List.length_cons, List.range_succ_eq_map]
      show D.tup [.int k, pcD p] :: enuD (k + 1) (r.map pcD) = D.tup [.int k, pcD p] :: List.map _ (List.map Nat.succ _)
      rw [List.map_map, ih (k + 1)]
      congr 1
      apply List.map_congr_left
      intro i _
      show _ = D.tup [.int ((k + (i + 1) : Nat) : Int), _]
      rw [show k + 1 + i = k + (i + 1) by omega]; rfl
  rw [this r 0]
  apply List.map_congr_left
  intro i _
  rw [Nat.zero_add]
theorem s_first_price [FN P "over" RF.over] [FN P "along" RF.along] [FN P "limited" RF.limited] [GN P "MAX_PIECES" (.int 60)] [FN P "normal" RF.normal] [FN P "first_price" RF.first_price] {r : Rw} (hr : RB n r) (hl : r.length ≤ 60) (hs : 3 * n + 1 ≤ 4000) (hk : 7 ≤ k) :
    call P k "first_price" [rwD r] = ret (opt (fpR (nrm r))) := by
  rw [call_fnd RF.first_price (by omega) rfl rfl]
  unfold RF.first_price
  ((first | rw [xo_lk] | rw [lk_def]); simp! [s_normal hr hl])
  have hr' := hr.nrm
  have hl' : (nrm r).length ≤ 60 := Nat.le_trans (nrm_len r) hl
  generalize nrm r = R at *
  ((first | rw [xo_lk] | rw [lk_def]); simp! [])
  rw [show iter .enu [rwD R] = some ((List.range R.length).map fun (i : Nat) => .tup [.int i, pcD (R.getD i default)]) from congrArg some (enu_row R)]
  simp! []
  rw [for_find (fun (c : Cell × Cell × Cell × Cell × Cell) => [.im (rwD r), .im (rwD R), c.1, c.2.1, c.2.2.1, c.2.2.2.1, c.2.2.2.2])
    (fun c (i : Nat) => (.im (.int i), .im (Rt (R.getD i default).s), .im (Rt (R.getD i default).v), .im (Rt (R.getD i default).m), if 0 < (R.getD i default).m then .im (Rt ((R.getD i default).s - (R.getD i default).v / (R.getD i default).m)) else c.2.2.2.2))
    (fpC R) (fun i => Rt (fpV (R.getD i default))) (.un, .un, .un, .un, .un) rfl fun i hi c => ?_]
  · unfold fpR
    cases hf : (List.range R.length).find? (fpC R) with
    | none => ((first | rw [xo_lk] | rw [lk_def]); simp! []); rfl
    | some i => rfl
  · obtain ⟨c1, c2, c3, c4, c5⟩ := c
    have hi := List.mem_range.mp hi
    have hp := hr' _ (mem_getD hi default)
    have hz : Sz 0 := Bz.zero1.sz (by decide)
    unfold pcD fpC fpV
    have en : idx (rwD R) (.int ((i : Int) + 1)) = if h : i + 1 < R.length then some (pcD (R.getD (i + 1) default)) else idx (rwD R) (.int ((i : Int) + 1)) := by
      split
      · rename_i h; exact ix_row1 h
      · rfl
    have el : bfn .len [rwD R] = some (.int (R.length : Nat)) := by unfold rwD; rw [len_tupB, List.length_map]
    generalize hpi : R.getD i default = p at *
    have hnext : i + 1 < R.length → idx (rwD R) (.int ((i : Int) + 1)) = some (pcD (R.getD (i + 1) default)) := ix_row1
    have hsn : i + 1 < R.length → Sz (R.getD (i + 1) default).s := fun h => (hr' _ (mem_getD h default)).s.sz (by omega)
    generalize R.getD (i + 1) default = q at *
    by_cases h1 : p.v < 0
    · by_cases h2 : 0 < p.m
      · have hm0 : p.m ≠ 0 := by grind
        have hov : Bz (n + n) (p.v / p.m) := hp.v.div hp.m hm0
        have hth : Sz (p.s - p.v / p.m) := (hp.s.sub hov).sz (by omega)
        have hov' := hov.sz (show n + n ≤ 4000 by omega)
        by_cases h3 : i + 1 = R.length
        · have h3' : (i : Int) + 1 = (R.length : Int) := by omega
          refine ⟨fun z => by simp [h1, h2, h3] at z, fun _ => ?_⟩
          simp! []
          ((first | rw [xo_lk] | rw [lk_def]); simp! [g_zero, t_less, h1])
          ((first | rw [xo_lk] | rw [lk_def]); simp! [])
          ((first | rw [xo_lk] | rw [lk_def]); simp! [g_zero, t_less, h2])
          ((first | rw [xo_lk] | rw [lk_def]); simp! [t_over, t_minus, hov', hm0, ne_eq, not_false_eq_true])
          ((first | rw [xo_lk] | rw [lk_def]); simp! [el, h3'])
          ((first | rw [xo_lk] | rw [lk_def]); simp! [])
          exact ⟨_, rfl⟩
        · have h3' : ¬ (i : Int) + 1 = (R.length : Int) := by omega
          have hlt : i + 1 < R.length := by omega
          have hn := hnext hlt
          have hsn := hsn hlt
          by_cases h4 : p.s - p.v / p.m < q.s
          · refine ⟨fun z => by simp [h1, h2, h4] at z, fun _ => ?_⟩
            simp! []
            ((first | rw [xo_lk] | rw [lk_def]); simp! [g_zero, t_less, h1])
            ((first | rw [xo_lk] | rw [lk_def]); simp! [])
            ((first | rw [xo_lk] | rw [lk_def]); simp! [g_zero, t_less, h2])
            ((first | rw [xo_lk] | rw [lk_def]); simp! [t_over, t_minus, hov', hm0, ne_eq, not_false_eq_true])
            ((first | rw [xo_lk] | rw [lk_def]); simp! [el, h3', hn, ix_pc0, t_less, hth, h4])
            ((first | rw [xo_lk] | rw [lk_def]); simp! [])
            exact ⟨_, rfl⟩
          · refine ⟨fun _ => ?_, fun z => by simp [h1, h2, h3, h4] at z⟩
            simp! []
            ((first | rw [xo_lk] | rw [lk_def]); simp! [g_zero, t_less, h1])
            ((first | rw [xo_lk] | rw [lk_def]); simp! [])
            ((first | rw [xo_lk] | rw [lk_def]); simp! [g_zero, t_less, h2])
            ((first | rw [xo_lk] | rw [lk_def]); simp! [t_over, t_minus, hov', hm0, ne_eq, not_false_eq_true])
            ((first | rw [xo_lk] | rw [lk_def]); simp! [el, h3', hn, ix_pc0, t_less, hth, h4])
            repeat ((first | rw [xo_lk] | rw [lk_def]); simp! [])
      · refine ⟨fun _ => ?_, fun z => by simp [h1, h2] at z⟩
        simp! []
        ((first | rw [xo_lk] | rw [lk_def]); simp! [g_zero, t_less, h1])
        ((first | rw [xo_lk] | rw [lk_def]); simp! [])
        ((first | rw [xo_lk] | rw [lk_def]); simp! [g_zero, t_less, h2])
        repeat ((first | rw [xo_lk] | rw [lk_def]); simp! [])
    · refine ⟨fun z => by simp [h1] at z, fun _ => ?_⟩
      simp! []
      ((first | rw [xo_lk] | rw [lk_def]); simp! [g_zero, t_less, h1])
      ((first | rw [xo_lk] | rw [lk_def]); simp! [])
      exact ⟨_, rfl⟩
end
end PL

set_option autoImplicit false
set_option linter.all false
set_option maxRecDepth 100000
set_option maxHeartbeats 2000000
set_option exponentiation.threshold 20000
/-! N8: where a supply and a demand meet. -/
namespace PL
local macro_rules
  | `(tactic| simp! [$as,*]) => `(tactic| simp (disch := (first | omega | assumption | array_get_dec)) only [lk_asg, lk_asgT, lk_own, lk_iff, lk_ret, lk_retN, lk_app, lk_ins, lk_nil, lk_brk, lk_cnt, lk_pas, lk_frz, lk_par, lk_par3, lk_whl, lk_ext, lk_aug, lk_fr, cont_nx, cont_rt, cont_bk, cont_ct, ev_var, ev_bvar, ev_glob, ev_lit, ev_bin, ev_neg, ev_no, ev_and, ev_or, ev_cmp, ev_chn, ev_isi, ev_ite, ev_idx, ev_sl1, ev_sl2, ev_sl3, ev_rev, ev_tup, ev_lst, ev_bi, ev_call, evL_nil, evL_cons, evA_one, evA_cons, evO_one, evO_cons, evC_nil, evC_cons, getV_zero, getV_succ, getB_zero, getB_ow, getB_succ, getO_zero, getO_succ, List.set_cons_zero, List.set_cons_succ, bnd_ret, bnd_assoc, lft_some, lft_none, bnd_stk, truth_bl, truth_int, truth_non, truth_tup, truth_lst, toI_int, ix_tup0, ix_tup1, ix_tup2, cop_eqI, cop_neI, cop_lt, cop_le, cop_gt, cop_ge, cop_is, cop_isnot, cop_eqR, cop_neR, bop_addI, bop_subI, bnd_ite, run_ret, run_bnd, endF_ret, endF_nx, tst_lk, bindT_nm, bindT_tu, bindTs_nil, bindTs_cons, Option.bind_some, Option.map_some, if_true_eq, if_false_eq, Bool.not_true, Bool.not_false, decide_true, decide_false, Bool.not_eq_true, Bool.not_eq_false, decide_eq_true_eq, if_true, if_false, ite_true_t, ite_false_t, len_tupB, len_lstB, tupB_lst, lstB_tup, wipe_nil, wipe_cons, List.map_cons, List.map_nil, isSame_nn, isSame_tn, Bool.false_eq_true, reduceCtorEq, Nat.reduceLeDiff, List.length_cons, List.length_nil, Nat.reduceAdd, lim_eq, asLlst, cellOf_f, cellOf_t, iter_seqT, iter_seqL', List.cons_append, List.nil_append, List.append_nil, Nat.reduceSub, List.replicate_succ, List.replicate_zero, frz_ow, frz_im, frz_un, frz_succ, Nat.reduceLT, Nat.reduceEqDiff, Int.reduceLT, Int.reduceLE, Int.reduceEq, Int.reduceNeg, Int.reduceAdd, Int.reduceSub, List.isEmpty_nil, List.isEmpty_cons, true_and, and_true, false_and, and_false, Bool.true_and, Bool.false_and, Bool.and_true, Bool.and_false, Bool.true_or, Bool.false_or, Bool.or_true, Bool.or_false, List.length_append, List.length_map, eq_self, isSame_bl, $as,*])
local macro_rules
  | `(tactic| array_get_dec) => `(tactic| (apply Bz.sz'; (focus (repeat' (with_reducible first | assumption | exact Bz.zero1 | apply Bz.add | apply Bz.sub | apply Bz.mul | apply PB.at | (apply PB.s; assumption) | (apply PB.v; assumption) | (apply PB.m; assumption) | (apply RB.val; assumption; assumption) | (apply RB.slp; assumption; assumption)))); omega))
theorem RB.mono {n m : Nat} {r : Rw} (h : RB n r) (hm : n ≤ m) : RB m r := fun p hp => ⟨(h p hp).1.mono hm, (h p hp).2.1.mono hm, (h p hp).2.2.mono hm⟩
theorem RB.scl {n m : Nat} {r : Rw} {c : Rat} (h : RB n r) (hc : Bz m c) : RB (n + m) (sclR r c) := by
  refine RB.nrm (r := mapR id (· * c) (· * c) r) fun q hq => ?_
  obtain ⟨p, hp, rfl⟩ := List.mem_map.mp hq
  have := h p hp
  exact ⟨this.s.mono (by omega), this.v.mul hc, this.m.mul hc⟩
theorem RB.addR {n : Nat} {a b : Rw} (ha : RB n a) (hb : RB n b) (a0 : a ≠ []) (b0 : b ≠ []) : RB (8 * n + 6) (PL.addR a b) := by
  refine RB.nrm (r := smp (fun x => PL.val a x + PL.val b x) (fun x => PL.slp a x + PL.slp b x) (allS a b)) fun p hp => ?_
  obtain ⟨x, hx, rfl⟩ := List.mem_map.mp hp
  have hx := allS_bz ha hb hx
  exact ⟨hx.mono (by omega), ((ha.val a0 hx).add (hb.val b0 hx)).mono (by omega), ((ha.slp a0).add (hb.slp b0)).mono (by omega)⟩
theorem bz_m1 : Bz 1 (-1) := ⟨by decide, by decide⟩
theorem Rt_m1 : (.tup [.int (-1), .int 1] : D) = Rt (-1) := rfl
/-- a row that stands for a function of incomes from nought on -/
structure Row (r : Rw) : Prop where
  ne : r ≠ []
  hd : (Rw.hd r).s = 0
  asc : Asc r
theorem Row.add {a b : Rw} (ha : Row a) (hb : Row b) : Row (PL.addR a b) := ⟨addR_ne ha.ne, addR_hd ha.asc hb.asc ha.ne hb.ne ha.hd hb.hd, addR_asc⟩
theorem Row.scl {a : Rw} (ha : Row a) (c : Rat) : Row (sclR a c) := ⟨sclR_ne ha.ne c, by rw [sclR_hd ha.ne, ha.hd], sclR_asc ha.asc c⟩
theorem Row.mov {a : Rw} (ha : Row a) (c : Rat) : Row (movR a c) := ⟨movR_ne _ _, movR_hd _ _, movR_asc ha.asc c⟩
theorem Row.nrm {a : Rw} (ha : Row a) : Row (PL.nrm a) := ⟨nrm_ne ha.ne, by rw [nrm_hd, ha.hd], nrm_asc ha.asc⟩
def excR (s d : Rw) : Rw := addR s (sclR d (-1))
theorem excR_row {s d : Rw} (hs : Row s) (hd : Row d) : Row (excR s d) := hs.add (hd.scl _)
theorem excR_val {s d : Rw} (hs : Row s) (hd : Row d) {x : Rat} (hx : 0 ≤ x) : val (excR s d) x = val s x - val d x := by
  unfold excR
  rw [(addR_spec hs.asc (hd.scl (-1)).asc hs.ne (hd.scl (-1)).ne hs.hd (hd.scl (-1)).hd hx).1, (sclR_spec hd.asc hd.ne _ _).1]
  grind
theorem excR_nrm (s d : Rw) : nrm (excR s d) = excR s d := nrm_nrm _
theorem excR_stdy {s d : Rw} (hs : Row s) (hd : Row d) (ss : Stdy s) (sd : Stdy d) : Stdy (excR s d) := addR_stdy hs.asc (hd.scl (-1)).asc ss (sclR_stdy sd _)
/-- never rising: no slope above nought -/
def falling (r : Rw) : Prop := ∀ p ∈ r, p.m ≤ 0
theorem sclR_rising {r : Rw} (h : falling r) : rising (sclR r (-1)) := by
  refine nrm_rising (r := mapR id (· * (-1)) (· * (-1)) r) fun q hq => ?_
  obtain ⟨p, hp, rfl⟩ := List.mem_map.mp hq
  have := h p hp
  show 0 ≤ p.m * -1
  grind
theorem excR_rising {s d : Rw} (hs : Row s) (hd : Row d) (ss : rising s) (sd : falling d) : rising (excR s d) := addR_rising hs.ne (hd.scl (-1)).ne ss (sclR_rising sd)
def lastP (r : Rw) : Pc := r.getLastD default
def zbP (R : Rw) (x : Rat) : Pc := lastP (R.filter fun p => decide (p.s < x))
def zbR (R : Rw) (x : Rat) : Rat := if 0 < (zbP R x).m then (zbP R x).s - (zbP R x).v / (zbP R x).m else (zbP R x).s
def lzR (R : Rw) : Rat := (lastP R).s - (lastP R).v / (lastP R).m
def laterR (R : Rw) (lo : Rat) : List Rat := (sts R).filter fun x => decide (lo < x) && decide (0 < val R x)
def mpR (R : Rw) : Option (Rat × Option Rat) := match fpR R with
  | none => none
  | some lo => if val R lo = 0 then (match laterR R lo with
    | x :: _ => some (lo, some (zbR R x))
    | [] => some (lo, if (lastP R).m = 0 then none else some (lzR R))) else none
def mpD : Option (Rat × Option Rat) → D
  | none => .non
  | some (lo, hi) => .tup [Rt lo, opt hi]
theorem lastP_mem {r : Rw} (h : r ≠ []) : lastP r ∈ r := by
  rcases List.eq_nil_or_concat r with rfl | ⟨l, p, rfl⟩
  · exact absurd rfl h
  · unfold lastP; simp
theorem fpR_mem {R : Rw} {x : Rat} (h : fpR R = some x) : ∃ p ∈ R, x = fpV p ∧ (p.v < 0 → 0 < p.m) := by
  unfold fpR at h
  rw [Option.map_eq_some_iff] at h
  obtain ⟨i, h1, rfl⟩ := h
  have h2 := List.find?_some h1
  have hi := List.mem_range.mp (List.mem_of_find?_eq_some h1)
  refine ⟨_, mem_getD hi default, rfl, fun hv => ?_⟩
  unfold fpC at h2
  rw [decide_eq_true hv] at h2
  simp only [Bool.not_true, Bool.false_or, Bool.and_eq_true, decide_eq_true_eq] at h2
  exact h2.1
theorem fpR_bz {n : Nat} {R : Rw} (hR : RB n R) {x : Rat} (h : fpR R = some x) : Bz (3 * n + 1) x := by
  obtain ⟨p, hp, rfl, hm⟩ := fpR_mem h
  have hp := hR p hp
  unfold fpV
  split
  · rename_i hv
    have := hm hv
    exact (hp.s.sub (hp.v.div hp.m (by grind))).mono (by omega)
  · exact hp.s.mono (by omega)
section
variable {β : Type} {P : Prog β} {k n m : Nat} [FRat P]
theorem ixl_row {r : Rw} (h : r ≠ []) : idx (.tup (r.map pcD)) (.int (-1)) = some (pcD (lastP r)) ∧ idx (.lst (r.map pcD)) (.int (-1)) = some (pcD (lastP r)) := by
  rcases List.eq_nil_or_concat r with rfl | ⟨l, p, rfl⟩
  · exact absurd rfl h
  · rw [List.concat_eq_append, List.map_append]
    have : lastP (l ++ [p]) = p := by unfold lastP; simp
    rw [this]
    exact ⟨ix_lastT, ix_lastL⟩
theorem s_excess [FN P "along" RF.along] [FN P "limited" RF.limited] [GN P "MAX_PIECES" (.int 60)] [FN P "normal" RF.normal] [FN P "piece_at" RF.piece_at] [FN P "value_at" RF.value_at] [FN P "slope_at" RF.slope_at] [FN P "sorted_ratios" RF.sorted_ratios] [FN P "all_starts" RF.all_starts] [FN P "added" RF.added] [FN P "scaled" RF.scaled] [FN P "excess" RF.excess]
    {a b : Rw} (ha : RB n a) (hb : RB n b) (a0 : a ≠ []) (b0 : b ≠ []) (hl : a.length + b.length ≤ 60) (hs : 24 * n + 44 ≤ 4000) (hk : 9 ≤ k) : call P k "excess" [rwD a, rwD b] = ret (rwD (excR a b)) := by
  rw [call_fnd RF.excess (by omega) rfl rfl]
  unfold RF.excess
  have h1 := sclR_len b (-1)
  have e := s_added (P := P) (k := k - 1) (ha.mono (show n ≤ n + 1 by omega)) (hb.scl bz_m1) a0 (sclR_ne b0 (-1)) (by omega) (by omega) (by omega)
  ((first | rw [xo_lk] | rw [lk_def]); simp! [Rt_m1, s_scaled hb bz_m1 (by omega), e])
  rfl
theorem s_spots_of [FN P "along" RF.along] [FN P "limited" RF.limited] [GN P "MAX_PIECES" (.int 60)] [FN P "normal" RF.normal] [FN P "spots_of" RF.spots_of] {r : Rw} (hr : RB n r) (hl : r.length ≤ 60) (hs : 3 * n + 1 ≤ 4000) (hk : 7 ≤ k) :
    call P k "spots_of" [rwD r] = ret (.lst ((sts (nrm r)).map Rt)) := by
  rw [call_fnd RF.spots_of (by omega) rfl rfl]
  unfold RF.spots_of
  have hl' : (nrm r).length ≤ 60 := Nat.le_trans (nrm_len r) hl
  ((first | rw [xo_lk] | rw [lk_def]); simp! [])
  rw [comp_map (l := nrm r) pcD (fun p => Rt p.s) (by rw [lim_eq]; omega) (by unfold rwD at *; simp! [show call P (k - 1) "normal" [.tup (r.map pcD)] = ret (.tup ((nrm r).map pcD)) from s_normal hr hl hs (by omega)]) fun p hp => by
    unfold pcD
    simp! []]
  simp! []
  unfold sts
  rw [List.map_map]; rfl
theorem s_zero_before [FN P "over" RF.over] [FN P "along" RF.along] [FN P "limited" RF.limited] [GN P "MAX_PIECES" (.int 60)] [FN P "normal" RF.normal] [FN P "zero_before" RF.zero_before] {r : Rw} {x : Rat} (hr : RB n r) (hx : Bz m x) (hl : r.length ≤ 60) (h0 : ∃ p ∈ nrm r, p.s < x)
    (hs : 3 * n + 1 ≤ 4000 ∧ m ≤ 4000) (hk : 7 ≤ k) : call P k "zero_before" [rwD r, Rt x] = ret (Rt (zbR (nrm r) x)) := by
  rw [call_fnd RF.zero_before (by omega) rfl rfl]
  unfold RF.zero_before
  have hr' := hr.nrm
  have hl' : (nrm r).length ≤ 60 := Nat.le_trans (nrm_len r) hl
  have en : call P (k - 1) "normal" [rwD r] = ret (rwD (nrm r)) := s_normal hr hl (by omega) (by omega)
  generalize nrm r = R at *
  ((first | rw [xo_lk] | rw [lk_def]); simp! [])
  rw [comp_fil (l := R) pcD (fun p => decide (p.s < x)) pcD (by rw [lim_eq]; omega) (by simp! [en]; rfl) fun p hp => ⟨_, rfl, by have := hr' p hp; simp! [ix_pc0, t_less], fun _ => by simp! []⟩]
  have hne : R.filter (fun p => decide (p.s < x)) ≠ [] := by
    obtain ⟨p, hp, h⟩ := h0
    exact List.ne_nil_of_mem (List.mem_filter.mpr ⟨hp, decide_eq_true h⟩)
  have hp := hr' _ (List.mem_filter.mp (lastP_mem hne)).1
  simp! []
  ((first | rw [xo_lk] | rw [lk_def]); simp! [(ixl_row hne).2])
  unfold zbR zbP
  generalize lastP (R.filter fun p => decide (p.s < x)) = p at *
  unfold pcD
  simp! []
  by_cases h2 : 0 < p.m
  · have hm0 : p.m ≠ 0 := by grind
    have hov := hp.v.div hp.m hm0
    have hov' := hov.sz (show n + n ≤ 4000 by omega)
    ((first | rw [xo_lk] | rw [lk_def]); simp! [g_zero, t_less, h2, t_over, t_minus, hm0, ne_eq, not_false_eq_true])
  · ((first | rw [xo_lk] | rw [lk_def]); simp! [g_zero, t_less, h2])
theorem s_last_zero [FN P "over" RF.over] [FN P "along" RF.along] [FN P "limited" RF.limited] [GN P "MAX_PIECES" (.int 60)] [FN P "normal" RF.normal] [FN P "last_zero" RF.last_zero] {r : Rw} (hr : RB n r) (hl : r.length ≤ 60) (r0 : r ≠ []) (h0 : (lastP (nrm r)).m ≠ 0)
    (hs : 3 * n + 1 ≤ 4000) (hk : 7 ≤ k) : call P k "last_zero" [rwD r] = ret (Rt (lzR (nrm r))) := by
  rw [call_fnd RF.last_zero (by omega) rfl rfl]
  unfold RF.last_zero
  have hr' := hr.nrm
  have en : call P (k - 1) "normal" [rwD r] = ret (rwD (nrm r)) := s_normal hr hl (by omega) (by omega)
  have hne := nrm_ne r0
  generalize nrm r = R at *
  have e := (ixl_row hne).1
  have hp := hr' _ (lastP_mem hne)
  ((first | rw [xo_lk] | rw [lk_def]); simp! [en, show idx (rwD R) (.int (-1)) = some (pcD (lastP R)) from e])
  unfold lzR
  generalize lastP R = p at *
  unfold pcD
  simp! []
  have hov' := (hp.v.div hp.m h0).sz (show n + n ≤ 4000 by omega)
  ((first | rw [xo_lk] | rw [lk_def]); simp! [t_over, t_minus, h0, ne_eq, not_false_eq_true])
theorem isSame_opt (o : Option Rat) : isSame (opt o) .non = some (o.isNone) := by cases o <;> rfl
theorem cop_Rt_non {x : Rat} : isSame (Rt x) .non = some false := rfl
theorem later_bz {R : Rw} (hR : RB n R) {lo x : Rat} (h : x ∈ laterR R lo) : Bz n x ∧ lo < x ∧ 0 < val R x ∧ ∃ p ∈ R, p.s = x := by
  obtain ⟨h1, h2⟩ := List.mem_filter.mp h
  obtain ⟨p, hp, rfl⟩ := List.mem_map.mp h1
  simp only [Bool.and_eq_true, decide_eq_true_eq] at h2
  exact ⟨(hR p hp).s, h2.1, h2.2, p, hp, rfl⟩
theorem hd_le {r : Rw} (ha : Asc r) {p : Pc} (hp : p ∈ r) : (Rw.hd r).s ≤ p.s := by
  cases r with
  | nil => cases hp
  | cons q r =>
    show q.s ≤ p.s
    rcases List.mem_cons.mp hp with rfl | hp
    · exact Rat.le_refl
    · have := ha.lt hp; grind
theorem s_meeting_prices [FN P "over" RF.over] [FN P "along" RF.along] [FN P "limited" RF.limited] [GN P "MAX_PIECES" (.int 60)] [FN P "normal" RF.normal] [FN P "piece_at" RF.piece_at] [FN P "value_at" RF.value_at] [FN P "slope_at" RF.slope_at] [FN P "sorted_ratios" RF.sorted_ratios] [FN P "all_starts" RF.all_starts] [FN P "added" RF.added] [FN P "scaled" RF.scaled] [FN P "excess" RF.excess]
    [FN P "first_price" RF.first_price] [FN P "zero_before" RF.zero_before] [FN P "last_zero" RF.last_zero] [FN P "spots_of" RF.spots_of] [FN P "meeting_prices" RF.meeting_prices]
    {a b : Rw} (ra : Row a) (rb : Row b) (sa : Stdy a) (sb : Stdy b) (ia : rising a) (ib : falling b) (ha : RB n a) (hb : RB n b) (hl : a.length + b.length ≤ 60) (hs : 24 * n + 44 ≤ 4000) {j : Nat} (hR : RB j (excR a b)) (hj : 6 * j + 10 ≤ 4000) (hk : 10 ≤ k) :
    call P k "meeting_prices" [rwD a, rwD b] = ret (mpD (mpR (excR a b))) := by
  rw [call_fnd RF.meeting_prices (by omega) rfl rfl]
  unfold RF.meeting_prices
  have hlen : (excR a b).length ≤ 60 := by
    have h1 := addR_len a (sclR b (-1))
    have h2 := sclR_len b (-1)
    unfold excR; omega
  have row := excR_row ra rb
  have en := excR_nrm a b
  ((first | rw [xo_lk] | rw [lk_def]); simp! [s_excess ha hb ra.ne rb.ne])
  have e1 : call P (k - 1) "first_price" [rwD (excR a b)] = ret (opt (fpR (excR a b))) := by
    have := s_first_price (P := P) (k := k - 1) hR hlen (by omega) (by omega)
    rwa [en] at this
  have e2 : call P (k - 1) "spots_of" [rwD (excR a b)] = ret (.lst ((sts (excR a b)).map Rt)) := by
    have := s_spots_of (P := P) (k := k - 1) hR hlen (by omega) (by omega)
    rwa [en] at this
  have e3 : call P (k - 1) "normal" [rwD (excR a b)] = ret (rwD (excR a b)) := by
    have := s_normal (P := P) (k := k - 1) hR hlen (by omega) (by omega)
    rwa [en] at this
  have e4 : (lastP (excR a b)).m ≠ 0 → call P (k - 1) "last_zero" [rwD (excR a b)] = ret (Rt (lzR (excR a b))) := fun h => by
    have := s_last_zero (P := P) (k := k - 1) hR hlen row.ne (by rw [en]; exact h) (by omega) (by omega)
    rwa [en] at this
  have e5 : ∀ x, Bz j x → (∃ p ∈ excR a b, p.s < x) → call P (k - 1) "zero_before" [rwD (excR a b), Rt x] = ret (Rt (zbR (excR a b) x)) := fun x hx h => by
    have := s_zero_before (P := P) (k := k - 1) hR hx hlen (by rw [en]; exact h) (by omega) (by omega)
    rwa [en] at this
  have hfp := fpR_spec row.ne row.asc (excR_stdy ra rb sa sb) (excR_rising ra rb ia ib)
  rw [row.hd] at hfp
  clear en
  generalize excR a b = R at *
  unfold mpR
  ((first | rw [xo_lk] | rw [lk_def]); simp! [e1])
  cases hf : fpR R with
  | none =>
    ((first | rw [xo_lk] | rw [lk_def]); simp! [isSame_opt, Option.isNone_none])
    ((first | rw [xo_lk] | rw [lk_def]); simp! [])
    rfl
  | some lo =>
    rw [hf] at hfp
    have hlo := fpR_bz hR hf
    have h1 : call P (k - 1) "value_at" [rwD R, opt (some lo)] = ret (Rt (val R lo)) := s_value_at row.ne hR hlo (by omega) (by omega)
    ((first | rw [xo_lk] | rw [lk_def]); simp! [isSame_opt, Option.isNone_some, h1, g_zero])
    show _ = ret (mpD (if val R lo = 0 then _ else none))
    by_cases h2 : val R lo = 0
    · rw [if_pos h2]
      simp! [h2]
      ((first | rw [xo_lk] | rw [lk_def]); simp! [])
      ((first | rw [xo_lk] | rw [lk_def]); simp! [])
      rw [comp_fil (l := sts R) Rt (fun x => decide (lo < x) && decide (0 < val R x)) Rt (by unfold sts; rw [lim_eq, List.length_map]; omega) (by simp! [e2]) fun x hx => ⟨_, rfl, by
        obtain ⟨p, hp, rfl⟩ := List.mem_map.mp hx
        have hb := (hR p hp).s
        have h3 : call P (k - 1) "less" [opt (some lo), Rt p.s] = ret (.bl (decide (lo < p.s))) := t_less (by omega) (hlo.sz (by omega)) (hb.sz (by omega))
        simp! [h3]
        have r0 := row.ne
        by_cases h4 : lo < p.s
        · simp! [h4, g_zero, s_value_at row.ne hR hb, t_less]
        · simp! [h4], fun _ => by simp! []⟩]
      simp! []
      rw [show (sts R).filter (fun x => decide (lo < x) && decide (0 < val R x)) = laterR R lo from rfl]
      have hmem : ∀ x ∈ laterR R lo, Bz j x ∧ lo < x ∧ 0 < val R x ∧ ∃ p ∈ R, p.s = x := fun x hx => later_bz hR hx
      cases hL : laterR R lo with
      | nil =>
        ((first | rw [xo_lk] | rw [lk_def]); simp! [])
        ((first | rw [xo_lk] | rw [lk_def]); simp! [])
        ((first | rw [xo_lk] | rw [lk_def]); simp! [e3, g_zero])
        have hp := hR _ (lastP_mem row.ne)
        rw [show idx (rwD R) (.int (-1)) = some (pcD (lastP R)) from (ixl_row row.ne).1]
        simp! [ix_pc2]
        by_cases h5 : (lastP R).m = 0
        · simp! [h5]
          rfl
        · simp! [h5, e4 h5]
          rfl
      | cons x L =>
        obtain ⟨b1, b2, b3, p, hp, b4⟩ := hmem x (by rw [hL]; exact List.mem_cons_self)
        have hex : ∃ p ∈ R, p.s < x := ⟨_, Rw.hd_mem row.ne, by rw [row.hd]; have := hfp.1; grind⟩
        ((first | rw [xo_lk] | rw [lk_def]); simp! [])
        ((first | rw [xo_lk] | rw [lk_def]); simp! [show idx (.lst (Rt x :: L.map Rt)) (.int 0) = some (Rt x) from rfl, e5 x b1 hex])
        rfl
    · rw [if_neg h2]
      simp! [h2]
      ((first | rw [xo_lk] | rw [lk_def]); simp! [])
      rfl
end
/-! ### what was told -/
theorem lastP_cons {p q : Pc} {r : Rw} : lastP (p :: q :: r) = lastP (q :: r) := rfl
theorem val_last : ∀ {r : Rw}, r ≠ [] → Asc r → ∀ x, (lastP r).s ≤ x → val r x = (lastP r).at x
  | [], h, _, _, _ => absurd rfl h
  | [p], _, _, x, _ => val_one p x
  | p :: q :: r, _, ha, x, hx => by
    rw [lastP_cons] at hx ⊢
    have h1 : q.s ≤ (lastP (q :: r)).s := hd_le ha.tail (lastP_mem (List.cons_ne_nil _ _))
    rw [val_cons ha, if_neg (by grind)]
    exact val_last (List.cons_ne_nil _ _) ha.tail x hx
theorem last_ge : ∀ {r : Rw}, Asc r → ∀ p ∈ r, p.s ≤ (lastP r).s
  | [], _, p, h => by cases h
  | [q], _, p, h => by rw [List.mem_singleton.mp h]; exact Rat.le_refl
  | q :: a :: r, ha, p, h => by
    rw [lastP_cons]
    rcases List.mem_cons.mp h with rfl | h
    · have h1 := ha.lt (List.mem_cons_self (a := a) (l := r))
      have h2 := last_ge ha.tail a List.mem_cons_self
      grind
    · exact last_ge ha.tail p h
/-- the piece that comes to a start x of the row -/
theorem zbP_spec : ∀ {r : Rw}, Asc r → Stdy r → ∀ {x : Rat}, (∃ p ∈ r, p.s = x) → (∃ p ∈ r, p.s < x) → zbP r x ∈ r ∧ (zbP r x).s < x ∧ ∀ y, (zbP r x).s ≤ y → y ≤ x → val r y = (zbP r x).at y := by
  intro r
  induction r with
  | nil => intro _ _ x h _; obtain ⟨p, hp, _⟩ := h; cases hp
  | cons p r ih =>
    intro ha hs x h1 h2
    cases r with
    | nil =>
      obtain ⟨q, hq, rfl⟩ := h1
      obtain ⟨a, haa, hlt⟩ := h2
      rw [List.mem_singleton.mp hq, List.mem_singleton.mp haa] at hlt
      grind
    | cons q r =>
      have hpx : p.s < x := by
        obtain ⟨a, haa, hlt⟩ := h2
        have : p.s ≤ a.s := hd_le ha haa
        grind
      have h1' : ∃ a ∈ q :: r, a.s = x := by
        obtain ⟨a, haa, e⟩ := h1
        rcases List.mem_cons.mp haa with rfl | h
        · grind
        · exact ⟨a, h, e⟩
      by_cases hq : q.s < x
      · have e : zbP (p :: q :: r) x = zbP (q :: r) x := by
          unfold zbP
          rw [List.filter_cons_of_pos (by simpa using hpx), List.filter_cons_of_pos (by simpa using hq)]
          rfl
        obtain ⟨i1, i2, i3⟩ := ih ha.tail hs.tail h1' ⟨q, List.mem_cons_self, hq⟩
        rw [e]
        refine ⟨List.mem_cons_of_mem _ i1, i2, fun y hy1 hy2 => ?_⟩
        have : q.s ≤ (zbP (q :: r) x).s := hd_le ha.tail i1
        rw [val_cons ha, if_neg (by grind)]
        exact i3 y hy1 hy2
      · have hqx : q.s = x := by
          obtain ⟨a, haa, e⟩ := h1'
          have : q.s ≤ a.s := hd_le ha.tail haa
          grind
        have e : zbP (p :: q :: r) x = p := by
          unfold zbP
          rw [List.filter_cons_of_pos (by simpa using hpx)]
          have : (q :: r).filter (fun p => decide (p.s < x)) = [] := by
            rw [List.filter_eq_nil_iff]
            intro a haa
            have : q.s ≤ a.s := hd_le ha.tail haa
            simp; grind
          rw [this]; rfl
        rw [e]
        refine ⟨List.mem_cons_self, hpx, fun y hy1 hy2 => ?_⟩
        rw [val_cons ha]
        by_cases hy : y < q.s
        · rw [if_pos hy]
        · have : y = q.s := by grind
          rw [if_neg hy, this, val_hd ha.tail, hs.1]
theorem Pc.root {p : Pc} (h : 0 < p.m) {y : Rat} (hy : p.at y = 0) : p.s - p.v / p.m = y := by
  unfold Pc.at at hy
  have : p.v = -(p.m * (y - p.s)) := by grind
  rw [this]; grind
theorem mpR_spec {R : Rw} (row : Row R) (hs : Stdy R) (hr : rising R) : match mpR R with
    | none => (∀ y, 0 ≤ y → val R y < 0) ∨ 0 < val R 0
    | some (lo, hi) => 0 ≤ lo ∧ val R lo = 0 ∧ (∀ y, 0 ≤ y → y < lo → val R y < 0) ∧ match hi with
      | none => ∀ y, lo ≤ y → val R y = 0
      | some hi => lo ≤ hi ∧ val R hi = 0 ∧ ∀ y, hi < y → 0 < val R y := by
  have hfp := fpR_spec row.ne row.asc hs hr
  rw [row.hd] at hfp
  have mono : ∀ {x y : Rat}, x ≤ y → val R x ≤ val R y := val_mono row.asc hs hr
  unfold mpR
  cases hf : fpR R with
  | none => rw [hf] at hfp; exact .inl hfp
  | some lo =>
    rw [hf] at hfp
    obtain ⟨f1, f2, f3, f4⟩ := hfp
    dsimp only
    by_cases h0 : val R lo = 0
    · rw [if_pos h0]
      cases hL : laterR R lo with
      | nil =>
        have none_later : ∀ p ∈ R, lo < p.s → val R p.s = 0 := by
          intro p hp hlt
          have : p.s ∉ laterR R lo := by rw [hL]; exact List.not_mem_nil
          have h1 : ¬ 0 < val R p.s := fun z => this (List.mem_filter.mpr ⟨List.mem_map_of_mem hp, by simp [hlt, z]⟩)
          have := mono (show lo ≤ p.s by grind)
          grind
        have lm := lastP_mem row.ne
        have lr := hr _ lm
        -- a place from which on the last piece tells, and where the row is nought
        have key : ∃ z, (lastP R).s ≤ z ∧ lo ≤ z ∧ val R z = 0 := by
          by_cases h1 : lo < (lastP R).s
          · exact ⟨(lastP R).s, Rat.le_refl, by grind, none_later _ lm h1⟩
          · exact ⟨lo, by grind, Rat.le_refl, h0⟩
        obtain ⟨z, z1, z2, z3⟩ := key
        have zl := val_last row.ne row.asc z z1
        rw [z3] at zl
        by_cases h1 : (lastP R).m = 0
        · simp only [h1, if_true]
          refine ⟨f1, h0, f4, fun y hy => ?_⟩
          by_cases hz : y ≤ z
          · have a1 := mono hy
            have a2 := mono hz
            grind
          · rw [val_last row.ne row.asc y (by grind)]
            unfold Pc.at at zl ⊢
            rw [h1] at zl ⊢
            grind
        · simp only [h1, if_false]
          have hm : 0 < (lastP R).m := by grind
          have e : lzR R = z := Pc.root hm zl.symm
          rw [e]
          refine ⟨f1, h0, f4, z2, z3, fun y hy => ?_⟩
          rw [val_last row.ne row.asc y (by grind)]
          have := Pc.at_lt hm hy
          grind
      | cons x L =>
        have hx : x ∈ laterR R lo := by rw [hL]; exact List.mem_cons_self
        obtain ⟨x1, x2⟩ := List.mem_filter.mp hx
        obtain ⟨p, hp, e⟩ := List.mem_map.mp x1
        simp only [Bool.and_eq_true, decide_eq_true_eq] at x2
        obtain ⟨g1, g2, g3⟩ := zbP_spec row.asc hs ⟨p, hp, e⟩ ⟨_, Rw.hd_mem row.ne, by rw [row.hd]; grind⟩
        -- the first such start: at those between the row is nought
        have before : ∀ q ∈ R, lo < q.s → q.s < x → val R q.s = 0 := by
          intro q hq h1 h2
          have hn : q.s ∉ laterR R lo := by
            intro hm
            have hsort : (laterR R lo).Pairwise (· < ·) := by
              unfold laterR sts
              refine List.Pairwise.filter _ ?_
              rw [List.pairwise_map]; exact row.asc
            rw [hL] at hm hsort
            rcases List.mem_cons.mp hm with e | hm
            · grind
            · have := (List.pairwise_cons.mp hsort).1 _ hm; grind
          have h3 : ¬ 0 < val R q.s := fun z => hn (List.mem_filter.mpr ⟨List.mem_map_of_mem hq, by simp [h1, z]⟩)
          have := mono (show lo ≤ q.s by grind)
          grind
        have key : ∃ z, (zbP R x).s ≤ z ∧ lo ≤ z ∧ z < x ∧ val R z = 0 := by
          by_cases h1 : lo < (zbP R x).s
          · exact ⟨(zbP R x).s, Rat.le_refl, by grind, g2, before _ g1 h1 g2⟩
          · exact ⟨lo, by grind, Rat.le_refl, x2.1, h0⟩
        obtain ⟨z, z1, z2, z3, z4⟩ := key
        have zl := g3 z z1 (by grind)
        have xl := g3 x (by grind) Rat.le_refl
        rw [z4] at zl
        have hm : 0 < (zbP R x).m := by
          have h1 := hr _ g1
          by_cases h2 : (zbP R x).m = 0
          · exfalso
            unfold Pc.at at zl xl
            rw [h2] at zl xl
            grind
          · grind
        have e : zbR R x = z := by unfold zbR; rw [if_pos hm]; exact Pc.root hm zl.symm
        simp only [e]
        refine ⟨f1, h0, f4, z2, z4, fun y hy => ?_⟩
        by_cases hyx : y ≤ x
        · rw [g3 y (by grind) hyx]
          have := Pc.at_lt hm hy
          grind
        · have := mono (show x ≤ y by grind)
          grind
    · rw [if_neg h0]
      right
      have : lo = 0 := by
        by_cases h1 : 0 < lo
        · exact absurd (f3 h1) h0
        · grind
      rw [← this]; grind
theorem mpR_fp {R : Rw} {lo : Rat} {hi : Option Rat} (h : mpR R = some (lo, hi)) : fpR R = some lo := by
  unfold mpR at h
  cases hf : fpR R with
  | none => rw [hf] at h; cases h
  | some x =>
    rw [hf] at h
    dsimp only at h
    split at h
    · split at h <;> (simp only [Option.some.injEq, Prod.mk.injEq] at h; rw [h.1])
    · cases h
end PL

set_option autoImplicit false
set_option linter.all false
set_option maxRecDepth 100000
set_option maxHeartbeats 2000000
set_option exponentiation.threshold 20000
/-! N9: areas; taxes between. -/
namespace PL
local macro_rules
  | `(tactic| simp! [$as,*]) => `(tactic| simp (disch := (first | omega | assumption | array_get_dec)) only [lk_asg, lk_asgT, lk_own, lk_iff, lk_ret, lk_retN, lk_app, lk_ins, lk_nil, lk_brk, lk_cnt, lk_pas, lk_frz, lk_par, lk_par3, lk_whl, lk_ext, lk_aug, lk_fr, cont_nx, cont_rt, cont_bk, cont_ct, ev_var, ev_bvar, ev_glob, ev_lit, ev_bin, ev_neg, ev_no, ev_and, ev_or, ev_cmp, ev_chn, ev_isi, ev_ite, ev_idx, ev_sl1, ev_sl2, ev_sl3, ev_rev, ev_tup, ev_lst, ev_bi, ev_call, evL_nil, evL_cons, evA_one, evA_cons, evO_one, evO_cons, evC_nil, evC_cons, getV_zero, getV_succ, getB_zero, getB_ow, getB_succ, getO_zero, getO_succ, List.set_cons_zero, List.set_cons_succ, bnd_ret, bnd_assoc, lft_some, lft_none, bnd_stk, truth_bl, truth_int, truth_non, truth_tup, truth_lst, toI_int, ix_tup0, ix_tup1, ix_tup2, cop_eqI, cop_neI, cop_lt, cop_le, cop_gt, cop_ge, cop_is, cop_isnot, cop_eqR, cop_neR, bop_addI, bop_subI, bnd_ite, run_ret, run_bnd, endF_ret, endF_nx, tst_lk, bindT_nm, bindT_tu, bindTs_nil, bindTs_cons, Option.bind_some, Option.map_some, if_true_eq, if_false_eq, Bool.not_true, Bool.not_false, decide_true, decide_false, Bool.not_eq_true, Bool.not_eq_false, decide_eq_true_eq, if_true, if_false, ite_true_t, ite_false_t, len_tupB, len_lstB, tupB_lst, lstB_tup, wipe_nil, wipe_cons, List.map_cons, List.map_nil, isSame_nn, isSame_tn, Bool.false_eq_true, reduceCtorEq, Nat.reduceLeDiff, List.length_cons, List.length_nil, Nat.reduceAdd, lim_eq, asLlst, cellOf_f, cellOf_t, iter_seqT, iter_seqL', List.cons_append, List.nil_append, List.append_nil, Nat.reduceSub, List.replicate_succ, List.replicate_zero, frz_ow, frz_im, frz_un, frz_succ, Nat.reduceLT, Nat.reduceEqDiff, Int.reduceLT, Int.reduceLE, Int.reduceEq, Int.reduceNeg, Int.reduceAdd, Int.reduceSub, List.isEmpty_nil, List.isEmpty_cons, true_and, and_true, false_and, and_false, Bool.true_and, Bool.false_and, Bool.and_true, Bool.and_false, Bool.true_or, Bool.false_or, Bool.or_true, Bool.or_false, List.length_append, List.length_map, eq_self, isSame_bl, $as,*])
local macro_rules
  | `(tactic| array_get_dec) => `(tactic| (apply Bz.sz'; (focus (repeat' (with_reducible first | assumption | exact Bz.zero1 | apply Bz.add | apply Bz.sub | apply Bz.mul | apply PB.at | (apply PB.s; assumption) | (apply PB.v; assumption) | (apply PB.m; assumption) | (apply RB.val; assumption; assumption) | (apply RB.slp; assumption; assumption)))); omega))
theorem bz_half : Bz 2 ((1 : Rat) / 2) := ⟨by decide +kernel, by decide +kernel⟩
theorem Rt_half : (.tup [.int 1, .int 2] : D) = Rt (1 / 2) := by
  unfold Rt
  rw [show ((1 : Rat) / 2).num = 1 by decide +kernel, show ((1 : Rat) / 2).den = 2 by decide +kernel]
  rfl
theorem foldl_app {α γ : Type} (f : α → γ) : ∀ (l : List α) (acc : List γ), l.foldl (fun acc a => acc ++ [f a]) acc = acc ++ l.map f
  | [], acc => by simp
  | a :: l, acc => by rw [List.foldl_cons, foldl_app f l]; simp
def arP (r : Rw) (p : Rat × Rat) : Rat := (val r p.1 + val r p.2) * (1 / 2) * (p.2 - p.1)
def arS (R : Rw) (lo hi : Rat) : List Rat := lo :: ((sts R).filter fun x => decide (lo < x) && decide (x < hi)) ++ [hi]
def areaR (r : Rw) (lo hi : Rat) : Rat := sm (((arS (nrm r) lo hi).zip ((arS (nrm r) lo hi).drop 1)).map (arP r))
theorem zipD_Rt (as bs : List Rat) : zipD (as.map Rt) (bs.map Rt) = (as.zip bs).map fun p => .tup [Rt p.1, Rt p.2] := zip_map
section
variable {β : Type} {P : Prog β} {k n m : Nat} [h : FRat P]
theorem t_sum_of [FN P "sum_of" RF.sum_of] {xs : List Rat} {d : D} (hd : items d = some (xs.map Rt)) {m : Nat} (hx : ∀ x ∈ xs, Bz m x) (hm : xs.length * (m + 1) + 1 ≤ 4000) (hk : 4 ≤ k) : call P k "sum_of" [d] = ret (Rt (sm xs)) :=
  s_sum_of (FN.fn (P := P) (x := "sum_of") (f := RF.sum_of)) h.zero h.rats hk hd hm hx
theorem s_area_between [FN P "sum_of" RF.sum_of] [FN P "along" RF.along] [FN P "limited" RF.limited] [GN P "MAX_PIECES" (.int 60)] [FN P "normal" RF.normal] [FN P "piece_at" RF.piece_at] [FN P "value_at" RF.value_at] [FN P "area_between" RF.area_between]
    {r : Rw} {lo hi : Rat} (r0 : r ≠ []) (hr : RB n r) (hlo : Bz m lo) (hhi : Bz m hi) (hnm : n ≤ m) (hl : r.length ≤ 60) (hs : (r.length + 1) * (6 * n + 4 * m + 20) + 1 ≤ 4000) (hk : 7 ≤ k) : call P k "area_between" [rwD r, Rt lo, Rt hi] = ret (Rt (areaR r lo hi)) := by
  rw [call_fnd RF.area_between (by omega) rfl rfl]
  unfold RF.area_between
  have hpos : 0 < r.length := by cases r with
    | nil => exact absurd rfl r0
    | cons p r => simp
  have hbig : 6 * n + 4 * m + 20 ≤ (r.length + 1) * (6 * n + 4 * m + 20) := Nat.le_mul_of_pos_left _ (by omega)
  have hR := hr.nrm
  have hl' : (nrm r).length ≤ r.length := nrm_len r
  have en : call P (k - 1) "normal" [rwD r] = ret (rwD (nrm r)) := s_normal hr hl (by omega) (by omega)
  unfold areaR
  ((first | rw [xo_lk] | rw [lk_def]); simp! [])
  rw [comp_fil (l := nrm r) pcD (fun p => decide (lo < p.s) && decide (p.s < hi)) (fun p => Rt p.s) (by rw [lim_eq]; omega) (by simp! [en]; rfl) fun p hp => ⟨_, rfl, by
    have := hR p hp
    simp! [t_less]
    by_cases h1 : lo < p.s
    · simp! [h1, t_less]
    · simp! [h1], fun _ => by simp! []⟩]
  have eF : ((nrm r).filter fun p => decide (lo < p.s) && decide (p.s < hi)).map (fun p => Rt p.s) = ((sts (nrm r)).filter fun x => decide (lo < x) && decide (x < hi)).map Rt := by
    unfold sts
    rw [List.filter_map, List.map_map]; rfl
  rw [eF]
  have hF : ((sts (nrm r)).filter fun x => decide (lo < x) && decide (x < hi)).length ≤ r.length := by
    have := List.length_filter_le (fun x => decide (lo < x) && decide (x < hi)) (sts (nrm r))
    unfold sts at this ⊢
    rw [List.length_map] at this
    omega
  have hS : ∀ x ∈ arS (nrm r) lo hi, Bz m x := by
    intro x hx
    unfold arS at hx
    simp only [List.cons_append, List.mem_cons, List.mem_append, List.not_mem_nil, or_false] at hx
    rcases hx with rfl | hx | rfl
    · exact hlo
    · obtain ⟨p, hp, rfl⟩ := List.mem_map.mp (List.mem_filter.mp hx).1
      exact (hR p hp).s.mono hnm
    · exact hhi
  have hSl : (arS (nrm r) lo hi).length ≤ r.length + 2 := by
    unfold arS
    simp only [List.cons_append, List.length_cons, List.length_append, List.length_nil]; omega
  have e1 : bop .add (.lst [Rt lo]) (.lst (((sts (nrm r)).filter fun x => decide (lo < x) && decide (x < hi)).map Rt)) = some (.lst (Rt lo :: ((sts (nrm r)).filter fun x => decide (lo < x) && decide (x < hi)).map Rt)) := by
    rw [bop_addL (by rw [lim_eq, List.length_map]; simp only [List.length_cons, List.length_nil]; omega)]; rfl
  have e2 : bop .add (.lst (Rt lo :: ((sts (nrm r)).filter fun x => decide (lo < x) && decide (x < hi)).map Rt)) (.lst [Rt hi]) = some (.lst ((arS (nrm r) lo hi).map Rt)) := by
    rw [bop_addL (by rw [lim_eq]; simp only [List.length_cons, List.length_nil, List.length_map]; omega)]
    unfold arS
    simp
  simp! [e1, e2]
  have hS1 : 1 ≤ (arS (nrm r) lo hi).length := by unfold arS; simp
  generalize arS (nrm r) lo hi = S at *
  have e3 : sli (some 1) none (.lst (S.map Rt)) = some (.lst ((S.drop 1).map Rt)) := by
    show some (D.lst (cutD _ (some ((1 : Nat) : Int)) none)) = _
    rw [cut_from (by rw [List.length_map]; exact hS1), List.map_drop]
  ((first | rw [xo_lk] | rw [lk_def]); simp! [])
  ((first | rw [xo_lk] | rw [lk_def]); simp! [e3])
  rw [show iter .zip [.lst (S.map Rt), .lst ((S.drop 1).map Rt)] = some ((S.zip (S.drop 1)).map fun p => .tup [Rt p.1, Rt p.2]) from congrArg some (zipD_Rt _ _)]
  simp! []
  have hz : (S.zip (S.drop 1)).length ≤ r.length + 1 := by rw [List.length_zip, List.length_drop]; omega
  have hpar : ∀ p ∈ S.zip (S.drop 1), Bz (6 * n + 4 * m + 19) (arP r p) := by
    intro p hp
    have m1 := hS p.1 (List.of_mem_zip hp).1
    have m2 := hS p.2 (List.mem_of_mem_drop (List.of_mem_zip hp).2)
    exact ((((hr.val r0 m1).add (hr.val r0 m2)).mul bz_half).mul (m2.sub m1)).mono (by omega)
  rw [for_eqI (fun (acc : List Rat) (c : Cell × Cell × Cell) => [.im (rwD r), .im (Rt lo), .im (Rt hi), .im (.lst (S.map Rt)), .un, .un, .ow (acc.map Rt), c.1, c.2.1, c.2.2])
    (fun _ p => (.im (Rt p.1), .im (Rt p.2), .im (Rt ((val r p.1 + val r p.2) * (1 / 2))))) (fun acc p => acc ++ [arP r p]) (fun i acc => acc.length ≤ i) [] (.un, .un, .un) (Nat.le_refl _) ?_ fun i hi' acc c hc => ⟨?_, ?_⟩]
  · rw [foldl_app, List.nil_append]
    simp! []
    ((first | rw [xo_lk] | rw [lk_def]); simp! [])
    ((first | rw [xo_lk] | rw [lk_def]); simp! [t_sum_of (xs := (S.zip (S.drop 1)).map (arP r)) (d := .lst (((S.zip (S.drop 1)).map (arP r)).map Rt)) rfl (m := 6 * n + 4 * m + 19) (fun x hx => by
      obtain ⟨p, hp, rfl⟩ := List.mem_map.mp hx
      exact hpar p hp) (by
      rw [List.length_map]
      exact Nat.le_trans (Nat.add_le_add_right (Nat.mul_le_mul_right _ hz) 1) hs)])
  · rfl
  · obtain ⟨c1, c2, c3⟩ := c
    have hp := List.getElem_mem hi'
    generalize (S.zip (S.drop 1))[i] = p at hp ⊢
    have m1 := hS p.1 (List.of_mem_zip (show (p.1, p.2) ∈ _ from hp)).1
    have m2 := hS p.2 (List.mem_of_mem_drop (List.of_mem_zip (show (p.1, p.2) ∈ _ from hp)).2)
    have f1 : acc.length < 4000 := by omega
    have b1 := ((hr.val r0 m1).add (hr.val r0 m2)).mul bz_half
    have b1' := bz_half.sz (show 2 ≤ 4000 by omega)
    have b2 := b1.sz (show _ ≤ 4000 by omega)
    simp! []
    have q1 := s_value_at (P := P) (k := k - 1) r0 hr m1 (by omega) (by omega)
    have q2 := s_value_at (P := P) (k := k - 1) r0 hr m2 (by omega) (by omega)
    ((first | rw [xo_lk] | rw [lk_def]); simp! [q1, q2, Rt_half, t_plus, t_times])
    ((first | rw [xo_lk] | rw [lk_def]); simp! [t_minus, t_times, f1])
    repeat ((first | rw [xo_lk] | rw [lk_def]); simp! [])
    unfold arP
    simp
  · rw [List.length_append]; simp only [List.length_cons, List.length_nil]; omega
def chk (d : Rw) : Option Rat := if (lastP (nrm d)).v = 0 then some (lastP (nrm d)).s else none
def bgR (d : Rw) (p : Rat) : Option Rat := (chk d).map fun e => if p < e then areaR d p e else 0
def bothR (s d : Rw) (p : Rat) : Option Rat := (bgR d p).map fun g => areaR s 0 p + g
theorem s_choking_price [FN P "along" RF.along] [FN P "limited" RF.limited] [GN P "MAX_PIECES" (.int 60)] [FN P "normal" RF.normal] [FN P "choking_price" RF.choking_price] {r : Rw} (hr : RB n r) (r0 : r ≠ []) (hl : r.length ≤ 60) (hs : 3 * n + 1 ≤ 4000) (hk : 7 ≤ k) :
    call P k "choking_price" [rwD r] = ret (opt (chk r)) := by
  rw [call_fnd RF.choking_price (by omega) rfl rfl]
  unfold RF.choking_price
  ((first | rw [xo_lk] | rw [lk_def]); simp! [s_normal hr hl])
  unfold chk
  have hne := nrm_ne r0
  generalize nrm r = R at *
  have e : idx (rwD R) (.int (-1)) = some (pcD (lastP R)) := (ixl_row hne).1
  ((first | rw [xo_lk] | rw [lk_def]); simp! [e, ix_pc1, g_zero])
  by_cases h1 : (lastP R).v = 0
  · simp! [h1]
    ((first | rw [xo_lk] | rw [lk_def]); simp! [])
    ((first | rw [xo_lk] | rw [lk_def]); simp! [e, ix_pc0])
    rfl
  · simp! [h1]
    ((first | rw [xo_lk] | rw [lk_def]); simp! [])
    rfl
theorem s_sellers_gain [FN P "area_between" RF.area_between] [FN P "sellers_gain" RF.sellers_gain] {r : Rw} {p : Rat} {v : Rat} (ha : call P (k - 1) "area_between" [rwD r, Rt 0, Rt p] = ret (Rt v)) (hk : 1 ≤ k) : call P k "sellers_gain" [rwD r, Rt p] = ret (Rt v) := by
  rw [call_fnd RF.sellers_gain (by omega) rfl rfl]
  unfold RF.sellers_gain
  ((first | rw [xo_lk] | rw [lk_def]); simp! [g_zero, ha])
theorem s_buyers_gain [FN P "along" RF.along] [FN P "limited" RF.limited] [GN P "MAX_PIECES" (.int 60)] [FN P "normal" RF.normal] [FN P "choking_price" RF.choking_price] [FN P "buyers_gain" RF.buyers_gain] {r : Rw} {p : Rat} (hr : RB n r) (r0 : r ≠ []) (hl : r.length ≤ 60) (hp : Sz p)
    (ha : ∀ e, chk r = some e → p < e → call P (k - 1) "area_between" [rwD r, Rt p, Rt e] = ret (Rt (areaR r p e))) (hs : 3 * n + 1 ≤ 4000) (hk : 8 ≤ k) : call P k "buyers_gain" [rwD r, Rt p] = ret (opt (bgR r p)) := by
  rw [call_fnd RF.buyers_gain (by omega) rfl rfl]
  unfold RF.buyers_gain bgR
  ((first | rw [xo_lk] | rw [lk_def]); simp! [s_choking_price hr r0 hl])
  have hb : ∀ e, chk r = some e → Bz n e := by
    intro e he
    unfold chk at he
    split at he
    · cases he; exact (hr.nrm _ (lastP_mem (nrm_ne r0))).s
    · cases he
  cases he : chk r with
  | none => ((first | rw [xo_lk] | rw [lk_def]); simp! [isSame_opt, Option.isNone_none]); ((first | rw [xo_lk] | rw [lk_def]); simp! []); rfl
  | some e =>
    have hb := hb e he
    ((first | rw [xo_lk] | rw [lk_def]); simp! [isSame_opt, Option.isNone_some])
    ((first | rw [xo_lk] | rw [lk_def]); simp! [])
    first | rw [xo_lk] | rw [lk_def]
    show endF (lk P.gl (call P (k - 1)) _ [.im (rwD r), .im (Rt p), .im (Rt e)]) = ret (Rt (if p < e then areaR r p e else 0))
    by_cases h1 : p < e
    · rw [if_pos h1]
      simp! [t_less, h1, ha e he h1]
    · rw [if_neg h1]
      simp! [t_less, h1, g_zero]
theorem s_both_gain [FN P "both_gain" RF.both_gain] {s d : Rw} {p v : Rat} {o : Option Rat} (h1 : call P (k - 1) "buyers_gain" [rwD d, Rt p] = ret (opt o)) (h2 : call P (k - 1) "sellers_gain" [rwD s, Rt p] = ret (Rt v)) (hv : Sz v) (ho : ∀ g, o = some g → Sz g) (hk : 4 ≤ k) :
    call P k "both_gain" [rwD s, rwD d, Rt p] = ret (opt (o.map fun g => v + g)) := by
  rw [call_fnd RF.both_gain (by omega) rfl rfl]
  unfold RF.both_gain
  ((first | rw [xo_lk] | rw [lk_def]); simp! [h1])
  cases o with
  | none => ((first | rw [xo_lk] | rw [lk_def]); simp! [isSame_opt, Option.isNone_none]); rfl
  | some g =>
    have hg := ho g rfl
    have e : call P (k - 1) "plus" [Rt v, opt (some g)] = ret (Rt (v + g)) := t_plus (by omega) hv hg
    ((first | rw [xo_lk] | rw [lk_def]); simp! [isSame_opt, Option.isNone_some, h2, e])
    rfl
def pairD : Option (Rat × Rat) → D
  | none => .non
  | some (a, b) => .tup [Rt a, Rt b]
theorem isSame_mp (o : Option (Rat × Option Rat)) : isSame (mpD o) .non = some o.isNone := by rcases o with _ | ⟨a, b⟩ <;> rfl
theorem isSame_pair (o : Option (Rat × Rat)) : isSame (pairD o) .non = some o.isNone := by rcases o with _ | ⟨a, b⟩ <;> rfl
theorem s_prices_with_tax [FN P "with_tax" RF.with_tax] [FN P "prices_with_tax" RF.prices_with_tax] {a b : Rw} {t : Rat} {o : Option (Rat × Option Rat)} (h1 : call P (k - 2) "moved" [rwD b, Rt t] = ret (rwD (movR b t))) (h2 : call P (k - 1) "meeting_prices" [rwD a, rwD (movR b t)] = ret (mpD o))
    (ho : ∀ m, o = some m → Sz m.1) (ht : Sz t) (hk : 4 ≤ k) : call P k "prices_with_tax" [rwD a, rwD b, Rt t] = ret (pairD (o.map fun m => (m.1, m.1 + t))) := by
  rw [call_fnd RF.prices_with_tax (by omega) rfl rfl]
  unfold RF.prices_with_tax
  have e : call P (k - 1) "with_tax" [rwD b, Rt t] = ret (rwD (movR b t)) := by
    rw [call_fnd RF.with_tax (by omega) rfl rfl]
    unfold RF.with_tax
    ((first | rw [xo_lk] | rw [lk_def]); simp! [show k - 1 - 1 = k - 2 by omega, h1])
  ((first | rw [xo_lk] | rw [lk_def]); simp! [e, h2])
  rcases o with _ | ⟨lo, hi⟩
  · ((first | rw [xo_lk] | rw [lk_def]); simp! [isSame_mp, Option.isNone_none]); rfl
  · have hlo : Sz lo := ho _ rfl
    ((first | rw [xo_lk] | rw [lk_def]); simp! [isSame_mp, Option.isNone_some])
    unfold mpD
    simp! [t_plus]
    rfl
theorem s_exchanged_with_tax [FN P "exchanged_with_tax" RF.exchanged_with_tax] {a b : Rw} {t : Rat} {p q v : Rat} (h1 : call P (k - 1) "prices_with_tax" [rwD a, rwD b, Rt t] = ret (pairD (some (p, q)))) (h2 : call P (k - 1) "value_at" [rwD a, Rt p] = ret (Rt v)) (hk : 1 ≤ k) :
    call P k "exchanged_with_tax" [rwD a, rwD b, Rt t] = ret (Rt v) := by
  rw [call_fnd RF.exchanged_with_tax (by omega) rfl rfl]
  unfold RF.exchanged_with_tax
  ((first | rw [xo_lk] | rw [lk_def]); simp! [h1])
  ((first | rw [xo_lk] | rw [lk_def]); simp! [isSame_pair, Option.isNone_some])
  unfold pairD
  simp! [h2]
theorem s_borne [FN P "borne" RF.borne] {a b : Rw} {t p q lo : Rat} {hi : Option Rat} (h1 : call P (k - 1) "meeting_prices" [rwD a, rwD b] = ret (mpD (some (lo, hi)))) (h2 : call P (k - 1) "prices_with_tax" [rwD a, rwD b, Rt t] = ret (pairD (some (p, q)))) (hl : Sz lo) (hp : Sz p) (hq : Sz q) (hk : 4 ≤ k) :
    call P k "borne" [rwD a, rwD b, Rt t] = ret (.tup [Rt (lo - p), Rt (q - lo)]) := by
  rw [call_fnd RF.borne (by omega) rfl rfl]
  unfold RF.borne
  ((first | rw [xo_lk] | rw [lk_def]); simp! [h1, h2])
  ((first | rw [xo_lk] | rw [lk_def]); simp! [isSame_mp, isSame_pair, Option.isNone_some])
  ((first | rw [xo_lk] | rw [lk_def]); simp! [])
  first | rw [xo_lk] | rw [lk_def]
  unfold mpD pairD
  simp! [t_minus]
theorem s_share_of_buyers [FN P "over" RF.over] [FN P "share_of_buyers" RF.share_of_buyers] {a b : Rw} {t u v : Rat} (h1 : call P (k - 1) "borne" [rwD a, rwD b, Rt t] = ret (.tup [Rt u, Rt v])) (hv : Sz v) (ht : Sz t) (h0 : t ≠ 0) (hk : 4 ≤ k) :
    call P k "share_of_buyers" [rwD a, rwD b, Rt t] = ret (Rt (v / t)) := by
  rw [call_fnd RF.share_of_buyers (by omega) rfl rfl]
  unfold RF.share_of_buyers
  ((first | rw [xo_lk] | rw [lk_def]); simp! [h1])
  ((first | rw [xo_lk] | rw [lk_def]); simp! [isSame_tn, t_over, h0, ne_eq, not_false_eq_true])
theorem s_gains_with [FN P "gains_with" RF.gains_with] {s d : Rw} {p q u v : Rat} (h1 : call P (k - 1) "sellers_gain" [rwD s, Rt p] = ret (Rt u)) (h2 : call P (k - 1) "buyers_gain" [rwD d, Rt q] = ret (Rt v)) (hu : Sz u) (hv : Sz v) (hk : 4 ≤ k) :
    call P k "gains_with" [rwD s, rwD d, .tup [Rt p, Rt q]] = ret (Rt (u + v)) := by
  rw [call_fnd RF.gains_with (by omega) rfl rfl]
  unfold RF.gains_with
  ((first | rw [xo_lk] | rw [lk_def]); simp! [h1, h2, t_plus])
theorem s_lost_by_tax [FN P "lost_by_tax" RF.lost_by_tax] {s d : Rw} {t p q lo f g v : Rat} {hi : Option Rat} (h1 : call P (k - 1) "meeting_prices" [rwD s, rwD d] = ret (mpD (some (lo, hi)))) (h2 : call P (k - 1) "prices_with_tax" [rwD s, rwD d, Rt t] = ret (pairD (some (p, q))))
    (h3 : call P (k - 1) "both_gain" [rwD s, rwD d, Rt lo] = ret (Rt f)) (h4 : call P (k - 1) "gains_with" [rwD s, rwD d, .tup [Rt p, Rt q]] = ret (Rt g)) (h5 : call P (k - 1) "value_at" [rwD s, Rt p] = ret (Rt v)) (hf : Sz f) (hg : Sz g) (hv : Sz v) (ht : Sz t) (htv : Sz (t * v)) (hs : Sz (g + t * v)) (hk : 4 ≤ k) :
    call P k "lost_by_tax" [rwD s, rwD d, Rt t] = ret (Rt (f - (g + t * v))) := by
  rw [call_fnd RF.lost_by_tax (by omega) rfl rfl]
  unfold RF.lost_by_tax
  ((first | rw [xo_lk] | rw [lk_def]); simp! [h1, h2])
  ((first | rw [xo_lk] | rw [lk_def]); simp! [isSame_mp, isSame_pair, Option.isNone_some])
  unfold mpD pairD
  simp! [h3, cop_Rt_non]
  ((first | rw [xo_lk] | rw [lk_def]); simp! [])
  ((first | rw [xo_lk] | rw [lk_def]); simp! [h3])
  ((first | rw [xo_lk] | rw [lk_def]); simp! [h4, h5, t_times, t_plus])
  ((first | rw [xo_lk] | rw [lk_def]); simp! [t_minus])
theorem s_least_change [FN P "least_change" RF.least_change] {s d : Rw} {p u v : Rat} (h1 : call P (k - 1) "value_at" [rwD s, Rt p] = ret (Rt u)) (h2 : call P (k - 1) "value_at" [rwD d, Rt p] = ret (Rt v)) (hu : Sz u) (hv : Sz v) (hk : 4 ≤ k) : call P k "least_change" [rwD s, rwD d, Rt p] = ret (Rt (u - v)) := by
  rw [call_fnd RF.least_change (by omega) rfl rfl]
  unfold RF.least_change
  ((first | rw [xo_lk] | rw [lk_def]); simp! [h1, h2, t_minus])
theorem s_scaled_to_meet [FN P "over" RF.over] [FN P "scaled_to_meet" RF.scaled_to_meet] {s d : Rw} {p u v : Rat} (h1 : call P (k - 1) "value_at" [rwD s, Rt p] = ret (Rt u)) (h2 : call P (k - 1) "value_at" [rwD d, Rt p] = ret (Rt v)) (hu : Sz u) (hv : Sz v) (hk : 4 ≤ k) :
    call P k "scaled_to_meet" [rwD s, rwD d, Rt p] = ret (opt (if v = 0 then none else some (u / v))) := by
  rw [call_fnd RF.scaled_to_meet (by omega) rfl rfl]
  unfold RF.scaled_to_meet
  ((first | rw [xo_lk] | rw [lk_def]); simp! [h2])
  by_cases h0 : v = 0
  · ((first | rw [xo_lk] | rw [lk_def]); simp! [g_zero, h0])
    rfl
  · ((first | rw [xo_lk] | rw [lk_def]); simp! [g_zero, h0, h1, t_over, ne_eq, not_false_eq_true])
    rfl
theorem s_halfway [FN P "halfway" RF.halfway] {x y : Rat} (hx : Sz x) (hy : Sz y) (hz : Sz (x + y)) (hk : 4 ≤ k) : call P k "halfway" [Rt x, Rt y] = ret (Rt ((x + y) * (1 / 2))) := by
  rw [call_fnd RF.halfway (by omega) rfl rfl]
  unfold RF.halfway
  have h2 := bz_half.sz (show 2 ≤ 4000 by omega)
  ((first | rw [xo_lk] | rw [lk_def]); simp! [Rt_half, t_plus, t_times])
theorem s_exchanged [FN P "exchanged" RF.exchanged] {s d : Rw} {p u v : Rat} (h1 : call P (k - 1) "value_at" [rwD s, Rt p] = ret (Rt u)) (h2 : call P (k - 1) "value_at" [rwD d, Rt p] = ret (Rt v)) (hu : Sz u) (hv : Sz v) (hk : 4 ≤ k) :
    call P k "exchanged" [rwD s, rwD d, Rt p] = ret (Rt (if u < v then u else v)) := by
  rw [call_fnd RF.exchanged (by omega) rfl rfl]
  unfold RF.exchanged
  ((first | rw [xo_lk] | rw [lk_def]); simp! [h1, h2])
  by_cases h0 : u < v
  · ((first | rw [xo_lk] | rw [lk_def]); simp! [t_less, h0])
  · ((first | rw [xo_lk] | rw [lk_def]); simp! [t_less, h0])
def morR (r : Rw) (c : Rat) : Rw := nrm (mapR id (· + c) id r)
theorem s_with_more [FN P "along" RF.along] [FN P "limited" RF.limited] [GN P "MAX_PIECES" (.int 60)] [FN P "normal" RF.normal] [FN P "with_more" RF.with_more] {r : Rw} {c : Rat} (hr : RB n r) (hc : Bz m c) (hl : r.length ≤ 60) (hs : 3 * (n + m + 1) + 1 ≤ 4000) (hk : 7 ≤ k) :
    call P k "with_more" [rwD r, Rt c] = ret (rwD (morR r c)) := by
  rw [call_fnd RF.with_more (by omega) rfl rfl]
  unfold RF.with_more
  ((first | rw [xo_lk] | rw [lk_def]); simp! [])
  rw [comp_map (l := r) pcD (fun p => pcD ⟨p.s, p.v + c, p.m⟩) (by rw [lim_eq]; omega) (by unfold rwD; simp! []) fun p hp => by
    have := hr p hp
    unfold pcD
    simp! [t_plus]]
  have e : D.tup (r.map fun p => pcD ⟨p.s, p.v + c, p.m⟩) = rwD (mapR id (· + c) id r) := by unfold rwD mapR; rw [List.map_map]; rfl
  have hb : RB (n + m + 1) (mapR id (· + c) id r) := by
    intro q hq
    obtain ⟨p, hp, rfl⟩ := List.mem_map.mp hq
    have := hr p hp
    exact ⟨this.s.mono (by omega), this.v.add hc, this.m.mono (by omega)⟩
  simp! [e, s_normal hb (by rw [mapR_len]; exact hl)]
  rfl
theorem morR_spec {r : Rw} (hr : Asc r) (r0 : r ≠ []) (c x : Rat) : val (morR r c) x = val r x + c := by
  have ha : Asc (mapR id (· + c) id r) := mapR_asc (fun _ _ => Iff.rfl) hr
  unfold morR
  rw [val_nrm ha]
  have e := mapR_rp (f := id) (g := (· + c)) (h := id) (fun _ _ => Iff.rfl) r0 x
  unfold val
  rw [show x = id x from rfl, e]
  unfold Pc.at
  simp only [id]
  grind
def joinR (rs : List Rw) : Rw := rs.foldl addR [⟨0, 0, 0⟩]
theorem s_joined_supply [FN P "along" RF.along] [FN P "limited" RF.limited] [GN P "MAX_PIECES" (.int 60)] [FN P "normal" RF.normal] [FN P "piece_at" RF.piece_at] [FN P "value_at" RF.value_at] [FN P "slope_at" RF.slope_at] [FN P "sorted_ratios" RF.sorted_ratios] [FN P "all_starts" RF.all_starts] [FN P "added" RF.added] [FN P "joined_supply" RF.joined_supply]
    {rs : List Rw} {d : D} (hd : items d = some (rs.map rwD)) (hr : ∀ r ∈ rs, RB n r ∧ r ≠ [] ∧ r.length ≤ 4) (hc : rs.length ≤ 10) (hp : ∀ i, RB n ((rs.take i).foldl addR [⟨0, 0, 0⟩])) (hs : 24 * n + 20 ≤ 4000) (hk : 9 ≤ k) :
    call P k "joined_supply" [d] = ret (rwD (joinR rs)) := by
  rw [call_fnd RF.joined_supply (by omega) rfl rfl]
  unfold RF.joined_supply
  ((first | rw [xo_lk] | rw [lk_def]); simp! [g_zero])
  ((first | rw [xo_lk] | rw [lk_def]); simp! [])
  rw [show iter .seq [d] = some (rs.map rwD) from hd]
  simp! []
  rw [for_eqI (fun (acc : Rw) c => [.im d, .im (rwD acc), c]) (fun _ r => .im (rwD r)) addR (fun i acc => acc = (rs.take i).foldl addR [⟨0, 0, 0⟩] ∧ acc ≠ [] ∧ acc.length ≤ 1 + 4 * i) [⟨0, 0, 0⟩] .un ⟨rfl, List.cons_ne_nil _ _, Nat.le_refl _⟩ ?_ fun i hi acc c hc' => ⟨?_, ?_⟩]
  · simp! []
    ((first | rw [xo_lk] | rw [lk_def]); simp! [])
    rfl
  · rfl
  · obtain ⟨h1, h2, h3⟩ := hc'
    have hacc : RB n acc := by rw [h1]; exact hp i
    obtain ⟨r1, r2, r3⟩ := hr _ (List.getElem_mem hi)
    simp! []
    ((first | rw [xo_lk] | rw [lk_def]); simp! [s_added hacc r1 h2 r2 (by omega)])
    repeat ((first | rw [xo_lk] | rw [lk_def]); simp! [])
  · obtain ⟨h1, h2, h3⟩ := hc'
    obtain ⟨r1, r2, r3⟩ := hr _ (List.getElem_mem hi)
    refine ⟨?_, addR_ne h2, ?_⟩
    · rw [List.take_succ_eq_append_getElem hi, List.foldl_append, ← h1]; rfl
    · have := addR_len acc rs[i]; omega
theorem pd_Rt {n l j : Nat} {x : Rat} (h : Bz n x) (hl : 2 ≤ l) : Pd (2 ^ n) l (j + 1) (Rt x) := by
  refine ⟨hl, fun y hy => ?_⟩
  simp only [List.mem_cons, List.not_mem_nil, or_false] at hy
  rcases hy with rfl | rfl
  · exact Pd.of_int (Nat.le_of_lt h.1)
  · refine Pd.of_int ?_
    rw [Int.natAbs_natCast]; exact Nat.le_of_lt h.2
theorem pd_pc {n l j : Nat} {p : Pc} (h : PB n p) (hl : 3 ≤ l) : Pd (2 ^ n) l (j + 2) (pcD p) := by
  refine ⟨hl, fun y hy => ?_⟩
  simp only [List.mem_cons, List.not_mem_nil, or_false] at hy
  rcases hy with rfl | rfl | rfl
  · exact pd_Rt h.s (by omega)
  · exact pd_Rt h.v (by omega)
  · exact pd_Rt h.m (by omega)
theorem pd_row {n : Nat} {r : Rw} (h : RB n r) (hl : r.length ≤ 60) : Pd (2 ^ n) 60 3 (rwD r) := by
  refine ⟨by rw [List.length_map]; exact hl, fun x hx => ?_⟩
  obtain ⟨p, hp, rfl⟩ := List.mem_map.mp hx
  exact pd_pc (h p hp) (by decide)
theorem s_is_supply [FJ P] [FN P "is_piece" RF.is_piece] [FN P "is_row" RF.is_row] [FN P "along" RF.along] [FN P "limited" RF.limited] [GN P "MAX_PIECES" (.int 60)] [FN P "normal" RF.normal] [FN P "piece_at" RF.piece_at] [FN P "value_at" RF.value_at] [FN P "left_value" RF.left_value] [FN P "is_steady" RF.is_steady] [FN P "jumps_down" RF.jumps_down] [FN P "does_rise" RF.does_rise] [FN P "is_supply" RF.is_supply]
    {r : Rw} (row : Row r) (st : Stdy r) (ri : rising r) (h0 : 0 ≤ val r 0) (hr : RB n r) (hl : r.length ≤ 60) (hs : 4 * n + 3 ≤ 4000) (hk : 8 ≤ k) : call P k "is_supply" [rwD r] = ret (.bl true) := by
  rw [call_fnd RF.is_supply (by omega) rfl rfl]
  unfold RF.is_supply
  have hpd := pd_row hr hl
  have h1 : 1 ≤ r.length := by
    cases r with
    | nil => exact absurd rfl row.ne
    | cons p r => simp
  have hc : 2 ^ n < 2 ^ 4000 := Nat.pow_lt_pow_right (by decide) (by omega)
  have e1 := s_is_row (P := P) (k := k - 1) hpd hc (by decide) (by omega)
  rw [isRow_rwD, decide_eq_true h1, decide_eq_true hl] at e1
  have e2 : rowB r = true := by unfold rowB; rw [decide_eq_true row.hd, ascB_iff.mpr row.asc]; rfl
  rw [e2] at e1
  have e3 := s_is_steady (P := P) (k := k - 1) hr hl row.ne (by omega) (by omega)
  rw [stB_iff.mpr st] at e3
  have e4 := s_does_rise (P := P) (k := k - 1) hr hl (by omega) (by omega)
  rw [(riseB_iff (nrm_asc row.asc) (nrm_stdy st)).mpr (nrm_rising ri)] at e4
  have r0 := row.ne
  have e5 := s_value_at (P := P) (k := k - 1) r0 hr Bz.zero1 (by omega) (by omega)
  have h2 : ¬ val r 0 < 0 := by grind
  ((first | rw [xo_lk] | rw [lk_def]); simp! [e1, e3, e4, g_zero, e5, t_less, h2, Bool.and_self])
end
end PL

set_option autoImplicit false
set_option linter.all false
set_option maxRecDepth 100000
set_option maxHeartbeats 2000000
set_option exponentiation.threshold 20000
/-! NL: the laws' own reckoning, their draws. -/
namespace PL
local macro_rules
  | `(tactic| simp! [$as,*]) => `(tactic| simp (disch := (first | omega | assumption | array_get_dec)) only [lk_asg, lk_asgT, lk_own, lk_iff, lk_ret, lk_retN, lk_app, lk_ins, lk_nil, lk_brk, lk_cnt, lk_pas, lk_frz, lk_par, lk_par3, lk_whl, lk_ext, lk_aug, lk_fr, cont_nx, cont_rt, cont_bk, cont_ct, ev_var, ev_bvar, ev_glob, ev_lit, ev_bin, ev_neg, ev_no, ev_and, ev_or, ev_cmp, ev_chn, ev_isi, ev_ite, ev_idx, ev_sl1, ev_sl2, ev_sl3, ev_rev, ev_tup, ev_lst, ev_bi, ev_call, evL_nil, evL_cons, evA_one, evA_cons, evO_one, evO_cons, evC_nil, evC_cons, getV_zero, getV_succ, getB_zero, getB_ow, getB_succ, getO_zero, getO_succ, List.set_cons_zero, List.set_cons_succ, bnd_ret, bnd_assoc, lft_some, lft_none, bnd_stk, truth_bl, truth_int, truth_non, truth_tup, truth_lst, toI_int, ix_tup0, ix_tup1, ix_tup2, cop_eqI, cop_neI, cop_lt, cop_le, cop_gt, cop_ge, cop_is, cop_isnot, cop_eqR, cop_neR, bop_addI, bop_subI, bnd_ite, run_ret, run_bnd, endF_ret, endF_nx, tst_lk, bindT_nm, bindT_tu, bindTs_nil, bindTs_cons, Option.bind_some, Option.map_some, if_true_eq, if_false_eq, Bool.not_true, Bool.not_false, decide_true, decide_false, Bool.not_eq_true, Bool.not_eq_false, decide_eq_true_eq, if_true, if_false, ite_true_t, ite_false_t, len_tupB, len_lstB, tupB_lst, lstB_tup, wipe_nil, wipe_cons, List.map_cons, List.map_nil, isSame_nn, isSame_tn, Bool.false_eq_true, reduceCtorEq, Nat.reduceLeDiff, List.length_cons, List.length_nil, Nat.reduceAdd, lim_eq, asLlst, cellOf_f, cellOf_t, iter_seqT, iter_seqL', List.cons_append, List.nil_append, List.append_nil, Nat.reduceSub, List.replicate_succ, List.replicate_zero, frz_ow, frz_im, frz_un, frz_succ, Nat.reduceLT, Nat.reduceEqDiff, Int.reduceLT, Int.reduceLE, Int.reduceEq, Int.reduceNeg, Int.reduceAdd, Int.reduceSub, List.isEmpty_nil, List.isEmpty_cons, true_and, and_true, false_and, and_false, Bool.true_and, Bool.false_and, Bool.and_true, Bool.and_false, Bool.true_or, Bool.false_or, Bool.or_true, Bool.or_false, List.length_append, List.length_map, eq_self, isSame_bl, $as,*])
section
variable {β : Type} {P : Prog β} {k : Nat} {x y : Rat}
theorem s_ldiv [FN P "_law_divisor" RF.l_divisor] {a b : Nat} (ha : a < 2 ^ 9000) (hb : b < 2 ^ 9000) (hk : 1 ≤ k) : call P k "_law_divisor" [.int a, .int b] = ret (.int (Nat.gcd a b)) := by
  rw [call_fnd RF.l_divisor (by omega) rfl rfl]
  unfold RF.l_divisor
  refine eq_ret fun s => run_endF.mpr ?_
  refine run_exs_cons.mpr ?_
  simp only [ex]
  refine run_whl (fun n ρ t => ∃ x y : Nat, ρ = [.im (.int x), .im (.int y)] ∧ Nat.gcd x y = Nat.gcd a b ∧ x < 2 ^ 9000 ∧ y < 2 ^ 9000 ∧ n = y ∧ t = s) ?_ (n := b) ⟨a, b, rfl, rfl, ha, hb, rfl, rfl⟩
  rintro n ρ t ⟨x, y, rfl, hg, hx, hy, rfl, rfl⟩
  have e2 : tst P.gl (call P (k - 1)) (.cmp .ne (.var 1) (.lit (.int 0))) [.im (.int x), .im (.int n)] = ret (!decide ((n : Int) = 0)) := by simp
  rw [e2, run_ret]
  by_cases hn : n = 0
  · subst hn
    simp only [Nat.gcd_zero_right] at hg
    subst hg
    refine run_exs_cons.mpr ?_
    simp only [ex, ev_var, getV_zero, bnd_ret, run_ret]
    exact ⟨rfl, rfl⟩
  · have hn0 : (0 : Int) < n := by omega
    have hne : ¬ (n : Int) = 0 := by omega
    rw [if_pos (by simp [hn]), run_exs_cons]
    have d1 := bop_div (i := (x : Int)) (div_ok (a := 8999) hn0 (by simpa using hy) (by decide))
    have m1 : bop .mul (.int ((x : Int) / n)) (.int n) = some (.int ((x : Int) / n * n)) := by
      refine bop_mul (mul_ok (a := 8999) (b := 8999) ?_ (by simpa using hy) (by decide))
      have : ((x : Int) / n) = ((x / n : Nat) : Int) := by simp
      rw [this, Int.natAbs_natCast]
      exact Nat.lt_of_le_of_lt (Nat.div_le_self x n) hx
    have e3 : ex P.gl (call P (k - 1)) (.par 0 1 false false (.var 1) (.bin .sub (.var 0) (.bin .mul (.bin .fdiv (.var 0) (.var 1)) (.var 1)))) [.im (.int x), .im (.int n)] = ret (.nx, [.im (.int n), .im (.int ((x : Int) - (x : Int) / n * n))]) := by
      simp only [ex, ev_var, ev_bin, getV_succ, getV_zero, bnd_ret, d1, lft_some, m1, bop_subI, cellOf]
      rfl
    rw [e3, run_ret]
    refine run_exs_nil.mpr ?_
    refine ⟨x % n, Nat.mod_lt _ (by omega), n, x % n, ?_, by rw [gcd_step, hg], hy, Nat.lt_of_lt_of_le (Nat.mod_lt _ (by omega)) (by omega), rfl, rfl⟩
    have : (x : Int) - (x : Int) / n * n = ((x % n : Nat) : Int) := by
      have := Int.mul_ediv_add_emod (x : Int) n
      rw [Int.natCast_emod, Int.mul_comm]
      omega
    rw [this]
theorem abs_natI (p : Int) : bfn .abs [.int p] = some (.int (p.natAbs : Nat)) := by
  show some (D.int (if p < 0 then -p else p)) = _
  rw [abs_nat]
theorem s_lratA [FN P "_law_divisor" RF.l_divisor] [FN P "_law_ratio" RF.l_ratio_d] {p q : Int} (h0 : 0 < q) (hp : p.natAbs < 2 ^ 9000) (hq : q.natAbs < 2 ^ 9000) (hk : 2 ≤ k) : call P k "_law_ratio" [.int p, .int q] = ret (Rt ((p : Rat) / (q : Rat))) := by
  rw [call_fnd RF.l_ratio_d (by omega) rfl rfl]
  unfold RF.l_ratio_d
  have e := s_ldiv (P := P) (k := k - 1) hp hq (by omega)
  have hd := div_gcd (p := p) h0 hq
  have hg : (Nat.gcd p.natAbs q.natAbs : Int) = (Int.gcd p q : Int) := rfl
  ((first | rw [xo_lk] | rw [lk_def]); simp! [abs_natI, e, hg])
  have d1 := bop_div (i := p) hd
  have d2 := bop_div (i := q) hd
  ((first | rw [xo_lk] | rw [lk_def]); simp! [h0, d1, d2])
  rw [rat_of h0]
class LRat (P : Prog β) : Prop where
  ratio : ∀ {k : Nat} {p q : Int}, 0 < q → p.natAbs < 2 ^ 9000 → q.natAbs < 2 ^ 9000 → 2 ≤ k → call P k "_law_ratio" [.int p, .int q] = ret (Rt ((p : Rat) / (q : Rat)))
  plus : ∀ {k : Nat} {x y : Rat}, Sz x → Sz y → 3 ≤ k → call P k "_law_plus" [Rt x, Rt y] = ret (Rt (x + y))
  minus : ∀ {k : Nat} {x y : Rat}, Sz x → Sz y → 3 ≤ k → call P k "_law_minus" [Rt x, Rt y] = ret (Rt (x - y))
  times : ∀ {k : Nat} {x y : Rat}, Sz x → Sz y → 3 ≤ k → call P k "_law_times" [Rt x, Rt y] = ret (Rt (x * y))
  less : ∀ {k : Nat} {x y : Rat}, Sz x → Sz y → 1 ≤ k → call P k "_law_less" [Rt x, Rt y] = ret (.bl (decide (x < y)))
theorem u_ratio [h : LRat P] {p q : Int} (h0 : 0 < q) (hp : p.natAbs < 2 ^ 9000) (hq : q.natAbs < 2 ^ 9000) (hk : 2 ≤ k) : call P k "_law_ratio" [.int p, .int q] = ret (Rt ((p : Rat) / (q : Rat))) := h.ratio h0 hp hq hk
theorem u_plus [h : LRat P] (hx : Sz x) (hy : Sz y) (hk : 3 ≤ k) : call P k "_law_plus" [Rt x, Rt y] = ret (Rt (x + y)) := h.plus hx hy hk
theorem u_minus [h : LRat P] (hx : Sz x) (hy : Sz y) (hk : 3 ≤ k) : call P k "_law_minus" [Rt x, Rt y] = ret (Rt (x - y)) := h.minus hx hy hk
theorem u_times [h : LRat P] (hx : Sz x) (hy : Sz y) (hk : 3 ≤ k) : call P k "_law_times" [Rt x, Rt y] = ret (Rt (x * y)) := h.times hx hy hk
theorem u_less [h : LRat P] (hx : Sz x) (hy : Sz y) (hk : 1 ≤ k) : call P k "_law_less" [Rt x, Rt y] = ret (.bl (decide (x < y))) := h.less hx hy hk
theorem lrat_of (hr : ∀ {k : Nat} {p q : Int}, 0 < q → p.natAbs < 2 ^ 9000 → q.natAbs < 2 ^ 9000 → 2 ≤ k → call P k "_law_ratio" [.int p, .int q] = ret (Rt ((p : Rat) / (q : Rat)))) [FN P "_law_plus" RF.l_plus_d] [FN P "_law_minus" RF.l_minus_d] [FN P "_law_times" RF.l_times_d] [FN P "_law_less" RF.l_less_d] : LRat P := by
  refine ⟨hr, fun {k x y} hx hy hk => ?_, fun {k x y} hx hy hk => ?_, fun {k x y} hx hy hk => ?_, fun {k x y} hx hy hk => ?_⟩
  · rw [call_fnd RF.l_plus_d (by omega) rfl rfl]
    unfold RF.l_plus_d
    have m1 := bop_mul (sz_mul hx.1 (sz_dn hy))
    have m2 := bop_mul (sz_mul hy.1 (sz_dn hx))
    have m3 := bop_mul (sz_mul (sz_dn hx) (sz_dn hy))
    have e := hr (k := k - 1) (p := x.num * y.den + y.num * x.den) (Int.mul_pos (den_pos x) (den_pos y)) (p_lt (mul_lt hx.1 (sz_dn hy)) (mul_lt hy.1 (sz_dn hx))).1 (sz_den hx hy) (by omega)
    rw [add_rat] at e
    unfold Rt at e ⊢
    ((first | rw [xo_lk] | rw [lk_def]); simp! [m1, m2, m3, e])
  · rw [call_fnd RF.l_minus_d (by omega) rfl rfl]
    unfold RF.l_minus_d
    have m1 := bop_mul (sz_mul hx.1 (sz_dn hy))
    have m2 := bop_mul (sz_mul hy.1 (sz_dn hx))
    have m3 := bop_mul (sz_mul (sz_dn hx) (sz_dn hy))
    have e := hr (k := k - 1) (p := x.num * y.den - y.num * x.den) (Int.mul_pos (den_pos x) (den_pos y)) (p_lt (mul_lt hx.1 (sz_dn hy)) (mul_lt hy.1 (sz_dn hx))).2.1 (sz_den hx hy) (by omega)
    rw [sub_rat] at e
    unfold Rt at e ⊢
    ((first | rw [xo_lk] | rw [lk_def]); simp! [m1, m2, m3, e])
  · rw [call_fnd RF.l_times_d (by omega) rfl rfl]
    unfold RF.l_times_d
    have m1 := bop_mul (sz_mul hx.1 hy.1)
    have m3 := bop_mul (sz_mul (sz_dn hx) (sz_dn hy))
    have e := hr (k := k - 1) (p := x.num * y.num) (Int.mul_pos (den_pos x) (den_pos y)) (p_lt (mul_lt hx.1 hy.1) (mul_lt hx.1 hy.1)).2.2 (sz_den hx hy) (by omega)
    rw [mul_rat] at e
    unfold Rt at e ⊢
    ((first | rw [xo_lk] | rw [lk_def]); simp! [m1, m3, e])
  · rw [call_fnd RF.l_less_d (by omega) rfl rfl]
    unfold RF.l_less_d
    have m1 := bop_mul (sz_mul hx.1 (sz_dn hy))
    have m2 := bop_mul (sz_mul hy.1 (sz_dn hx))
    unfold Rt
    ((first | rw [xo_lk] | rw [lk_def]); simp! [m1, m2])
    simp only [Rat.lt_iff]
class Drw (P : Prog β) (tk : String) : Prop where
  d : Draws P tk
theorem r_draw {tk : String} [h : Drw P tk] {m : Int} {b : β} {Q : D → β → Prop} (h0 : 0 < m) (h1 : m < 1000000000) (hk : 4 ≤ k) (q : ∀ (i : Nat) b', (i : Int) < m → Q (.int i) b') : Run (call P k tk [.box, .int m]) b Q := h.d.run hk h0 h1 q
class LSame (P : Prog β) : Prop where
  s : Fnd P "_law_same" l_same
/-- an alike pair -/
theorem u_same [h : LSame P] {c l n : Nat} {d : D} (hd : Pd c l n d) (hn : n ≤ 50) (hl : l ≤ 4000) (hk : n + 1 ≤ k) : call P k "_law_same" [d, d] = ret (.bl true) := s_same h.s hn hl hk hd
/-- a small ratio -/
theorem r_some [LRat P] [Drw P "_law_draw"] [FN P "_law_some" RF.l_some] {lo hi : Nat} {b : β} {Q : D → β → Prop} (hlh : lo ≤ hi) (hh : hi < 100000) (hk : 6 ≤ k)
    (q : ∀ (i j : Nat) b', lo ≤ i → i ≤ hi → 1 ≤ j → j ≤ 4 → Q (Rt (((i : Int) : Rat) / ((j : Int) : Rat))) b') : Run (call P k "_law_some" [.box, .int lo, .int hi]) b Q := by
  have pow : ∀ i : Int, i.natAbs < 1000000 → i.natAbs < 2 ^ 9000 := fun i h => Nat.lt_of_lt_of_le h (Nat.le_trans (show 1000000 ≤ 2 ^ 20 by decide) (Nat.pow_le_pow_right (by decide) (by decide)))
  rw [call_fnd RF.l_some (by omega) rfl rfl]
  refine run_endF.mpr ?_
  unfold RF.l_some
  ((first | rw [xo_lk] | rw [lk_def]); simp! [])
  refine r_draw (by omega) (by omega) (by omega) fun i b1 hi' => ?_
  simp! []
  refine r_draw (by omega) (by omega) (by omega) fun j b2 hj => ?_
  simp! []
  by_cases hj0 : (0 : Int) < j
  · have e := u_ratio (P := P) (k := k - 1) (p := (lo : Int) + i) (q := 1) (by decide) (pow _ (by omega)) (by decide) (by omega)
    simp! [hj0, e]
    have := q (lo + i) 1 b2 (by omega) (by omega) (by omega) (by omega)
    rwa [Int.natCast_add] at this
  · simp! [hj0]
    refine r_draw (by omega) (by omega) (by omega) fun l b3 hl => ?_
    have e := u_ratio (P := P) (k := k - 1) (p := (lo : Int) + i) (q := 1 + (l : Int)) (by omega) (pow _ (by omega)) (pow _ (by omega)) (by omega)
    simp! [e]
    have := q (lo + i) (1 + l) b3 (by omega) (by omega) (by omega) (by omega)
    rwa [Int.natCast_add, Int.natCast_add] at this
end
local macro_rules
  | `(tactic| array_get_dec) => `(tactic| (apply Bz.sz'; (focus (repeat' (with_reducible first | assumption | exact Bz.zero1 | apply Bz.add | apply Bz.sub | apply Bz.mul | apply PB.at | (apply PB.s; assumption) | (apply PB.v; assumption) | (apply PB.m; assumption) | (apply RB.val; assumption; assumption) | (apply RB.slp; assumption; assumption)))); omega))
theorem last_fil : ∀ {r : Rw}, r ≠ [] → Asc r → ∀ {x : Rat}, (Rw.hd r).s ≤ x → r.filter (fun p => !decide (x < p.s)) ≠ [] ∧ lastP (r.filter fun p => !decide (x < p.s)) = rp r x
  | [], h, _, _, _ => absurd rfl h
  | [p], _, _, x, hx => by
    have h : (!decide (x < p.s)) = true := by have : p.s ≤ x := hx; simp; grind
    rw [List.filter_cons_of_pos (p := fun (p : Pc) => !decide (x < p.s)) h, rp_one]
    exact ⟨List.cons_ne_nil _ _, rfl⟩
  | p :: q :: r, _, ha, x, hx => by
    have hpx : p.s ≤ x := hx
    have h : (!decide (x < p.s)) = true := by simp; grind
    rw [List.filter_cons_of_pos (p := fun (p : Pc) => !decide (x < p.s)) h, rp_cons ha]
    refine ⟨List.cons_ne_nil _ _, ?_⟩
    by_cases hq : x < q.s
    · rw [if_pos hq]
      have : (q :: r).filter (fun p => !decide (x < p.s)) = [] := by
        rw [List.filter_eq_nil_iff]
        intro a haa
        have : q.s ≤ a.s := hd_le ha.tail haa
        simp; grind
      rw [this]; rfl
    · rw [if_neg hq]
      obtain ⟨h1, h2⟩ := last_fil (r := q :: r) (List.cons_ne_nil _ _) ha.tail (x := x) (show q.s ≤ x by grind)
      rw [← h2]
      cases hf : (q :: r).filter (fun p => !decide (x < p.s)) with
      | nil => exact absurd hf h1
      | cons a l => rfl
section
variable {β : Type} {P : Prog β} {k n m : Nat} {x y : Rat}
theorem s_lat [LRat P] [FN P "_law_at" RF.l_at] {r : Rw} {x : Rat} (r0 : r ≠ []) (ha : Asc r) (hx0 : (Rw.hd r).s ≤ x) (hr : RB n r) (hx : Bz m x) (hl : r.length ≤ 60) (hs : 2 * n + m + 1 ≤ 4000) (hk : 4 ≤ k) : call P k "_law_at" [rwD r, Rt x] = ret (Rt (val r x)) := by
  rw [call_fnd RF.l_at (by omega) rfl rfl]
  unfold RF.l_at
  ((first | rw [xo_lk] | rw [lk_def]); simp! [])
  rw [comp_fil (l := r) pcD (fun p => !decide (x < p.s)) pcD (by rw [lim_eq]; omega) (by unfold rwD; simp! []) fun p hp => ⟨_, rfl, by have := hr p hp; simp! [ix_pc0, u_less], fun _ => by simp! []⟩]
  obtain ⟨h1, h2⟩ := last_fil r0 ha hx0
  have hp := hr.rp r0 x
  simp! [(ixl_row h1).2, h2]
  unfold val
  generalize rp r x = p at *
  ((first | rw [xo_lk] | rw [lk_def]); simp! [ix_pc0, ix_pc1, ix_pc2, u_minus, u_times, u_plus])
  rfl
theorem s_ltotal [LRat P] [FN P "_law_total" RF.l_total] {xs : List Rat} {d : D} (hd : items d = some (xs.map Rt)) {m : Nat} (hx : ∀ x ∈ xs, Bz m x) (hm : xs.length * (m + 1) + 1 ≤ 4000) (hk : 4 ≤ k) : call P k "_law_total" [d] = ret (Rt (sm xs)) := by
  rw [call_fnd RF.l_total (by omega) rfl rfl]
  unfold RF.l_total
  ((first | rw [xo_lk] | rw [lk_def]); simp! [])
  ((first | rw [xo_lk] | rw [lk_def]); simp! [])
  rw [show iter .seq [d] = some (xs.map Rt) from hd]
  simp! []
  rw [for_eqI (fun (a : Rat) c => [.im d, .im (Rt a), c]) (fun _ x => .im (Rt x)) (fun a x => a + x) (fun i a => Bz (i * (m + 1) + 1) a) 0 .un (Bz.zero1.mono (by omega)) ?_ fun i hi a c ha => ⟨?_, ?_⟩]
  · simp! []
    ((first | rw [xo_lk] | rw [lk_def]); simp! [])
    rfl
  · rfl
  · have h1 := hx _ (List.getElem_mem hi)
    have hle : (i + 1) * (m + 1) ≤ xs.length * (m + 1) := Nat.mul_le_mul_right _ hi
    rw [Nat.add_mul, Nat.one_mul] at hle
    have s1 := ha.sz (show i * (m + 1) + 1 ≤ 4000 by omega)
    have s2 := h1.sz (show m ≤ 4000 by omega)
    simp! []
    ((first | rw [xo_lk] | rw [lk_def]); simp! [u_plus])
    repeat ((first | rw [xo_lk] | rw [lk_def]); simp! [])
  · have h1 := hx _ (List.getElem_mem hi)
    refine (ha.add h1).mono ?_
    rw [Nat.add_mul, Nat.one_mul]; omega
/-! ### ratios with a told divisor -/
/-- q times d is whole, at most N -/
def Dz (d N : Nat) (q : Rat) : Prop := ∃ z : Int, q * ((d : Int) : Rat) = (z : Rat) ∧ z.natAbs ≤ N
theorem Dz.bz {d N n : Nat} {q : Rat} (h : Dz d N q) (h0 : 0 < d) (hd : d < 2 ^ n) (hN : N < 2 ^ n) : Bz n q := by
  obtain ⟨z, e, hz⟩ := h
  have hd0 : ((d : Int) : Rat) ≠ 0 := by
    intro h
    have : (d : Int) = 0 := by exact_mod_cast h
    omega
  have : q = (z : Rat) / ((d : Int) : Rat) := by rw [← e]; grind
  rw [this]
  exact Bz.of (by omega) (Nat.lt_of_le_of_lt hz hN) (by rw [Int.natAbs_natCast]; exact hd)
theorem Dz.add {d N M : Nat} {p q : Rat} (h1 : Dz d N p) (h2 : Dz d M q) : Dz d (N + M) (p + q) := by
  obtain ⟨z, e, hz⟩ := h1
  obtain ⟨w, f, hw⟩ := h2
  exact ⟨z + w, by rw [Rat.intCast_add, ← e, ← f]; grind, by omega⟩
theorem Dz.sub {d N M : Nat} {p q : Rat} (h1 : Dz d N p) (h2 : Dz d M q) : Dz d (N + M) (p - q) := by
  obtain ⟨z, e, hz⟩ := h1
  obtain ⟨w, f, hw⟩ := h2
  exact ⟨z - w, by rw [Rat.intCast_sub, ← e, ← f]; grind, by omega⟩
theorem Dz.mul {d c N M : Nat} {p q : Rat} (h1 : Dz d N p) (h2 : Dz c M q) : Dz (d * c) (N * M) (p * q) := by
  obtain ⟨z, e, hz⟩ := h1
  obtain ⟨w, f, hw⟩ := h2
  refine ⟨z * w, ?_, ?_⟩
  · rw [Rat.intCast_mul, ← e, ← f, Int.natCast_mul, Rat.intCast_mul]; grind
  · rw [Int.natAbs_mul]; exact Nat.mul_le_mul hz hw
theorem Dz.mono {d N M : Nat} {p : Rat} (h : Dz d N p) (hm : N ≤ M) : Dz d M p := by
  obtain ⟨z, e, hz⟩ := h; exact ⟨z, e, by omega⟩
theorem Dz.wide {d N : Nat} (c : Nat) {p : Rat} (h : Dz d N p) : Dz (d * c) (N * c) p := by
  obtain ⟨z, e, hz⟩ := h
  refine ⟨z * c, ?_, ?_⟩
  · rw [Rat.intCast_mul, ← e, Int.natCast_mul, Rat.intCast_mul]; grind
  · rw [Int.natAbs_mul, Int.natAbs_natCast]; exact Nat.mul_le_mul_right _ hz
theorem Dz.of {d N : Nat} {i : Nat} (j : Nat) (hj : 0 < j) (hd : ∃ c, d = j * c ∧ i * c ≤ N) : Dz d N (((i : Int) : Rat) / ((j : Int) : Rat)) := by
  obtain ⟨c, rfl, h⟩ := hd
  have hj0 : ((j : Int) : Rat) ≠ 0 := by
    intro h
    have : (j : Int) = 0 := by exact_mod_cast h
    omega
  refine ⟨(i : Int) * c, ?_, ?_⟩
  · rw [Rat.intCast_mul, Int.natCast_mul, Rat.intCast_mul]; grind
  · rw [Int.natAbs_mul, Int.natAbs_natCast, Int.natAbs_natCast]; exact h
theorem Dz.zero {d N : Nat} : Dz d N 0 := ⟨0, by rw [Rat.zero_mul]; rfl, by simp⟩
/-! ### loops with draws -/
theorem run_forB {gl : String → Option D} {F : String → List D → M β D} {α : Type} {l : List α} {w : α → D} {t : Tg} {body r : List S} {b : β} {Q : Fl × Env → β → Prop} (I : Nat → Env → Prop) {ρ : Env} (h0 : I 0 ρ)
    (hb : ∀ (i : Nat) (hi : i < l.length) ρ b, I i ρ → Run (bnd (lft (bindT t (w l[i]) ρ)) fun ρ' => xo gl F body ρ') b (fun x _ => x.1 = .nx ∧ I (i + 1) x.2))
    (hd : ∀ ρ b, I l.length ρ → Run (xo gl F r ρ) b Q) : Run (forB gl F t body (l.map w) ρ) b (fun a b' => Run (cont gl F r a) b' Q) := by
  unfold forB
  refine run_forL (fun i ρ _ => I i ρ) (fun i x ρ b e h => ?_) (fun ρ b h => hd ρ b h) h0
  obtain ⟨hi, rfl⟩ := List.getElem?_eq_some_iff.mp e
  refine (hb i hi ρ b h).mono fun x b' hx => ?_
  obtain ⟨fl, ρ'⟩ := x
  obtain ⟨rfl, h2⟩ := hx
  exact h2
/-- a comprehension with draws, over what itself was drawn -/
theorem run_compD {α : Type} {gl : String → Option D} {F : String → List D → M β D} {ρ : Env} {b : β} {e : E} {t : Tg} {ik : Ik} {es : List E} {own : List Nat} {Q : D → β → Prop} (w : α → D) (p : D → Prop)
    (h1 : Run (evL gl F es ρ) b fun ds b1 => ∃ l : List α, iter ik ds = some (l.map w) ∧ l.length ≤ lim ∧ ∀ vs b', vs.length = l.length → (∀ v ∈ vs, p v) → Q (.lst vs) b')
    (h2 : ∀ a, ∃ ρ', bindT t (w a) (wipeE ρ own) = some ρ' ∧ ∀ b, Run (ev gl F e ρ') b fun v _ => p v) : Run (ev gl F (.comp e t ik es [] own) ρ) b Q := by
  rw [ev_comp, run_bnd]
  refine h1.mono fun ds b1 ⟨l, e1, hl, hQ⟩ => ?_
  rw [e1, lft_some, bnd_ret, if_pos (by rw [List.length_map]; exact hl), run_bnd]
  refine run_comp (fun i acc b' => acc.length = i ∧ ∀ v ∈ acc, p v) ?_ (fun acc b' ⟨e1, e2⟩ => run_ret.mpr (hQ acc b' (by rw [e1, List.length_map]) e2)) ⟨rfl, by simp⟩
  rintro i d acc b' hd ⟨e1, e2⟩
  obtain ⟨a, _, rfl⟩ := List.mem_map.mp (List.mem_of_getElem? hd)
  obtain ⟨ρ', h5, h6⟩ := h2 a
  simp only [h5, lft_some, bnd_ret, evC_nil, if_true, run_bnd]
  refine (h6 b').mono fun v b'' hv => run_ret.mpr ⟨by rw [List.length_append, e1]; rfl, fun w hw => ?_⟩
  rcases List.mem_append.mp hw with hw | hw
  · exact e2 w hw
  · rw [List.mem_singleton.mp hw]; exact hv
theorem exists_mapD {α : Type} {f : α → D} {p : α → Prop} : ∀ {vs : List D}, (∀ v ∈ vs, ∃ a, v = f a ∧ p a) → ∃ l : List α, vs = l.map f ∧ l.length = vs.length ∧ ∀ a ∈ l, p a
  | [], _ => ⟨[], rfl, rfl, by simp⟩
  | v :: vs, h => by
    obtain ⟨a, rfl, ha⟩ := h v List.mem_cons_self
    obtain ⟨l, rfl, hl, hp⟩ := exists_mapD (vs := vs) fun w hw => h w (List.mem_cons_of_mem _ hw)
    refine ⟨a :: l, rfl, by simp, fun c hc => ?_⟩
    rcases List.mem_cons.mp hc with rfl | hc
    · exact ha
    · exact hp c hc
theorem ran_natI {n : Nat} (h : n ≤ 4000) : iter .ran [.int (n : Int)] = some ((List.range n).map fun (i : Nat) => .int i) := ran_map h
/-- a drawn supply, as it grows -/
structure Sup (acc : Rw) (st v : Rat) : Prop where
  dst : Dz 12 (72 * acc.length) st
  dv : Dz 24 (48 + 432 * acc.length) v
  st0 : 0 ≤ st
  v0 : 0 ≤ v
  pcs : ∀ p ∈ acc, Dz 12 216 p.s ∧ Dz 24 1344 p.v ∧ Dz 2 6 p.m ∧ 0 ≤ p.m ∧ 0 ≤ p.v ∧ p.s < st
  nil : acc = [] → st = 0
  hd : acc ≠ [] → (Rw.hd acc).s = 0
  asc : Asc acc
  sty : Stdy acc
  last : acc ≠ [] → (lastP acc).at st = v
theorem app_hd {acc : Rw} {p : Pc} (h : acc ≠ []) : Rw.hd (acc ++ [p]) = Rw.hd acc := by
  cases acc with
  | nil => exact absurd rfl h
  | cons a l => rfl
theorem app_last (acc : Rw) (p : Pc) : lastP (acc ++ [p]) = p := by unfold lastP; simp
theorem app_stdy {acc : Rw} {p : Pc} (h : Stdy acc) (hl : acc ≠ [] → (lastP acc).at p.s = p.v) : Stdy (acc ++ [p]) := by
  induction acc with
  | nil => trivial
  | cons a l ih =>
    cases l with
    | nil => exact ⟨hl (List.cons_ne_nil _ _), trivial⟩
    | cons b l => exact ⟨h.1, ih h.2 fun _ => hl (List.cons_ne_nil _ _)⟩
theorem app_asc {acc : Rw} {p : Pc} (h : Asc acc) (hl : ∀ q ∈ acc, q.s < p.s) : Asc (acc ++ [p]) :=
  List.pairwise_append.mpr ⟨h, List.pairwise_singleton _ _, fun q hq r hr => by rw [List.mem_singleton.mp hr]; exact hl q hq⟩
theorem Sup.step {acc : Rw} {st v m d : Rat} (h : Sup acc st v) (hl : acc.length < 3 + 1) (hm : Dz 2 6 m) (m0 : 0 ≤ m) (hd : Dz 12 72 d) (d0 : 0 < d) : Sup (acc ++ [⟨st, v, m⟩]) (st + d) (v + m * d) := by
  have hlen : (acc ++ [(⟨st, v, m⟩ : Pc)]).length = acc.length + 1 := by simp
  refine ⟨?_, ?_, by have := h.st0; grind, ?_, fun p hp => ?_, fun z => absurd z (by simp), fun _ => ?_, ?_, ?_, fun _ => ?_⟩
  · exact (h.dst.add hd).mono (by omega)
  · exact (h.dv.add (hm.mul hd)).mono (by omega)
  · have := h.v0
    have := Rat.mul_nonneg m0 (show 0 ≤ d by grind)
    grind
  · rcases List.mem_append.mp hp with hp | hp
    · obtain ⟨a1, a2, a3, a4, a5, a6⟩ := h.pcs p hp
      exact ⟨a1, a2, a3, a4, a5, by grind⟩
    · rw [List.mem_singleton.mp hp]
      exact ⟨h.dst.mono (by omega), h.dv.mono (by omega), hm, m0, h.v0, by show st < st + d; grind⟩
  · by_cases hn : acc = []
    · subst hn
      exact h.nil rfl
    · rw [app_hd hn]; exact h.hd hn
  · exact app_asc h.asc fun q hq => (h.pcs q hq).2.2.2.2.2
  · exact app_stdy h.sty fun hn => h.last hn
  · rw [app_last]; unfold Pc.at; grind
theorem Dz.half (i : Nat) (hi : i ≤ 6) : Dz 2 6 (((i : Int) : Rat) / ((2 : Int) : Rat)) := Dz.of 2 (by decide) ⟨1, rfl, by omega⟩
theorem Dz.some {i j : Nat} (hi : i ≤ 6) (h1 : 1 ≤ j) (h4 : j ≤ 4) : Dz 12 72 (((i : Int) : Rat) / ((j : Int) : Rat)) := by
  refine Dz.of j (by omega) ?_
  rcases (show j = 1 ∨ j = 2 ∨ j = 3 ∨ j = 4 by omega) with rfl | rfl | rfl | rfl
  · exact ⟨12, rfl, by omega⟩
  · exact ⟨6, rfl, by omega⟩
  · exact ⟨4, rfl, by omega⟩
  · exact ⟨3, rfl, by omega⟩
theorem div_pos' {i j : Nat} (hi : 1 ≤ i) (hj : 1 ≤ j) : (0 : Rat) < ((i : Int) : Rat) / ((j : Int) : Rat) := by
  have h1 : (0 : Rat) < ((i : Int) : Rat) := by exact_mod_cast (show (0 : Int) < i by omega)
  have h2 : (0 : Rat) < ((j : Int) : Rat) := by exact_mod_cast (show (0 : Int) < j by omega)
  rw [Rat.div_def]
  exact Rat.mul_pos h1 (Rat.inv_pos.mpr h2)
theorem div_nonneg' {i j : Nat} (hj : 1 ≤ j) : (0 : Rat) ≤ ((i : Int) : Rat) / ((j : Int) : Rat) := by
  have h1 : (0 : Rat) ≤ ((i : Int) : Rat) := by exact_mod_cast (show (0 : Int) ≤ i by omega)
  have h2 : (0 : Rat) < ((j : Int) : Rat) := by exact_mod_cast (show (0 : Int) < j by omega)
  rw [Rat.div_def]
  exact Rat.mul_nonneg h1 (Rat.le_of_lt (Rat.inv_pos.mpr h2))
/-- a drawn supply -/
structure SupRow (r : Rw) : Prop where
  row : Row r
  sty : Stdy r
  len : r.length ≤ 4
  pcs : ∀ p ∈ r, Dz 12 216 p.s ∧ Dz 24 1344 p.v ∧ Dz 2 6 p.m ∧ 0 ≤ p.m ∧ 0 ≤ p.v
theorem pow9 (i : Int) (h : i.natAbs < 1000000) : i.natAbs < 2 ^ 9000 := Nat.lt_of_lt_of_le h (Nat.le_trans (show 1000000 ≤ 2 ^ 20 by decide) (Nat.pow_le_pow_right (by decide) (by decide)))
theorem rt01 : (.tup [.int 0, .int 1] : D) = Rt 0 := rfl
theorem pln_pc (p : Pc) (n : Nat) : pln (n + 2) (pcD p) = true := by simp [pcD, Rt, pln, plnT, plnL]
theorem cop_nil (acc : Rw) : cop .eq (.lst (acc.map pcD)) (.lst []) = some acc.isEmpty := by
  have h1 : plnL 59 (acc.map pcD) = true := plnL_of fun x hx => by
    obtain ⟨p, _, rfl⟩ := List.mem_map.mp hx
    exact pln_pc p 57
  have h2 : pln 60 (.lst (acc.map pcD)) = true := by simp only [pln, plnT, h1]
  have h3 : pln 60 (.lst []) = true := by simp only [pln, plnT, plnL]
  simp only [cop, h2, h3, Bool.and_self, if_true]
  cases acc <;> rfl
theorem r_supply [LRat P] [Drw P "_law_draw"] [FN P "_law_some" RF.l_some] [FN P "_law_supply" RF.l_supply] {b : β} {Q : D → β → Prop} (hk : 8 ≤ k) (q : ∀ r b', SupRow r → Q (rwD r) b') : Run (call P k "_law_supply" [.box]) b Q := by
  rw [call_fnd RF.l_supply (by omega) rfl rfl]
  refine run_endF.mpr ?_
  unfold RF.l_supply
  ((first | rw [xo_lk] | rw [lk_def]); simp! [])
  refine r_draw (by omega) (by omega) (by omega) fun i b1 hi => ?_
  obtain ⟨v, hv, hvi⟩ : ∃ v : Nat, v ≤ 2 ∧ idx (.lst [.int 0, .int 0, .int 2]) (.int i) = some (.int v) := by
    rcases (show i = 0 ∨ i = 1 ∨ i = 2 by omega) with rfl | rfl | rfl
    · exact ⟨0, by omega, rfl⟩
    · exact ⟨0, by omega, rfl⟩
    · exact ⟨2, by omega, rfl⟩
  have e1 := u_ratio (P := P) (k := k - 1) (p := (v : Int)) (q := 1) (by decide) (pow9 _ (by omega)) (by decide) (by omega)
  simp! [hvi, e1]
  ((first | rw [xo_lk] | rw [lk_def]); simp! [])
  refine r_draw (by omega) (by omega) (by omega) fun n b2 hn => ?_
  have e2 : (1 : Int) + (n : Int) = ((n + 1 : Nat) : Int) := by omega
  simp! [e2, ran_natI (show n + 1 ≤ 4000 by omega), rt01]
  refine run_forB (fun i ρ => ∃ acc st v c4 c5 c6, ρ = [.im .box, .ow (acc.map pcD), .im (Rt st), .im (Rt v), c4, c5, c6] ∧ Sup acc st v ∧ acc.length ≤ i ∧ (0 < i → acc ≠ [])) ⟨[], 0, (((v : Int) : Rat) / ((1 : Int) : Rat)), .un, .un, .un, rfl, ?_, Nat.le_refl _, fun z => absurd z (by omega)⟩ ?_ ?_
  · refine ⟨Dz.zero, ?_, Rat.le_refl, div_nonneg' (by decide), fun p hp => (by cases hp), fun _ => rfl, fun z => absurd rfl z, List.Pairwise.nil, trivial, fun z => absurd rfl z⟩
    exact Dz.of 1 (by decide) ⟨24, rfl, by simp; omega⟩
  · rintro i hi ρ b3 ⟨acc, st, v, c4, c5, c6, rfl, S, hacc, hne⟩
    have hi4 : i < 4 := by simp at hi; omega
    simp! [List.getElem_range]
    ((first | rw [xo_lk] | rw [lk_def]); simp! [])
    refine r_draw (by omega) (by omega) (by omega) fun m b4 hm => ?_
    have e3 := u_ratio (P := P) (k := k - 1) (p := (m : Int)) (q := 2) (by decide) (pow9 _ (by omega)) (by decide) (by omega)
    simp! [e3]
    have dm := Dz.half m (by omega)
    have bm : Bz 3 (((m : Int) : Rat) / ((2 : Int) : Rat)) := dm.bz (by decide) (by decide) (by decide)
    have m0 : (0 : Rat) ≤ ((m : Int) : Rat) / ((2 : Int) : Rat) := div_nonneg' (j := 2) (by decide)
    have bst : Bz 10 st := S.dst.bz (by decide) (by decide) (by show 72 * acc.length < 1024; omega)
    have bv : Bz 11 v := S.dv.bz (by decide) (by decide) (by show 48 + 432 * acc.length < 2048; omega)
    generalize ((m : Int) : Rat) / ((2 : Int) : Rat) = sl at *
    -- what is done where the piece is laid
    have lay : ∀ b5, Run (xo P.gl (call P (k - 1)) [.app 1 (.tup [.var 2, .var 3, .var 5]), .asg (.nm 6) (.call "_law_some" [.var 0, .lit (.int 1), .lit (.int 6)]), .par 2 3 false false (.call "_law_plus" [.var 2, .var 6]) (.call "_law_plus" [.var 3, .call "_law_times" [.var 5, .var 6]])]
        [.im .box, .ow (acc.map pcD), .im (Rt st), .im (Rt v), .im (.int i), .im (Rt sl), c6]) b5 (fun a b' => Run (cont P.gl (call P (k - 1)) [] a) b' fun x _ => x.1 = .nx ∧ ∃ acc st v c4 c5 c6, x.2 = [.im .box, .ow (acc.map pcD), .im (Rt st), .im (Rt v), c4, c5, c6] ∧ Sup acc st v ∧ acc.length ≤ i + 1 ∧ (0 < i + 1 → acc ≠ [])) := by
      intro b5
      have f1 : acc.length < 4000 := by omega
      ((first | rw [xo_lk] | rw [lk_def]); simp! [f1])
      ((first | rw [xo_lk] | rw [lk_def]); simp! [])
      refine r_some (lo := 1) (hi := 6) (by decide) (by decide) (by omega) fun i' j' b6 h1 h2 h3 h4 => ?_
      have dd := Dz.some h2 h3 h4
      have d0 := div_pos' h1 h3
      generalize ((i' : Int) : Rat) / ((j' : Int) : Rat) = d at *
      have bd : Bz 7 d := dd.bz (by decide) (by decide) (by decide)
      ((first | rw [xo_lk] | rw [lk_def]); simp! [u_plus, u_times])
      ((first | rw [xo_lk] | rw [lk_def]); simp! [])
      ((first | rw [xo_lk] | rw [lk_def]); simp! [])
      refine ⟨acc ++ [⟨st, v, sl⟩], st + d, v + sl * d, .im (.int i), .im (Rt sl), .im (Rt d), ?_, S.step (by omega) dm m0 dd d0, by simp; omega, fun _ => by simp⟩
      simp only [List.map_append, List.map_cons, List.map_nil]; rfl
    ((first | rw [xo_lk] | rw [lk_def]); simp! [cop_nil])
    rcases List.eq_nil_or_concat acc with rfl | ⟨l, p, rfl⟩
    · simp! []
      exact lay _
    · rw [List.concat_eq_append] at *
      simp! [ne_app, List.map_append, ix_lastL, ix_pc2]
      simp only [List.map_append, List.map_cons, List.map_nil] at lay
      by_cases hq : p.m = sl
      · simp! [hq]
        ((first | rw [xo_lk] | rw [lk_def]); simp! [])
        ((first | rw [xo_lk] | rw [lk_def]); simp! [])
        refine ⟨l ++ [p], st, v, .im (.int i), .im (Rt sl), c6, ?_, S, by omega, fun _ => by simp⟩
        simp only [List.map_append, List.map_cons, List.map_nil]
      · simp! [hq]
        exact lay _
  · rintro ρ b3 ⟨acc, st, v, c4, c5, c6, rfl, S, hacc, hne⟩
    ((first | rw [xo_lk] | rw [lk_def]); simp! [])
    simp at hacc hne
    refine q acc b3 ⟨⟨hne, S.hd hne, S.asc⟩, S.sty, by omega, fun p hp => ?_⟩
    obtain ⟨a1, a2, a3, a4, a5, a6⟩ := S.pcs p hp
    exact ⟨a1, a2, a3, a4, a5⟩
end
end PL

set_option autoImplicit false
set_option linter.all false
set_option maxRecDepth 100000
set_option maxHeartbeats 2000000
set_option exponentiation.threshold 20000
/-! NM: more of markets: plain. -/
namespace PL
theorem ix_Rt0 {x : Rat} : idx (Rt x) (.int 0) = some (.int x.num) := rfl
theorem ix_Rt1 {x : Rat} : idx (Rt x) (.int 1) = some (.int (x.den : Nat)) := rfl
theorem neg_Rt (x : Rat) : (.tup [.int (-x.num), .int (x.den : Nat)] : D) = Rt (-x) := by
  unfold Rt; rw [Rat.neg_num, Rat.neg_den]
theorem inv_Rt {x : Rat} (h : 0 < x) : (.tup [.int (x.den : Nat), .int x.num] : D) = Rt (1 / x) := by
  have hn0 : (x.num : Rat) ≠ 0 := num_ne (by grind)
  have hn : 0 < x.num := by
    have h1 : 0 ≤ x.num := Rat.num_nonneg.mpr (by grind)
    have h2 : x.num ≠ 0 := fun z => hn0 (by rw [z]; rfl)
    omega
  have e : (1 : Rat) / x = (((x.den : Nat) : Int) : Rat) / (x.num : Rat) := by
    have key : ∀ a b : Rat, a ≠ 0 → b ≠ 0 → a / b = x → 1 / x = b / a := by
      intro a b ha hb h; subst h; grind
    exact key _ _ hn0 (den_ne x) (num_den x)
  rw [e, rat_of hn]
  have g : (Int.gcd (x.den : Nat) x.num : Int) = 1 := by
    have h1 : Nat.gcd x.num.natAbs x.den = 1 := x.reduced
    have : Int.gcd (x.den : Nat) x.num = 1 := by
      show Nat.gcd x.den x.num.natAbs = 1
      rw [Nat.gcd_comm]; exact h1
    rw [this]; rfl
  rw [g]; simp
theorem Bz.inv {n : Nat} {x : Rat} (h : Bz n x) (h0 : 0 < x) : Bz n (1 / x) := by
  have e := inv_Rt h0
  unfold Rt at e
  injection e with e
  injection e with e1 e2
  injection e1 with e1
  injection e2 with e2
  injection e2 with e2
  refine ⟨?_, ?_⟩
  · rw [← e1, Int.natAbs_natCast]; exact h.2
  · have := h.1
    have h2 : (1 / x).den = x.num.natAbs := by omega
    rw [h2]; exact this
theorem RB.movR {n m : Nat} {r : Rw} {a : Rat} (h : RB n r) (r0 : r ≠ []) (ha : Bz m a) : RB (3 * n + m + 2) (PL.movR r a) := by
  refine RB.nrm (r := mov0 r a) fun q hq => ?_
  rcases List.mem_cons.mp hq with rfl | hq
  · exact ⟨Bz.zero1.mono (by omega), (h.val r0 ha).mono (by omega), (h.slp r0).mono (by omega)⟩
  · obtain ⟨p, hp, rfl⟩ := List.mem_map.mp hq
    have := h p (List.mem_filter.mp hp).1
    exact ⟨(this.s.sub ha).mono (by omega), this.v.mono (by omega), this.m.mono (by omega)⟩
theorem movR_falling {r : Rw} (h : falling r) (r0 : r ≠ []) (a : Rat) : falling (movR r a) := by
  intro p hp
  have hp : p ∈ mov0 r a := nrm_mem hp
  rcases List.mem_cons.mp hp with rfl | hp
  · show (rp r a).m ≤ 0
    exact h _ (rp_mem r0 a)
  · obtain ⟨q, hq, rfl⟩ := List.mem_map.mp hp
    exact h q (List.mem_filter.mp hq).1
theorem sclR_falling {r : Rw} (h : falling r) {c : Rat} (hc : 0 ≤ c) : falling (sclR r c) := by
  intro p hp
  have hp : p ∈ mapR id (· * c) (· * c) r := nrm_mem hp
  obtain ⟨q, hq, rfl⟩ := List.mem_map.mp hp
  have h1 := h q hq
  have h2 : 0 ≤ (-q.m) * c := Rat.mul_nonneg (by grind) hc
  show q.m * c ≤ 0
  grind
/-- the least meeting, by what the row tells -/
theorem mpR_lo {R : Rw} (row : Row R) (hs : Stdy R) (hr : rising R) {m : Rat} (m0 : 0 ≤ m) (h0 : val R m = 0) (hl : ∀ y, 0 ≤ y → y < m → val R y < 0) : ∃ hi, mpR R = some (m, hi) := by
  have h := mpR_spec row hs hr
  cases hm : mpR R with
  | none =>
    rw [hm] at h
    rcases h with h | h
    · have := h m m0; grind
    · exfalso
      by_cases h1 : 0 < m
      · have := hl 0 Rat.le_refl h1; grind
      · have : m = 0 := by grind
        rw [this] at h0; grind
  | some p =>
    obtain ⟨lo, hi⟩ := p
    rw [hm] at h
    obtain ⟨a1, a2, a3, a4⟩ := h
    have : lo = m := by
      by_cases h1 : lo < m
      · have := hl lo a1 h1; grind
      · by_cases h2 : m < lo
        · have := a3 m m0 h2; grind
        · grind
    exact ⟨hi, by rw [this]⟩
theorem mpR_one {R : Rw} (row : Row R) (hs : Stdy R) (hr : rising R) {m : Rat} (m0 : 0 ≤ m) (h0 : val R m = 0) (hl : ∀ y, 0 ≤ y → y < m → val R y < 0) (hg : ∀ y, m < y → 0 < val R y) : mpR R = some (m, some m) := by
  have h := mpR_spec row hs hr
  obtain ⟨hi, e⟩ := mpR_lo row hs hr m0 h0 hl
  rw [e] at h ⊢
  obtain ⟨a1, a2, a3, a4⟩ := h
  cases hi with
  | none =>
    exfalso
    have h1 : val R (m + 1) = 0 := a4 (m + 1) (by grind)
    have := hg (m + 1) (by grind)
    grind
  | some hi =>
    obtain ⟨b1, b2, b3⟩ := a4
    have : hi = m := by
      by_cases h1 : m < hi
      · have := hg hi h1; grind
      · grind
    rw [this]
/-- meeting by a supply and a demand -/
theorem meet_lo {s d : Rw} (hs : Row s) (hd : Row d) (ss : Stdy s) (sd : Stdy d) (is_ : rising s) (fd : falling d) {m : Rat} (m0 : 0 ≤ m) (h0 : val s m = val d m) (hl : ∀ y, 0 ≤ y → y < m → val s y < val d y) : ∃ hi, mpR (excR s d) = some (m, hi) :=
  mpR_lo (excR_row hs hd) (excR_stdy hs hd ss sd) (excR_rising hs hd is_ fd) m0 (by rw [excR_val hs hd m0]; grind) fun y h1 h2 => by rw [excR_val hs hd h1]; have := hl y h1 h2; grind
theorem meet_one {s d : Rw} (hs : Row s) (hd : Row d) (ss : Stdy s) (sd : Stdy d) (is_ : rising s) (fd : falling d) {m : Rat} (m0 : 0 ≤ m) (h0 : val s m = val d m) (hl : ∀ y, 0 ≤ y → y < m → val s y < val d y) (hg : ∀ y, m < y → val d y < val s y) : mpR (excR s d) = some (m, some m) :=
  mpR_one (excR_row hs hd) (excR_stdy hs hd ss sd) (excR_rising hs hd is_ fd) m0 (by rw [excR_val hs hd m0]; grind) (fun y h1 h2 => by rw [excR_val hs hd h1]; have := hl y h1 h2; grind) fun y h => by
    rw [excR_val hs hd (by grind)]; have := hg y h; grind
/-- joined rows -/
theorem joinR_val {rs : List Rw} (h : ∀ r ∈ rs, Row r) {x : Rat} (hx : 0 ≤ x) : val (joinR rs) x = sm (rs.map fun r => val r x) ∧ Row (joinR rs) := by
  have key : ∀ (rs : List Rw) (acc : Rw), Row acc → (∀ r ∈ rs, Row r) → val (rs.foldl addR acc) x = val acc x + sm (rs.map fun r => val r x) ∧ Row (rs.foldl addR acc) := by
    intro rs
    induction rs with
    | nil => intro acc h1 _; exact ⟨by rw [List.map_nil, sm_nil]; show val acc x = _; grind, h1⟩
    | cons r rs ih =>
      intro acc h1 h2
      have hr := h2 r List.mem_cons_self
      obtain ⟨a, b⟩ := ih (addR acc r) (h1.add hr) fun q hq => h2 q (List.mem_cons_of_mem _ hq)
      refine ⟨?_, b⟩
      rw [List.foldl_cons, a, (addR_spec h1.asc hr.asc h1.ne hr.ne h1.hd hr.hd hx).1, List.map_cons, sm_cons]
      grind
  have row0 : Row [⟨0, 0, 0⟩] := ⟨List.cons_ne_nil _ _, rfl, List.pairwise_singleton _ _⟩
  obtain ⟨a, b⟩ := key rs _ row0 h
  refine ⟨?_, b⟩
  unfold joinR
  rw [a, val_one]
  unfold Pc.at; grind
theorem joinR_stdy {rs : List Rw} (h : ∀ r ∈ rs, Row r ∧ Stdy r ∧ rising r) : Stdy (joinR rs) ∧ rising (joinR rs) := by
  have key : ∀ (rs : List Rw) (acc : Rw), Row acc → Stdy acc → rising acc → (∀ r ∈ rs, Row r ∧ Stdy r ∧ rising r) → Stdy (rs.foldl addR acc) ∧ rising (rs.foldl addR acc) := by
    intro rs
    induction rs with
    | nil => intro acc _ h1 h2 _; exact ⟨h1, h2⟩
    | cons r rs ih =>
      intro acc h0 h1 h2 h3
      obtain ⟨a, b, c⟩ := h3 r List.mem_cons_self
      exact ih (addR acc r) (h0.add a) (addR_stdy h0.asc a.asc h1 b) (addR_rising h0.ne a.ne h2 c) fun q hq => h3 q (List.mem_cons_of_mem _ hq)
  have row0 : Row [⟨0, 0, 0⟩] := ⟨List.cons_ne_nil _ _, rfl, List.pairwise_singleton _ _⟩
  exact key rs _ row0 trivial (fun p hp => by rw [List.mem_singleton.mp hp]; exact Rat.le_refl) h
theorem joinR_len {rs : List Rw} (h : ∀ r ∈ rs, r.length ≤ 4) : (joinR rs).length ≤ 1 + 4 * rs.length := by
  have key : ∀ (rs : List Rw) (acc : Rw), (∀ r ∈ rs, r.length ≤ 4) → (rs.foldl addR acc).length ≤ acc.length + 4 * rs.length := by
    intro rs
    induction rs with
    | nil => intro acc _; simp
    | cons r rs ih =>
      intro acc h
      have h1 := ih (addR acc r) fun q hq => h q (List.mem_cons_of_mem _ hq)
      have h2 := addR_len acc r
      have h3 := h r List.mem_cons_self
      simp only [List.foldl_cons, List.length_cons]; omega
  exact key rs [⟨0, 0, 0⟩] h
/-- bounds by told divisors -/
def Zr (A B C : Nat) (r : Rw) : Prop := ∀ p ∈ r, Dz 12 A p.s ∧ Dz 6 B p.m ∧ Dz 72 C p.v
theorem Zr.val {A A' B C : Nat} {r : Rw} (h : Zr A B C r) (r0 : r ≠ []) {x : Rat} (hx : Dz 12 A' x) : Dz 72 (C + B * (A' + A)) (PL.val r x) ∧ Dz 6 B (PL.slp r x) := by
  obtain ⟨h1, h2, h3⟩ := h _ (rp_mem r0 x)
  exact ⟨h3.add ((h2.mul (hx.sub h1))), h2⟩
theorem Zr.add {A B C B' C' : Nat} {a b : Rw} (ha : Zr A B C a) (hb : Zr A B' C' b) (a0 : a ≠ []) (b0 : b ≠ []) : Zr A (B + B') (C + B * (A + A) + (C' + B' * (A + A))) (addR a b) := by
  intro p hp
  obtain ⟨x, hx, rfl⟩ := List.mem_map.mp (nrm_mem hp)
  have hx : Dz 12 A x := by
    rcases mem_allS.mp hx with ⟨q, hq, rfl⟩ | ⟨q, hq, rfl⟩
    · exact (ha q hq).1
    · exact (hb q hq).1
  exact ⟨hx, (ha.val a0 hx).2.add (hb.val b0 hx).2, (ha.val a0 hx).1.add (hb.val b0 hx).1⟩
theorem Zr.mono {A B C B' C' : Nat} {r : Rw} (h : Zr A B C r) (h1 : B ≤ B') (h2 : C ≤ C') : Zr A B' C' r := fun p hp => ⟨(h p hp).1, (h p hp).2.1.mono h1, (h p hp).2.2.mono h2⟩
theorem Zr.rb {A B C n : Nat} {r : Rw} (h : Zr A B C r) (hA : A < 2 ^ n) (hB : B < 2 ^ n) (hC : C < 2 ^ n) (hn : 7 ≤ n) : RB n r := by
  have h2 : 2 ^ 7 ≤ 2 ^ n := Nat.pow_le_pow_right (by decide) hn
  intro p hp
  obtain ⟨a, b, c⟩ := h p hp
  exact ⟨a.bz (by decide) (Nat.lt_of_lt_of_le (by decide) h2) hA, c.bz (by decide) (Nat.lt_of_lt_of_le (by decide) h2) hC, b.bz (by decide) (Nat.lt_of_lt_of_le (by decide) h2) hB⟩
theorem Zr.join {rs : List Rw} (h : ∀ r ∈ rs, r ≠ [] ∧ Zr 216 30 5000 r) (hl : rs.length ≤ 4) : ∀ i, Zr 216 (30 * min i rs.length) (200000 * min i rs.length) ((rs.take i).foldl addR [⟨0, 0, 0⟩]) ∧ (rs.take i).foldl addR [⟨0, 0, 0⟩] ≠ [] := by
  intro i
  induction i with
  | zero =>
    refine ⟨fun p hp => ?_, List.cons_ne_nil _ _⟩
    rw [List.take_zero] at hp
    rw [List.mem_singleton.mp hp]
    exact ⟨Dz.zero, Dz.zero, Dz.zero⟩
  | succ i ih =>
    by_cases hi : i < rs.length
    · rw [List.take_succ_eq_append_getElem hi, List.foldl_append]
      obtain ⟨r0, hz⟩ := h _ (List.getElem_mem hi)
      have h1 : min (i + 1) rs.length = i + 1 := by omega
      have h2 : min i rs.length = i := by omega
      rw [h1]
      rw [h2] at ih
      refine ⟨(ih.1.add hz ih.2 r0).mono (by omega) ?_, addR_ne ih.2⟩
      have : 30 * i * (216 + 216) ≤ 30 * 3 * (216 + 216) := Nat.mul_le_mul_right _ (by omega)
      omega
    · have h1 : min (i + 1) rs.length = min i rs.length := by omega
      have h2 : rs.take (i + 1) = rs.take i := by rw [List.take_of_length_le (by omega), List.take_of_length_le (by omega)]
      rw [h1, h2]; exact ih
theorem SupRow.zr {r : Rw} (h : SupRow r) : Zr 216 30 5000 r := fun p hp => by
  obtain ⟨a, b, c, _, _⟩ := h.pcs p hp
  exact ⟨a, (c.wide 3).mono (by decide), (b.wide 3).mono (by decide)⟩
theorem SupRow.ris {r : Rw} (h : SupRow r) : rising r := fun p hp => (h.pcs p hp).2.2.2.1
theorem SupRow.val0 {r : Rw} (h : SupRow r) : 0 ≤ val r 0 := by
  have h1 := val_at h.row.asc _ (Rw.hd_mem h.row.ne)
  rw [h.row.hd] at h1
  rw [h1]
  exact (h.pcs _ (Rw.hd_mem h.row.ne)).2.2.2.2
end PL

set_option autoImplicit false
set_option linter.all false
set_option maxRecDepth 100000
/-! the terms of K94, printed by lawgen.py -/
namespace K94
open PL
def f_is_whole : Fn := ⟨["value"], 1,
    [.ret (.and [.isi (.var 0) .int, .no (.isi (.var 0) .bool)])]⟩
def f_common_divisor : Fn := ⟨["a", "b"], 2,
    [.par 0 1 false false (.bi .abs [.var 0]) (.bi .abs [.var 1]),
    .whl (.var 1)
      [.par 0 1 false false (.var 1) (.bin .mod (.var 0) (.var 1))],
    .ret (.var 0)]⟩
def f_is_ratio : Fn := ⟨["value"], 1,
    [.iff (.or [.no (.isi (.var 0) .tuple), .cmp .ne (.bi .len [.var 0]) (.lit (.int 2)), .no (.call "is_whole" [.idx (.var 0) (.lit (.int 0))]), .no (.call "is_whole" [.idx (.var 0) (.lit (.int 1))])])
      [.ret (.lit (.bl false))]
      [],
    .ret (.and [.cmp .gt (.idx (.var 0) (.lit (.int 1))) (.lit (.int 0)), .cmp .eq (.call "common_divisor" [.idx (.var 0) (.lit (.int 0)), .idx (.var 0) (.lit (.int 1))]) (.lit (.int 1))])]⟩
def f_ratio : Fn := ⟨["p", "q", "d"], 2,
    [.iff (.cmp .eq (.var 1) (.lit (.int 0)))
      [.bad]
      [],
    .iff (.cmp .lt (.var 1) (.lit (.int 0)))
      [.par 0 1 false false (.neg (.var 0)) (.neg (.var 1))]
      [],
    .asg (.nm 2) (.call "common_divisor" [.var 0, .var 1]),
    .ret (.tup [.bin .fdiv (.var 0) (.var 2), .bin .fdiv (.var 1) (.var 2)])]⟩
def f_plus : Fn := ⟨["one", "other"], 2,
    [.ret (.call "ratio" [.bin .add (.bin .mul (.idx (.var 0) (.lit (.int 0))) (.idx (.var 1) (.lit (.int 1)))) (.bin .mul (.idx (.var 1) (.lit (.int 0))) (.idx (.var 0) (.lit (.int 1)))), .bin .mul (.idx (.var 0) (.lit (.int 1))) (.idx (.var 1) (.lit (.int 1)))])]⟩
def f_minus : Fn := ⟨["one", "other"], 2,
    [.ret (.call "ratio" [.bin .sub (.bin .mul (.idx (.var 0) (.lit (.int 0))) (.idx (.var 1) (.lit (.int 1)))) (.bin .mul (.idx (.var 1) (.lit (.int 0))) (.idx (.var 0) (.lit (.int 1)))), .bin .mul (.idx (.var 0) (.lit (.int 1))) (.idx (.var 1) (.lit (.int 1)))])]⟩
def f_times : Fn := ⟨["one", "other"], 2,
    [.ret (.call "ratio" [.bin .mul (.idx (.var 0) (.lit (.int 0))) (.idx (.var 1) (.lit (.int 0))), .bin .mul (.idx (.var 0) (.lit (.int 1))) (.idx (.var 1) (.lit (.int 1)))])]⟩
def f_over : Fn := ⟨["one", "other"], 2,
    [.ret (.call "ratio" [.bin .mul (.idx (.var 0) (.lit (.int 0))) (.idx (.var 1) (.lit (.int 1))), .bin .mul (.idx (.var 0) (.lit (.int 1))) (.idx (.var 1) (.lit (.int 0)))])]⟩
def f_less : Fn := ⟨["one", "other"], 2,
    [.ret (.cmp .lt (.bin .mul (.idx (.var 0) (.lit (.int 0))) (.idx (.var 1) (.lit (.int 1)))) (.bin .mul (.idx (.var 1) (.lit (.int 0))) (.idx (.var 0) (.lit (.int 1)))))]⟩
def f_sum_of : Fn := ⟨["ratios", "found", "one"], 1,
    [.asg (.nm 1) (.glob "ZERO"),
    .fr (.nm 2) .seq [.var 0]
      [.asg (.nm 1) (.call "plus" [.var 1, .var 2])],
    .ret (.var 1)]⟩
def f_is_piece : Fn := ⟨["value", "part"], 1,
    [.ret (.and [.isi (.var 0) .tuple, .cmp .eq (.bi .len [.var 0]) (.lit (.int 3)), .bi .all [.comp (.call "is_ratio" [.var 1]) (.nm 1) .seq [.var 0] [] [1]]])]⟩
def f_is_row : Fn := ⟨["value", "piece", "k"], 1,
    [.iff (.or [.no (.isi (.var 0) .tuple), .no (.chn .le .le (.lit (.int 1)) (.bi .len [.var 0]) (.glob "MAX_PIECES"))])
      [.ret (.lit (.bl false))]
      [],
    .iff (.no (.bi .all [.comp (.call "is_piece" [.var 1]) (.nm 1) .seq [.var 0] [] [1]]))
      [.ret (.lit (.bl false))]
      [],
    .iff (.cmp .ne (.idx (.idx (.var 0) (.lit (.int 0))) (.lit (.int 0))) (.glob "ZERO"))
      [.ret (.lit (.bl false))]
      [],
    .ret (.bi .all [.comp (.call "less" [.idx (.idx (.var 0) (.var 2)) (.lit (.int 0)), .idx (.idx (.var 0) (.bin .add (.var 2) (.lit (.int 1)))) (.lit (.int 0))]) (.nm 2) .ran [.bin .sub (.bi .len [.var 0]) (.lit (.int 1))] [] [2]])]⟩
def f_along : Fn := ⟨["piece", "x", "start", "value", "slope"], 2,
    [.asg (.tu [.nm 2, .nm 3, .nm 4]) (.var 0),
    .ret (.call "plus" [.var 3, .call "times" [.var 4, .call "minus" [.var 1, .var 2]]])]⟩
def f_limited : Fn := ⟨["pieces"], 1,
    [.iff (.cmp .gt (.bi .len [.var 0]) (.glob "MAX_PIECES"))
      [.bad]
      [],
    .ret (.bi .tuple [.var 0])]⟩
def f_normal : Fn := ⟨["row", "found", "piece"], 1,
    [.own 1 (.lst []),
    .fr (.nm 2) .seq [.var 0]
      [.iff (.or [.no (.bvar 1), .cmp .ne (.idx (.idx (.bvar 1) (.neg (.lit (.int 1)))) (.lit (.int 2))) (.idx (.var 2) (.lit (.int 2))), .cmp .ne (.call "along" [.idx (.bvar 1) (.neg (.lit (.int 1))), .idx (.var 2) (.lit (.int 0))]) (.idx (.var 2) (.lit (.int 1)))])
          [.app 1 (.var 2)]
          []],
    .frz 1,
    .ret (.call "limited" [.var 1])]⟩
def f_piece_at : Fn := ⟨["row", "x", "found", "piece"], 2,
    [.asg (.nm 2) (.idx (.var 0) (.lit (.int 0))),
    .fr (.nm 3) .seq [.var 0]
      [.iff (.no (.call "less" [.var 1, .idx (.var 3) (.lit (.int 0))]))
          [.asg (.nm 2) (.var 3)]
          []],
    .ret (.var 2)]⟩
def f_value_at : Fn := ⟨["row", "x"], 2,
    [.ret (.call "along" [.call "piece_at" [.var 0, .var 1], .var 1])]⟩
def f_left_value : Fn := ⟨["row", "x", "found", "piece"], 2,
    [.asg (.nm 2) (.idx (.var 0) (.lit (.int 0))),
    .fr (.nm 3) .seq [.var 0]
      [.iff (.call "less" [.idx (.var 3) (.lit (.int 0)), .var 1])
          [.asg (.nm 2) (.var 3)]
          []],
    .ret (.call "along" [.var 2, .var 1])]⟩
def f_is_steady : Fn := ⟨["row", "k"], 1,
    [.ret (.bi .all [.comp (.cmp .eq (.call "along" [.idx (.var 0) (.var 1), .idx (.idx (.var 0) (.bin .add (.var 1) (.lit (.int 1)))) (.lit (.int 0))]) (.idx (.idx (.var 0) (.bin .add (.var 1) (.lit (.int 1)))) (.lit (.int 1)))) (.nm 1) .ran [.bin .sub (.bi .len [.var 0]) (.lit (.int 1))] [] [1]])]⟩
def f_sorted_ratios : Fn := ⟨["ratios", "found", "r", "at", "other"], 1,
    [.own 1 (.lst []),
    .fr (.nm 2) .seq [.var 0]
      [.asg (.nm 3) (.bi .len [.comp (.var 4) (.nm 4) .seq [.bvar 1] [.call "less" [.var 4, .var 2]] [4]]),
        .iff (.or [.cmp .eq (.var 3) (.bi .len [.bvar 1]), .cmp .ne (.idx (.bvar 1) (.var 3)) (.var 2)])
          [.ins 1 (.var 3) (.var 2)]
          []],
    .frz 1,
    .ret (.var 1)]⟩
def f_all_starts : Fn := ⟨["one", "other", "piece"], 2,
    [.ret (.call "sorted_ratios" [.comp (.idx (.var 2) (.lit (.int 0))) (.nm 2) .seq [.bin .add (.var 0) (.var 1)] [] [2]])]⟩
def f_slope_at : Fn := ⟨["row", "x"], 2,
    [.ret (.idx (.call "piece_at" [.var 0, .var 1]) (.lit (.int 2)))]⟩
def f_added : Fn := ⟨["one", "other", "found", "x"], 2,
    [.own 2 (.lst []),
    .fr (.nm 3) .seq [.call "all_starts" [.var 0, .var 1]]
      [.app 2 (.tup [.var 3, .call "plus" [.call "value_at" [.var 0, .var 3], .call "value_at" [.var 1, .var 3]], .call "plus" [.call "slope_at" [.var 0, .var 3], .call "slope_at" [.var 1, .var 3]]])],
    .frz 2,
    .ret (.call "normal" [.call "limited" [.var 2]])]⟩
def f_scaled : Fn := ⟨["row", "r", "start", "value", "slope"], 2,
    [.ret (.call "normal" [.bi .tuple [.comp (.tup [.var 2, .call "times" [.var 3, .var 1], .call "times" [.var 4, .var 1]]) (.tu [.nm 2, .nm 3, .nm 4]) .seq [.var 0] [] [2, 3, 4]]])]⟩
def f_moved : Fn := ⟨["row", "a", "found", "start", "value", "slope"], 2,
    [.own 2 (.lst [.tup [.glob "ZERO", .call "value_at" [.var 0, .var 1], .call "slope_at" [.var 0, .var 1]]]),
    .fr (.tu [.nm 3, .nm 4, .nm 5]) .seq [.var 0]
      [.iff (.call "less" [.var 1, .var 3])
          [.app 2 (.tup [.call "minus" [.var 3, .var 1], .var 4, .var 5])]
          []],
    .ret (.call "normal" [.bi .tuple [.bvar 2]])]⟩
def f_jumps_down : Fn := ⟨["row", "k"], 2,
    [.ret (.and [.cmp .gt (.var 1) (.lit (.int 0)), .call "less" [.idx (.idx (.var 0) (.var 1)) (.lit (.int 1)), .call "left_value" [.var 0, .idx (.idx (.var 0) (.var 1)) (.lit (.int 0))]]])]⟩
def f_does_rise : Fn := ⟨["row", "k"], 1,
    [.asg (.nm 0) (.call "normal" [.var 0]),
    .ret (.no (.bi .any [.comp (.or [.call "less" [.idx (.idx (.var 0) (.var 1)) (.lit (.int 2)), .glob "ZERO"], .call "jumps_down" [.var 0, .var 1]]) (.nm 1) .ran [.bi .len [.var 0]] [] [1]]))]⟩
def f_is_supply : Fn := ⟨["value"], 1,
    [.ret (.and [.call "is_row" [.var 0], .call "is_steady" [.var 0], .call "does_rise" [.var 0], .no (.call "less" [.call "value_at" [.var 0, .glob "ZERO"], .glob "ZERO"])])]⟩
def f_excess : Fn := ⟨["supply", "demand"], 2,
    [.ret (.call "added" [.var 0, .call "scaled" [.var 1, .tup [.neg (.lit (.int 1)), .lit (.int 1)]]])]⟩
def f_meeting_prices : Fn := ⟨["supply", "demand", "row", "low", "later", "x"], 2,
    [.asg (.nm 2) (.call "excess" [.var 0, .var 1]),
    .asg (.nm 3) (.call "first_price" [.var 2]),
    .iff (.or [.cmp .iss (.var 3) (.lit .non), .cmp .ne (.call "value_at" [.var 2, .var 3]) (.glob "ZERO")])
      [.ret (.lit .non)]
      [],
    .asg (.nm 4) (.comp (.var 5) (.nm 5) .seq [.call "spots_of" [.var 2]] [.and [.call "less" [.var 3, .var 5], .call "less" [.glob "ZERO", .call "value_at" [.var 2, .var 5]]]] [5]),
    .iff (.var 4)
      [.ret (.tup [.var 3, .call "zero_before" [.var 2, .idx (.var 4) (.lit (.int 0))]])]
      [],
    .ret (.tup [.var 3, .ite (.cmp .eq (.idx (.idx (.call "normal" [.var 2]) (.neg (.lit (.int 1)))) (.lit (.int 2))) (.glob "ZERO")) (.lit .non) (.call "last_zero" [.var 2])])]⟩
def f_spots_of : Fn := ⟨["row", "start", "_"], 1,
    [.ret (.comp (.var 1) (.tu [.nm 1, .nm 2, .nm 2]) .seq [.call "normal" [.var 0]] [] [1, 2, 2])]⟩
def f_first_price : Fn := ⟨["row", "pieces", "k", "start", "value", "slope", "there"], 1,
    [.asg (.nm 1) (.call "normal" [.var 0]),
    .fr (.tu [.nm 2, .tu [.nm 3, .nm 4, .nm 5]]) .enu [.var 1]
      [.iff (.no (.call "less" [.var 4, .glob "ZERO"]))
          [.ret (.var 3)]
          [],
        .iff (.call "less" [.glob "ZERO", .var 5])
          [.asg (.nm 6) (.call "minus" [.var 3, .call "over" [.var 4, .var 5]]),
            .iff (.or [.cmp .eq (.bin .add (.var 2) (.lit (.int 1))) (.bi .len [.var 1]), .call "less" [.var 6, .idx (.idx (.var 1) (.bin .add (.var 2) (.lit (.int 1)))) (.lit (.int 0))]])
              [.ret (.var 6)]
              []]
          []],
    .ret (.lit .non)]⟩
def f_zero_before : Fn := ⟨["row", "x", "pieces", "piece", "start", "value", "slope"], 2,
    [.asg (.nm 2) (.comp (.var 3) (.nm 3) .seq [.call "normal" [.var 0]] [.call "less" [.idx (.var 3) (.lit (.int 0)), .var 1]] [3]),
    .asg (.tu [.nm 4, .nm 5, .nm 6]) (.idx (.var 2) (.neg (.lit (.int 1)))),
    .ret (.ite (.call "less" [.glob "ZERO", .var 6]) (.call "minus" [.var 4, .call "over" [.var 5, .var 6]]) (.var 4))]⟩
def f_last_zero : Fn := ⟨["row", "start", "value", "slope"], 1,
    [.asg (.tu [.nm 1, .nm 2, .nm 3]) (.idx (.call "normal" [.var 0]) (.neg (.lit (.int 1)))),
    .ret (.call "minus" [.var 1, .call "over" [.var 2, .var 3]])]⟩
def f_exchanged : Fn := ⟨["supply", "demand", "price", "offered", "asked"], 3,
    [.par 3 4 false false (.call "value_at" [.var 0, .var 2]) (.call "value_at" [.var 1, .var 2]),
    .ret (.ite (.call "less" [.var 3, .var 4]) (.var 3) (.var 4))]⟩
def f_joined_supply : Fn := ⟨["supplies", "found", "supply"], 1,
    [.asg (.nm 1) (.tup [.tup [.glob "ZERO", .glob "ZERO", .glob "ZERO"]]),
    .fr (.nm 2) .seq [.var 0]
      [.asg (.nm 1) (.call "added" [.var 1, .var 2])],
    .ret (.var 1)]⟩
def f_with_more : Fn := ⟨["row", "many", "start", "value", "slope"], 2,
    [.ret (.call "normal" [.bi .tuple [.comp (.tup [.var 2, .call "plus" [.var 3, .var 1], .var 4]) (.tu [.nm 2, .nm 3, .nm 4]) .seq [.var 0] [] [2, 3, 4]]])]⟩
def f_least_change : Fn := ⟨["supply", "demand", "price"], 3,
    [.ret (.call "minus" [.call "value_at" [.var 0, .var 2], .call "value_at" [.var 1, .var 2]])]⟩
def f_scaled_to_meet : Fn := ⟨["supply", "demand", "price", "asked"], 3,
    [.asg (.nm 3) (.call "value_at" [.var 1, .var 2]),
    .ret (.ite (.cmp .eq (.var 3) (.glob "ZERO")) (.lit .non) (.call "over" [.call "value_at" [.var 0, .var 2], .var 3]))]⟩
def f_halfway : Fn := ⟨["one", "other"], 2,
    [.ret (.call "times" [.call "plus" [.var 0, .var 1], .tup [.lit (.int 1), .lit (.int 2)]])]⟩
def f_area_between : Fn := ⟨["row", "low", "high", "spots", "start", "_", "parts", "one", "other", "middle"], 3,
    [.asg (.nm 3) (.bin .add (.bin .add (.lst [.var 1]) (.comp (.var 4) (.tu [.nm 4, .nm 5, .nm 5]) .seq [.call "normal" [.var 0]] [.and [.call "less" [.var 1, .var 4], .call "less" [.var 4, .var 2]]] [4, 5, 5])) (.lst [.var 2])),
    .own 6 (.lst []),
    .fr (.tu [.nm 7, .nm 8]) .zip [.var 3, .sl1 (.var 3) (.lit (.int 1))]
      [.asg (.nm 9) (.call "times" [.call "plus" [.call "value_at" [.var 0, .var 7], .call "value_at" [.var 0, .var 8]], .tup [.lit (.int 1), .lit (.int 2)]]),
        .app 6 (.call "times" [.var 9, .call "minus" [.var 8, .var 7]])],
    .frz 6,
    .ret (.call "sum_of" [.var 6])]⟩
def f_choking_price : Fn := ⟨["demand", "pieces"], 1,
    [.asg (.nm 1) (.call "normal" [.var 0]),
    .iff (.cmp .ne (.idx (.idx (.var 1) (.neg (.lit (.int 1)))) (.lit (.int 1))) (.glob "ZERO"))
      [.ret (.lit .non)]
      [],
    .ret (.idx (.idx (.var 1) (.neg (.lit (.int 1)))) (.lit (.int 0)))]⟩
def f_sellers_gain : Fn := ⟨["supply", "price"], 2,
    [.ret (.call "area_between" [.var 0, .glob "ZERO", .var 1])]⟩
def f_buyers_gain : Fn := ⟨["demand", "price", "end"], 2,
    [.asg (.nm 2) (.call "choking_price" [.var 0]),
    .iff (.cmp .iss (.var 2) (.lit .non))
      [.ret (.lit .non)]
      [],
    .ret (.ite (.call "less" [.var 1, .var 2]) (.call "area_between" [.var 0, .var 1, .var 2]) (.glob "ZERO"))]⟩
def f_both_gain : Fn := ⟨["supply", "demand", "price", "theirs"], 3,
    [.asg (.nm 3) (.call "buyers_gain" [.var 1, .var 2]),
    .ret (.ite (.cmp .iss (.var 3) (.lit .non)) (.lit .non) (.call "plus" [.call "sellers_gain" [.var 0, .var 2], .var 3]))]⟩
def f_with_tax : Fn := ⟨["demand", "tax"], 2,
    [.ret (.call "moved" [.var 0, .var 1])]⟩
def f_prices_with_tax : Fn := ⟨["supply", "demand", "tax", "meeting"], 3,
    [.asg (.nm 3) (.call "meeting_prices" [.var 0, .call "with_tax" [.var 1, .var 2]]),
    .ret (.ite (.cmp .iss (.var 3) (.lit .non)) (.lit .non) (.tup [.idx (.var 3) (.lit (.int 0)), .call "plus" [.idx (.var 3) (.lit (.int 0)), .var 2]]))]⟩
def f_exchanged_with_tax : Fn := ⟨["supply", "demand", "tax", "prices"], 3,
    [.asg (.nm 3) (.call "prices_with_tax" [.var 0, .var 1, .var 2]),
    .ret (.ite (.cmp .iss (.var 3) (.lit .non)) (.lit .non) (.call "value_at" [.var 0, .idx (.var 3) (.lit (.int 0))]))]⟩
def f_borne : Fn := ⟨["supply", "demand", "tax", "before", "after"], 3,
    [.par 3 4 false false (.call "meeting_prices" [.var 0, .var 1]) (.call "prices_with_tax" [.var 0, .var 1, .var 2]),
    .iff (.or [.cmp .iss (.var 3) (.lit .non), .cmp .iss (.var 4) (.lit .non)])
      [.ret (.lit .non)]
      [],
    .ret (.tup [.call "minus" [.idx (.var 3) (.lit (.int 0)), .idx (.var 4) (.lit (.int 0))], .call "minus" [.idx (.var 4) (.lit (.int 1)), .idx (.var 3) (.lit (.int 0))]])]⟩
def f_share_of_buyers : Fn := ⟨["supply", "demand", "tax", "parts"], 3,
    [.asg (.nm 3) (.call "borne" [.var 0, .var 1, .var 2]),
    .ret (.ite (.cmp .iss (.var 3) (.lit .non)) (.lit .non) (.call "over" [.idx (.var 3) (.lit (.int 1)), .var 2]))]⟩
def f_lost_by_tax : Fn := ⟨["supply", "demand", "tax", "before", "after", "free", "left"], 3,
    [.par 3 4 false false (.call "meeting_prices" [.var 0, .var 1]) (.call "prices_with_tax" [.var 0, .var 1, .var 2]),
    .iff (.or [.cmp .iss (.var 3) (.lit .non), .cmp .iss (.var 4) (.lit .non), .cmp .iss (.call "both_gain" [.var 0, .var 1, .idx (.var 3) (.lit (.int 0))]) (.lit .non)])
      [.ret (.lit .non)]
      [],
    .asg (.nm 5) (.call "both_gain" [.var 0, .var 1, .idx (.var 3) (.lit (.int 0))]),
    .asg (.nm 6) (.call "plus" [.call "gains_with" [.var 0, .var 1, .var 4], .call "times" [.var 2, .call "value_at" [.var 0, .idx (.var 4) (.lit (.int 0))]]]),
    .ret (.call "minus" [.var 5, .var 6])]⟩
def f_gains_with : Fn := ⟨["supply", "demand", "prices"], 3,
    [.ret (.call "plus" [.call "sellers_gain" [.var 0, .idx (.var 2) (.lit (.int 0))], .call "buyers_gain" [.var 1, .idx (.var 2) (.lit (.int 1))]])]⟩
def f__law_same : Fn := ⟨["a", "b", "k"], 2,
    [.iff (.or [.and [.isi (.var 0) .tuple, .isi (.var 1) .tuple], .and [.isi (.var 0) .list, .isi (.var 1) .list]])
      [.ret (.and [.cmp .eq (.bi .len [.var 0]) (.bi .len [.var 1]), .bi .all [.comp (.call "_law_same" [.idx (.var 0) (.var 2), .idx (.var 1) (.var 2)]) (.nm 2) .ran [.bi .len [.var 0]] [] [2]]])]
      [],
    .iff (.or [.isi (.var 0) .bool, .isi (.var 1) .bool])
      [.ret (.and [.isi (.var 0) .bool, .isi (.var 1) .bool, .cmp .eq (.var 0) (.var 1)])]
      [],
    .iff (.or [.and [.isi (.var 0) .int, .isi (.var 1) .int], .and [.isi (.var 0) .str, .isi (.var 1) .str]])
      [.ret (.cmp .eq (.var 0) (.var 1))]
      [],
    .ret (.and [.cmp .iss (.var 0) (.lit .non), .cmp .iss (.var 1) (.lit .non)])]⟩
def f__law_divisor : Fn := ⟨["a", "b"], 2,
    [.whl (.cmp .ne (.var 1) (.lit (.int 0)))
      [.par 0 1 false false (.var 1) (.bin .sub (.var 0) (.bin .mul (.bin .fdiv (.var 0) (.var 1)) (.var 1)))],
    .ret (.var 0)]⟩
def f__law_ratio : Fn := ⟨["p", "q", "d"], 2,
    [.asg (.nm 2) (.call "_law_divisor" [.bi .abs [.var 0], .bi .abs [.var 1]]),
    .ret (.ite (.cmp .gt (.var 1) (.lit (.int 0))) (.tup [.bin .fdiv (.var 0) (.var 2), .bin .fdiv (.var 1) (.var 2)]) (.tup [.bin .fdiv (.neg (.var 0)) (.var 2), .bin .fdiv (.neg (.var 1)) (.var 2)]))]⟩
def f__law_plus : Fn := ⟨["one", "other"], 2,
    [.ret (.call "_law_ratio" [.bin .add (.bin .mul (.idx (.var 0) (.lit (.int 0))) (.idx (.var 1) (.lit (.int 1)))) (.bin .mul (.idx (.var 1) (.lit (.int 0))) (.idx (.var 0) (.lit (.int 1)))), .bin .mul (.idx (.var 0) (.lit (.int 1))) (.idx (.var 1) (.lit (.int 1)))])]⟩
def f__law_minus : Fn := ⟨["one", "other"], 2,
    [.ret (.call "_law_ratio" [.bin .sub (.bin .mul (.idx (.var 0) (.lit (.int 0))) (.idx (.var 1) (.lit (.int 1)))) (.bin .mul (.idx (.var 1) (.lit (.int 0))) (.idx (.var 0) (.lit (.int 1)))), .bin .mul (.idx (.var 0) (.lit (.int 1))) (.idx (.var 1) (.lit (.int 1)))])]⟩
def f__law_times : Fn := ⟨["one", "other"], 2,
    [.ret (.call "_law_ratio" [.bin .mul (.idx (.var 0) (.lit (.int 0))) (.idx (.var 1) (.lit (.int 0))), .bin .mul (.idx (.var 0) (.lit (.int 1))) (.idx (.var 1) (.lit (.int 1)))])]⟩
def f__law_less : Fn := ⟨["one", "other"], 2,
    [.ret (.cmp .lt (.bin .mul (.idx (.var 0) (.lit (.int 0))) (.idx (.var 1) (.lit (.int 1)))) (.bin .mul (.idx (.var 1) (.lit (.int 0))) (.idx (.var 0) (.lit (.int 1)))))]⟩
def f__law_some : Fn := ⟨["box", "low", "high"], 3,
    [.ret (.call "_law_ratio" [.bin .add (.var 1) (.call "_law_draw" [.var 0, .bin .add (.bin .sub (.var 2) (.var 1)) (.lit (.int 1))]), .ite (.cmp .gt (.call "_law_draw" [.var 0, .lit (.int 3)]) (.lit (.int 0))) (.lit (.int 1)) (.bin .add (.lit (.int 1)) (.call "_law_draw" [.var 0, .lit (.int 4)]))])]⟩
def f__law_total : Fn := ⟨["rows", "found", "one"], 1,
    [.asg (.nm 1) (.tup [.lit (.int 0), .lit (.int 1)]),
    .fr (.nm 2) .seq [.var 0]
      [.asg (.nm 1) (.call "_law_plus" [.var 1, .var 2])],
    .ret (.var 1)]⟩
def f__law_at : Fn := ⟨["row", "x", "piece"], 2,
    [.asg (.nm 2) (.idx (.comp (.var 2) (.nm 2) .seq [.var 0] [.no (.call "_law_less" [.var 1, .idx (.var 2) (.lit (.int 0))])] [2]) (.neg (.lit (.int 1)))),
    .ret (.call "_law_plus" [.idx (.var 2) (.lit (.int 1)), .call "_law_times" [.idx (.var 2) (.lit (.int 2)), .call "_law_minus" [.var 1, .idx (.var 2) (.lit (.int 0))]]])]⟩
def f__law_supply : Fn := ⟨["box", "found", "start", "value", "k", "slope", "step"], 1,
    [.par3 1 2 3 true false false (.lst []) (.tup [.lit (.int 0), .lit (.int 1)]) (.call "_law_ratio" [.idx (.lst [.lit (.int 0), .lit (.int 0), .lit (.int 2)]) (.call "_law_draw" [.var 0, .lit (.int 3)]), .lit (.int 1)]),
    .fr (.nm 4) .ran [.bin .add (.lit (.int 1)) (.call "_law_draw" [.var 0, .lit (.int 4)])]
      [.asg (.nm 5) (.call "_law_ratio" [.call "_law_draw" [.var 0, .lit (.int 7)], .lit (.int 2)]),
        .iff (.or [.cmp .eq (.bvar 1) (.lst []), .cmp .ne (.idx (.idx (.bvar 1) (.neg (.lit (.int 1)))) (.lit (.int 2))) (.var 5)])
          [.app 1 (.tup [.var 2, .var 3, .var 5]),
            .asg (.nm 6) (.call "_law_some" [.var 0, .lit (.int 1), .lit (.int 6)]),
            .par 2 3 false false (.call "_law_plus" [.var 2, .var 6]) (.call "_law_plus" [.var 3, .call "_law_times" [.var 5, .var 6]])]
          []],
    .ret (.bi .tuple [.bvar 1])]⟩
def w_0_1 : List S := []
def w_0_0 : List S := .ret (.lit (.bl false)) :: w_0_1
def w_1_1 : List S := []
def w_1_0 : List S := .ret (.lit (.bl false)) :: w_1_1
def w_2_1 : List S := []
def w_2_0 : List S := .ret (.lit (.bl false)) :: w_2_1
def w_3_1 : List S := []
def w_3_0 : List S := .ret (.lit (.bl false)) :: w_3_1
def w_4_1 : List S := []
def w_4_0 : List S := .ret (.lit (.bl false)) :: w_4_1
def w_5_1 : List S := []
def w_5_0 : List S := .ret (.lit (.bl false)) :: w_5_1
def w_6_1 : List S := []
def w_6_0 : List S := .ret (.lit (.bl false)) :: w_6_1
def w_7_1 : List S := []
def w_7_0 : List S := .ret (.lit (.bl false)) :: w_7_1
def w_8_1 : List S := []
def w_8_0 : List S := .ret (.lit (.bl false)) :: w_8_1
def w_9_1 : List S := []
def w_9_0 : List S := .ret (.lit (.bl false)) :: w_9_1
def w_10_32 : List S := []
def w_10_31 : List S := .iff (.or [.cmp .isnot (.call "scaled_to_meet" [.var 6, .var 8, .var 7]) (.lit .non), .no (.call "_law_same" [.call "halfway" [.var 24, .var 10], .call "_law_times" [.call "_law_plus" [.var 24, .var 10], .tup [.lit (.int 1), .lit (.int 2)]]])])
  w_9_0
  [] :: w_10_32
def w_10_30 : List S := .iff (.or [.cmp .iss (.var 27) (.lit .non), .cmp .ne (.idx (.var 28) (.lit (.int 0))) (.var 24), .cmp .ne (.call "exchanged" [.var 6, .call "scaled" [.var 8, .var 27], .var 24]) (.call "value_at" [.var 6, .var 24])])
  w_8_0
  [] :: w_10_31
def w_10_29 : List S := .asg (.nm 28) (.call "meeting_prices" [.var 6, .call "scaled" [.var 8, .var 27]]) :: w_10_30
def w_10_28 : List S := .asg (.nm 27) (.call "scaled_to_meet" [.var 6, .var 8, .var 24]) :: w_10_29
def w_10_27 : List S := .iff (.or [.cmp .ne (.call "value_at" [.var 26, .var 24]) (.call "value_at" [.var 6, .var 24]), .cmp .ne (.var 25) (.call "_law_minus" [.call "_law_at" [.var 6, .var 24], .call "_law_at" [.var 8, .var 24]])])
  w_7_0
  [] :: w_10_28
def w_10_26 : List S := .asg (.nm 26) (.call "with_more" [.var 8, .var 25]) :: w_10_27
def w_10_25 : List S := .asg (.nm 25) (.call "least_change" [.var 6, .var 8, .var 24]) :: w_10_26
def w_10_24 : List S := .asg (.nm 24) (.call "_law_times" [.var 7, .call "_law_ratio" [.bin .add (.lit (.int 1)) (.call "_law_draw" [.var 1, .lit (.int 10)]), .lit (.int 12)]]) :: w_10_25
def w_10_23 : List S := .iff (.and [.cmp .isnot (.var 23) (.lit .non), .or [.call "_law_less" [.var 10, .idx (.var 23) (.lit (.int 0))], .call "_law_less" [.call "value_at" [.var 20, .idx (.var 23) (.lit (.int 0))], .call "value_at" [.var 6, .var 10]]]])
  w_6_0
  [] :: w_10_24
def w_10_22 : List S := .asg (.nm 23) (.call "meeting_prices" [.var 20, .var 8]) :: w_10_23
def w_10_21 : List S := .iff (.or [.cmp .isnot (.call "is_supply" [.var 20]) (.lit (.bl true)), .cmp .ne (.call "value_at" [.var 20, .var 21]) (.call "_law_total" [.comp (.call "_law_at" [.var 22, .var 21]) (.nm 22) .seq [.bin .add (.lst [.var 6]) (.var 18)] [] [22]])])
  w_5_0
  [] :: w_10_22
def w_10_20 : List S := .asg (.nm 21) (.call "_law_some" [.var 1, .lit (.int 0), .lit (.int 15)]) :: w_10_21
def w_10_19 : List S := .asg (.nm 20) (.call "joined_supply" [.bin .add (.lst [.var 6]) (.var 18)]) :: w_10_20
def w_10_18 : List S := .asg (.nm 18) (.comp (.call "_law_supply" [.var 1]) (.nm 19) .ran [.bin .add (.lit (.int 1)) (.call "_law_draw" [.var 1, .lit (.int 3)])] [] [19]) :: w_10_19
def w_10_17 : List S := .iff (.no (.call "_law_same" [.tup [.call "_law_minus" [.var 17, .var 11], .var 17], .call "prices_with_tax" [.var 6, .var 8, .var 11]]))
  w_4_0
  [] :: w_10_18
def w_10_16 : List S := .asg (.nm 17) (.idx (.call "meeting_prices" [.var 16, .var 8]) (.lit (.int 0))) :: w_10_17
def w_10_15 : List S := .asg (.nm 16) (.tup [.tup [.tup [.lit (.int 0), .lit (.int 1)], .tup [.lit (.int 0), .lit (.int 1)], .tup [.lit (.int 0), .lit (.int 1)]], .tup [.var 11, .tup [.lit (.int 0), .lit (.int 1)], .var 3]]) :: w_10_16
def w_10_14 : List S := .iff (.or [.cmp .ne (.var 15) (.call "_law_times" [.call "_law_times" [.var 11, .var 14], .tup [.lit (.int 1), .lit (.int 2)]]), .cmp .ne (.call "lost_by_tax" [.var 6, .var 8, .call "_law_times" [.var 11, .tup [.lit (.int 1), .lit (.int 2)]]]) (.call "_law_times" [.var 15, .tup [.lit (.int 1), .lit (.int 4)]])])
  w_3_0
  [] :: w_10_15
def w_10_13 : List S := .asg (.nm 15) (.call "lost_by_tax" [.var 6, .var 8, .var 11]) :: w_10_14
def w_10_12 : List S := .asg (.nm 14) (.call "_law_minus" [.call "value_at" [.var 6, .var 10], .call "exchanged_with_tax" [.var 6, .var 8, .var 11]]) :: w_10_13
def w_10_11 : List S := .iff (.no (.call "_law_same" [.tup [.call "borne" [.var 6, .var 8, .var 11], .call "share_of_buyers" [.var 6, .var 8, .var 11]], .tup [.tup [.var 12, .var 13], .call "_law_times" [.var 3, .tup [.idx (.var 9) (.lit (.int 1)), .idx (.var 9) (.lit (.int 0))]]]]))
  w_2_0
  [] :: w_10_12
def w_10_10 : List S := .iff (.no (.call "_law_less" [.var 12, .var 10]))
  w_1_0
  [] :: w_10_11
def w_10_9 : List S := .par 12 13 false false (.call "_law_times" [.var 11, .call "_law_times" [.var 4, .tup [.idx (.var 9) (.lit (.int 1)), .idx (.var 9) (.lit (.int 0))]]]) (.call "_law_times" [.var 11, .call "_law_times" [.var 3, .tup [.idx (.var 9) (.lit (.int 1)), .idx (.var 9) (.lit (.int 0))]]]) :: w_10_10
def w_10_8 : List S := .asg (.nm 11) (.call "_law_times" [.var 7, .call "_law_ratio" [.bin .add (.lit (.int 1)) (.call "_law_draw" [.var 1, .lit (.int 4)]), .lit (.int 12)]]) :: w_10_9
def w_10_7 : List S := .iff (.no (.call "_law_same" [.call "meeting_prices" [.var 6, .var 8], .tup [.var 10, .var 10]]))
  w_0_0
  [] :: w_10_8
def w_10_6 : List S := .asg (.nm 10) (.call "_law_times" [.var 5, .tup [.idx (.var 9) (.lit (.int 1)), .idx (.var 9) (.lit (.int 0))]]) :: w_10_7
def w_10_5 : List S := .asg (.nm 9) (.call "_law_plus" [.var 3, .var 4]) :: w_10_6
def w_10_4 : List S := .asg (.nm 8) (.tup [.tup [.tup [.lit (.int 0), .lit (.int 1)], .var 5, .tup [.neg (.idx (.var 4) (.lit (.int 0))), .idx (.var 4) (.lit (.int 1))]], .tup [.var 7, .tup [.lit (.int 0), .lit (.int 1)], .tup [.lit (.int 0), .lit (.int 1)]]]) :: w_10_5
def w_10_3 : List S := .asg (.nm 7) (.call "_law_times" [.var 5, .tup [.idx (.var 4) (.lit (.int 1)), .idx (.var 4) (.lit (.int 0))]]) :: w_10_4
def w_10_2 : List S := .asg (.nm 6) (.tup [.tup [.tup [.lit (.int 0), .lit (.int 1)], .tup [.lit (.int 0), .lit (.int 1)], .var 3]]) :: w_10_3
def w_10_1 : List S := .asg (.nm 5) (.call "_law_ratio" [.bin .add (.lit (.int 10)) (.call "_law_draw" [.var 1, .lit (.int 30)]), .lit (.int 1)]) :: w_10_2
def w_10_0 : List S := .par 3 4 false false (.call "_law_ratio" [.bin .add (.lit (.int 1)) (.call "_law_draw" [.var 1, .lit (.int 5)]), .bin .add (.lit (.int 1)) (.call "_law_draw" [.var 1, .lit (.int 3)])]) (.call "_law_ratio" [.bin .add (.lit (.int 1)) (.call "_law_draw" [.var 1, .lit (.int 5)]), .bin .add (.lit (.int 1)) (.call "_law_draw" [.var 1, .lit (.int 3)])]) :: w_10_1
def w_11_2 : List S := []
def w_11_1 : List S := .ret (.lit (.bl true)) :: w_11_2
def w_11_0 : List S := .fr (.nm 2) .ran [.lit (.int 6)]
  w_10_0 :: w_11_1
def f_law : Fn := ⟨["script", "box", "turn", "rise", "fall", "top", "supply", "end", "demand", "both", "meet", "tax", "sellers_part", "buyers_part", "fewer", "lost_there", "sold", "paid", "others", "k", "all_there", "x", "one", "lower_meeting", "price", "more", "moved_demand", "factor", "met"], 1, w_11_0⟩
def fnT : List (String × Fn) := ([("is_whole", f_is_whole), ("common_divisor", f_common_divisor), ("is_ratio", f_is_ratio), ("ratio", f_ratio), ("plus", f_plus), ("minus", f_minus), ("times", f_times), ("over", f_over), ("less", f_less), ("sum_of", f_sum_of), ("is_piece", f_is_piece), ("is_row", f_is_row), ("along", f_along), ("limited", f_limited), ("normal", f_normal), ("piece_at", f_piece_at), ("value_at", f_value_at), ("left_value", f_left_value), ("is_steady", f_is_steady), ("sorted_ratios", f_sorted_ratios)] : List (String × Fn)) ++ ([("all_starts", f_all_starts), ("slope_at", f_slope_at), ("added", f_added), ("scaled", f_scaled), ("moved", f_moved), ("jumps_down", f_jumps_down), ("does_rise", f_does_rise), ("is_supply", f_is_supply), ("excess", f_excess), ("meeting_prices", f_meeting_prices), ("spots_of", f_spots_of), ("first_price", f_first_price), ("zero_before", f_zero_before), ("last_zero", f_last_zero), ("exchanged", f_exchanged), ("joined_supply", f_joined_supply), ("with_more", f_with_more), ("least_change", f_least_change), ("scaled_to_meet", f_scaled_to_meet), ("halfway", f_halfway)] : List (String × Fn)) ++ ([("area_between", f_area_between), ("choking_price", f_choking_price), ("sellers_gain", f_sellers_gain), ("buyers_gain", f_buyers_gain), ("both_gain", f_both_gain), ("with_tax", f_with_tax), ("prices_with_tax", f_prices_with_tax), ("exchanged_with_tax", f_exchanged_with_tax), ("borne", f_borne), ("share_of_buyers", f_share_of_buyers), ("lost_by_tax", f_lost_by_tax), ("gains_with", f_gains_with), ("_law_same", f__law_same), ("_law_divisor", f__law_divisor), ("_law_ratio", f__law_ratio), ("_law_plus", f__law_plus), ("_law_minus", f__law_minus), ("_law_times", f__law_times), ("_law_less", f__law_less), ("_law_some", f__law_some)] : List (String × Fn)) ++ ([("_law_total", f__law_total), ("_law_at", f__law_at), ("_law_supply", f__law_supply)] : List (String × Fn))
def glT : List (String × D) := ([("ZERO", .tup [.int (0), .int (1)]), ("MAX_PIECES", .int (60))] : List (String × D))
def P : Prog Bx := ⟨fun x => fnT.lookup x, fun x => glT.lookup x, fun x => if x = "_law_draw" then some drawP else none⟩
def arT : List (String × Nat) := ([("is_whole", 1), ("common_divisor", 2), ("is_ratio", 1), ("ratio", 2), ("plus", 2), ("minus", 2), ("times", 2), ("over", 2), ("less", 2), ("sum_of", 1), ("is_piece", 1), ("is_row", 1), ("along", 2), ("limited", 1), ("normal", 1), ("piece_at", 2), ("value_at", 2), ("left_value", 2), ("is_steady", 1), ("sorted_ratios", 1)] : List (String × Nat)) ++ ([("all_starts", 2), ("slope_at", 2), ("added", 2), ("scaled", 2), ("moved", 2), ("jumps_down", 2), ("does_rise", 1), ("is_supply", 1), ("excess", 2), ("meeting_prices", 2), ("spots_of", 1), ("first_price", 1), ("zero_before", 2), ("last_zero", 1), ("exchanged", 3), ("joined_supply", 1), ("with_more", 2), ("least_change", 3), ("scaled_to_meet", 3), ("halfway", 2)] : List (String × Nat)) ++ ([("area_between", 3), ("choking_price", 1), ("sellers_gain", 2), ("buyers_gain", 2), ("both_gain", 3), ("with_tax", 2), ("prices_with_tax", 3), ("exchanged_with_tax", 3), ("borne", 3), ("share_of_buyers", 3), ("lost_by_tax", 3), ("gains_with", 3), ("_law_same", 2), ("_law_divisor", 2), ("_law_ratio", 2), ("_law_plus", 2), ("_law_minus", 2), ("_law_times", 2), ("_law_less", 2), ("_law_some", 3)] : List (String × Nat)) ++ ([("_law_total", 1), ("_law_at", 2), ("_law_supply", 1), ("_law_draw", 2)] : List (String × Nat))
def frT : List String := (["ValueError", "abs", "all", "any", "bool", "enumerate", "int", "isinstance", "len", "list", "range", "str", "tuple", "zip"] : List String)
def ar (x : String) : Option Nat := arT.lookup x
def fr (x : String) : Bool := frT.contains x
end K94

set_option autoImplicit false
set_option linter.all false
set_option maxRecDepth 100000
/-! the facts of the program of K94, printed by instgen.py -/
namespace K94
open PL
instance : FN P "over" RF.over := ⟨⟨rfl, rfl⟩⟩
instance : FN P "sum_of" RF.sum_of := ⟨⟨rfl, rfl⟩⟩
instance : FN P "is_piece" RF.is_piece := ⟨⟨rfl, rfl⟩⟩
instance : FN P "is_row" RF.is_row := ⟨⟨rfl, rfl⟩⟩
instance : FN P "along" RF.along := ⟨⟨rfl, rfl⟩⟩
instance : FN P "limited" RF.limited := ⟨⟨rfl, rfl⟩⟩
instance : FN P "normal" RF.normal := ⟨⟨rfl, rfl⟩⟩
instance : FN P "piece_at" RF.piece_at := ⟨⟨rfl, rfl⟩⟩
instance : FN P "value_at" RF.value_at := ⟨⟨rfl, rfl⟩⟩
instance : FN P "left_value" RF.left_value := ⟨⟨rfl, rfl⟩⟩
instance : FN P "is_steady" RF.is_steady := ⟨⟨rfl, rfl⟩⟩
instance : FN P "sorted_ratios" RF.sorted_ratios := ⟨⟨rfl, rfl⟩⟩
instance : FN P "all_starts" RF.all_starts := ⟨⟨rfl, rfl⟩⟩
instance : FN P "slope_at" RF.slope_at := ⟨⟨rfl, rfl⟩⟩
instance : FN P "added" RF.added := ⟨⟨rfl, rfl⟩⟩
instance : FN P "scaled" RF.scaled := ⟨⟨rfl, rfl⟩⟩
instance : FN P "moved" RF.moved := ⟨⟨rfl, rfl⟩⟩
instance : FN P "jumps_down" RF.jumps_down := ⟨⟨rfl, rfl⟩⟩
instance : FN P "does_rise" RF.does_rise := ⟨⟨rfl, rfl⟩⟩
instance : FN P "is_supply" RF.is_supply := ⟨⟨rfl, rfl⟩⟩
instance : FN P "excess" RF.excess := ⟨⟨rfl, rfl⟩⟩
instance : FN P "meeting_prices" RF.meeting_prices := ⟨⟨rfl, rfl⟩⟩
instance : FN P "spots_of" RF.spots_of := ⟨⟨rfl, rfl⟩⟩
instance : FN P "first_price" RF.first_price := ⟨⟨rfl, rfl⟩⟩
instance : FN P "zero_before" RF.zero_before := ⟨⟨rfl, rfl⟩⟩
instance : FN P "last_zero" RF.last_zero := ⟨⟨rfl, rfl⟩⟩
instance : FN P "exchanged" RF.exchanged := ⟨⟨rfl, rfl⟩⟩
instance : FN P "joined_supply" RF.joined_supply := ⟨⟨rfl, rfl⟩⟩
instance : FN P "with_more" RF.with_more := ⟨⟨rfl, rfl⟩⟩
instance : FN P "least_change" RF.least_change := ⟨⟨rfl, rfl⟩⟩
instance : FN P "scaled_to_meet" RF.scaled_to_meet := ⟨⟨rfl, rfl⟩⟩
instance : FN P "halfway" RF.halfway := ⟨⟨rfl, rfl⟩⟩
instance : FN P "area_between" RF.area_between := ⟨⟨rfl, rfl⟩⟩
instance : FN P "choking_price" RF.choking_price := ⟨⟨rfl, rfl⟩⟩
instance : FN P "sellers_gain" RF.sellers_gain := ⟨⟨rfl, rfl⟩⟩
instance : FN P "buyers_gain" RF.buyers_gain := ⟨⟨rfl, rfl⟩⟩
instance : FN P "both_gain" RF.both_gain := ⟨⟨rfl, rfl⟩⟩
instance : FN P "with_tax" RF.with_tax := ⟨⟨rfl, rfl⟩⟩
instance : FN P "prices_with_tax" RF.prices_with_tax := ⟨⟨rfl, rfl⟩⟩
instance : FN P "exchanged_with_tax" RF.exchanged_with_tax := ⟨⟨rfl, rfl⟩⟩
instance : FN P "borne" RF.borne := ⟨⟨rfl, rfl⟩⟩
instance : FN P "share_of_buyers" RF.share_of_buyers := ⟨⟨rfl, rfl⟩⟩
instance : FN P "lost_by_tax" RF.lost_by_tax := ⟨⟨rfl, rfl⟩⟩
instance : FN P "gains_with" RF.gains_with := ⟨⟨rfl, rfl⟩⟩
instance : FN P "_law_same" RF.l_same := ⟨⟨rfl, rfl⟩⟩
instance : FN P "_law_divisor" RF.l_divisor := ⟨⟨rfl, rfl⟩⟩
instance : FN P "_law_ratio" RF.l_ratio_d := ⟨⟨rfl, rfl⟩⟩
instance : FN P "_law_plus" RF.l_plus_d := ⟨⟨rfl, rfl⟩⟩
instance : FN P "_law_minus" RF.l_minus_d := ⟨⟨rfl, rfl⟩⟩
instance : FN P "_law_times" RF.l_times_d := ⟨⟨rfl, rfl⟩⟩
instance : FN P "_law_less" RF.l_less_d := ⟨⟨rfl, rfl⟩⟩
instance : FN P "_law_some" RF.l_some := ⟨⟨rfl, rfl⟩⟩
instance : FN P "_law_total" RF.l_total := ⟨⟨rfl, rfl⟩⟩
instance : FN P "_law_at" RF.l_at := ⟨⟨rfl, rfl⟩⟩
instance : FN P "_law_supply" RF.l_supply := ⟨⟨rfl, rfl⟩⟩
instance : GN P "MAX_PIECES" (.int 60) := ⟨rfl⟩
instance : FRat P := ⟨⟨⟨rfl, rfl⟩, ⟨rfl, rfl⟩, ⟨rfl, rfl⟩, ⟨rfl, rfl⟩, ⟨rfl, rfl⟩, ⟨rfl, rfl⟩⟩, rfl⟩
instance : FJ P := ⟨⟨rfl, rfl⟩, ⟨rfl, rfl⟩⟩
instance : LSame P := ⟨⟨rfl, rfl⟩⟩
instance : Drw P "_law_draw" := by
  refine ⟨⟨fun {k m b} hk h0 h1 => ?_⟩⟩
  refine ⟨(bxDraw b m).1, (bxDraw b m).2, (bxDraw_bd b h0).1, (bxDraw_bd b h0).2, ?_⟩
  obtain ⟨j, rfl⟩ : ∃ j, k = j + 1 := ⟨k - 1, by omega⟩
  have hp : P.prim "_law_draw" = some drawP := rfl
  simp only [PL.call, hp, if_pos (show 3 ≤ j by omega), drawP, if_pos (show 0 < m ∧ m < 1000000000 from ⟨h0, h1⟩)]
  rfl
instance : LRat P := lrat_of fun h0 hp hq hk => s_lratA h0 hp hq hk
end K94

set_option autoImplicit false
set_option linter.all false
/-! the rows of the law, one by one, printed by lawgen.py -/
namespace K94
open PL
theorem w_0_1_x {β : Type} {gl : String → Option D} {F : String → List D → M β D} {ρ : Env} : xo gl F w_0_1 ρ = lk gl F [] ρ := xo_lk _ _
theorem w_0_0_x {β : Type} {gl : String → Option D} {F : String → List D → M β D} {ρ : Env} : xo gl F w_0_0 ρ = lk gl F (.ret (.lit (.bl false)) :: w_0_1) ρ := xo_lk _ _
theorem w_1_1_x {β : Type} {gl : String → Option D} {F : String → List D → M β D} {ρ : Env} : xo gl F w_1_1 ρ = lk gl F [] ρ := xo_lk _ _
theorem w_1_0_x {β : Type} {gl : String → Option D} {F : String → List D → M β D} {ρ : Env} : xo gl F w_1_0 ρ = lk gl F (.ret (.lit (.bl false)) :: w_1_1) ρ := xo_lk _ _
theorem w_2_1_x {β : Type} {gl : String → Option D} {F : String → List D → M β D} {ρ : Env} : xo gl F w_2_1 ρ = lk gl F [] ρ := xo_lk _ _
theorem w_2_0_x {β : Type} {gl : String → Option D} {F : String → List D → M β D} {ρ : Env} : xo gl F w_2_0 ρ = lk gl F (.ret (.lit (.bl false)) :: w_2_1) ρ := xo_lk _ _
theorem w_3_1_x {β : Type} {gl : String → Option D} {F : String → List D → M β D} {ρ : Env} : xo gl F w_3_1 ρ = lk gl F [] ρ := xo_lk _ _
theorem w_3_0_x {β : Type} {gl : String → Option D} {F : String → List D → M β D} {ρ : Env} : xo gl F w_3_0 ρ = lk gl F (.ret (.lit (.bl false)) :: w_3_1) ρ := xo_lk _ _
theorem w_4_1_x {β : Type} {gl : String → Option D} {F : String → List D → M β D} {ρ : Env} : xo gl F w_4_1 ρ = lk gl F [] ρ := xo_lk _ _
theorem w_4_0_x {β : Type} {gl : String → Option D} {F : String → List D → M β D} {ρ : Env} : xo gl F w_4_0 ρ = lk gl F (.ret (.lit (.bl false)) :: w_4_1) ρ := xo_lk _ _
theorem w_5_1_x {β : Type} {gl : String → Option D} {F : String → List D → M β D} {ρ : Env} : xo gl F w_5_1 ρ = lk gl F [] ρ := xo_lk _ _
theorem w_5_0_x {β : Type} {gl : String → Option D} {F : String → List D → M β D} {ρ : Env} : xo gl F w_5_0 ρ = lk gl F (.ret (.lit (.bl false)) :: w_5_1) ρ := xo_lk _ _
theorem w_6_1_x {β : Type} {gl : String → Option D} {F : String → List D → M β D} {ρ : Env} : xo gl F w_6_1 ρ = lk gl F [] ρ := xo_lk _ _
theorem w_6_0_x {β : Type} {gl : String → Option D} {F : String → List D → M β D} {ρ : Env} : xo gl F w_6_0 ρ = lk gl F (.ret (.lit (.bl false)) :: w_6_1) ρ := xo_lk _ _
theorem w_7_1_x {β : Type} {gl : String → Option D} {F : String → List D → M β D} {ρ : Env} : xo gl F w_7_1 ρ = lk gl F [] ρ := xo_lk _ _
theorem w_7_0_x {β : Type} {gl : String → Option D} {F : String → List D → M β D} {ρ : Env} : xo gl F w_7_0 ρ = lk gl F (.ret (.lit (.bl false)) :: w_7_1) ρ := xo_lk _ _
theorem w_8_1_x {β : Type} {gl : String → Option D} {F : String → List D → M β D} {ρ : Env} : xo gl F w_8_1 ρ = lk gl F [] ρ := xo_lk _ _
theorem w_8_0_x {β : Type} {gl : String → Option D} {F : String → List D → M β D} {ρ : Env} : xo gl F w_8_0 ρ = lk gl F (.ret (.lit (.bl false)) :: w_8_1) ρ := xo_lk _ _
theorem w_9_1_x {β : Type} {gl : String → Option D} {F : String → List D → M β D} {ρ : Env} : xo gl F w_9_1 ρ = lk gl F [] ρ := xo_lk _ _
theorem w_9_0_x {β : Type} {gl : String → Option D} {F : String → List D → M β D} {ρ : Env} : xo gl F w_9_0 ρ = lk gl F (.ret (.lit (.bl false)) :: w_9_1) ρ := xo_lk _ _
theorem w_10_32_x {β : Type} {gl : String → Option D} {F : String → List D → M β D} {ρ : Env} : xo gl F w_10_32 ρ = lk gl F [] ρ := xo_lk _ _
theorem w_10_31_x {β : Type} {gl : String → Option D} {F : String → List D → M β D} {ρ : Env} : xo gl F w_10_31 ρ = lk gl F (.iff (.or [.cmp .isnot (.call "scaled_to_meet" [.var 6, .var 8, .var 7]) (.lit .non), .no (.call "_law_same" [.call "halfway" [.var 24, .var 10], .call "_law_times" [.call "_law_plus" [.var 24, .var 10], .tup [.lit (.int 1), .lit (.int 2)]]])])
  w_9_0
  [] :: w_10_32) ρ := xo_lk _ _
theorem w_10_30_x {β : Type} {gl : String → Option D} {F : String → List D → M β D} {ρ : Env} : xo gl F w_10_30 ρ = lk gl F (.iff (.or [.cmp .iss (.var 27) (.lit .non), .cmp .ne (.idx (.var 28) (.lit (.int 0))) (.var 24), .cmp .ne (.call "exchanged" [.var 6, .call "scaled" [.var 8, .var 27], .var 24]) (.call "value_at" [.var 6, .var 24])])
  w_8_0
  [] :: w_10_31) ρ := xo_lk _ _
theorem w_10_29_x {β : Type} {gl : String → Option D} {F : String → List D → M β D} {ρ : Env} : xo gl F w_10_29 ρ = lk gl F (.asg (.nm 28) (.call "meeting_prices" [.var 6, .call "scaled" [.var 8, .var 27]]) :: w_10_30) ρ := xo_lk _ _
theorem w_10_28_x {β : Type} {gl : String → Option D} {F : String → List D → M β D} {ρ : Env} : xo gl F w_10_28 ρ = lk gl F (.asg (.nm 27) (.call "scaled_to_meet" [.var 6, .var 8, .var 24]) :: w_10_29) ρ := xo_lk _ _
theorem w_10_27_x {β : Type} {gl : String → Option D} {F : String → List D → M β D} {ρ : Env} : xo gl F w_10_27 ρ = lk gl F (.iff (.or [.cmp .ne (.call "value_at" [.var 26, .var 24]) (.call "value_at" [.var 6, .var 24]), .cmp .ne (.var 25) (.call "_law_minus" [.call "_law_at" [.var 6, .var 24], .call "_law_at" [.var 8, .var 24]])])
  w_7_0
  [] :: w_10_28) ρ := xo_lk _ _
theorem w_10_26_x {β : Type} {gl : String → Option D} {F : String → List D → M β D} {ρ : Env} : xo gl F w_10_26 ρ = lk gl F (.asg (.nm 26) (.call "with_more" [.var 8, .var 25]) :: w_10_27) ρ := xo_lk _ _
theorem w_10_25_x {β : Type} {gl : String → Option D} {F : String → List D → M β D} {ρ : Env} : xo gl F w_10_25 ρ = lk gl F (.asg (.nm 25) (.call "least_change" [.var 6, .var 8, .var 24]) :: w_10_26) ρ := xo_lk _ _
theorem w_10_24_x {β : Type} {gl : String → Option D} {F : String → List D → M β D} {ρ : Env} : xo gl F w_10_24 ρ = lk gl F (.asg (.nm 24) (.call "_law_times" [.var 7, .call "_law_ratio" [.bin .add (.lit (.int 1)) (.call "_law_draw" [.var 1, .lit (.int 10)]), .lit (.int 12)]]) :: w_10_25) ρ := xo_lk _ _
theorem w_10_23_x {β : Type} {gl : String → Option D} {F : String → List D → M β D} {ρ : Env} : xo gl F w_10_23 ρ = lk gl F (.iff (.and [.cmp .isnot (.var 23) (.lit .non), .or [.call "_law_less" [.var 10, .idx (.var 23) (.lit (.int 0))], .call "_law_less" [.call "value_at" [.var 20, .idx (.var 23) (.lit (.int 0))], .call "value_at" [.var 6, .var 10]]]])
  w_6_0
  [] :: w_10_24) ρ := xo_lk _ _
theorem w_10_22_x {β : Type} {gl : String → Option D} {F : String → List D → M β D} {ρ : Env} : xo gl F w_10_22 ρ = lk gl F (.asg (.nm 23) (.call "meeting_prices" [.var 20, .var 8]) :: w_10_23) ρ := xo_lk _ _
theorem w_10_21_x {β : Type} {gl : String → Option D} {F : String → List D → M β D} {ρ : Env} : xo gl F w_10_21 ρ = lk gl F (.iff (.or [.cmp .isnot (.call "is_supply" [.var 20]) (.lit (.bl true)), .cmp .ne (.call "value_at" [.var 20, .var 21]) (.call "_law_total" [.comp (.call "_law_at" [.var 22, .var 21]) (.nm 22) .seq [.bin .add (.lst [.var 6]) (.var 18)] [] [22]])])
  w_5_0
  [] :: w_10_22) ρ := xo_lk _ _
theorem w_10_20_x {β : Type} {gl : String → Option D} {F : String → List D → M β D} {ρ : Env} : xo gl F w_10_20 ρ = lk gl F (.asg (.nm 21) (.call "_law_some" [.var 1, .lit (.int 0), .lit (.int 15)]) :: w_10_21) ρ := xo_lk _ _
theorem w_10_19_x {β : Type} {gl : String → Option D} {F : String → List D → M β D} {ρ : Env} : xo gl F w_10_19 ρ = lk gl F (.asg (.nm 20) (.call "joined_supply" [.bin .add (.lst [.var 6]) (.var 18)]) :: w_10_20) ρ := xo_lk _ _
theorem w_10_18_x {β : Type} {gl : String → Option D} {F : String → List D → M β D} {ρ : Env} : xo gl F w_10_18 ρ = lk gl F (.asg (.nm 18) (.comp (.call "_law_supply" [.var 1]) (.nm 19) .ran [.bin .add (.lit (.int 1)) (.call "_law_draw" [.var 1, .lit (.int 3)])] [] [19]) :: w_10_19) ρ := xo_lk _ _
theorem w_10_17_x {β : Type} {gl : String → Option D} {F : String → List D → M β D} {ρ : Env} : xo gl F w_10_17 ρ = lk gl F (.iff (.no (.call "_law_same" [.tup [.call "_law_minus" [.var 17, .var 11], .var 17], .call "prices_with_tax" [.var 6, .var 8, .var 11]]))
  w_4_0
  [] :: w_10_18) ρ := xo_lk _ _
theorem w_10_16_x {β : Type} {gl : String → Option D} {F : String → List D → M β D} {ρ : Env} : xo gl F w_10_16 ρ = lk gl F (.asg (.nm 17) (.idx (.call "meeting_prices" [.var 16, .var 8]) (.lit (.int 0))) :: w_10_17) ρ := xo_lk _ _
theorem w_10_15_x {β : Type} {gl : String → Option D} {F : String → List D → M β D} {ρ : Env} : xo gl F w_10_15 ρ = lk gl F (.asg (.nm 16) (.tup [.tup [.tup [.lit (.int 0), .lit (.int 1)], .tup [.lit (.int 0), .lit (.int 1)], .tup [.lit (.int 0), .lit (.int 1)]], .tup [.var 11, .tup [.lit (.int 0), .lit (.int 1)], .var 3]]) :: w_10_16) ρ := xo_lk _ _
theorem w_10_14_x {β : Type} {gl : String → Option D} {F : String → List D → M β D} {ρ : Env} : xo gl F w_10_14 ρ = lk gl F (.iff (.or [.cmp .ne (.var 15) (.call "_law_times" [.call "_law_times" [.var 11, .var 14], .tup [.lit (.int 1), .lit (.int 2)]]), .cmp .ne (.call "lost_by_tax" [.var 6, .var 8, .call "_law_times" [.var 11, .tup [.lit (.int 1), .lit (.int 2)]]]) (.call "_law_times" [.var 15, .tup [.lit (.int 1), .lit (.int 4)]])])
  w_3_0
  [] :: w_10_15) ρ := xo_lk _ _
theorem w_10_13_x {β : Type} {gl : String → Option D} {F : String → List D → M β D} {ρ : Env} : xo gl F w_10_13 ρ = lk gl F (.asg (.nm 15) (.call "lost_by_tax" [.var 6, .var 8, .var 11]) :: w_10_14) ρ := xo_lk _ _
theorem w_10_12_x {β : Type} {gl : String → Option D} {F : String → List D → M β D} {ρ : Env} : xo gl F w_10_12 ρ = lk gl F (.asg (.nm 14) (.call "_law_minus" [.call "value_at" [.var 6, .var 10], .call "exchanged_with_tax" [.var 6, .var 8, .var 11]]) :: w_10_13) ρ := xo_lk _ _
theorem w_10_11_x {β : Type} {gl : String → Option D} {F : String → List D → M β D} {ρ : Env} : xo gl F w_10_11 ρ = lk gl F (.iff (.no (.call "_law_same" [.tup [.call "borne" [.var 6, .var 8, .var 11], .call "share_of_buyers" [.var 6, .var 8, .var 11]], .tup [.tup [.var 12, .var 13], .call "_law_times" [.var 3, .tup [.idx (.var 9) (.lit (.int 1)), .idx (.var 9) (.lit (.int 0))]]]]))
  w_2_0
  [] :: w_10_12) ρ := xo_lk _ _
theorem w_10_10_x {β : Type} {gl : String → Option D} {F : String → List D → M β D} {ρ : Env} : xo gl F w_10_10 ρ = lk gl F (.iff (.no (.call "_law_less" [.var 12, .var 10]))
  w_1_0
  [] :: w_10_11) ρ := xo_lk _ _
theorem w_10_9_x {β : Type} {gl : String → Option D} {F : String → List D → M β D} {ρ : Env} : xo gl F w_10_9 ρ = lk gl F (.par 12 13 false false (.call "_law_times" [.var 11, .call "_law_times" [.var 4, .tup [.idx (.var 9) (.lit (.int 1)), .idx (.var 9) (.lit (.int 0))]]]) (.call "_law_times" [.var 11, .call "_law_times" [.var 3, .tup [.idx (.var 9) (.lit (.int 1)), .idx (.var 9) (.lit (.int 0))]]]) :: w_10_10) ρ := xo_lk _ _
theorem w_10_8_x {β : Type} {gl : String → Option D} {F : String → List D → M β D} {ρ : Env} : xo gl F w_10_8 ρ = lk gl F (.asg (.nm 11) (.call "_law_times" [.var 7, .call "_law_ratio" [.bin .add (.lit (.int 1)) (.call "_law_draw" [.var 1, .lit (.int 4)]), .lit (.int 12)]]) :: w_10_9) ρ := xo_lk _ _
theorem w_10_7_x {β : Type} {gl : String → Option D} {F : String → List D → M β D} {ρ : Env} : xo gl F w_10_7 ρ = lk gl F (.iff (.no (.call "_law_same" [.call "meeting_prices" [.var 6, .var 8], .tup [.var 10, .var 10]]))
  w_0_0
  [] :: w_10_8) ρ := xo_lk _ _
theorem w_10_6_x {β : Type} {gl : String → Option D} {F : String → List D → M β D} {ρ : Env} : xo gl F w_10_6 ρ = lk gl F (.asg (.nm 10) (.call "_law_times" [.var 5, .tup [.idx (.var 9) (.lit (.int 1)), .idx (.var 9) (.lit (.int 0))]]) :: w_10_7) ρ := xo_lk _ _
theorem w_10_5_x {β : Type} {gl : String → Option D} {F : String → List D → M β D} {ρ : Env} : xo gl F w_10_5 ρ = lk gl F (.asg (.nm 9) (.call "_law_plus" [.var 3, .var 4]) :: w_10_6) ρ := xo_lk _ _
theorem w_10_4_x {β : Type} {gl : String → Option D} {F : String → List D → M β D} {ρ : Env} : xo gl F w_10_4 ρ = lk gl F (.asg (.nm 8) (.tup [.tup [.tup [.lit (.int 0), .lit (.int 1)], .var 5, .tup [.neg (.idx (.var 4) (.lit (.int 0))), .idx (.var 4) (.lit (.int 1))]], .tup [.var 7, .tup [.lit (.int 0), .lit (.int 1)], .tup [.lit (.int 0), .lit (.int 1)]]]) :: w_10_5) ρ := xo_lk _ _
theorem w_10_3_x {β : Type} {gl : String → Option D} {F : String → List D → M β D} {ρ : Env} : xo gl F w_10_3 ρ = lk gl F (.asg (.nm 7) (.call "_law_times" [.var 5, .tup [.idx (.var 4) (.lit (.int 1)), .idx (.var 4) (.lit (.int 0))]]) :: w_10_4) ρ := xo_lk _ _
theorem w_10_2_x {β : Type} {gl : String → Option D} {F : String → List D → M β D} {ρ : Env} : xo gl F w_10_2 ρ = lk gl F (.asg (.nm 6) (.tup [.tup [.tup [.lit (.int 0), .lit (.int 1)], .tup [.lit (.int 0), .lit (.int 1)], .var 3]]) :: w_10_3) ρ := xo_lk _ _
theorem w_10_1_x {β : Type} {gl : String → Option D} {F : String → List D → M β D} {ρ : Env} : xo gl F w_10_1 ρ = lk gl F (.asg (.nm 5) (.call "_law_ratio" [.bin .add (.lit (.int 10)) (.call "_law_draw" [.var 1, .lit (.int 30)]), .lit (.int 1)]) :: w_10_2) ρ := xo_lk _ _
theorem w_10_0_x {β : Type} {gl : String → Option D} {F : String → List D → M β D} {ρ : Env} : xo gl F w_10_0 ρ = lk gl F (.par 3 4 false false (.call "_law_ratio" [.bin .add (.lit (.int 1)) (.call "_law_draw" [.var 1, .lit (.int 5)]), .bin .add (.lit (.int 1)) (.call "_law_draw" [.var 1, .lit (.int 3)])]) (.call "_law_ratio" [.bin .add (.lit (.int 1)) (.call "_law_draw" [.var 1, .lit (.int 5)]), .bin .add (.lit (.int 1)) (.call "_law_draw" [.var 1, .lit (.int 3)])]) :: w_10_1) ρ := xo_lk _ _
theorem w_11_2_x {β : Type} {gl : String → Option D} {F : String → List D → M β D} {ρ : Env} : xo gl F w_11_2 ρ = lk gl F [] ρ := xo_lk _ _
theorem w_11_1_x {β : Type} {gl : String → Option D} {F : String → List D → M β D} {ρ : Env} : xo gl F w_11_1 ρ = lk gl F (.ret (.lit (.bl true)) :: w_11_2) ρ := xo_lk _ _
theorem w_11_0_x {β : Type} {gl : String → Option D} {F : String → List D → M β D} {ρ : Env} : xo gl F w_11_0 ρ = lk gl F (.fr (.nm 2) .ran [.lit (.int 6)]
  w_10_0 :: w_11_1) ρ := xo_lk _ _
end K94

set_option autoImplicit false
set_option linter.all false
set_option maxRecDepth 100000
set_option maxHeartbeats 2000000
set_option exponentiation.threshold 20000
/-! MK94a: the lines of law k94. -/
namespace PL
def sR (u : Rat) : Rw := [⟨0, 0, u⟩]
def dR (w T : Rat) : Rw := [⟨0, T, -w⟩, ⟨T * (1 / w), 0, 0⟩]
def oR (u t : Rat) : Rw := [⟨0, 0, 0⟩, ⟨t, 0, u⟩]
theorem sR_val (u x : Rat) : val (sR u) x = u * x := by unfold sR; rw [val_one]; unfold Pc.at; grind
theorem sR_row (u : Rat) : Row (sR u) := ⟨List.cons_ne_nil _ _, rfl, List.pairwise_singleton _ _⟩
theorem sR_sty (u : Rat) : Stdy (sR u) := trivial
theorem sR_ris {u : Rat} (h : 0 < u) : rising (sR u) := fun p hp => by rw [List.mem_singleton.mp hp]; show 0 ≤ u; grind
section
variable {u w T t : Rat}
theorem inv_mul (h : 0 < w) : 1 / w * w = 1 := by
  have : w ≠ 0 := by grind
  grind
theorem inv_pos' (h : 0 < w) : 0 < 1 / w := by rw [Rat.div_def, Rat.one_mul]; exact Rat.inv_pos.mpr h
theorem E_pos (hw : 0 < w) (hT : 0 < T) : 0 < T * (1 / w) := Rat.mul_pos hT (inv_pos' hw)
theorem dR_row (hw : 0 < w) (hT : 0 < T) : Row (dR w T) := ⟨List.cons_ne_nil _ _, rfl, List.pairwise_cons.mpr ⟨fun q hq => by rw [List.mem_singleton.mp hq]; exact E_pos hw hT, List.pairwise_singleton _ _⟩⟩
theorem dR_sty (hw : 0 < w) : Stdy (dR w T) := ⟨by show T + -w * (T * (1 / w) - 0) = 0; have := inv_mul hw; grind, trivial⟩
theorem dR_fal (hw : 0 < w) : falling (dR w T) := fun p hp => by
  rcases List.mem_cons.mp hp with rfl | hp
  · show -w ≤ 0; grind
  · rw [List.mem_singleton.mp hp]; exact Rat.le_refl
theorem dR_val (hw : 0 < w) (hT : 0 < T) (x : Rat) : val (dR w T) x = if x < T * (1 / w) then T - w * x else 0 := by
  have ha := (dR_row hw hT).asc
  unfold dR at *
  rw [val_cons ha, val_one]
  unfold Pc.at
  by_cases h : x < T * (1 / w)
  · rw [if_pos h, if_pos h]; grind
  · rw [if_neg h, if_neg h]; grind
theorem dR_nrm (hw : 0 < w) : nrm (dR w T) = dR w T := nrm_of ⟨fun z => by have : -w = 0 := z.1; grind, trivial⟩
theorem dR_anti (hw : 0 < w) (hT : 0 < T) {x y : Rat} (h : x ≤ y) : val (dR w T) y ≤ val (dR w T) x := by
  rw [dR_val hw hT, dR_val hw hT]
  have h1 : w * x ≤ w * y := Rat.mul_le_mul_of_nonneg_left h (by grind)
  have hE := inv_mul hw
  by_cases hy : y < T * (1 / w)
  · rw [if_pos hy, if_pos (by grind)]; grind
  · rw [if_neg hy]
    by_cases hx : x < T * (1 / w)
    · rw [if_pos hx]
      have h2 : w * x < w * (T * (1 / w)) := Rat.mul_lt_mul_of_pos_left hx hw
      have h3 : w * (T * (1 / w)) = T := by grind
      grind
    · rw [if_neg hx]; exact Rat.le_refl
theorem oR_row (ht : 0 < t) : Row (oR u t) := ⟨List.cons_ne_nil _ _, rfl, List.pairwise_cons.mpr ⟨fun q hq => by rw [List.mem_singleton.mp hq]; exact ht, List.pairwise_singleton _ _⟩⟩
theorem oR_sty : Stdy (oR u t) := ⟨by show (0 : Rat) + 0 * (t - 0) = 0; grind, trivial⟩
theorem oR_ris (hu : 0 < u) : rising (oR u t) := fun p hp => by
  rcases List.mem_cons.mp hp with rfl | hp
  · exact Rat.le_refl
  · rw [List.mem_singleton.mp hp]; show 0 ≤ u; grind
theorem oR_val (ht : 0 < t) (x : Rat) : val (oR u t) x = if x < t then 0 else u * (x - t) := by
  have ha := (oR_row (u := u) ht).asc
  unfold oR at *
  rw [val_cons ha, val_one]
  unfold Pc.at
  by_cases h : x < t
  · rw [if_pos h, if_pos h]; grind
  · rw [if_neg h, if_neg h]; grind
/-- the meeting price -/
def mP (u w T : Rat) : Rat := T * (1 / (u + w))
variable (hu : 0 < u) (hw : 0 < w) (hT : 0 < T)
include hu hw hT
theorem mP_pos : 0 < mP u w T := Rat.mul_pos hT (inv_pos' (by grind))
theorem mP_eq : mP u w T * (u + w) = T := by
  have := inv_mul (w := u + w) (by grind)
  unfold mP; grind
theorem mP_lt : mP u w T < T * (1 / w) := by
  have h1 := mP_eq hu hw hT
  have h2 := mP_pos hu hw hT
  have h3 := inv_mul hw
  have h4 : 0 < mP u w T * u := Rat.mul_pos h2 hu
  have h5 : mP u w T * w < T := by grind
  have h6 : mP u w T * w * (1 / w) < T * (1 / w) := Rat.mul_lt_mul_of_pos_right h5 (inv_pos' hw)
  have h7 : mP u w T * w * (1 / w) = mP u w T := by generalize 1 / w = y at *; grind
  grind
theorem sd_val {x : Rat} (hx : x < T * (1 / w)) : val (sR u) x - val (dR w T) x = (u + w) * (x - mP u w T) := by
  rw [sR_val, dR_val hw hT, if_pos hx]
  have := mP_eq hu hw hT
  grind
theorem meet1 : mpR (excR (sR u) (dR w T)) = some (mP u w T, some (mP u w T)) := by
  have h1 := mP_lt hu hw hT
  have h2 := mP_pos hu hw hT
  refine meet_one (sR_row u) (dR_row hw hT) (sR_sty u) (dR_sty hw) (sR_ris hu) (dR_fal hw) (by grind) ?_ (fun y h3 h4 => ?_) fun y h3 => ?_
  · have := sd_val hu hw hT h1; grind
  · have h5 := sd_val hu hw hT (show y < T * (1 / w) by grind)
    have h6 : (u + w) * (y - mP u w T) < 0 := by
      have := Rat.mul_pos (show 0 < u + w by grind) (show 0 < mP u w T - y by grind)
      grind
    grind
  · by_cases h4 : y < T * (1 / w)
    · have h5 := sd_val hu hw hT h4
      have := Rat.mul_pos (show 0 < u + w by grind) (show 0 < y - mP u w T by grind)
      grind
    · rw [sR_val, dR_val hw hT, if_neg h4]
      exact Rat.mul_pos hu (by grind)
/-- the sellers' price under a tax -/
def pP (u w T t : Rat) : Rat := mP u w T - t * (w * (1 / (u + w)))
variable (ht : 0 < t) (ht3 : t * 3 ≤ T * (1 / w))
include ht ht3
theorem sp_lt : t * (w * (1 / (u + w))) * 3 ≤ mP u w T := by
  have h1 := inv_mul hw
  have h2 := inv_pos' (w := u + w) (by grind)
  have h3 : t * 3 * (w * (1 / (u + w))) ≤ T * (1 / w) * (w * (1 / (u + w))) := Rat.mul_le_mul_of_nonneg_right ht3 (Rat.le_of_lt (Rat.mul_pos hw h2))
  unfold mP
  have h4 : T * (1 / w) * (w * (1 / (u + w))) = T * (1 / (u + w)) := by
    generalize 1 / (u + w) = z at *
    generalize 1 / w = y at *
    grind
  grind
theorem sp_pos : 0 < t * (w * (1 / (u + w))) := Rat.mul_pos ht (Rat.mul_pos hw (inv_pos' (by grind)))
theorem pP_pos : 0 < pP u w T t := by
  have h1 := sp_lt hu hw hT ht ht3
  have h2 := sp_pos hu hw hT ht ht3
  unfold pP; grind
theorem bp_eq : pP u w T t + t = mP u w T + t * (u * (1 / (u + w))) := by
  have h1 := inv_mul (w := u + w) (by grind)
  unfold pP
  generalize 1 / (u + w) = z at *
  have : t * (u * z) + t * (w * z) = t := by
    have : t * (u * z) + t * (w * z) = t * (z * (u + w)) := by grind
    rw [this, h1]; grind
  grind
theorem pt_lt : pP u w T t + t < T * (1 / w) := by
  have h1 := bp_eq hu hw hT ht ht3
  have h2 := mP_lt hu hw hT
  have h3 := mP_eq hu hw hT
  have h4 := inv_mul (w := u + w) (by grind)
  have h5 := inv_mul hw
  -- the gap up to the end is u / (u + w) of the end
  have h6 : T * (1 / w) - mP u w T = T * (1 / w) * (u * (1 / (u + w))) := by
    have e : T * (1 / w) = T * (1 / w) * (1 / (u + w) * (u + w)) := by rw [h4]; grind
    have e2 : mP u w T = T * (1 / w) * w * (1 / (u + w)) := by unfold mP; grind
    generalize 1 / (u + w) = z at *
    generalize 1 / w = y at *
    grind
  have h7 := Rat.mul_pos hu (inv_pos' (w := u + w) (by grind))
  have h8 : t * 3 * (u * (1 / (u + w))) ≤ T * (1 / w) * (u * (1 / (u + w))) := Rat.mul_le_mul_of_nonneg_right ht3 (Rat.le_of_lt h7)
  have h9 := Rat.mul_pos ht h7
  generalize u * (1 / (u + w)) = z at *
  grind
theorem pP_val : u * pP u w T t = T - w * (pP u w T t + t) := by
  have h1 := inv_mul (w := u + w) (by grind)
  have h2 := mP_eq hu hw hT
  unfold pP
  generalize 1 / (u + w) = z at *
  generalize mP u w T = m at *
  have : t * (w * z) * (u + w) = t * w := by
    have : t * (w * z) * (u + w) = t * w * (z * (u + w)) := by grind
    rw [this, h1]; grind
  grind
theorem meet2 : ∃ hi, mpR (excR (sR u) (movR (dR w T) t)) = some (pP u w T t, hi) := by
  have hp := pP_pos hu hw hT ht ht3
  have hl := pt_lt hu hw hT ht ht3
  have hv := pP_val hu hw hT ht ht3
  have hd := dR_row hw hT
  refine meet_lo (sR_row u) (hd.mov t) (sR_sty u) (movR_stdy hd.asc (dR_sty hw) t) (sR_ris hu) (movR_falling (dR_fal hw) hd.ne t) (by grind) ?_ fun y h1 h2 => ?_
  · rw [sR_val, (movR_spec hd.asc (by grind)).1, dR_val hw hT, if_pos hl]; exact hv
  · rw [sR_val, (movR_spec hd.asc h1).1, dR_val hw hT, if_pos (by grind)]
    have h3 : (u + w) * y < (u + w) * pP u w T t := Rat.mul_lt_mul_of_pos_left h2 (by grind)
    grind
theorem meet3 : ∃ hi, mpR (excR (oR u t) (dR w T)) = some (pP u w T t + t, hi) := by
  have hp := pP_pos hu hw hT ht ht3
  have hl := pt_lt hu hw hT ht ht3
  have hv := pP_val hu hw hT ht ht3
  have hd := dR_row hw hT
  refine meet_lo (oR_row ht) hd oR_sty (dR_sty hw) (oR_ris hu) (dR_fal hw) (by grind) ?_ fun y h1 h2 => ?_
  · rw [oR_val ht, dR_val hw hT, if_pos hl, if_neg (show ¬ pP u w T t + t < t by grind)]; grind
  · rw [oR_val ht, dR_val hw hT, if_pos (show y < T * (1 / w) by grind)]
    by_cases h3 : y < t
    · rw [if_pos h3]
      have h4 : w * y < w * (T * (1 / w)) := Rat.mul_lt_mul_of_pos_left (by grind) hw
      have h5 := inv_mul hw
      have : w * (T * (1 / w)) = T := by grind
      grind
    · rw [if_neg h3]
      have h3 : (u + w) * y < (u + w) * (pP u w T t + t) := Rat.mul_lt_mul_of_pos_left h2 (by grind)
      grind
omit ht ht3
theorem area_s (p : Rat) : areaR (sR u) 0 p = u * p * (1 / 2) * p := by
  unfold areaR
  have e : nrm (sR u) = sR u := rfl
  rw [e]
  have e2 : arS (sR u) 0 p = [0, p] := by
    unfold arS sts sR
    have : ¬ (0 : Rat) < 0 := by grind
    simp [this]
  rw [e2]
  show sm [arP (sR u) (0, p)] = _
  rw [sm_cons, sm_nil]
  unfold arP
  rw [sR_val, sR_val]
  grind
theorem area_d {p : Rat} (h0 : 0 ≤ p) (hp : p < T * (1 / w)) : areaR (dR w T) p (T * (1 / w)) = w * (T * (1 / w) - p) * (1 / 2) * (T * (1 / w) - p) := by
  unfold areaR
  rw [dR_nrm hw]
  have e2 : arS (dR w T) p (T * (1 / w)) = [p, T * (1 / w)] := by
    unfold arS sts dR
    have h1 : ¬ p < 0 := by grind
    have h2 : ¬ T * (1 / w) < T * (1 / w) := by grind
    simp only [List.map_cons, List.map_nil, List.filter_cons, List.filter_nil, h1, h2, decide_false, Bool.false_and, Bool.and_false, Bool.false_eq_true, if_false, List.nil_append, List.cons_append]
  rw [e2]
  show sm [arP (dR w T) (p, T * (1 / w))] = _
  rw [sm_cons, sm_nil]
  unfold arP
  have h3 := inv_mul hw
  have h4 : w * (T * (1 / w)) = T := by grind
  have h5 : ¬ T * (1 / w) < T * (1 / w) := by grind
  rw [dR_val hw hT, dR_val hw hT, if_pos hp, if_neg h5]
  generalize T * (1 / w) = E at *
  rw [← h4]; grind
theorem chk_d : chk (dR w T) = some (T * (1 / w)) := by
  unfold chk
  rw [dR_nrm hw]
  rfl
theorem bg_d {p : Rat} (h0 : 0 ≤ p) (hp : p < T * (1 / w)) : bgR (dR w T) p = some (w * (T * (1 / w) - p) * (1 / 2) * (T * (1 / w) - p)) := by
  unfold bgR
  rw [chk_d hu hw hT]
  simp only [Option.map_some, if_pos hp, area_d hu hw hT h0 hp]
end
/-- what is lost in all -/
theorem lost_eq {u w T t m p E s : Rat} (h1 : m * (u + w) = T) (h2 : w * E = T) (h3 : s * (u + w) = t * w) (h4 : p = m - s) :
    u * m * (1 / 2) * m + w * (E - m) * (1 / 2) * (E - m) - (u * p * (1 / 2) * p + w * (E - (p + t)) * (1 / 2) * (E - (p + t)) + t * (u * p)) = t * (u * m - u * p) * (1 / 2) := by
  subst h4
  grind
end PL

set_option autoImplicit false
set_option linter.all false
set_option maxRecDepth 100000
set_option maxHeartbeats 8000000
set_option exponentiation.threshold 20000
/-! MK94b: what the program answers at the lines of law k94. -/
namespace K94
open PL
local macro_rules
  | `(tactic| array_get_dec) => `(tactic| (apply Bz.sz'; (focus (repeat' (with_reducible first | assumption | exact Bz.zero1 | apply Bz.add | apply Bz.sub | apply Bz.mul | apply PB.at | (apply PB.s; assumption) | (apply PB.v; assumption) | (apply PB.m; assumption) | (apply RB.val; assumption; assumption) | (apply RB.slp; assumption; assumption)))); omega))
structure LnC (u w T : Rat) : Prop where
  hu : 0 < u
  hw : 0 < w
  hT : 0 < T
  bu : Bz 3 u
  bw : Bz 3 w
  bT : Bz 6 T
  du : Dz 6 30 u
structure Tax (u w T t : Rat) : Prop where
  ht : 0 < t
  ht3 : t * 3 ≤ T * (1 / w)
  bt : Bz 20 t
section
variable {u w T t : Rat} {k : Nat} (C : LnC u w T)
include C
theorem LnC.bE : Bz 9 (T * (1 / w)) := C.bT.mul (C.bw.inv C.hw)
theorem LnC.bs : Bz 7 (u + w) := C.bu.add C.bw
theorem LnC.spos : 0 < u + w := by have := C.hu; have := C.hw; grind
theorem LnC.bi : Bz 7 (1 / (u + w)) := C.bs.inv C.spos
theorem LnC.bm : Bz 13 (mP u w T) := C.bT.mul C.bi
theorem LnC.rs : RB 9 (sR u) := fun p hp => by
  rw [List.mem_singleton.mp hp]
  exact ⟨Bz.zero1.mono (by omega), Bz.zero1.mono (by omega), C.bu.mono (by omega)⟩
theorem bz_neg {n : Nat} {x : Rat} (h : Bz n x) : Bz n (-x) := ⟨by rw [Rat.neg_num, Int.natAbs_neg]; exact h.1, by rw [Rat.neg_den]; exact h.2⟩
theorem LnC.rd : RB 9 (dR w T) := fun p hp => by
  rcases List.mem_cons.mp hp with rfl | hp
  · exact ⟨Bz.zero1.mono (by omega), C.bT.mono (by omega), (bz_neg C C.bw).mono (by omega)⟩
  · rw [List.mem_singleton.mp hp]
    exact ⟨C.bE, Bz.zero1.mono (by omega), Bz.zero1.mono (by omega)⟩
theorem c_meet (hk : 12 ≤ k) : call P k "meeting_prices" [rwD (sR u), rwD (dR w T)] = ret (mpD (some (mP u w T, some (mP u w T)))) := by
  have hd := dR_row C.hw C.hT
  have hR : RB 86 (excR (sR u) (dR w T)) := (C.rs.mono (show 9 ≤ 10 by omega)).addR (C.rd.scl bz_m1) (sR_row u).ne (sclR_ne hd.ne _)
  rw [s_meeting_prices (sR_row u) hd (sR_sty u) (dR_sty C.hw) (sR_ris C.hu) (dR_fal C.hw) C.rs C.rd (by show (1 : Nat) + 2 ≤ 60; decide) (by decide) hR (by decide) (by omega), meet1 C.hu C.hw C.hT]
theorem c_vs {x : Rat} {m : Nat} (hx : Bz m x) (hm : m ≤ 3000) (hk : 5 ≤ k) : call P k "value_at" [rwD (sR u), Rt x] = ret (Rt (u * x)) := by
  rw [s_value_at (sR_row u).ne C.rs hx (by omega) hk, sR_val]
theorem c_vd {x : Rat} {m : Nat} (hx : Bz m x) (hm : m ≤ 3000) (hk : 5 ≤ k) : call P k "value_at" [rwD (dR w T), Rt x] = ret (Rt (val (dR w T) x)) :=
  s_value_at (dR_row C.hw C.hT).ne C.rd hx (by omega) hk
variable (X : Tax u w T t)
include X
theorem bsp : Bz 30 (t * (w * (1 / (u + w)))) := X.bt.mul (C.bw.mul C.bi)
theorem bbp : Bz 30 (t * (u * (1 / (u + w)))) := X.bt.mul (C.bu.mul C.bi)
theorem bp1 : Bz 44 (pP u w T t) := C.bm.sub (bsp C X)
theorem bp2 : Bz 44 (pP u w T t + t) := by rw [bp_eq C.hu C.hw C.hT X.ht X.ht3]; exact C.bm.add (bbp C X)
theorem c_pwt (hk : 14 ≤ k) : call P k "prices_with_tax" [rwD (sR u), rwD (dR w T), Rt t] = ret (pairD (some (pP u w T t, pP u w T t + t))) := by
  have hd := dR_row C.hw C.hT
  obtain ⟨hi, e⟩ := meet2 C.hu C.hw C.hT X.ht X.ht3
  have bt := X.bt
  have h1 : call P (k - 2) "moved" [rwD (dR w T), Rt t] = ret (rwD (movR (dR w T) t)) := s_moved C.rd hd.ne bt (by show (2 : Nat) ≤ 59; decide) (by decide) (by omega)
  have hm := C.rd.movR hd.ne bt
  have hlen := movR_len (dR w T) t
  have hR : RB (8 * (3 * 9 + 20 + 2 + 1) + 6) (excR (sR u) (movR (dR w T) t)) := (C.rs.mono (show 9 ≤ 3 * 9 + 20 + 2 + 1 by omega)).addR (hm.scl bz_m1) (sR_row u).ne (sclR_ne (movR_ne _ _) _)
  have h2 : call P (k - 1) "meeting_prices" [rwD (sR u), rwD (movR (dR w T) t)] = ret (mpD (mpR (excR (sR u) (movR (dR w T) t)))) :=
    s_meeting_prices (sR_row u) (hd.mov t) (sR_sty u) (movR_stdy hd.asc (dR_sty C.hw) t) (sR_ris C.hu) (movR_falling (dR_fal C.hw) hd.ne t) (C.rs.mono (by omega)) hm (by show 1 + _ ≤ 60; have : (dR w T).length = 2 := rfl; omega) (by decide) hR (by decide) (by omega)
  rw [e] at h2
  exact s_prices_with_tax h1 h2 (fun m hm => by cases hm; exact (bp1 C X).sz (by decide)) (bt.sz (by decide)) (by omega)
theorem c_ewt (hk : 16 ≤ k) : call P k "exchanged_with_tax" [rwD (sR u), rwD (dR w T), Rt t] = ret (Rt (u * pP u w T t)) :=
  s_exchanged_with_tax (c_pwt C X (by omega)) (c_vs C (bp1 C X) (by decide) (by omega)) (by omega)
theorem a_borne (hk : 16 ≤ k) : call P k "borne" [rwD (sR u), rwD (dR w T), Rt t] = ret (.tup [Rt (t * (w * (1 / (u + w)))), Rt (t * (u * (1 / (u + w))))]) := by
  rw [s_borne (c_meet C (by omega)) (c_pwt C X (by omega)) (C.bm.sz (by decide)) ((bp1 C X).sz (by decide)) ((bp2 C X).sz (by decide)) (by omega)]
  have h1 : mP u w T - pP u w T t = t * (w * (1 / (u + w))) := by unfold pP; grind
  have h2 : pP u w T t + t - mP u w T = t * (u * (1 / (u + w))) := by rw [bp_eq C.hu C.hw C.hT X.ht X.ht3]; grind
  rw [h1, h2]
theorem c_share (hk : 18 ≤ k) : call P k "share_of_buyers" [rwD (sR u), rwD (dR w T), Rt t] = ret (Rt (u * (1 / (u + w)))) := by
  have t0 : t ≠ 0 := by have := X.ht; grind
  rw [s_share_of_buyers (a_borne C X (by omega)) ((bbp C X).sz (by decide)) (X.bt.sz (by decide)) t0 (by omega)]
  congr 2
  generalize u * (1 / (u + w)) = z
  grind
theorem c_sg {p : Rat} {m : Nat} (hp : Bz m p) (hm : 9 ≤ m ∧ m ≤ 100) (hk : 9 ≤ k) : call P k "sellers_gain" [rwD (sR u), Rt p] = ret (Rt (u * p * (1 / 2) * p)) := by
  have e := s_area_between (P := P) (k := k - 1) (sR_row u).ne C.rs (Bz.zero1.mono (show 1 ≤ m by omega)) hp (by omega) (by show (1 : Nat) ≤ 60; decide) (by show (1 + 1) * (6 * 9 + 4 * m + 20) + 1 ≤ 4000; omega) (by omega)
  rw [area_s C.hu C.hw C.hT] at e
  exact s_sellers_gain e (by omega)
theorem c_bg {p : Rat} {m : Nat} (hp : Bz m p) (hm : 9 ≤ m ∧ m ≤ 100) (h0 : 0 ≤ p) (hpE : p < T * (1 / w)) (hk : 10 ≤ k) : call P k "buyers_gain" [rwD (dR w T), Rt p] = ret (opt (some (w * (T * (1 / w) - p) * (1 / 2) * (T * (1 / w) - p)))) := by
  have hd := dR_row C.hw C.hT
  have e := s_buyers_gain (P := P) (k := k) C.rd hd.ne (by show (2 : Nat) ≤ 60; decide) (hp.sz (by omega)) (fun e he _ => by
    rw [chk_d C.hu C.hw C.hT] at he
    cases he
    exact s_area_between hd.ne C.rd hp (C.bE.mono (by omega)) (by omega) (by show (2 : Nat) ≤ 60; decide) (by show (2 + 1) * (6 * 9 + 4 * m + 20) + 1 ≤ 4000; omega) (by omega)) (by decide) (by omega)
  rw [bg_d C.hu C.hw C.hT h0 hpE] at e
  exact e
theorem c_lost (hk : 20 ≤ k) : call P k "lost_by_tax" [rwD (sR u), rwD (dR w T), Rt t] = ret (Rt (t * (u * mP u w T - u * pP u w T t) * (1 / 2))) := by
  have hm := C.bm
  have h1 := bp1 C X
  have h2 := bp2 C X
  have hE := C.bE
  have bt := X.bt
  have bu := C.bu
  have bw := C.bw
  have bh := bz_half
  have m0 := mP_pos C.hu C.hw C.hT
  have mE := mP_lt C.hu C.hw C.hT
  have p0 := pP_pos C.hu C.hw C.hT X.ht X.ht3
  have pE := pt_lt C.hu C.hw C.hT X.ht X.ht3
  have ht := X.ht
  have g1 : ∀ k, 9 ≤ k → call P k "sellers_gain" [rwD (sR u), Rt (mP u w T)] = ret (Rt (u * mP u w T * (1 / 2) * mP u w T)) := fun k hk => c_sg C X hm (by omega) hk
  have g2 : ∀ k, 10 ≤ k → call P k "buyers_gain" [rwD (dR w T), Rt (mP u w T)] = _ := fun k hk => c_bg C X hm (by omega) (by grind) mE hk
  have g3 : ∀ k, 9 ≤ k → call P k "sellers_gain" [rwD (sR u), Rt (pP u w T t)] = ret (Rt (u * pP u w T t * (1 / 2) * pP u w T t)) := fun k hk => c_sg C X h1 (by omega) hk
  have g4 : ∀ k, 10 ≤ k → call P k "buyers_gain" [rwD (dR w T), Rt (pP u w T t + t)] = _ := fun k hk => c_bg C X h2 (by omega) (by grind) pE hk
  have z1 : Bz 34 (u * mP u w T * (1 / 2) * mP u w T) := (((bu.mul hm).mul bh).mul hm).mono (by omega)
  have z2 : Bz 51 (w * (T * (1 / w) - mP u w T) * (1 / 2) * (T * (1 / w) - mP u w T)) := (((bw.mul (hE.sub hm)).mul bh).mul (hE.sub hm)).mono (by omega)
  have z3 : Bz 100 (u * pP u w T t * (1 / 2) * pP u w T t) := (((bu.mul h1).mul bh).mul h1).mono (by omega)
  have z4 : Bz 120 (w * (T * (1 / w) - (pP u w T t + t)) * (1 / 2) * (T * (1 / w) - (pP u w T t + t))) := (((bw.mul (hE.sub h2)).mul bh).mul (hE.sub h2)).mono (by omega)
  have z5 : Bz 47 (u * pP u w T t) := bu.mul h1
  have b1 : call P (k - 1) "both_gain" [rwD (sR u), rwD (dR w T), Rt (mP u w T)] = ret (Rt (u * mP u w T * (1 / 2) * mP u w T + w * (T * (1 / w) - mP u w T) * (1 / 2) * (T * (1 / w) - mP u w T))) :=
    s_both_gain (g2 _ (by omega)) (g1 _ (by omega)) (z1.sz (by decide)) (fun g hg => by cases hg; exact z2.sz (by decide)) (by omega)
  have b2 : call P (k - 1) "gains_with" [rwD (sR u), rwD (dR w T), .tup [Rt (pP u w T t), Rt (pP u w T t + t)]] = ret (Rt (u * pP u w T t * (1 / 2) * pP u w T t + w * (T * (1 / w) - (pP u w T t + t)) * (1 / 2) * (T * (1 / w) - (pP u w T t + t)))) :=
    s_gains_with (g3 _ (by omega)) (g4 _ (by omega)) (z3.sz (by decide)) (z4.sz (by decide)) (by omega)
  have e := s_lost_by_tax (c_meet C (show 12 ≤ k - 1 by omega)) (c_pwt C X (show 14 ≤ k - 1 by omega)) b1 b2 (c_vs C h1 (by decide) (show 5 ≤ k - 1 by omega)) ((z1.add z2).sz (by decide)) ((z3.add z4).sz (by decide)) (z5.sz (by decide)) (bt.sz (by decide)) ((bt.mul z5).sz (by decide)) (((z3.add z4).add (bt.mul z5)).sz (by decide)) (by omega)
  rw [e]
  congr 2
  have i1 := inv_mul C.hw
  have i2 := inv_mul C.spos
  refine lost_eq (T := T) (s := t * (w * (1 / (u + w)))) (mP_eq C.hu C.hw C.hT) (by generalize 1 / w = z at *; grind) (by generalize 1 / (u + w) = z at *; grind) rfl
theorem c_meet3 (hk : 12 ≤ k) : ∃ hi, call P k "meeting_prices" [rwD (oR u t), rwD (dR w T)] = ret (mpD (some (pP u w T t + t, hi))) := by
  have hd := dR_row C.hw C.hT
  have ho := oR_row (u := u) X.ht
  have ro : RB 20 (oR u t) := fun p hp => by
    rcases List.mem_cons.mp hp with rfl | hp
    · exact ⟨Bz.zero1.mono (by omega), Bz.zero1.mono (by omega), Bz.zero1.mono (by omega)⟩
    · rw [List.mem_singleton.mp hp]
      exact ⟨X.bt, Bz.zero1.mono (by omega), C.bu.mono (by omega)⟩
  have rd := C.rd.mono (show 9 ≤ 20 by omega)
  have hR : RB (8 * 21 + 6) (excR (oR u t) (dR w T)) := (ro.mono (show 20 ≤ 21 by omega)).addR (rd.scl bz_m1) ho.ne (sclR_ne hd.ne _)
  obtain ⟨hi, e⟩ := meet3 C.hu C.hw C.hT X.ht X.ht3
  refine ⟨hi, ?_⟩
  rw [s_meeting_prices ho hd oR_sty (dR_sty C.hw) (oR_ris C.hu) (dR_fal C.hw) ro rd (by show (2 : Nat) + 2 ≤ 60; decide) (by decide) hR (by decide) (by omega), e]
theorem c_half : Tax u w T (t * (1 / 2)) → t * (1 / 2) * (u * mP u w T - u * pP u w T (t * (1 / 2))) * (1 / 2) = t * (u * mP u w T - u * pP u w T t) * (1 / 2) * (1 / 4) := by
  intro _
  unfold pP
  generalize 1 / (u + w) = z
  grind
omit X
/-- several joined -/
theorem c_join {rs : List Rw} (h : ∀ r ∈ rs, SupRow r) (hl : rs.length ≤ 3) : (∀ k, 9 ≤ k → call P k "joined_supply" [.lst ((sR u :: rs).map rwD)] = ret (rwD (joinR (sR u :: rs)))) ∧ RB 20 (joinR (sR u :: rs)) ∧ Row (joinR (sR u :: rs)) ∧ Stdy (joinR (sR u :: rs)) ∧ rising (joinR (sR u :: rs)) ∧ (joinR (sR u :: rs)).length ≤ 17 ∧
      (∀ x, 0 ≤ x → val (joinR (sR u :: rs)) x = sm ((sR u :: rs).map fun r => val r x)) ∧ (∀ x, 0 ≤ x → u * x ≤ val (joinR (sR u :: rs)) x) := by
  have hz : ∀ r ∈ sR u :: rs, r ≠ [] ∧ Zr 216 30 5000 r := by
    intro r hr
    rcases List.mem_cons.mp hr with rfl | hr
    · refine ⟨List.cons_ne_nil _ _, fun p hp => ?_⟩
      rw [List.mem_singleton.mp hp]
      exact ⟨Dz.zero, C.du, Dz.zero⟩
    · exact ⟨(h r hr).row.ne, (h r hr).zr⟩
  have hrow : ∀ r ∈ sR u :: rs, Row r ∧ Stdy r ∧ rising r := by
    intro r hr
    rcases List.mem_cons.mp hr with rfl | hr
    · exact ⟨sR_row u, sR_sty u, sR_ris C.hu⟩
    · exact ⟨(h r hr).row, (h r hr).sty, (h r hr).ris⟩
  have hlen : ∀ r ∈ sR u :: rs, r.length ≤ 4 := by
    intro r hr
    rcases List.mem_cons.mp hr with rfl | hr
    · show 1 ≤ 4; decide
    · exact (h r hr).len
  have hl4 : (sR u :: rs).length ≤ 4 := by rw [List.length_cons]; omega
  have hj := Zr.join hz hl4
  have hrb : ∀ i, RB 20 (((sR u :: rs).take i).foldl addR [⟨0, 0, 0⟩]) := fun i => by
    have hm : min i (sR u :: rs).length ≤ 4 := by omega
    exact (hj i).1.rb (by decide) (by show _ < 1048576; omega) (by show _ < 1048576; omega) (by decide)
  have hall : RB 20 (joinR (sR u :: rs)) := by
    have := hrb (sR u :: rs).length
    rw [List.take_length] at this
    exact this
  have hst := joinR_stdy hrow
  refine ⟨fun k hk => s_joined_supply rfl (fun r hr => ⟨(hz r hr).2.rb (by decide) (by decide) (by decide) (by decide), (hz r hr).1, hlen r hr⟩) (by omega) hrb (by decide) hk, hall, (joinR_val (fun r hr => (hrow r hr).1) (x := 0) Rat.le_refl).2, hst.1, hst.2, ?_, fun x hx => (joinR_val (fun r hr => (hrow r hr).1) hx).1, fun x hx => ?_⟩
  · have := joinR_len hlen; omega
  · rw [(joinR_val (fun r hr => (hrow r hr).1) hx).1, List.map_cons, sm_cons, sR_val]
    have h0 : 0 ≤ sm (rs.map fun r => val r x) := by
      have : ∀ l : List Rw, (∀ r ∈ l, SupRow r) → 0 ≤ sm (l.map fun r => val r x) := by
        intro l
        induction l with
        | nil => intro _; exact Rat.le_refl
        | cons r l ih =>
          intro hl
          rw [List.map_cons, sm_cons]
          have h1 := ih fun q hq => hl q (List.mem_cons_of_mem _ hq)
          have hr := hl r List.mem_cons_self
          have h2 := val_mono hr.row.asc hr.sty hr.ris hx
          have h3 := hr.val0
          grind
      exact this rs h
    grind
theorem c_meetA {R : Rw} (hr : RB 20 R) (row : Row R) (st : Stdy R) (ri : rising R) (hl : R.length ≤ 17) (hk : 12 ≤ k) : call P k "meeting_prices" [rwD R, rwD (dR w T)] = ret (mpD (mpR (excR R (dR w T)))) ∧ RB 174 (excR R (dR w T)) := by
  have hd := dR_row C.hw C.hT
  have rd := C.rd.mono (show 9 ≤ 20 by omega)
  have hR : RB 174 (excR R (dR w T)) := (hr.mono (show 20 ≤ 21 by omega)).addR (rd.scl bz_m1) row.ne (sclR_ne hd.ne _)
  exact ⟨s_meeting_prices row hd st (dR_sty C.hw) ri (dR_fal C.hw) hr rd (by have : (dR w T).length = 2 := rfl; omega) (by decide) hR (by decide) (by omega), hR⟩
/-- what is said of the lower meeting -/
theorem lower_ok {R : Rw} (row : Row R) (st : Stdy R) (ri : rising R) (hge : ∀ x, 0 ≤ x → u * x ≤ val R x) {lo : Rat} {hi : Option Rat} (h : mpR (excR R (dR w T)) = some (lo, hi)) : 0 ≤ lo ∧ ¬ mP u w T < lo ∧ ¬ val R lo < u * mP u w T := by
  have hd := dR_row C.hw C.hT
  have hs := mpR_spec (excR_row row hd) (excR_stdy row hd st (dR_sty C.hw)) (excR_rising row hd ri (dR_fal C.hw))
  rw [h] at hs
  obtain ⟨a1, a2, a3, _⟩ := hs
  have hm0 := mP_pos C.hu C.hw C.hT
  have hme := sd_val C.hu C.hw C.hT (mP_lt C.hu C.hw C.hT)
  rw [sR_val] at hme
  have e1 : ¬ mP u w T < lo := by
    intro hlt
    have := a3 (mP u w T) (by grind) hlt
    rw [excR_val row hd (by grind)] at this
    have := hge (mP u w T) (by grind)
    grind
  refine ⟨a1, e1, ?_⟩
  rw [excR_val row hd a1] at a2
  have := dR_anti C.hw C.hT (show lo ≤ mP u w T by grind)
  grind
section
variable {p : Rat} (p0 : 0 < p) (pE : p < T * (1 / w)) (bp : Bz 13 p)
include p0 pE bp
theorem pVal : val (dR w T) p = T - w * p ∧ 0 < T - w * p := by
  refine ⟨by rw [dR_val C.hw C.hT, if_pos pE], ?_⟩
  have h1 : w * p < w * (T * (1 / w)) := Rat.mul_lt_mul_of_pos_left pE C.hw
  have h2 := inv_mul C.hw
  have : w * (T * (1 / w)) = T := by generalize 1 / w = z at *; grind
  grind
theorem bv : Bz 23 (T - w * p) := (C.bT.sub (C.bw.mul bp)).mono (by omega)
theorem c_lc (hk : 8 ≤ k) : call P k "least_change" [rwD (sR u), rwD (dR w T), Rt p] = ret (Rt (u * p - (T - w * p))) := by
  have e := c_vd C bp (show 13 ≤ 3000 by decide) (show 5 ≤ k - 1 by omega)
  rw [(pVal C p0 pE bp).1] at e
  exact s_least_change (c_vs C bp (by decide) (by omega)) e ((C.bu.mul bp).sz (by decide)) ((bv C p0 pE bp).sz (by decide)) (by omega)
theorem c_wm (hk : 8 ≤ k) : call P k "with_more" [rwD (dR w T), Rt (u * p - (T - w * p))] = ret (rwD (morR (dR w T) (u * p - (T - w * p)))) :=
  s_with_more C.rd ((C.bu.mul bp).sub (bv C p0 pE bp)) (by show (2 : Nat) ≤ 60; decide) (by decide) (by omega)
theorem c_wv (hk : 8 ≤ k) : call P k "value_at" [rwD (morR (dR w T) (u * p - (T - w * p))), Rt p] = ret (Rt (u * p)) := by
  have hd := dR_row C.hw C.hT
  have hb : RB 60 (morR (dR w T) (u * p - (T - w * p))) := by
    refine RB.nrm (r := mapR id (· + (u * p - (T - w * p))) id (dR w T)) fun q hq => ?_
    obtain ⟨a, ha, rfl⟩ := List.mem_map.mp hq
    have := C.rd a ha
    exact ⟨this.s.mono (by omega), (this.v.add ((C.bu.mul bp).sub (bv C p0 pE bp))).mono (by omega), this.m.mono (by omega)⟩
  have hne : morR (dR w T) (u * p - (T - w * p)) ≠ [] := nrm_ne (mapR_ne hd.ne)
  rw [s_value_at hne hb bp (by decide) (by omega), morR_spec hd.asc hd.ne, (pVal C p0 pE bp).1]
  congr 2; grind
/-- the factor -/
def fR (u w T p : Rat) : Rat := u * p / (T - w * p)
theorem f_pos : 0 < fR u w T p := by
  have h1 := (pVal C p0 pE bp).2
  have h2 := Rat.mul_pos C.hu p0
  unfold fR
  rw [Rat.div_def]
  exact Rat.mul_pos h2 (Rat.inv_pos.mpr h1)
theorem bf : Bz 39 (fR u w T p) := by
  have h1 := (pVal C p0 pE bp).2
  exact ((C.bu.mul bp).div (bv C p0 pE bp) (by grind)).mono (by omega)
theorem c_stm (hk : 8 ≤ k) : call P k "scaled_to_meet" [rwD (sR u), rwD (dR w T), Rt p] = ret (Rt (fR u w T p)) := by
  have e := c_vd C bp (show 13 ≤ 3000 by decide) (show 5 ≤ k - 1 by omega)
  rw [(pVal C p0 pE bp).1] at e
  have h1 := (pVal C p0 pE bp).2
  rw [s_scaled_to_meet (c_vs C bp (by decide) (by omega)) e ((C.bu.mul bp).sz (by decide)) ((bv C p0 pE bp).sz (by decide)) (by omega), if_neg (by grind)]
  rfl
theorem c_scl (hk : 8 ≤ k) : call P k "scaled" [rwD (dR w T), Rt (fR u w T p)] = ret (rwD (sclR (dR w T) (fR u w T p))) :=
  s_scaled C.rd (bf C p0 pE bp) (by show (2 : Nat) ≤ 60; decide) (by decide) (by omega)
theorem f_val {y : Rat} : val (sclR (dR w T) (fR u w T p)) y = val (dR w T) y * fR u w T p := (sclR_spec (dR_row C.hw C.hT).asc (dR_row C.hw C.hT).ne _ _).1
theorem f_at : val (sclR (dR w T) (fR u w T p)) p = u * p := by
  rw [f_val C p0 pE bp, (pVal C p0 pE bp).1]
  have h1 := (pVal C p0 pE bp).2
  unfold fR
  generalize T - w * p = z at *
  grind
theorem c_mf (hk : 12 ≤ k) : ∃ hi, call P k "meeting_prices" [rwD (sR u), rwD (sclR (dR w T) (fR u w T p))] = ret (mpD (some (p, hi))) := by
  have hd := dR_row C.hw C.hT
  have rd := C.rd.scl (bf C p0 pE bp)
  have rs := C.rs.mono (show 9 ≤ 9 + 39 by omega)
  have hR : RB (8 * 49 + 6) (excR (sR u) (sclR (dR w T) (fR u w T p))) := (rs.mono (show 48 ≤ 49 by omega)).addR (rd.scl bz_m1) (sR_row u).ne (sclR_ne (sclR_ne hd.ne _) _)
  have hf := f_pos C p0 pE bp
  have hfal := sclR_falling (dR_fal (T := T) C.hw) (show 0 ≤ fR u w T p by grind)
  obtain ⟨hi, e⟩ := meet_lo (sR_row u) (hd.scl (fR u w T p)) (sR_sty u) (sclR_stdy (dR_sty C.hw) _) (sR_ris C.hu) hfal (m := p) (by grind) (by rw [sR_val, f_at C p0 pE bp]) fun y h1 h2 => by
    rw [sR_val, f_val C p0 pE bp]
    have h3 : u * y < u * p := Rat.mul_lt_mul_of_pos_left h2 C.hu
    have h4 : val (dR w T) p * fR u w T p ≤ val (dR w T) y * fR u w T p := Rat.mul_le_mul_of_nonneg_right (dR_anti C.hw C.hT (by grind)) (by grind)
    have h5 := f_at C p0 pE bp
    rw [f_val C p0 pE bp] at h5
    grind
  refine ⟨hi, ?_⟩
  have hl : (sclR (dR w T) (fR u w T p)).length ≤ 2 := sclR_len _ _
  rw [s_meeting_prices (sR_row u) (hd.scl _) (sR_sty u) (sclR_stdy (dR_sty C.hw) _) (sR_ris C.hu) hfal rs rd (by show 1 + _ ≤ 60; omega) (by decide) hR (by decide) (by omega), e]
theorem c_ex (hk : 8 ≤ k) : call P k "exchanged" [rwD (sR u), rwD (sclR (dR w T) (fR u w T p)), Rt p] = ret (Rt (u * p)) := by
  have hd := dR_row C.hw C.hT
  have rd := C.rd.scl (bf C p0 pE bp)
  have e : call P (k - 1) "value_at" [rwD (sclR (dR w T) (fR u w T p)), Rt p] = ret (Rt (u * p)) := by
    rw [s_value_at (sclR_ne hd.ne _) rd bp (by decide) (by omega), f_at C p0 pE bp]
  rw [s_exchanged (c_vs C bp (by decide) (by omega)) e ((C.bu.mul bp).sz (by decide)) ((C.bu.mul bp).sz (by decide)) (by omega)]
  congr 2
  split <;> rfl
end
theorem c_stmE (hk : 8 ≤ k) : call P k "scaled_to_meet" [rwD (sR u), rwD (dR w T), Rt (T * (1 / w))] = ret .non := by
  have e := c_vd C C.bE (show 9 ≤ 3000 by decide) (show 5 ≤ k - 1 by omega)
  have h : ¬ T * (1 / w) < T * (1 / w) := by grind
  rw [dR_val C.hw C.hT, if_neg h] at e
  rw [s_scaled_to_meet (c_vs C C.bE (by decide) (by omega)) e ((C.bu.mul C.bE).sz (by decide)) (Bz.zero1.sz (by decide)) (by omega), if_pos rfl]
  rfl
end
end K94

set_option autoImplicit false
set_option linter.all false
set_option maxRecDepth 100000
set_option maxHeartbeats 8000000
set_option exponentiation.threshold 20000
/-! MK94c: law k94. -/
namespace K94
open PL
local macro_rules
  | `(tactic| simp! [$as,*]) => `(tactic| simp (disch := (first | omega | assumption | array_get_dec)) only [lk_asg, lk_asgT, lk_own, lk_iff, lk_ret, lk_retN, lk_app, lk_ins, lk_nil, lk_brk, lk_cnt, lk_pas, lk_frz, lk_par, lk_par3, lk_whl, lk_ext, lk_aug, lk_fr, cont_nx, cont_rt, cont_bk, cont_ct, ev_var, ev_bvar, ev_glob, ev_lit, ev_bin, ev_neg, ev_no, ev_and, ev_or, ev_cmp, ev_chn, ev_isi, ev_ite, ev_idx, ev_sl1, ev_sl2, ev_sl3, ev_rev, ev_tup, ev_lst, ev_bi, ev_call, evL_nil, evL_cons, evA_one, evA_cons, evO_one, evO_cons, evC_nil, evC_cons, getV_zero, getV_succ, getB_zero, getB_ow, getB_succ, getO_zero, getO_succ, List.set_cons_zero, List.set_cons_succ, bnd_ret, bnd_assoc, lft_some, lft_none, bnd_stk, truth_bl, truth_int, truth_non, truth_tup, truth_lst, toI_int, ix_tup0, ix_tup1, ix_tup2, cop_eqI, cop_neI, cop_lt, cop_le, cop_gt, cop_ge, cop_is, cop_isnot, cop_eqR, cop_neR, bop_addI, bop_subI, bnd_ite, run_ret, run_bnd, endF_ret, endF_nx, tst_lk, bindT_nm, bindT_tu, bindTs_nil, bindTs_cons, Option.bind_some, Option.map_some, if_true_eq, if_false_eq, Bool.not_true, Bool.not_false, decide_true, decide_false, Bool.not_eq_true, Bool.not_eq_false, decide_eq_true_eq, if_true, if_false, ite_true_t, ite_false_t, len_tupB, len_lstB, tupB_lst, lstB_tup, wipe_nil, wipe_cons, List.map_cons, List.map_nil, isSame_nn, isSame_tn, Bool.false_eq_true, reduceCtorEq, Nat.reduceLeDiff, List.length_cons, List.length_nil, Nat.reduceAdd, lim_eq, asLlst, cellOf_f, cellOf_t, iter_seqT, iter_seqL', List.cons_append, List.nil_append, List.append_nil, Nat.reduceSub, List.replicate_succ, List.replicate_zero, frz_ow, frz_im, frz_un, frz_succ, Nat.reduceLT, Nat.reduceEqDiff, Int.reduceLT, Int.reduceLE, Int.reduceEq, Int.reduceNeg, Int.reduceAdd, Int.reduceSub, List.isEmpty_nil, List.isEmpty_cons, true_and, and_true, false_and, and_false, Bool.true_and, Bool.false_and, Bool.and_true, Bool.and_false, Bool.true_or, Bool.false_or, Bool.or_true, Bool.or_false, List.length_append, List.length_map, eq_self, isSame_bl, $as,*])
local macro_rules
  | `(tactic| and_intros) => `(tactic| first | rw [w_0_1_x] | rw [w_0_0_x] | rw [w_1_1_x] | rw [w_1_0_x] | rw [w_2_1_x] | rw [w_2_0_x] | rw [w_3_1_x] | rw [w_3_0_x] | rw [w_4_1_x] | rw [w_4_0_x] | rw [w_5_1_x] | rw [w_5_0_x] | rw [w_6_1_x] | rw [w_6_0_x] | rw [w_7_1_x] | rw [w_7_0_x] | rw [w_8_1_x] | rw [w_8_0_x] | rw [w_9_1_x] | rw [w_9_0_x] | rw [w_10_32_x] | rw [w_10_31_x] | rw [w_10_30_x] | rw [w_10_29_x] | rw [w_10_28_x] | rw [w_10_27_x] | rw [w_10_26_x] | rw [w_10_25_x] | rw [w_10_24_x] | rw [w_10_23_x] | rw [w_10_22_x] | rw [w_10_21_x] | rw [w_10_20_x] | rw [w_10_19_x] | rw [w_10_18_x] | rw [w_10_17_x] | rw [w_10_16_x] | rw [w_10_15_x] | rw [w_10_14_x] | rw [w_10_13_x] | rw [w_10_12_x] | rw [w_10_11_x] | rw [w_10_10_x] | rw [w_10_9_x] | rw [w_10_8_x] | rw [w_10_7_x] | rw [w_10_6_x] | rw [w_10_5_x] | rw [w_10_4_x] | rw [w_10_3_x] | rw [w_10_2_x] | rw [w_10_1_x] | rw [w_10_0_x] | rw [w_11_2_x] | rw [w_11_1_x] | rw [w_11_0_x] | rw [xo_lk] | rw [lk_def])
theorem div_posI {p q : Int} (hp : 0 < p) (hq : 0 < q) : (0 : Rat) < (p : Rat) / (q : Rat) := by
  have h1 : (0 : Rat) < (p : Rat) := by exact_mod_cast hp
  have h2 : (0 : Rat) < (q : Rat) := by exact_mod_cast hq
  rw [Rat.div_def]
  exact Rat.mul_pos h1 (Rat.inv_pos.mpr h2)
local macro_rules
  | `(tactic| array_get_dec) => `(tactic| (apply Bz.sz'; (focus (repeat' (with_reducible first | assumption | exact Bz.zero1 | apply Bz.add | apply Bz.sub | apply Bz.mul | apply PB.at | (apply PB.s; assumption) | (apply PB.v; assumption) | (apply PB.m; assumption) | (apply RB.val; assumption; assumption) | (apply RB.slp; assumption; assumption)))); omega))
theorem pd2 {n : Nat} {x y : Rat} (hx : Bz n x) (hy : Bz n y) : Pd (2 ^ n) 2 2 (.tup [Rt x, Rt y]) := by
  refine ⟨by simp, fun z hz => ?_⟩
  simp only [List.mem_cons, List.not_mem_nil, or_false] at hz
  rcases hz with rfl | rfl
  · exact pd_Rt hx (by decide)
  · exact pd_Rt hy (by decide)
theorem bz_quart : Bz 3 ((1 : Rat) / 4) := ⟨by decide +kernel, by decide +kernel⟩
theorem Rt_quart : (.tup [.int 1, .int 4] : D) = Rt (1 / 4) := by
  unfold Rt
  rw [show ((1 : Rat) / 4).num = 1 by decide +kernel, show ((1 : Rat) / 4).den = 4 by decide +kernel]
  rfl
theorem ix_mp {a : Rat} {o : Option Rat} : idx (mpD (some (a, o))) (.int 0) = some (Rt a) := rfl
theorem tail {K : Nat} (hK : 100 ≤ K) {u w T : Rat} (C : LnC u w T) {c2 c3 c4 c5 c6 c7 c8 c9 c10 c11 c12 c13 c14 c15 c16 c17 c18 c19 c20 c21 c22 c23 c24 c25 c26 c27 c28 : Cell} (b : Bx) :
    Run (xo P.gl (call P K) w_10_24 [.un, .im .box, c2, c3, c4, c5, .im (rwD (sR u)), .im (Rt (T * (1 / w))), .im (rwD (dR w T)), c9, .im (Rt (mP u w T)), c11, c12, c13, c14, c15, c16, c17, c18, c19, c20, c21, c22, c23, c24, c25, c26, c27, c28]) b
      (fun x _ => x.1 = .nx ∧ ∃ c2 c3 c4 c5 c6 c7 c8 c9 c10 c11 c12 c13 c14 c15 c16 c17 c18 c19 c20 c21 c22 c23 c24 c25 c26 c27 c28, x.2 = [.un, .im .box, c2, c3, c4, c5, c6, c7, c8, c9, c10, c11, c12, c13, c14, c15, c16, c17, c18, c19, c20, c21, c22, c23, c24, c25, c26, c27, c28]) := by
  have hw := C.hw
  have hT := C.hT
  have bu := C.bu
  have bm := C.bm
  have bE := C.bE
  have bh : Sz (1 / 2) := bz_half.sz (by decide)
  (and_intros; simp! [])
  refine r_draw (by omega) (by omega) (by omega) fun i4 b hi4 => ?_
  have e1 := u_ratio (P := P) (k := K) (p := 1 + (i4 : Int)) (q := 12) (by omega) (pow9 _ (by omega)) (pow9 _ (by omega)) (by omega)
  have bc : Bz 4 (((1 + (i4 : Int) : Int) : Rat) / ((12 : Int) : Rat)) := Bz.of (by omega) (show _ < 16 by omega) (show _ < 16 by omega)
  simp! [e1, u_times]
  have hc := div_posI (p := 1 + (i4 : Int)) (q := 12) (by omega) (by omega)
  have hc1 : ((1 + (i4 : Int) : Int) : Rat) / ((12 : Int) : Rat) < 1 := by
    have h1 : ((1 + (i4 : Int) : Int) : Rat) ≤ ((10 : Int) : Rat) := by exact_mod_cast (show (1 + (i4 : Int) : Int) ≤ 10 by omega)
    have h2 : ((12 : Int) : Rat) = 12 := rfl
    have h3 : ((10 : Int) : Rat) = 10 := rfl
    rw [h2]
    rw [h3] at h1
    generalize ((1 + (i4 : Int) : Int) : Rat) = z at *
    grind
  clear e1
  generalize ((1 + (i4 : Int) : Int) : Rat) / ((12 : Int) : Rat) = c at *
  have p0 := Rat.mul_pos (E_pos hw hT) hc
  have pE : T * (1 / w) * c < T * (1 / w) := by
    have := Rat.mul_lt_mul_of_pos_left hc1 (E_pos hw hT)
    grind
  have bp : Bz 13 (T * (1 / w) * c) := bE.mul bc
  generalize T * (1 / w) * c = p at *
  have hv := pVal C p0 pE bp
  have bv' := bv C p0 pE bp
  (and_intros; simp! [c_lc C p0 pE bp])
  (and_intros; simp! [c_wm C p0 pE bp])
  have b1 := bu.mul bp
  have rs := sR_row u
  have rd := dR_row hw hT
  (and_intros; simp! [c_wv C p0 pE bp, c_vs C bp (show 13 ≤ 3000 by decide), s_lat rs.ne rs.asc (show (Rw.hd (sR u)).s ≤ p by rw [rs.hd]; grind) C.rs bp (show (1 : Nat) ≤ 60 by decide), s_lat rd.ne rd.asc (show (Rw.hd (dR w T)).s ≤ p by rw [rd.hd]; grind) C.rd bp (show (2 : Nat) ≤ 60 by decide), sR_val, hv.1, u_minus])
  (and_intros; simp! [])
  obtain ⟨hi, ef⟩ := c_mf C p0 pE bp (show 12 ≤ K by omega)
  (and_intros; simp! [c_stm C p0 pE bp])
  (and_intros; simp! [c_scl C p0 pE bp, ef])
  (and_intros; simp! [cop_Rt_non, ix_mp, c_scl C p0 pE bp, c_ex C p0 pE bp, c_vs C bp (show 13 ≤ 3000 by decide)])
  (and_intros; simp! [])
  have bhv : Bz 29 ((p + mP u w T) * (1 / 2)) := ((bp.add bm).mul bz_half).mono (by omega)
  have bs := (bp.add bm).sz (show _ ≤ 4000 by decide)
  (and_intros; simp! [c_stmE C, s_halfway, u_plus, u_times, Rt_half, u_same (pd_Rt (l := 2) (j := 0) bhv (by decide))])
  (and_intros; simp! [])
  (and_intros; simp! [])
  exact ⟨_, _, _, _, _, _, _, _, _, _, _, _, _, _, _, _, _, _, _, _, _, _, _, _, _, _, _, rfl⟩
theorem mainK (b : Bx) (K : Nat) (hK : 100 ≤ K) : Run (exs P.gl (call P K) f_law.body (.un :: .im .box :: List.replicate (f_law.names.length - 2) .un)) b (fun r _ => r.1 = .rt (.bl true)) := by
    unfold f_law
    dsimp only
    rw [← xo_eq]
    have er : iter .ran [.int 6] = some ((List.range 6).map fun (i : Nat) => .int i) := ran_natI (n := 6) (by decide)
    (and_intros; simp! [er])
    refine run_forB (fun _ ρ => ∃ c2 c3 c4 c5 c6 c7 c8 c9 c10 c11 c12 c13 c14 c15 c16 c17 c18 c19 c20 c21 c22 c23 c24 c25 c26 c27 c28, ρ = [.un, .im .box, c2, c3, c4, c5, c6, c7, c8, c9, c10, c11, c12, c13, c14, c15, c16, c17, c18, c19, c20, c21, c22, c23, c24, c25, c26, c27, c28]) ⟨_, _, _, _, _, _, _, _, _, _, _, _, _, _, _, _, _, _, _, _, _, _, _, _, _, _, _, rfl⟩ ?_ ?_
    · rintro i hi ρ b ⟨c2, c3, c4, c5, c6, c7, c8, c9, c10, c11, c12, c13, c14, c15, c16, c17, c18, c19, c20, c21, c22, c23, c24, c25, c26, c27, c28, rfl⟩
      simp! []
      (and_intros; simp! [])
      refine r_draw (by omega) (by omega) (by omega) fun i1 b hi1 => ?_
      simp! []
      refine r_draw (by omega) (by omega) (by omega) fun j1 b hj1 => ?_
      have e1 := u_ratio (P := P) (k := K) (p := 1 + (i1 : Int)) (q := 1 + (j1 : Int)) (by omega) (pow9 _ (by omega)) (pow9 _ (by omega)) (by omega)
      simp! [e1]
      refine r_draw (by omega) (by omega) (by omega) fun i2 b hi2 => ?_
      simp! []
      refine r_draw (by omega) (by omega) (by omega) fun j2 b hj2 => ?_
      have e2 := u_ratio (P := P) (k := K) (p := 1 + (i2 : Int)) (q := 1 + (j2 : Int)) (by omega) (pow9 _ (by omega)) (pow9 _ (by omega)) (by omega)
      simp! [e2]
      have hu := div_posI (p := 1 + (i1 : Int)) (q := 1 + (j1 : Int)) (by omega) (by omega)
      have hw := div_posI (p := 1 + (i2 : Int)) (q := 1 + (j2 : Int)) (by omega) (by omega)
      have bu : Bz 3 (((1 + (i1 : Int) : Int) : Rat) / ((1 + (j1 : Int) : Int) : Rat)) := Bz.of (by omega) (show _ < 8 by omega) (show _ < 8 by omega)
      have bw : Bz 3 (((1 + (i2 : Int) : Int) : Rat) / ((1 + (j2 : Int) : Int) : Rat)) := Bz.of (by omega) (show _ < 8 by omega) (show _ < 8 by omega)
      have du : Dz 6 30 (((1 + (i1 : Int) : Int) : Rat) / ((1 + (j1 : Int) : Int) : Rat)) := by
        have h1 : (1 + (i1 : Int) : Int) = ((i1 + 1 : Nat) : Int) := by omega
        have h2 : (1 + (j1 : Int) : Int) = ((j1 + 1 : Nat) : Int) := by omega
        rw [h1, h2]
        refine Dz.of (j1 + 1) (by omega) ?_
        rcases (show j1 = 0 ∨ j1 = 1 ∨ j1 = 2 by omega) with rfl | rfl | rfl
        · exact ⟨6, rfl, by omega⟩
        · exact ⟨3, rfl, by omega⟩
        · exact ⟨2, rfl, by omega⟩
      clear e1 e2
      generalize ((1 + (i1 : Int) : Int) : Rat) / ((1 + (j1 : Int) : Int) : Rat) = u at *
      generalize ((1 + (i2 : Int) : Int) : Rat) / ((1 + (j2 : Int) : Int) : Rat) = w at *
      (and_intros; simp! [])
      refine r_draw (by omega) (by omega) (by omega) fun i3 b hi3 => ?_
      have e1 := u_ratio (P := P) (k := K) (p := 10 + (i3 : Int)) (q := 1) (by omega) (pow9 _ (by omega)) (pow9 _ (by omega)) (by omega)
      simp! [e1]
      have hT := div_posI (p := 10 + (i3 : Int)) (q := 1) (by omega) (by omega)
      have bT : Bz 6 (((10 + (i3 : Int) : Int) : Rat) / ((1 : Int) : Rat)) := Bz.of (by omega) (show _ < 64 by omega) (show _ < 64 by omega)
      clear e1
      generalize ((10 + (i3 : Int) : Int) : Rat) / ((1 : Int) : Rat) = T at *
      have C : LnC u w T := ⟨hu, hw, hT, bu, bw, bT, du⟩
      have bwi := bw.inv hw
      have bE := C.bE
      have bs := C.bs
      have bi := C.bi
      have bm := C.bm
      have spos := C.spos
      have eS : (.tup [.tup [.tup [.int 0, .int 1], .tup [.int 0, .int 1], Rt u]] : D) = rwD (sR u) := rfl
      have eD : (.tup [.tup [.tup [.int 0, .int 1], Rt T, Rt (-w)], .tup [Rt (T * (1 / w)), .tup [.int 0, .int 1], .tup [.int 0, .int 1]]] : D) = rwD (dR w T) := rfl
      have eM : T * (1 / (u + w)) = mP u w T := rfl
      have eM2 : mpD (some (mP u w T, some (mP u w T))) = .tup [Rt (mP u w T), Rt (mP u w T)] := rfl
      (and_intros; simp! [eS])
      (and_intros; simp! [ix_Rt0, ix_Rt1, inv_Rt hw, u_times])
      (and_intros; simp! [ix_Rt0, ix_Rt1, neg_Rt, eD])
      (and_intros; simp! [u_plus])
      (and_intros; simp! [ix_Rt0, ix_Rt1, inv_Rt spos, u_times, eM])
      (and_intros; simp! [c_meet C, eM2, u_same (pd2 bm bm)])
      (and_intros; simp! [])
      -- the tax
      (and_intros; simp! [])
      refine r_draw (by omega) (by omega) (by omega) fun i4 b hi4 => ?_
      have e1 := u_ratio (P := P) (k := K) (p := 1 + (i4 : Int)) (q := 12) (by omega) (pow9 _ (by omega)) (pow9 _ (by omega)) (by omega)
      have bc : Bz 4 (((1 + (i4 : Int) : Int) : Rat) / ((12 : Int) : Rat)) := Bz.of (by omega) (show _ < 16 by omega) (show _ < 16 by omega)
      simp! [e1, u_times]
      have hc := div_posI (p := 1 + (i4 : Int)) (q := 12) (by omega) (by omega)
      have hc3 : ((1 + (i4 : Int) : Int) : Rat) / ((12 : Int) : Rat) * 3 ≤ 1 := by
        have h1 : ((1 + (i4 : Int) : Int) : Rat) ≤ ((4 : Int) : Rat) := by exact_mod_cast (show (1 + (i4 : Int) : Int) ≤ 4 by omega)
        have h2 : ((12 : Int) : Rat) = 12 := rfl
        have h3 : ((4 : Int) : Rat) = 4 := rfl
        rw [h2]
        rw [h3] at h1
        generalize ((1 + (i4 : Int) : Int) : Rat) = z at *
        grind
      clear e1
      generalize ((1 + (i4 : Int) : Int) : Rat) / ((12 : Int) : Rat) = c at *
      have X : Tax u w T (T * (1 / w) * c) := ⟨Rat.mul_pos (E_pos hw hT) hc, by
        have h1 := E_pos hw hT
        have h2 : T * (1 / w) * (c * 3) ≤ T * (1 / w) * 1 := Rat.mul_le_mul_of_nonneg_left hc3 (by grind)
        grind, (bE.mul bc).mono (by omega)⟩
      have bt13 : Bz 13 (T * (1 / w) * c) := bE.mul bc
      generalize T * (1 / w) * c = t at *
      have bt := X.bt
      have b1 := bp1 C X
      have b2 := bp2 C X
      have q1 := bsp C X
      have q2 := bbp C X
      have sp3 := sp_lt hu hw hT X.ht X.ht3
      have sp0 := sp_pos hu hw hT X.ht X.ht3
      have splt : t * (w * (1 / (u + w))) < mP u w T := by grind
      (and_intros; simp! [ix_Rt0, ix_Rt1, inv_Rt spos, u_times])
      (and_intros; simp! [u_less, splt])
      (and_intros; simp! [])
      have pdA : Pd (2 ^ 30) 2 3 (.tup [.tup [Rt (t * (w * (1 / (u + w)))), Rt (t * (u * (1 / (u + w))))], Rt (u * (1 / (u + w)))]) := by
        refine ⟨by simp, fun z hz => ?_⟩
        simp only [List.mem_cons, List.not_mem_nil, or_false] at hz
        rcases hz with rfl | rfl
        · exact pd2 q1 q2
        · exact pd_Rt ((bu.mul bi).mono (by omega)) (by decide)
      (and_intros; simp! [ix_Rt0, ix_Rt1, inv_Rt spos, u_times, a_borne C X, c_share C X, u_same pdA])
      (and_intros; simp! [])
      -- what is lost
      (and_intros; simp! [c_vs C bm (show 13 ≤ 3000 by decide), c_ewt C X, u_minus])
      (and_intros; simp! [c_lost C X])
      have X2 : Tax u w T (t * (1 / 2)) := ⟨by have := X.ht; grind, by have := X.ht; have := X.ht3; grind, (bt13.mul bz_half).mono (by omega)⟩
      have hq := c_half C X X2
      have l1 : Bz 66 (u * mP u w T - u * pP u w T t) := ((bu.mul bm).sub (bu.mul b1)).mono (by omega)
      have l2 : Bz 88 (t * (u * mP u w T - u * pP u w T t) * (1 / 2)) := ((bt.mul l1).mul bz_half).mono (by omega)
      have bh : Sz (1 / 2) := bz_half.sz (by decide)
      have bq : Sz (1 / 4) := bz_quart.sz (by decide)
      have l1' := l1.sz (show 66 ≤ 4000 by decide)
      have l2' := l2.sz (show 88 ≤ 4000 by decide)
      have l3' := (bt.mul l1).sz (show _ ≤ 4000 by decide)
      (and_intros; simp! [Rt_half, Rt_quart, u_times, c_lost C X2, hq])
      (and_intros; simp! [])
      -- handed over by sellers
      have eO : (.tup [.tup [.tup [.int 0, .int 1], .tup [.int 0, .int 1], .tup [.int 0, .int 1]], .tup [Rt t, .tup [.int 0, .int 1], Rt u]] : D) = rwD (oR u t) := rfl
      (and_intros; simp! [eO])
      obtain ⟨hi3, e3⟩ := c_meet3 C X (show 12 ≤ K by omega)
      (and_intros; simp! [e3, ix_mp])
      have hpt : pP u w T t + t - t = pP u w T t := by grind
      have epair : pairD (some (pP u w T t, pP u w T t + t)) = .tup [Rt (pP u w T t), Rt (pP u w T t + t)] := rfl
      (and_intros; simp! [u_minus, hpt, c_pwt C X, epair, u_same (pd2 b1 b2)])
      (and_intros; simp! [])
      -- sellers joined
      (and_intros; simp! [])
      refine run_compD (w := fun (i : Nat) => .int i) (fun v => ∃ r, v = rwD r ∧ SupRow r) ?_ fun a => ⟨_, rfl, fun b => ?_⟩
      rotate_left
      · simp! []
        exact r_supply (by omega) fun r b' hr => ⟨r, rfl, hr⟩
      simp! []
      refine r_draw (by omega) (by omega) (by omega) fun i5 b hi5 => ?_
      have e5 : (1 : Int) + (i5 : Int) = ((i5 + 1 : Nat) : Int) := by omega
      simp! [e5]
      refine ⟨List.range (i5 + 1), ran_natI (by omega), by rw [List.length_range]; omega, fun vs b' hvl hvs => ?_⟩
      obtain ⟨rs, rfl, hrl, hrs⟩ := exists_mapD hvs
      have hrl3 : rs.length ≤ 3 := by rw [List.length_range] at hvl; omega
      obtain ⟨j1', j2, j3, j4, j5, j6, j7, j8⟩ := c_join C hrs hrl3
      have ej : bop .add (.lst [rwD (sR u)]) (.lst (rs.map rwD)) = some (.lst ((sR u :: rs).map rwD)) := by
        rw [bop_addL (by rw [lim_eq, List.length_map]; simp only [List.length_cons, List.length_nil]; omega)]; rfl
      simp only [List.map_cons] at ej j1'
      (and_intros; simp! [ej, j1'])
      (and_intros; simp! [])
      refine r_some (lo := 0) (hi := 15) (by decide) (by decide) (by omega) fun i6 j6' b6 g1 g2 g3 g4 => ?_
      have bx : Bz 4 (((i6 : Int) : Rat) / ((j6' : Int) : Rat)) := Bz.of (by omega) (show _ < 16 by omega) (show _ < 16 by omega)
      have x0 : (0 : Rat) ≤ ((i6 : Int) : Rat) / ((j6' : Int) : Rat) := div_nonneg' g3
      generalize ((i6 : Int) : Rat) / ((j6' : Int) : Rat) = x at *
      have v0 : 0 ≤ val (joinR (sR u :: rs)) 0 := by have := j8 0 Rat.le_refl; grind
      have zx : ∀ r ∈ sR u :: rs, RB 20 r ∧ Row r ∧ r.length ≤ 4 := by
        intro r hr
        rcases List.mem_cons.mp hr with rfl | hr
        · exact ⟨C.rs.mono (by decide), sR_row u, by show 1 ≤ 4; decide⟩
        · exact ⟨(hrs r hr).zr.rb (by decide) (by decide) (by decide) (by decide), (hrs r hr).row, (hrs r hr).len⟩
      have et : call P K "_law_total" [.lst ((sR u :: rs).map fun r => Rt (val r x))] = ret (Rt (sm ((sR u :: rs).map fun r => val r x))) := by
        refine s_ltotal (xs := (sR u :: rs).map fun r => val r x) (by show some _ = _; rw [List.map_map]; rfl) (m := 66) (fun y hy => ?_) (by rw [List.length_map, List.length_cons]; omega) (by omega)
        obtain ⟨r, hr, rfl⟩ := List.mem_map.mp hy
        exact ((zx r hr).1.val (zx r hr).2.1.ne bx)
      (and_intros; simp! [s_is_supply j3 j4 j5 v0 j2 (by omega), ej])
      rw [comp_map (l := sR u :: rs) rwD (fun r => Rt (val r x)) (by rw [lim_eq, List.length_cons]; omega) (by simp! [ej]) fun r hr => by
        obtain ⟨z1, z2, z3⟩ := zx r hr
        simp! [s_lat z2.ne z2.asc (show (Rw.hd r).s ≤ x by rw [z2.hd]; exact x0) z1 bx (by omega)]]
      rw [← j7 x x0] at et
      simp only [List.map_cons] at et
      simp! [s_value_at j3.ne j2 bx, et]
      (and_intros; simp! [])
      -- the lower meeting
      obtain ⟨m1, m2⟩ := c_meetA C j2 j3 j4 j5 j6 (show 12 ≤ K by omega)
      (and_intros; simp! [m1])
      have hlow := fun lo hi h => lower_ok C j3 j4 j5 j8 (lo := lo) (hi := hi) h
      have hfb : ∀ lo hi, mpR (excR (joinR (sR u :: rs)) (dR w T)) = some (lo, hi) → Bz 523 lo := by
        intro lo hi h
        have : fpR (excR (joinR (sR u :: rs)) (dR w T)) = some lo := mpR_fp h
        exact fpR_bz m2 this
      generalize mpR (excR (joinR (sR u :: rs)) (dR w T)) = om at *
      rcases om with _ | ⟨lo, hi⟩
      · (and_intros; simp! [isSame_mp, Option.isNone_none])
        (and_intros; simp! [])
        exact tail (c6 := .un) (c7 := .un) (c8 := .un) (c10 := .un) hK C b6
      · obtain ⟨g1, g2, g3⟩ := hlow lo hi rfl
        have blo := hfb lo hi rfl
        have bvl := (j2.val j3.ne blo).sz (show _ ≤ 4000 by decide)
        (and_intros; simp! [isSame_mp, Option.isNone_some, ix_mp, u_less, g2, s_value_at j3.ne j2 blo, c_vs C bm (show 13 ≤ 3000 by decide), g3])
        (and_intros; simp! [])
        exact tail (c6 := .un) (c7 := .un) (c8 := .un) (c10 := .un) hK C b6
    · rintro ρ b ⟨c2, c3, c4, c5, c6, c7, c8, c9, c10, c11, c12, c13, c14, c15, c16, c17, c18, c19, c20, c21, c22, c23, c24, c25, c26, c27, c28, rfl⟩
      (and_intros; simp! [])
theorem main (b : Bx) : ∃ ρ' b', exs P.gl (call P 200) f_law.body (.un :: .im .box :: List.replicate (f_law.names.length - 2) .un) b = .ok (.rt (.bl true), ρ') b' := by
  obtain ⟨⟨fl, ρ'⟩, b', e, h⟩ := mainK b 200 (by decide)
  have h : fl = .rt (.bl true) := h
  subst h
  exact ⟨ρ', b', e⟩
end K94

set_option autoImplicit false
set_option linter.all false
set_option maxRecDepth 100000
set_option maxHeartbeats 4000000
namespace K94
open PySem PySem.Spec PyProof.Rows L2 PL
def top (i : Nat) : Stmt := PySem.Challenge.pw_taxbands_k94_whole_shares_of_a_tax.main.body.getD i (.Pass ⟨0, 0, 0, 0⟩)
theorem c_is_whole : chkSs ar fr (f_is_whole.names.map sx) f_is_whole.body (defScope (top 5)) (defBody (top 5)) = true := by decide +kernel
theorem c_common_divisor : chkSs ar fr (f_common_divisor.names.map sx) f_common_divisor.body (defScope (top 8)) (defBody (top 8)) = true := by decide +kernel
theorem c_is_ratio : chkSs ar fr (f_is_ratio.names.map sx) f_is_ratio.body (defScope (top 9)) (defBody (top 9)) = true := by decide +kernel
theorem c_ratio : chkSs ar fr (f_ratio.names.map sx) f_ratio.body (defScope (top 10)) (defBody (top 10)) = true := by decide +kernel
theorem c_plus : chkSs ar fr (f_plus.names.map sx) f_plus.body (defScope (top 11)) (defBody (top 11)) = true := by decide +kernel
theorem c_minus : chkSs ar fr (f_minus.names.map sx) f_minus.body (defScope (top 12)) (defBody (top 12)) = true := by decide +kernel
theorem c_times : chkSs ar fr (f_times.names.map sx) f_times.body (defScope (top 13)) (defBody (top 13)) = true := by decide +kernel
theorem c_over : chkSs ar fr (f_over.names.map sx) f_over.body (defScope (top 14)) (defBody (top 14)) = true := by decide +kernel
theorem c_less : chkSs ar fr (f_less.names.map sx) f_less.body (defScope (top 15)) (defBody (top 15)) = true := by decide +kernel
theorem c_sum_of : chkSs ar fr (f_sum_of.names.map sx) f_sum_of.body (defScope (top 16)) (defBody (top 16)) = true := by decide +kernel
theorem c_is_piece : chkSs ar fr (f_is_piece.names.map sx) f_is_piece.body (defScope (top 19)) (defBody (top 19)) = true := by decide +kernel
theorem c_is_row : chkSs ar fr (f_is_row.names.map sx) f_is_row.body (defScope (top 20)) (defBody (top 20)) = true := by decide +kernel
theorem c_along : chkSs ar fr (f_along.names.map sx) f_along.body (defScope (top 21)) (defBody (top 21)) = true := by decide +kernel
theorem c_limited : chkSs ar fr (f_limited.names.map sx) f_limited.body (defScope (top 22)) (defBody (top 22)) = true := by decide +kernel
theorem c_normal : chkSs ar fr (f_normal.names.map sx) f_normal.body (defScope (top 23)) (defBody (top 23)) = true := by decide +kernel
theorem c_piece_at : chkSs ar fr (f_piece_at.names.map sx) f_piece_at.body (defScope (top 24)) (defBody (top 24)) = true := by decide +kernel
theorem c_value_at : chkSs ar fr (f_value_at.names.map sx) f_value_at.body (defScope (top 25)) (defBody (top 25)) = true := by decide +kernel
theorem c_left_value : chkSs ar fr (f_left_value.names.map sx) f_left_value.body (defScope (top 26)) (defBody (top 26)) = true := by decide +kernel
theorem c_is_steady : chkSs ar fr (f_is_steady.names.map sx) f_is_steady.body (defScope (top 27)) (defBody (top 27)) = true := by decide +kernel
theorem c_sorted_ratios : chkSs ar fr (f_sorted_ratios.names.map sx) f_sorted_ratios.body (defScope (top 28)) (defBody (top 28)) = true := by decide +kernel
theorem c_all_starts : chkSs ar fr (f_all_starts.names.map sx) f_all_starts.body (defScope (top 29)) (defBody (top 29)) = true := by decide +kernel
theorem c_slope_at : chkSs ar fr (f_slope_at.names.map sx) f_slope_at.body (defScope (top 30)) (defBody (top 30)) = true := by decide +kernel
theorem c_added : chkSs ar fr (f_added.names.map sx) f_added.body (defScope (top 31)) (defBody (top 31)) = true := by decide +kernel
theorem c_scaled : chkSs ar fr (f_scaled.names.map sx) f_scaled.body (defScope (top 32)) (defBody (top 32)) = true := by decide +kernel
theorem c_moved : chkSs ar fr (f_moved.names.map sx) f_moved.body (defScope (top 33)) (defBody (top 33)) = true := by decide +kernel
theorem c_jumps_down : chkSs ar fr (f_jumps_down.names.map sx) f_jumps_down.body (defScope (top 35)) (defBody (top 35)) = true := by decide +kernel
theorem c_does_rise : chkSs ar fr (f_does_rise.names.map sx) f_does_rise.body (defScope (top 36)) (defBody (top 36)) = true := by decide +kernel
theorem c_is_supply : chkSs ar fr (f_is_supply.names.map sx) f_is_supply.body (defScope (top 38)) (defBody (top 38)) = true := by decide +kernel
theorem c_excess : chkSs ar fr (f_excess.names.map sx) f_excess.body (defScope (top 39)) (defBody (top 39)) = true := by decide +kernel
theorem c_meeting_prices : chkSs ar fr (f_meeting_prices.names.map sx) f_meeting_prices.body (defScope (top 40)) (defBody (top 40)) = true := by decide +kernel
theorem c_spots_of : chkSs ar fr (f_spots_of.names.map sx) f_spots_of.body (defScope (top 41)) (defBody (top 41)) = true := by decide +kernel
theorem c_first_price : chkSs ar fr (f_first_price.names.map sx) f_first_price.body (defScope (top 42)) (defBody (top 42)) = true := by decide +kernel
theorem c_zero_before : chkSs ar fr (f_zero_before.names.map sx) f_zero_before.body (defScope (top 43)) (defBody (top 43)) = true := by decide +kernel
theorem c_last_zero : chkSs ar fr (f_last_zero.names.map sx) f_last_zero.body (defScope (top 44)) (defBody (top 44)) = true := by decide +kernel
theorem c_exchanged : chkSs ar fr (f_exchanged.names.map sx) f_exchanged.body (defScope (top 45)) (defBody (top 45)) = true := by decide +kernel
theorem c_joined_supply : chkSs ar fr (f_joined_supply.names.map sx) f_joined_supply.body (defScope (top 46)) (defBody (top 46)) = true := by decide +kernel
theorem c_with_more : chkSs ar fr (f_with_more.names.map sx) f_with_more.body (defScope (top 47)) (defBody (top 47)) = true := by decide +kernel
theorem c_least_change : chkSs ar fr (f_least_change.names.map sx) f_least_change.body (defScope (top 48)) (defBody (top 48)) = true := by decide +kernel
theorem c_scaled_to_meet : chkSs ar fr (f_scaled_to_meet.names.map sx) f_scaled_to_meet.body (defScope (top 49)) (defBody (top 49)) = true := by decide +kernel
theorem c_halfway : chkSs ar fr (f_halfway.names.map sx) f_halfway.body (defScope (top 50)) (defBody (top 50)) = true := by decide +kernel
theorem c_area_between : chkSs ar fr (f_area_between.names.map sx) f_area_between.body (defScope (top 52)) (defBody (top 52)) = true := by decide +kernel
theorem c_choking_price : chkSs ar fr (f_choking_price.names.map sx) f_choking_price.body (defScope (top 53)) (defBody (top 53)) = true := by decide +kernel
theorem c_sellers_gain : chkSs ar fr (f_sellers_gain.names.map sx) f_sellers_gain.body (defScope (top 54)) (defBody (top 54)) = true := by decide +kernel
theorem c_buyers_gain : chkSs ar fr (f_buyers_gain.names.map sx) f_buyers_gain.body (defScope (top 55)) (defBody (top 55)) = true := by decide +kernel
theorem c_both_gain : chkSs ar fr (f_both_gain.names.map sx) f_both_gain.body (defScope (top 56)) (defBody (top 56)) = true := by decide +kernel
theorem c_with_tax : chkSs ar fr (f_with_tax.names.map sx) f_with_tax.body (defScope (top 58)) (defBody (top 58)) = true := by decide +kernel
theorem c_prices_with_tax : chkSs ar fr (f_prices_with_tax.names.map sx) f_prices_with_tax.body (defScope (top 59)) (defBody (top 59)) = true := by decide +kernel
theorem c_exchanged_with_tax : chkSs ar fr (f_exchanged_with_tax.names.map sx) f_exchanged_with_tax.body (defScope (top 60)) (defBody (top 60)) = true := by decide +kernel
theorem c_borne : chkSs ar fr (f_borne.names.map sx) f_borne.body (defScope (top 61)) (defBody (top 61)) = true := by decide +kernel
theorem c_share_of_buyers : chkSs ar fr (f_share_of_buyers.names.map sx) f_share_of_buyers.body (defScope (top 62)) (defBody (top 62)) = true := by decide +kernel
theorem c_lost_by_tax : chkSs ar fr (f_lost_by_tax.names.map sx) f_lost_by_tax.body (defScope (top 63)) (defBody (top 63)) = true := by decide +kernel
theorem c_gains_with : chkSs ar fr (f_gains_with.names.map sx) f_gains_with.body (defScope (top 64)) (defBody (top 64)) = true := by decide +kernel
theorem c__law_same : chkSs ar fr (f__law_same.names.map sx) f__law_same.body (defScope (top 69)) (defBody (top 69)) = true := by decide +kernel
theorem c__law_divisor : chkSs ar fr (f__law_divisor.names.map sx) f__law_divisor.body (defScope (top 70)) (defBody (top 70)) = true := by decide +kernel
theorem c__law_ratio : chkSs ar fr (f__law_ratio.names.map sx) f__law_ratio.body (defScope (top 71)) (defBody (top 71)) = true := by decide +kernel
theorem c__law_plus : chkSs ar fr (f__law_plus.names.map sx) f__law_plus.body (defScope (top 72)) (defBody (top 72)) = true := by decide +kernel
theorem c__law_minus : chkSs ar fr (f__law_minus.names.map sx) f__law_minus.body (defScope (top 73)) (defBody (top 73)) = true := by decide +kernel
theorem c__law_times : chkSs ar fr (f__law_times.names.map sx) f__law_times.body (defScope (top 74)) (defBody (top 74)) = true := by decide +kernel
theorem c__law_less : chkSs ar fr (f__law_less.names.map sx) f__law_less.body (defScope (top 75)) (defBody (top 75)) = true := by decide +kernel
theorem c__law_some : chkSs ar fr (f__law_some.names.map sx) f__law_some.body (defScope (top 76)) (defBody (top 76)) = true := by decide +kernel
theorem c__law_total : chkSs ar fr (f__law_total.names.map sx) f__law_total.body (defScope (top 77)) (defBody (top 77)) = true := by decide +kernel
theorem c__law_at : chkSs ar fr (f__law_at.names.map sx) f__law_at.body (defScope (top 78)) (defBody (top 78)) = true := by decide +kernel
theorem c__law_supply : chkSs ar fr (f__law_supply.names.map sx) f__law_supply.body (defScope (top 79)) (defBody (top 79)) = true := by decide +kernel
theorem c_law : chkSs ar fr (f_law.names.map sx) f_law.body (defScope (top 80)) ((defBody (top 80)).drop 1) = true := by decide +kernel
section
variable {P : Program} {w : World} {K : PySem.W.Frag} {mg : PySem.Str → Option Value} {base : Heap} {f fM : Addr} {fd fdM : FuncData}
theorem sc_box : FnScope ["script"] ["script"] (defScope (top 66)) := C8.fnScope_by (by decide +kernel)
theorem sc_load : FnScope ["box", "cells", "cell", "size", "first", "second"] ["box"] (defScope (top 67)) := C8.fnScope_by (by decide +kernel)
theorem sc_draw : FnScope ["box", "many", "digit"] ["box", "many"] (defScope (top 68)) := C8.fnScope_by (by decide +kernel)
theorem ok_load (F : FunD K "_law_load" "_law_load" (defArgs (top 67)) (defBody (top 67)) (defScope (top 67)) [] [] f fd) (g1 : mg "int" = none) (g2 : mg "len" = none) : FnOk P w K mg base CX0 1 f fd ["box"] spLoad := by
  refine F.ok sc_load (fun vs H Q E ⟨a, _, n, h, _⟩ => by rw [h]; rfl) (fun cdv A outer s H vs Q E hr h => ⟨t_load2 K, PSs.nox
    (pss_cons (ps_set (i := 1) sc_load.nd rfl (Or.inl rfl) (pe_ix ix_list (pv 0) pe_int (fun _ _ => rfl)))
    (pss_cons (ps_if (pt_cmpR op_gt (pe_callB call_len_seq rfl g2 (by decide +kernel) (pa_cons (pv 1) pa_nil)) pe_int (nomark _))
       (pss_cons (ps_set (i := 2) sc_load.nd rfl (Or.inl rfl) (pe_callTy call_int1 rfl g1 (by decide +kernel) (pa_cons (pe_bm (T := "list") (id := "list.pop") PySem.F.plainAttrs_list PySem.F.slot_list_pop PySem.F.type_list_pop mt_popAt (pv 1) (pa_cons pe_int pa_nil)) pa_nil)))
       (pss_cons (ps_set (i := 3) sc_load.nd rfl (Or.inl rfl) (pe_ifExp (pt_cmpR op_ge (pv 2) pe_int (nomark _)) (pe_op op_mul pe_int (pv 2)) (pe_op op_sub (pe_op op_mul (pe_un un_neg pe_int) (pv 2)) pe_int)))
       (pss_cons (ps_if (pt_cmpR op_ge (pv 3) pe_int (nomark _)) (pss_one (ps_ret (pv 3))) pss_nil)
       (pss_one (ps_asg (pe_op op_mod (pe_callTy call_int1 rfl g1 (by decide +kernel) (pa_cons (pe_op op_add (pe_op op_add (pe_op op_mul (pe_ix ix_list (pv 0) pe_int (fun _ _ => rfl)) pe_int) (pe_op op_mul (pv 3) pe_int)) pe_int) pa_nil)) pe_int) (pg_sub (pv 0) pe_int set_list))))))
       pss_nil)
    (pss_cons (ps_set (i := 4) sc_load.nd rfl (Or.inl rfl) (pe_op op_mod (pe_callTy call_int1 rfl g1 (by decide +kernel) (pa_cons (pe_op op_add (pe_op op_mul (pe_ix ix_list (pv 0) pe_int (fun _ _ => rfl)) pe_int) pe_int) pa_nil)) pe_int))
    (pss_cons (ps_set (i := 5) sc_load.nd rfl (Or.inl rfl) (pe_op op_mod (pe_callTy call_int1 rfl g1 (by decide +kernel) (pa_cons (pe_op op_add (pe_op op_mul (pv 4) pe_int) pe_int) pa_nil)) pe_int))
    (pss_cons (ps_asg (pe_op op_mod (pe_callTy call_int1 rfl g1 (by decide +kernel) (pa_cons (pe_op op_add (pe_op op_mul (pv 5) pe_int) pe_int) pa_nil)) pe_int) (pg_sub (pv 0) pe_int set_list))
    (pss_one (ps_ret (pe_op op_add (pe_op op_add (pe_op op_mul (pv 4) pe_int) (pe_op op_mul (pv 5) pe_int)) (pe_ix ix_list (pv 0) pe_int (fun _ _ => rfl)))))))))), pure_load2 h⟩)
theorem ok_box (F : FunD K "_law_box" "_law_box" (defArgs (top 66)) (defBody (top 66)) (defScope (top 66)) [] [] f fd) (g1 : mg "list" = none) (g2 : mg "len" = none) : FnOk P w K mg base CX0 1 f fd ["script"] (spBox K) := by
  refine F.ok sc_box (fun vs H Q E ⟨a, n, h, _⟩ => by rw [h]; rfl) (fun cdv A outer s H vs Q E hr h => ⟨t_box K, PSs.nox
    (pss_one (ps_ret (pe_lst (pa_cons (pe_callTy call_list_of rfl g1 (by decide +kernel) (pa_cons (pe_slice sl_list (pv 0) po_none (po_some pe_int)) pa_nil)) (pa_cons pe_int (pa_cons (pe_op op_add pe_int (pe_callB call_len_seq rfl g2 (by decide +kernel) (pa_cons (pv 0) pa_nil))) pa_nil)))))), pure_box h⟩)
theorem ok_draw (F : FunD K "_law_draw" "_law_draw" (defArgs (top 68)) (defBody (top 68)) (defScope (top 68)) [] [] f fd) (FM : FunD K "_law_load" "_law_load" (defArgs (top 67)) (defBody (top 67)) (defScope (top 67)) [] [] fM fdM) (gM : mg "_law_load" = some (.ref fM))
    (g1 : mg "int" = none) (g2 : mg "len" = none) : FnOk P w K mg base CX0 2 f fd ["box", "many"] spDraw := by
  have GM : FnOk P w K mg base CX0 1 fM fdM ["box"] spLoad := ok_load FM g1 g2
  have bM : Binds K fdM ["box"] [] := FM.bindsN fun _ _ _ _ _ _ us hl => match us, hl with | [_], _ => rfl
  refine F.ok sc_draw (fun vs H Q E ⟨a, _, n, m, h, _⟩ => by rw [h]; rfl) (fun cdv A outer s H vs Q E hr h => ⟨t_draw K, PSs.nox
    (pss_cons (ps_if (pt_cmpR op_lt (pe_ix ix_list (pv 0) pe_int (fun _ _ => rfl)) (pv 1) (nomark _))
      (pss_one (ps_asg (pe_call GM hr rfl gM FM.kp bM .nil pass0 (pa_cons (pv 0) pa_nil)) (pg_sub (pv 0) pe_int set_list)))
      pss_nil)
     (pss_cons (ps_set (i := 2) sc_draw.nd rfl (Or.inl rfl) (pe_op op_mod (pe_callTy call_int1 rfl g1 (by decide +kernel) (pa_cons (pe_ix ix_list (pv 0) pe_int (fun _ _ => rfl)) pa_nil)) (pv 1)))
     (pss_cons (ps_asg (pe_op op_fdivW (pe_ix ix_list (pv 0) pe_int (fun _ _ => rfl)) (pv 1)) (pg_sub (pv 0) pe_int set_list))
     (pss_one (ps_ret (pv 2)))))), pure_draw h⟩)
end

def d_is_whole : He.DefD := ⟨("is_whole", none), "is_whole", "is_whole", defArgs (top 5), defBody (top 5), defScope (top 5), [], []⟩
def d_common_divisor : He.DefD := ⟨("common_divisor", none), "common_divisor", "common_divisor", defArgs (top 8), defBody (top 8), defScope (top 8), [], []⟩
def d_is_ratio : He.DefD := ⟨("is_ratio", none), "is_ratio", "is_ratio", defArgs (top 9), defBody (top 9), defScope (top 9), [], []⟩
def d_ratio : He.DefD := ⟨("ratio", none), "ratio", "ratio", defArgs (top 10), defBody (top 10), defScope (top 10), [], []⟩
def d_plus : He.DefD := ⟨("plus", none), "plus", "plus", defArgs (top 11), defBody (top 11), defScope (top 11), [], []⟩
def d_minus : He.DefD := ⟨("minus", none), "minus", "minus", defArgs (top 12), defBody (top 12), defScope (top 12), [], []⟩
def d_times : He.DefD := ⟨("times", none), "times", "times", defArgs (top 13), defBody (top 13), defScope (top 13), [], []⟩
def d_over : He.DefD := ⟨("over", none), "over", "over", defArgs (top 14), defBody (top 14), defScope (top 14), [], []⟩
def d_less : He.DefD := ⟨("less", none), "less", "less", defArgs (top 15), defBody (top 15), defScope (top 15), [], []⟩
def d_sum_of : He.DefD := ⟨("sum_of", none), "sum_of", "sum_of", defArgs (top 16), defBody (top 16), defScope (top 16), [], []⟩
def d_is_piece : He.DefD := ⟨("is_piece", none), "is_piece", "is_piece", defArgs (top 19), defBody (top 19), defScope (top 19), [], []⟩
def d_is_row : He.DefD := ⟨("is_row", none), "is_row", "is_row", defArgs (top 20), defBody (top 20), defScope (top 20), [], []⟩
def d_along : He.DefD := ⟨("along", none), "along", "along", defArgs (top 21), defBody (top 21), defScope (top 21), [], []⟩
def d_limited : He.DefD := ⟨("limited", none), "limited", "limited", defArgs (top 22), defBody (top 22), defScope (top 22), [], []⟩
def d_normal : He.DefD := ⟨("normal", none), "normal", "normal", defArgs (top 23), defBody (top 23), defScope (top 23), [], []⟩
def d_piece_at : He.DefD := ⟨("piece_at", none), "piece_at", "piece_at", defArgs (top 24), defBody (top 24), defScope (top 24), [], []⟩
def d_value_at : He.DefD := ⟨("value_at", none), "value_at", "value_at", defArgs (top 25), defBody (top 25), defScope (top 25), [], []⟩
def d_left_value : He.DefD := ⟨("left_value", none), "left_value", "left_value", defArgs (top 26), defBody (top 26), defScope (top 26), [], []⟩
def d_is_steady : He.DefD := ⟨("is_steady", none), "is_steady", "is_steady", defArgs (top 27), defBody (top 27), defScope (top 27), [], []⟩
def d_sorted_ratios : He.DefD := ⟨("sorted_ratios", none), "sorted_ratios", "sorted_ratios", defArgs (top 28), defBody (top 28), defScope (top 28), [], []⟩
def d_all_starts : He.DefD := ⟨("all_starts", none), "all_starts", "all_starts", defArgs (top 29), defBody (top 29), defScope (top 29), [], []⟩
def d_slope_at : He.DefD := ⟨("slope_at", none), "slope_at", "slope_at", defArgs (top 30), defBody (top 30), defScope (top 30), [], []⟩
def d_added : He.DefD := ⟨("added", none), "added", "added", defArgs (top 31), defBody (top 31), defScope (top 31), [], []⟩
def d_scaled : He.DefD := ⟨("scaled", none), "scaled", "scaled", defArgs (top 32), defBody (top 32), defScope (top 32), [], []⟩
def d_moved : He.DefD := ⟨("moved", none), "moved", "moved", defArgs (top 33), defBody (top 33), defScope (top 33), [], []⟩
def d_jumps_down : He.DefD := ⟨("jumps_down", none), "jumps_down", "jumps_down", defArgs (top 35), defBody (top 35), defScope (top 35), [], []⟩
def d_does_rise : He.DefD := ⟨("does_rise", none), "does_rise", "does_rise", defArgs (top 36), defBody (top 36), defScope (top 36), [], []⟩
def d_is_supply : He.DefD := ⟨("is_supply", none), "is_supply", "is_supply", defArgs (top 38), defBody (top 38), defScope (top 38), [], []⟩
def d_excess : He.DefD := ⟨("excess", none), "excess", "excess", defArgs (top 39), defBody (top 39), defScope (top 39), [], []⟩
def d_meeting_prices : He.DefD := ⟨("meeting_prices", none), "meeting_prices", "meeting_prices", defArgs (top 40), defBody (top 40), defScope (top 40), [], []⟩
def d_spots_of : He.DefD := ⟨("spots_of", none), "spots_of", "spots_of", defArgs (top 41), defBody (top 41), defScope (top 41), [], []⟩
def d_first_price : He.DefD := ⟨("first_price", none), "first_price", "first_price", defArgs (top 42), defBody (top 42), defScope (top 42), [], []⟩
def d_zero_before : He.DefD := ⟨("zero_before", none), "zero_before", "zero_before", defArgs (top 43), defBody (top 43), defScope (top 43), [], []⟩
def d_last_zero : He.DefD := ⟨("last_zero", none), "last_zero", "last_zero", defArgs (top 44), defBody (top 44), defScope (top 44), [], []⟩
def d_exchanged : He.DefD := ⟨("exchanged", none), "exchanged", "exchanged", defArgs (top 45), defBody (top 45), defScope (top 45), [], []⟩
def d_joined_supply : He.DefD := ⟨("joined_supply", none), "joined_supply", "joined_supply", defArgs (top 46), defBody (top 46), defScope (top 46), [], []⟩
def d_with_more : He.DefD := ⟨("with_more", none), "with_more", "with_more", defArgs (top 47), defBody (top 47), defScope (top 47), [], []⟩
def d_least_change : He.DefD := ⟨("least_change", none), "least_change", "least_change", defArgs (top 48), defBody (top 48), defScope (top 48), [], []⟩
def d_scaled_to_meet : He.DefD := ⟨("scaled_to_meet", none), "scaled_to_meet", "scaled_to_meet", defArgs (top 49), defBody (top 49), defScope (top 49), [], []⟩
def d_halfway : He.DefD := ⟨("halfway", none), "halfway", "halfway", defArgs (top 50), defBody (top 50), defScope (top 50), [], []⟩
def d_area_between : He.DefD := ⟨("area_between", none), "area_between", "area_between", defArgs (top 52), defBody (top 52), defScope (top 52), [], []⟩
def d_choking_price : He.DefD := ⟨("choking_price", none), "choking_price", "choking_price", defArgs (top 53), defBody (top 53), defScope (top 53), [], []⟩
def d_sellers_gain : He.DefD := ⟨("sellers_gain", none), "sellers_gain", "sellers_gain", defArgs (top 54), defBody (top 54), defScope (top 54), [], []⟩
def d_buyers_gain : He.DefD := ⟨("buyers_gain", none), "buyers_gain", "buyers_gain", defArgs (top 55), defBody (top 55), defScope (top 55), [], []⟩
def d_both_gain : He.DefD := ⟨("both_gain", none), "both_gain", "both_gain", defArgs (top 56), defBody (top 56), defScope (top 56), [], []⟩
def d_with_tax : He.DefD := ⟨("with_tax", none), "with_tax", "with_tax", defArgs (top 58), defBody (top 58), defScope (top 58), [], []⟩
def d_prices_with_tax : He.DefD := ⟨("prices_with_tax", none), "prices_with_tax", "prices_with_tax", defArgs (top 59), defBody (top 59), defScope (top 59), [], []⟩
def d_exchanged_with_tax : He.DefD := ⟨("exchanged_with_tax", none), "exchanged_with_tax", "exchanged_with_tax", defArgs (top 60), defBody (top 60), defScope (top 60), [], []⟩
def d_borne : He.DefD := ⟨("borne", none), "borne", "borne", defArgs (top 61), defBody (top 61), defScope (top 61), [], []⟩
def d_share_of_buyers : He.DefD := ⟨("share_of_buyers", none), "share_of_buyers", "share_of_buyers", defArgs (top 62), defBody (top 62), defScope (top 62), [], []⟩
def d_lost_by_tax : He.DefD := ⟨("lost_by_tax", none), "lost_by_tax", "lost_by_tax", defArgs (top 63), defBody (top 63), defScope (top 63), [], []⟩
def d_gains_with : He.DefD := ⟨("gains_with", none), "gains_with", "gains_with", defArgs (top 64), defBody (top 64), defScope (top 64), [], []⟩
def d__law_box : He.DefD := ⟨("_law_box", none), "_law_box", "_law_box", defArgs (top 66), defBody (top 66), defScope (top 66), [], []⟩
def d__law_load : He.DefD := ⟨("_law_load", none), "_law_load", "_law_load", defArgs (top 67), defBody (top 67), defScope (top 67), [], []⟩
def d__law_draw : He.DefD := ⟨("_law_draw", none), "_law_draw", "_law_draw", defArgs (top 68), defBody (top 68), defScope (top 68), [], []⟩
def d__law_same : He.DefD := ⟨("_law_same", none), "_law_same", "_law_same", defArgs (top 69), defBody (top 69), defScope (top 69), [], []⟩
def d__law_divisor : He.DefD := ⟨("_law_divisor", none), "_law_divisor", "_law_divisor", defArgs (top 70), defBody (top 70), defScope (top 70), [], []⟩
def d__law_ratio : He.DefD := ⟨("_law_ratio", none), "_law_ratio", "_law_ratio", defArgs (top 71), defBody (top 71), defScope (top 71), [], []⟩
def d__law_plus : He.DefD := ⟨("_law_plus", none), "_law_plus", "_law_plus", defArgs (top 72), defBody (top 72), defScope (top 72), [], []⟩
def d__law_minus : He.DefD := ⟨("_law_minus", none), "_law_minus", "_law_minus", defArgs (top 73), defBody (top 73), defScope (top 73), [], []⟩
def d__law_times : He.DefD := ⟨("_law_times", none), "_law_times", "_law_times", defArgs (top 74), defBody (top 74), defScope (top 74), [], []⟩
def d__law_less : He.DefD := ⟨("_law_less", none), "_law_less", "_law_less", defArgs (top 75), defBody (top 75), defScope (top 75), [], []⟩
def d__law_some : He.DefD := ⟨("_law_some", none), "_law_some", "_law_some", defArgs (top 76), defBody (top 76), defScope (top 76), [], []⟩
def d__law_total : He.DefD := ⟨("_law_total", none), "_law_total", "_law_total", defArgs (top 77), defBody (top 77), defScope (top 77), [], []⟩
def d__law_at : He.DefD := ⟨("_law_at", none), "_law_at", "_law_at", defArgs (top 78), defBody (top 78), defScope (top 78), [], []⟩
def d__law_supply : He.DefD := ⟨("_law_supply", none), "_law_supply", "_law_supply", defArgs (top 79), defBody (top 79), defScope (top 79), [], []⟩
def d_law : He.DefD := ⟨("law", none), "law", "law", defArgs (top 80), defBody (top 80), defScope (top 80), [], []⟩
def fn0 : List He.DefD := [d_is_whole, d_common_divisor, d_is_ratio, d_ratio, d_plus, d_minus, d_times, d_over, d_less, d_sum_of, d_is_piece, d_is_row, d_along, d_limited, d_normal, d_piece_at, d_value_at, d_left_value, d_is_steady, d_sorted_ratios, d_all_starts, d_slope_at, d_added, d_scaled]
def fa0 : List He.Fa := ([.glo "is_whole", .glo "common_divisor", .glo "is_ratio", .glo "ratio", .glo "plus", .glo "minus", .glo "times", .glo "over", .glo "less", .glo "sum_of", .glo "is_piece", .glo "is_row", .glo "along", .glo "limited", .glo "normal", .glo "piece_at", .glo "value_at", .glo "left_value", .glo "is_steady", .glo "sorted_ratios"] : List He.Fa) ++ ([.glo "all_starts", .glo "slope_at", .glo "added", .glo "scaled"] : List He.Fa)
def fn1 : List He.DefD := [d_moved, d_jumps_down, d_does_rise, d_is_supply, d_excess, d_meeting_prices, d_spots_of, d_first_price, d_zero_before, d_last_zero, d_exchanged, d_joined_supply, d_with_more, d_least_change, d_scaled_to_meet, d_halfway, d_area_between, d_choking_price, d_sellers_gain, d_buyers_gain, d_both_gain, d_with_tax, d_prices_with_tax, d_exchanged_with_tax]
def fa1 : List He.Fa := ([.glo "moved", .glo "jumps_down", .glo "does_rise", .glo "is_supply", .glo "excess", .glo "meeting_prices", .glo "spots_of", .glo "first_price", .glo "zero_before", .glo "last_zero", .glo "exchanged", .glo "joined_supply", .glo "with_more", .glo "least_change", .glo "scaled_to_meet", .glo "halfway", .glo "area_between", .glo "choking_price", .glo "sellers_gain", .glo "buyers_gain"] : List He.Fa) ++ ([.glo "both_gain", .glo "with_tax", .glo "prices_with_tax", .glo "exchanged_with_tax"] : List He.Fa)
def fn2 : List He.DefD := [d_borne, d_share_of_buyers, d_lost_by_tax, d_gains_with, d__law_box, d__law_load, d__law_draw, d__law_same, d__law_divisor, d__law_ratio, d__law_plus, d__law_minus, d__law_times, d__law_less, d__law_some, d__law_total, d__law_at, d__law_supply, d_law]
def fa2 : List He.Fa := ([.glo "borne", .glo "share_of_buyers", .glo "lost_by_tax", .glo "gains_with", .glo "_law_box", .glo "_law_load", .glo "_law_draw", .glo "_law_same", .glo "_law_divisor", .glo "_law_ratio", .glo "_law_plus", .glo "_law_minus", .glo "_law_times", .glo "_law_less", .glo "_law_some", .glo "_law_total", .glo "_law_at", .glo "_law_supply", .glo "law"] : List He.Fa)
def faF : List He.Fa := ([.free "ValueError", .free "abs", .free "all", .free "any", .free "bool", .free "enumerate", .free "int", .free "isinstance", .free "len", .free "list", .free "range", .free "str", .free "tuple", .free "zip", .glo "ZERO", .int "MAX_PIECES" (60)] : List He.Fa)
def ex (K : PySem.W.Frag) : Bool := He.tupB K "ZERO" [.int (0), .int (1)]
def ex0 (K : PySem.W.Frag) : Bool := true
def loose : List PySem.Str := ([("BandError" : PySem.Str), ("NotAllowed" : PySem.Str), ("TooMany" : PySem.Str), ("is_whole" : PySem.Str), ("ZERO" : PySem.Str), ("common_divisor" : PySem.Str), ("is_ratio" : PySem.Str), ("ratio" : PySem.Str), ("plus" : PySem.Str), ("minus" : PySem.Str), ("times" : PySem.Str), ("over" : PySem.Str), ("less" : PySem.Str), ("sum_of" : PySem.Str), ("MAX_PIECES" : PySem.Str), ("is_piece" : PySem.Str), ("is_row" : PySem.Str), ("along" : PySem.Str), ("limited" : PySem.Str), ("normal" : PySem.Str)] : List PySem.Str) ++ ([("piece_at" : PySem.Str), ("value_at" : PySem.Str), ("left_value" : PySem.Str), ("is_steady" : PySem.Str), ("sorted_ratios" : PySem.Str), ("all_starts" : PySem.Str), ("slope_at" : PySem.Str), ("added" : PySem.Str), ("scaled" : PySem.Str), ("moved" : PySem.Str), ("jumps_down" : PySem.Str), ("does_rise" : PySem.Str), ("is_supply" : PySem.Str), ("excess" : PySem.Str), ("meeting_prices" : PySem.Str), ("spots_of" : PySem.Str), ("first_price" : PySem.Str), ("zero_before" : PySem.Str), ("last_zero" : PySem.Str), ("exchanged" : PySem.Str)] : List PySem.Str) ++ ([("joined_supply" : PySem.Str), ("with_more" : PySem.Str), ("least_change" : PySem.Str), ("scaled_to_meet" : PySem.Str), ("halfway" : PySem.Str), ("area_between" : PySem.Str), ("choking_price" : PySem.Str), ("sellers_gain" : PySem.Str), ("buyers_gain" : PySem.Str), ("both_gain" : PySem.Str), ("with_tax" : PySem.Str), ("prices_with_tax" : PySem.Str), ("exchanged_with_tax" : PySem.Str), ("borne" : PySem.Str), ("share_of_buyers" : PySem.Str), ("lost_by_tax" : PySem.Str), ("gains_with" : PySem.Str), ("_law_box" : PySem.Str), ("_law_load" : PySem.Str), ("_law_draw" : PySem.Str)] : List PySem.Str) ++ ([("_law_same" : PySem.Str), ("_law_divisor" : PySem.Str), ("_law_ratio" : PySem.Str), ("_law_plus" : PySem.Str), ("_law_minus" : PySem.Str), ("_law_times" : PySem.Str), ("_law_less" : PySem.Str), ("_law_some" : PySem.Str), ("_law_total" : PySem.Str), ("_law_at" : PySem.Str), ("_law_supply" : PySem.Str)] : List PySem.Str)
abbrev R : PySem.W.OpenRow := PySem.W.OpenLaw.row PySem.Challenge.rw_taxbands_k94_whole_shares_of_a_tax
structure Cs (w : World) (h : Heap) (K : PySem.W.Frag) : Prop where
  s0 : He.SaysX fa0 fn0 [] [] ex0 w h K
  s1 : He.SaysX fa1 fn1 [] [] ex0 w h K
  s2 : He.SaysX fa2 fn2 [] [] ex0 w h K
  sF : He.SaysX faF [] [] [] ex w h K
def hk : PySem.W.Hook where
  α := He.AlX × He.AlX × He.AlX × He.AlX
  obs := fun s => (He.obsX 4 fa0 fn0 [] [] ex0 s.heap.get?, He.obsX 4 fa1 fn1 [] [] ex0 s.heap.get?, He.obsX 4 fa2 fn2 [] [] ex0 s.heap.get?, He.obsX 4 faF [] [] [] ex s.heap.get?)
  val := fun w => (He.valX fn0 [] w, He.valX fn1 [] w, He.valX fn2 [] w, He.valX [] [] w)
  says := fun w h => ∃ K : PySem.W.Frag, K.In h ∧ Cs w h K
  of := fun _ _ e => ⟨_, He.frT_in, ⟨He.saysX_of (congrArg (fun z => z.1) e), He.saysX_of (congrArg (fun z => z.2.1) e), He.saysX_of (congrArg (fun z => z.2.2.1) e), He.saysX_of (congrArg (fun z => z.2.2.2) e)⟩⟩
  keeps := fun _ _ _ ⟨K, hK, c⟩ k => ⟨K, PySem.W.Frag.In.keeps hK k, ⟨⟨c.s0.t, c.s0.more, c.s0.hd, c.s0.out, fun p hp => k _ _ (c.s0.empty p hp)⟩, ⟨c.s1.t, c.s1.more, c.s1.hd, c.s1.out, fun p hp => k _ _ (c.s1.empty p hp)⟩, ⟨c.s2.t, c.s2.more, c.s2.hd, c.s2.out, fun p hp => k _ _ (c.s2.empty p hp)⟩, ⟨c.sF.t, c.sF.more, c.sF.hd, c.sF.out, fun p hp => k _ _ (c.sF.empty p hp)⟩⟩⟩
def ob (s : PySem.W.SharedT) : hk.α := (He.obsX 4 fa0 fn0 [] [] ex0 (HandSHeadRun.getT s), He.obsX 4 fa1 fn1 [] [] ex0 (HandSHeadRun.getT s), He.obsX 4 fa2 fn2 [] [] ex0 (HandSHeadRun.getT s), He.obsX 4 faF [] [] [] ex (HandSHeadRun.getT s))
theorem ob_eq (s : PySem.W.SharedT) : ob s = hk.obs s.abs := by
  have e : HandSHeadRun.getT s = s.abs.heap.get? := funext (HandSHeadRun.getT_eq s)
  unfold ob; rw [e]; rfl
noncomputable abbrev EF (w : World) (os : PySem.OsState) := HandSHeadRun.endF (HandSHeadRun.stepQ (HandSHeadRun.denQ HandSHeadRun.tabQ) R.prog w) 20000 R.prog w os
set_option maxHeartbeats 0 in
theorem runL (w : World) (os : PySem.OsState) : (EF w os).map (fun s => (HandSHeadRun.looksF R.prog (PySem.W.boot_heap w.params) s.abs, HandSHeadRun.seenQ (PySem.W.view R.prog [80]) loose (PySem.importedModules R.prog.main.body) (fun s => PySem.W.xlAt (PySem.W.view R.prog [80]) [] s && PySem.W.recOk R.toRowW.records s) s.abs)) = some (true, PySem.W.openGood (PySem.W.view R.prog [80]) loose) := by kernel_rfl
set_option maxHeartbeats 0 in
theorem run_s0 (w : World) (os : PySem.OsState) : (EF w os).map (fun s => He.obsX 4 fa0 fn0 [] [] ex0 (HandSHeadRun.getT s)) = some (He.valX fn0 [] w) := by kernel_rfl
set_option maxHeartbeats 0 in
theorem run_s1 (w : World) (os : PySem.OsState) : (EF w os).map (fun s => He.obsX 4 fa1 fn1 [] [] ex0 (HandSHeadRun.getT s)) = some (He.valX fn1 [] w) := by kernel_rfl
set_option maxHeartbeats 0 in
theorem run_s2 (w : World) (os : PySem.OsState) : (EF w os).map (fun s => He.obsX 4 fa2 fn2 [] [] ex0 (HandSHeadRun.getT s)) = some (He.valX fn2 [] w) := by kernel_rfl
set_option maxHeartbeats 0 in
theorem run_sF (w : World) (os : PySem.OsState) : (EF w os).map (fun s => He.obsX 4 faF [] [] [] ex (HandSHeadRun.getT s)) = some (He.valX [] [] w) := by kernel_rfl
theorem map2 {α β γ : Type} {x : Option α} {f : α → β} {g : α → γ} {b : β} {c : γ} (h1 : x.map f = some b) (h2 : x.map g = some c) : x.map (fun s => (f s, g s)) = some (b, c) := by
  cases x with
  | none => cases h1
  | some a => simp only [Option.map_some, Option.some.injEq] at h1 h2 ⊢; rw [h1, h2]
theorem map3 {α β γ δ : Type} {x : Option α} {f : α → β} {g : α → γ} {k : α → δ} {b : β} {c : γ} {d : δ} (h1 : x.map (fun s => (f s, g s)) = some (b, c)) (h2 : x.map k = some d) : x.map (fun s => (f s, g s, k s)) = some (b, c, d) := by
  cases x with
  | none => cases h1
  | some a => simp only [Option.map_some, Option.some.injEq, Prod.mk.injEq] at h1 h2 ⊢; exact ⟨h1.1, h1.2, h2⟩
theorem run (w : World) : HandSHeadRun.RunEq R (PySem.W.view R.prog [80]) hk ob 20000 loose w := by
  intro os
  exact map3 (runL w os) (map2 (run_s0 w os) (map2 (run_s1 w os) (map2 (run_s2 w os) (run_sF w os))))
section
variable {w : World} {K : PySem.W.Frag} {h : Heap} {mg : PySem.Str → Option Value} {base : Heap}
abbrev Y (w : World) (K : PySem.W.Frag) (mg : PySem.Str → Option Value) (base : Heap) : Sys Bx := ⟨(PySem.Challenge.rw_taxbands_k94_whole_shares_of_a_tax).prog, w, K, mg, base, P, bxBo, ar, fr⟩
theorem okY (X : K.In h) (G : h.Ns mainGlobals mg) (c : Cs w h K) : (Y w K mg base).Ok := by
  refine ⟨fun x hx => ?_, fun x d hx => ?_⟩
  · have hx : x ∈ frT := by simpa [fr] using hx
    simp only [frT, List.mem_append, List.mem_cons, List.not_mem_nil, or_false] at hx
    rcases hx with rfl | rfl | rfl | rfl | rfl | rfl | rfl | rfl | rfl | rfl | rfl | rfl | rfl | rfl
    · exact (He.free_ok X G ((He.SaysT.d c.sF.t).fact 0 (f := .free "ValueError") rfl))
    · exact (He.free_ok X G ((He.SaysT.d c.sF.t).fact 1 (f := .free "abs") rfl))
    · exact (He.free_ok X G ((He.SaysT.d c.sF.t).fact 2 (f := .free "all") rfl))
    · exact (He.free_ok X G ((He.SaysT.d c.sF.t).fact 3 (f := .free "any") rfl))
    · exact (He.free_ok X G ((He.SaysT.d c.sF.t).fact 4 (f := .free "bool") rfl))
    · exact (He.free_ok X G ((He.SaysT.d c.sF.t).fact 5 (f := .free "enumerate") rfl))
    · exact (He.free_ok X G ((He.SaysT.d c.sF.t).fact 6 (f := .free "int") rfl))
    · exact (He.free_ok X G ((He.SaysT.d c.sF.t).fact 7 (f := .free "isinstance") rfl))
    · exact (He.free_ok X G ((He.SaysT.d c.sF.t).fact 8 (f := .free "len") rfl))
    · exact (He.free_ok X G ((He.SaysT.d c.sF.t).fact 9 (f := .free "list") rfl))
    · exact (He.free_ok X G ((He.SaysT.d c.sF.t).fact 10 (f := .free "range") rfl))
    · exact (He.free_ok X G ((He.SaysT.d c.sF.t).fact 11 (f := .free "str") rfl))
    · exact (He.free_ok X G ((He.SaysT.d c.sF.t).fact 12 (f := .free "tuple") rfl))
    · exact (He.free_ok X G ((He.SaysT.d c.sF.t).fact 13 (f := .free "zip") rfl))
  · have hx := lookup_mem (show glT.lookup x = some d from hx)
    simp only [glT, List.mem_append, List.mem_cons, List.not_mem_nil, or_false, Prod.mk.injEq] at hx
    rcases hx with ⟨rfl, rfl⟩ | ⟨rfl, rfl⟩
    · exact gl_tup (He.glo_ok X G ((He.SaysT.d c.sF.t).fact 14 (f := .glo "ZERO") rfl)) (fun H => He.tupB_ok (c.sF.more : ex K = true) H) (by intro bp B; repeat (first | exact RepL.nil | refine RepL.cons (by simp only [Rep]; rfl) ?_))
    · exact gl_int (He.int_ok X G ((He.SaysT.d c.sF.t).fact 15 (f := .int "MAX_PIECES" (60)) rfl))
theorem k_is_whole (X : K.In h) (G : h.Ns mainGlobals mg) (c : Cs w h K) : FnFact (Y w K mg base) "is_whole" f_is_whole := by
  obtain ⟨fd, F⟩ := (He.SaysT.d c.s0.t).def_ 0 (d := d_is_whole) rfl
  exact ⟨_, fd, _, _, _, (He.glo_ok X G ((He.SaysT.d c.s0.t).fact 0 (f := .glo "is_whole") rfl)), F, by decide +kernel, c_is_whole, F.bindsN (ps := ["value"]) fun _ _ _ _ _ _ us hl => match us, hl with | [_], _ => rfl, by decide⟩
theorem k_common_divisor (X : K.In h) (G : h.Ns mainGlobals mg) (c : Cs w h K) : FnFact (Y w K mg base) "common_divisor" f_common_divisor := by
  obtain ⟨fd, F⟩ := (He.SaysT.d c.s0.t).def_ 1 (d := d_common_divisor) rfl
  exact ⟨_, fd, _, _, _, (He.glo_ok X G ((He.SaysT.d c.s0.t).fact 1 (f := .glo "common_divisor") rfl)), F, by decide +kernel, c_common_divisor, F.bindsN (ps := ["a", "b"]) fun _ _ _ _ _ _ us hl => match us, hl with | [_, _], _ => rfl, by decide⟩
theorem k_is_ratio (X : K.In h) (G : h.Ns mainGlobals mg) (c : Cs w h K) : FnFact (Y w K mg base) "is_ratio" f_is_ratio := by
  obtain ⟨fd, F⟩ := (He.SaysT.d c.s0.t).def_ 2 (d := d_is_ratio) rfl
  exact ⟨_, fd, _, _, _, (He.glo_ok X G ((He.SaysT.d c.s0.t).fact 2 (f := .glo "is_ratio") rfl)), F, by decide +kernel, c_is_ratio, F.bindsN (ps := ["value"]) fun _ _ _ _ _ _ us hl => match us, hl with | [_], _ => rfl, by decide⟩
theorem k_ratio (X : K.In h) (G : h.Ns mainGlobals mg) (c : Cs w h K) : FnFact (Y w K mg base) "ratio" f_ratio := by
  obtain ⟨fd, F⟩ := (He.SaysT.d c.s0.t).def_ 3 (d := d_ratio) rfl
  exact ⟨_, fd, _, _, _, (He.glo_ok X G ((He.SaysT.d c.s0.t).fact 3 (f := .glo "ratio") rfl)), F, by decide +kernel, c_ratio, F.bindsN (ps := ["p", "q"]) fun _ _ _ _ _ _ us hl => match us, hl with | [_, _], _ => rfl, by decide⟩
theorem k_plus (X : K.In h) (G : h.Ns mainGlobals mg) (c : Cs w h K) : FnFact (Y w K mg base) "plus" f_plus := by
  obtain ⟨fd, F⟩ := (He.SaysT.d c.s0.t).def_ 4 (d := d_plus) rfl
  exact ⟨_, fd, _, _, _, (He.glo_ok X G ((He.SaysT.d c.s0.t).fact 4 (f := .glo "plus") rfl)), F, by decide +kernel, c_plus, F.bindsN (ps := ["one", "other"]) fun _ _ _ _ _ _ us hl => match us, hl with | [_, _], _ => rfl, by decide⟩
theorem k_minus (X : K.In h) (G : h.Ns mainGlobals mg) (c : Cs w h K) : FnFact (Y w K mg base) "minus" f_minus := by
  obtain ⟨fd, F⟩ := (He.SaysT.d c.s0.t).def_ 5 (d := d_minus) rfl
  exact ⟨_, fd, _, _, _, (He.glo_ok X G ((He.SaysT.d c.s0.t).fact 5 (f := .glo "minus") rfl)), F, by decide +kernel, c_minus, F.bindsN (ps := ["one", "other"]) fun _ _ _ _ _ _ us hl => match us, hl with | [_, _], _ => rfl, by decide⟩
theorem k_times (X : K.In h) (G : h.Ns mainGlobals mg) (c : Cs w h K) : FnFact (Y w K mg base) "times" f_times := by
  obtain ⟨fd, F⟩ := (He.SaysT.d c.s0.t).def_ 6 (d := d_times) rfl
  exact ⟨_, fd, _, _, _, (He.glo_ok X G ((He.SaysT.d c.s0.t).fact 6 (f := .glo "times") rfl)), F, by decide +kernel, c_times, F.bindsN (ps := ["one", "other"]) fun _ _ _ _ _ _ us hl => match us, hl with | [_, _], _ => rfl, by decide⟩
theorem k_over (X : K.In h) (G : h.Ns mainGlobals mg) (c : Cs w h K) : FnFact (Y w K mg base) "over" f_over := by
  obtain ⟨fd, F⟩ := (He.SaysT.d c.s0.t).def_ 7 (d := d_over) rfl
  exact ⟨_, fd, _, _, _, (He.glo_ok X G ((He.SaysT.d c.s0.t).fact 7 (f := .glo "over") rfl)), F, by decide +kernel, c_over, F.bindsN (ps := ["one", "other"]) fun _ _ _ _ _ _ us hl => match us, hl with | [_, _], _ => rfl, by decide⟩
theorem k_less (X : K.In h) (G : h.Ns mainGlobals mg) (c : Cs w h K) : FnFact (Y w K mg base) "less" f_less := by
  obtain ⟨fd, F⟩ := (He.SaysT.d c.s0.t).def_ 8 (d := d_less) rfl
  exact ⟨_, fd, _, _, _, (He.glo_ok X G ((He.SaysT.d c.s0.t).fact 8 (f := .glo "less") rfl)), F, by decide +kernel, c_less, F.bindsN (ps := ["one", "other"]) fun _ _ _ _ _ _ us hl => match us, hl with | [_, _], _ => rfl, by decide⟩
theorem k_sum_of (X : K.In h) (G : h.Ns mainGlobals mg) (c : Cs w h K) : FnFact (Y w K mg base) "sum_of" f_sum_of := by
  obtain ⟨fd, F⟩ := (He.SaysT.d c.s0.t).def_ 9 (d := d_sum_of) rfl
  exact ⟨_, fd, _, _, _, (He.glo_ok X G ((He.SaysT.d c.s0.t).fact 9 (f := .glo "sum_of") rfl)), F, by decide +kernel, c_sum_of, F.bindsN (ps := ["ratios"]) fun _ _ _ _ _ _ us hl => match us, hl with | [_], _ => rfl, by decide⟩
theorem k_is_piece (X : K.In h) (G : h.Ns mainGlobals mg) (c : Cs w h K) : FnFact (Y w K mg base) "is_piece" f_is_piece := by
  obtain ⟨fd, F⟩ := (He.SaysT.d c.s0.t).def_ 10 (d := d_is_piece) rfl
  exact ⟨_, fd, _, _, _, (He.glo_ok X G ((He.SaysT.d c.s0.t).fact 10 (f := .glo "is_piece") rfl)), F, by decide +kernel, c_is_piece, F.bindsN (ps := ["value"]) fun _ _ _ _ _ _ us hl => match us, hl with | [_], _ => rfl, by decide⟩
theorem k_is_row (X : K.In h) (G : h.Ns mainGlobals mg) (c : Cs w h K) : FnFact (Y w K mg base) "is_row" f_is_row := by
  obtain ⟨fd, F⟩ := (He.SaysT.d c.s0.t).def_ 11 (d := d_is_row) rfl
  exact ⟨_, fd, _, _, _, (He.glo_ok X G ((He.SaysT.d c.s0.t).fact 11 (f := .glo "is_row") rfl)), F, by decide +kernel, c_is_row, F.bindsN (ps := ["value"]) fun _ _ _ _ _ _ us hl => match us, hl with | [_], _ => rfl, by decide⟩
theorem k_along (X : K.In h) (G : h.Ns mainGlobals mg) (c : Cs w h K) : FnFact (Y w K mg base) "along" f_along := by
  obtain ⟨fd, F⟩ := (He.SaysT.d c.s0.t).def_ 12 (d := d_along) rfl
  exact ⟨_, fd, _, _, _, (He.glo_ok X G ((He.SaysT.d c.s0.t).fact 12 (f := .glo "along") rfl)), F, by decide +kernel, c_along, F.bindsN (ps := ["piece", "x"]) fun _ _ _ _ _ _ us hl => match us, hl with | [_, _], _ => rfl, by decide⟩
theorem k_limited (X : K.In h) (G : h.Ns mainGlobals mg) (c : Cs w h K) : FnFact (Y w K mg base) "limited" f_limited := by
  obtain ⟨fd, F⟩ := (He.SaysT.d c.s0.t).def_ 13 (d := d_limited) rfl
  exact ⟨_, fd, _, _, _, (He.glo_ok X G ((He.SaysT.d c.s0.t).fact 13 (f := .glo "limited") rfl)), F, by decide +kernel, c_limited, F.bindsN (ps := ["pieces"]) fun _ _ _ _ _ _ us hl => match us, hl with | [_], _ => rfl, by decide⟩
theorem k_normal (X : K.In h) (G : h.Ns mainGlobals mg) (c : Cs w h K) : FnFact (Y w K mg base) "normal" f_normal := by
  obtain ⟨fd, F⟩ := (He.SaysT.d c.s0.t).def_ 14 (d := d_normal) rfl
  exact ⟨_, fd, _, _, _, (He.glo_ok X G ((He.SaysT.d c.s0.t).fact 14 (f := .glo "normal") rfl)), F, by decide +kernel, c_normal, F.bindsN (ps := ["row"]) fun _ _ _ _ _ _ us hl => match us, hl with | [_], _ => rfl, by decide⟩
theorem k_piece_at (X : K.In h) (G : h.Ns mainGlobals mg) (c : Cs w h K) : FnFact (Y w K mg base) "piece_at" f_piece_at := by
  obtain ⟨fd, F⟩ := (He.SaysT.d c.s0.t).def_ 15 (d := d_piece_at) rfl
  exact ⟨_, fd, _, _, _, (He.glo_ok X G ((He.SaysT.d c.s0.t).fact 15 (f := .glo "piece_at") rfl)), F, by decide +kernel, c_piece_at, F.bindsN (ps := ["row", "x"]) fun _ _ _ _ _ _ us hl => match us, hl with | [_, _], _ => rfl, by decide⟩
theorem k_value_at (X : K.In h) (G : h.Ns mainGlobals mg) (c : Cs w h K) : FnFact (Y w K mg base) "value_at" f_value_at := by
  obtain ⟨fd, F⟩ := (He.SaysT.d c.s0.t).def_ 16 (d := d_value_at) rfl
  exact ⟨_, fd, _, _, _, (He.glo_ok X G ((He.SaysT.d c.s0.t).fact 16 (f := .glo "value_at") rfl)), F, by decide +kernel, c_value_at, F.bindsN (ps := ["row", "x"]) fun _ _ _ _ _ _ us hl => match us, hl with | [_, _], _ => rfl, by decide⟩
theorem k_left_value (X : K.In h) (G : h.Ns mainGlobals mg) (c : Cs w h K) : FnFact (Y w K mg base) "left_value" f_left_value := by
  obtain ⟨fd, F⟩ := (He.SaysT.d c.s0.t).def_ 17 (d := d_left_value) rfl
  exact ⟨_, fd, _, _, _, (He.glo_ok X G ((He.SaysT.d c.s0.t).fact 17 (f := .glo "left_value") rfl)), F, by decide +kernel, c_left_value, F.bindsN (ps := ["row", "x"]) fun _ _ _ _ _ _ us hl => match us, hl with | [_, _], _ => rfl, by decide⟩
theorem k_is_steady (X : K.In h) (G : h.Ns mainGlobals mg) (c : Cs w h K) : FnFact (Y w K mg base) "is_steady" f_is_steady := by
  obtain ⟨fd, F⟩ := (He.SaysT.d c.s0.t).def_ 18 (d := d_is_steady) rfl
  exact ⟨_, fd, _, _, _, (He.glo_ok X G ((He.SaysT.d c.s0.t).fact 18 (f := .glo "is_steady") rfl)), F, by decide +kernel, c_is_steady, F.bindsN (ps := ["row"]) fun _ _ _ _ _ _ us hl => match us, hl with | [_], _ => rfl, by decide⟩
theorem k_sorted_ratios (X : K.In h) (G : h.Ns mainGlobals mg) (c : Cs w h K) : FnFact (Y w K mg base) "sorted_ratios" f_sorted_ratios := by
  obtain ⟨fd, F⟩ := (He.SaysT.d c.s0.t).def_ 19 (d := d_sorted_ratios) rfl
  exact ⟨_, fd, _, _, _, (He.glo_ok X G ((He.SaysT.d c.s0.t).fact 19 (f := .glo "sorted_ratios") rfl)), F, by decide +kernel, c_sorted_ratios, F.bindsN (ps := ["ratios"]) fun _ _ _ _ _ _ us hl => match us, hl with | [_], _ => rfl, by decide⟩
theorem k_all_starts (X : K.In h) (G : h.Ns mainGlobals mg) (c : Cs w h K) : FnFact (Y w K mg base) "all_starts" f_all_starts := by
  obtain ⟨fd, F⟩ := (He.SaysT.d c.s0.t).def_ 20 (d := d_all_starts) rfl
  exact ⟨_, fd, _, _, _, (He.glo_ok X G ((He.SaysT.d c.s0.t).fact 20 (f := .glo "all_starts") rfl)), F, by decide +kernel, c_all_starts, F.bindsN (ps := ["one", "other"]) fun _ _ _ _ _ _ us hl => match us, hl with | [_, _], _ => rfl, by decide⟩
theorem k_slope_at (X : K.In h) (G : h.Ns mainGlobals mg) (c : Cs w h K) : FnFact (Y w K mg base) "slope_at" f_slope_at := by
  obtain ⟨fd, F⟩ := (He.SaysT.d c.s0.t).def_ 21 (d := d_slope_at) rfl
  exact ⟨_, fd, _, _, _, (He.glo_ok X G ((He.SaysT.d c.s0.t).fact 21 (f := .glo "slope_at") rfl)), F, by decide +kernel, c_slope_at, F.bindsN (ps := ["row", "x"]) fun _ _ _ _ _ _ us hl => match us, hl with | [_, _], _ => rfl, by decide⟩
theorem k_added (X : K.In h) (G : h.Ns mainGlobals mg) (c : Cs w h K) : FnFact (Y w K mg base) "added" f_added := by
  obtain ⟨fd, F⟩ := (He.SaysT.d c.s0.t).def_ 22 (d := d_added) rfl
  exact ⟨_, fd, _, _, _, (He.glo_ok X G ((He.SaysT.d c.s0.t).fact 22 (f := .glo "added") rfl)), F, by decide +kernel, c_added, F.bindsN (ps := ["one", "other"]) fun _ _ _ _ _ _ us hl => match us, hl with | [_, _], _ => rfl, by decide⟩
theorem k_scaled (X : K.In h) (G : h.Ns mainGlobals mg) (c : Cs w h K) : FnFact (Y w K mg base) "scaled" f_scaled := by
  obtain ⟨fd, F⟩ := (He.SaysT.d c.s0.t).def_ 23 (d := d_scaled) rfl
  exact ⟨_, fd, _, _, _, (He.glo_ok X G ((He.SaysT.d c.s0.t).fact 23 (f := .glo "scaled") rfl)), F, by decide +kernel, c_scaled, F.bindsN (ps := ["row", "r"]) fun _ _ _ _ _ _ us hl => match us, hl with | [_, _], _ => rfl, by decide⟩
theorem k_moved (X : K.In h) (G : h.Ns mainGlobals mg) (c : Cs w h K) : FnFact (Y w K mg base) "moved" f_moved := by
  obtain ⟨fd, F⟩ := (He.SaysT.d c.s1.t).def_ 0 (d := d_moved) rfl
  exact ⟨_, fd, _, _, _, (He.glo_ok X G ((He.SaysT.d c.s1.t).fact 0 (f := .glo "moved") rfl)), F, by decide +kernel, c_moved, F.bindsN (ps := ["row", "a"]) fun _ _ _ _ _ _ us hl => match us, hl with | [_, _], _ => rfl, by decide⟩
theorem k_jumps_down (X : K.In h) (G : h.Ns mainGlobals mg) (c : Cs w h K) : FnFact (Y w K mg base) "jumps_down" f_jumps_down := by
  obtain ⟨fd, F⟩ := (He.SaysT.d c.s1.t).def_ 1 (d := d_jumps_down) rfl
  exact ⟨_, fd, _, _, _, (He.glo_ok X G ((He.SaysT.d c.s1.t).fact 1 (f := .glo "jumps_down") rfl)), F, by decide +kernel, c_jumps_down, F.bindsN (ps := ["row", "k"]) fun _ _ _ _ _ _ us hl => match us, hl with | [_, _], _ => rfl, by decide⟩
theorem k_does_rise (X : K.In h) (G : h.Ns mainGlobals mg) (c : Cs w h K) : FnFact (Y w K mg base) "does_rise" f_does_rise := by
  obtain ⟨fd, F⟩ := (He.SaysT.d c.s1.t).def_ 2 (d := d_does_rise) rfl
  exact ⟨_, fd, _, _, _, (He.glo_ok X G ((He.SaysT.d c.s1.t).fact 2 (f := .glo "does_rise") rfl)), F, by decide +kernel, c_does_rise, F.bindsN (ps := ["row"]) fun _ _ _ _ _ _ us hl => match us, hl with | [_], _ => rfl, by decide⟩
theorem k_is_supply (X : K.In h) (G : h.Ns mainGlobals mg) (c : Cs w h K) : FnFact (Y w K mg base) "is_supply" f_is_supply := by
  obtain ⟨fd, F⟩ := (He.SaysT.d c.s1.t).def_ 3 (d := d_is_supply) rfl
  exact ⟨_, fd, _, _, _, (He.glo_ok X G ((He.SaysT.d c.s1.t).fact 3 (f := .glo "is_supply") rfl)), F, by decide +kernel, c_is_supply, F.bindsN (ps := ["value"]) fun _ _ _ _ _ _ us hl => match us, hl with | [_], _ => rfl, by decide⟩
theorem k_excess (X : K.In h) (G : h.Ns mainGlobals mg) (c : Cs w h K) : FnFact (Y w K mg base) "excess" f_excess := by
  obtain ⟨fd, F⟩ := (He.SaysT.d c.s1.t).def_ 4 (d := d_excess) rfl
  exact ⟨_, fd, _, _, _, (He.glo_ok X G ((He.SaysT.d c.s1.t).fact 4 (f := .glo "excess") rfl)), F, by decide +kernel, c_excess, F.bindsN (ps := ["supply", "demand"]) fun _ _ _ _ _ _ us hl => match us, hl with | [_, _], _ => rfl, by decide⟩
theorem k_meeting_prices (X : K.In h) (G : h.Ns mainGlobals mg) (c : Cs w h K) : FnFact (Y w K mg base) "meeting_prices" f_meeting_prices := by
  obtain ⟨fd, F⟩ := (He.SaysT.d c.s1.t).def_ 5 (d := d_meeting_prices) rfl
  exact ⟨_, fd, _, _, _, (He.glo_ok X G ((He.SaysT.d c.s1.t).fact 5 (f := .glo "meeting_prices") rfl)), F, by decide +kernel, c_meeting_prices, F.bindsN (ps := ["supply", "demand"]) fun _ _ _ _ _ _ us hl => match us, hl with | [_, _], _ => rfl, by decide⟩
theorem k_spots_of (X : K.In h) (G : h.Ns mainGlobals mg) (c : Cs w h K) : FnFact (Y w K mg base) "spots_of" f_spots_of := by
  obtain ⟨fd, F⟩ := (He.SaysT.d c.s1.t).def_ 6 (d := d_spots_of) rfl
  exact ⟨_, fd, _, _, _, (He.glo_ok X G ((He.SaysT.d c.s1.t).fact 6 (f := .glo "spots_of") rfl)), F, by decide +kernel, c_spots_of, F.bindsN (ps := ["row"]) fun _ _ _ _ _ _ us hl => match us, hl with | [_], _ => rfl, by decide⟩
theorem k_first_price (X : K.In h) (G : h.Ns mainGlobals mg) (c : Cs w h K) : FnFact (Y w K mg base) "first_price" f_first_price := by
  obtain ⟨fd, F⟩ := (He.SaysT.d c.s1.t).def_ 7 (d := d_first_price) rfl
  exact ⟨_, fd, _, _, _, (He.glo_ok X G ((He.SaysT.d c.s1.t).fact 7 (f := .glo "first_price") rfl)), F, by decide +kernel, c_first_price, F.bindsN (ps := ["row"]) fun _ _ _ _ _ _ us hl => match us, hl with | [_], _ => rfl, by decide⟩
theorem k_zero_before (X : K.In h) (G : h.Ns mainGlobals mg) (c : Cs w h K) : FnFact (Y w K mg base) "zero_before" f_zero_before := by
  obtain ⟨fd, F⟩ := (He.SaysT.d c.s1.t).def_ 8 (d := d_zero_before) rfl
  exact ⟨_, fd, _, _, _, (He.glo_ok X G ((He.SaysT.d c.s1.t).fact 8 (f := .glo "zero_before") rfl)), F, by decide +kernel, c_zero_before, F.bindsN (ps := ["row", "x"]) fun _ _ _ _ _ _ us hl => match us, hl with | [_, _], _ => rfl, by decide⟩
theorem k_last_zero (X : K.In h) (G : h.Ns mainGlobals mg) (c : Cs w h K) : FnFact (Y w K mg base) "last_zero" f_last_zero := by
  obtain ⟨fd, F⟩ := (He.SaysT.d c.s1.t).def_ 9 (d := d_last_zero) rfl
  exact ⟨_, fd, _, _, _, (He.glo_ok X G ((He.SaysT.d c.s1.t).fact 9 (f := .glo "last_zero") rfl)), F, by decide +kernel, c_last_zero, F.bindsN (ps := ["row"]) fun _ _ _ _ _ _ us hl => match us, hl with | [_], _ => rfl, by decide⟩
theorem k_exchanged (X : K.In h) (G : h.Ns mainGlobals mg) (c : Cs w h K) : FnFact (Y w K mg base) "exchanged" f_exchanged := by
  obtain ⟨fd, F⟩ := (He.SaysT.d c.s1.t).def_ 10 (d := d_exchanged) rfl
  exact ⟨_, fd, _, _, _, (He.glo_ok X G ((He.SaysT.d c.s1.t).fact 10 (f := .glo "exchanged") rfl)), F, by decide +kernel, c_exchanged, F.bindsN (ps := ["supply", "demand", "price"]) fun _ _ _ _ _ _ us hl => match us, hl with | [_, _, _], _ => rfl, by decide⟩
theorem k_joined_supply (X : K.In h) (G : h.Ns mainGlobals mg) (c : Cs w h K) : FnFact (Y w K mg base) "joined_supply" f_joined_supply := by
  obtain ⟨fd, F⟩ := (He.SaysT.d c.s1.t).def_ 11 (d := d_joined_supply) rfl
  exact ⟨_, fd, _, _, _, (He.glo_ok X G ((He.SaysT.d c.s1.t).fact 11 (f := .glo "joined_supply") rfl)), F, by decide +kernel, c_joined_supply, F.bindsN (ps := ["supplies"]) fun _ _ _ _ _ _ us hl => match us, hl with | [_], _ => rfl, by decide⟩
theorem k_with_more (X : K.In h) (G : h.Ns mainGlobals mg) (c : Cs w h K) : FnFact (Y w K mg base) "with_more" f_with_more := by
  obtain ⟨fd, F⟩ := (He.SaysT.d c.s1.t).def_ 12 (d := d_with_more) rfl
  exact ⟨_, fd, _, _, _, (He.glo_ok X G ((He.SaysT.d c.s1.t).fact 12 (f := .glo "with_more") rfl)), F, by decide +kernel, c_with_more, F.bindsN (ps := ["row", "many"]) fun _ _ _ _ _ _ us hl => match us, hl with | [_, _], _ => rfl, by decide⟩
theorem k_least_change (X : K.In h) (G : h.Ns mainGlobals mg) (c : Cs w h K) : FnFact (Y w K mg base) "least_change" f_least_change := by
  obtain ⟨fd, F⟩ := (He.SaysT.d c.s1.t).def_ 13 (d := d_least_change) rfl
  exact ⟨_, fd, _, _, _, (He.glo_ok X G ((He.SaysT.d c.s1.t).fact 13 (f := .glo "least_change") rfl)), F, by decide +kernel, c_least_change, F.bindsN (ps := ["supply", "demand", "price"]) fun _ _ _ _ _ _ us hl => match us, hl with | [_, _, _], _ => rfl, by decide⟩
theorem k_scaled_to_meet (X : K.In h) (G : h.Ns mainGlobals mg) (c : Cs w h K) : FnFact (Y w K mg base) "scaled_to_meet" f_scaled_to_meet := by
  obtain ⟨fd, F⟩ := (He.SaysT.d c.s1.t).def_ 14 (d := d_scaled_to_meet) rfl
  exact ⟨_, fd, _, _, _, (He.glo_ok X G ((He.SaysT.d c.s1.t).fact 14 (f := .glo "scaled_to_meet") rfl)), F, by decide +kernel, c_scaled_to_meet, F.bindsN (ps := ["supply", "demand", "price"]) fun _ _ _ _ _ _ us hl => match us, hl with | [_, _, _], _ => rfl, by decide⟩
theorem k_halfway (X : K.In h) (G : h.Ns mainGlobals mg) (c : Cs w h K) : FnFact (Y w K mg base) "halfway" f_halfway := by
  obtain ⟨fd, F⟩ := (He.SaysT.d c.s1.t).def_ 15 (d := d_halfway) rfl
  exact ⟨_, fd, _, _, _, (He.glo_ok X G ((He.SaysT.d c.s1.t).fact 15 (f := .glo "halfway") rfl)), F, by decide +kernel, c_halfway, F.bindsN (ps := ["one", "other"]) fun _ _ _ _ _ _ us hl => match us, hl with | [_, _], _ => rfl, by decide⟩
theorem k_area_between (X : K.In h) (G : h.Ns mainGlobals mg) (c : Cs w h K) : FnFact (Y w K mg base) "area_between" f_area_between := by
  obtain ⟨fd, F⟩ := (He.SaysT.d c.s1.t).def_ 16 (d := d_area_between) rfl
  exact ⟨_, fd, _, _, _, (He.glo_ok X G ((He.SaysT.d c.s1.t).fact 16 (f := .glo "area_between") rfl)), F, by decide +kernel, c_area_between, F.bindsN (ps := ["row", "low", "high"]) fun _ _ _ _ _ _ us hl => match us, hl with | [_, _, _], _ => rfl, by decide⟩
theorem k_choking_price (X : K.In h) (G : h.Ns mainGlobals mg) (c : Cs w h K) : FnFact (Y w K mg base) "choking_price" f_choking_price := by
  obtain ⟨fd, F⟩ := (He.SaysT.d c.s1.t).def_ 17 (d := d_choking_price) rfl
  exact ⟨_, fd, _, _, _, (He.glo_ok X G ((He.SaysT.d c.s1.t).fact 17 (f := .glo "choking_price") rfl)), F, by decide +kernel, c_choking_price, F.bindsN (ps := ["demand"]) fun _ _ _ _ _ _ us hl => match us, hl with | [_], _ => rfl, by decide⟩
theorem k_sellers_gain (X : K.In h) (G : h.Ns mainGlobals mg) (c : Cs w h K) : FnFact (Y w K mg base) "sellers_gain" f_sellers_gain := by
  obtain ⟨fd, F⟩ := (He.SaysT.d c.s1.t).def_ 18 (d := d_sellers_gain) rfl
  exact ⟨_, fd, _, _, _, (He.glo_ok X G ((He.SaysT.d c.s1.t).fact 18 (f := .glo "sellers_gain") rfl)), F, by decide +kernel, c_sellers_gain, F.bindsN (ps := ["supply", "price"]) fun _ _ _ _ _ _ us hl => match us, hl with | [_, _], _ => rfl, by decide⟩
theorem k_buyers_gain (X : K.In h) (G : h.Ns mainGlobals mg) (c : Cs w h K) : FnFact (Y w K mg base) "buyers_gain" f_buyers_gain := by
  obtain ⟨fd, F⟩ := (He.SaysT.d c.s1.t).def_ 19 (d := d_buyers_gain) rfl
  exact ⟨_, fd, _, _, _, (He.glo_ok X G ((He.SaysT.d c.s1.t).fact 19 (f := .glo "buyers_gain") rfl)), F, by decide +kernel, c_buyers_gain, F.bindsN (ps := ["demand", "price"]) fun _ _ _ _ _ _ us hl => match us, hl with | [_, _], _ => rfl, by decide⟩
theorem k_both_gain (X : K.In h) (G : h.Ns mainGlobals mg) (c : Cs w h K) : FnFact (Y w K mg base) "both_gain" f_both_gain := by
  obtain ⟨fd, F⟩ := (He.SaysT.d c.s1.t).def_ 20 (d := d_both_gain) rfl
  exact ⟨_, fd, _, _, _, (He.glo_ok X G ((He.SaysT.d c.s1.t).fact 20 (f := .glo "both_gain") rfl)), F, by decide +kernel, c_both_gain, F.bindsN (ps := ["supply", "demand", "price"]) fun _ _ _ _ _ _ us hl => match us, hl with | [_, _, _], _ => rfl, by decide⟩
theorem k_with_tax (X : K.In h) (G : h.Ns mainGlobals mg) (c : Cs w h K) : FnFact (Y w K mg base) "with_tax" f_with_tax := by
  obtain ⟨fd, F⟩ := (He.SaysT.d c.s1.t).def_ 21 (d := d_with_tax) rfl
  exact ⟨_, fd, _, _, _, (He.glo_ok X G ((He.SaysT.d c.s1.t).fact 21 (f := .glo "with_tax") rfl)), F, by decide +kernel, c_with_tax, F.bindsN (ps := ["demand", "tax"]) fun _ _ _ _ _ _ us hl => match us, hl with | [_, _], _ => rfl, by decide⟩
theorem k_prices_with_tax (X : K.In h) (G : h.Ns mainGlobals mg) (c : Cs w h K) : FnFact (Y w K mg base) "prices_with_tax" f_prices_with_tax := by
  obtain ⟨fd, F⟩ := (He.SaysT.d c.s1.t).def_ 22 (d := d_prices_with_tax) rfl
  exact ⟨_, fd, _, _, _, (He.glo_ok X G ((He.SaysT.d c.s1.t).fact 22 (f := .glo "prices_with_tax") rfl)), F, by decide +kernel, c_prices_with_tax, F.bindsN (ps := ["supply", "demand", "tax"]) fun _ _ _ _ _ _ us hl => match us, hl with | [_, _, _], _ => rfl, by decide⟩
theorem k_exchanged_with_tax (X : K.In h) (G : h.Ns mainGlobals mg) (c : Cs w h K) : FnFact (Y w K mg base) "exchanged_with_tax" f_exchanged_with_tax := by
  obtain ⟨fd, F⟩ := (He.SaysT.d c.s1.t).def_ 23 (d := d_exchanged_with_tax) rfl
  exact ⟨_, fd, _, _, _, (He.glo_ok X G ((He.SaysT.d c.s1.t).fact 23 (f := .glo "exchanged_with_tax") rfl)), F, by decide +kernel, c_exchanged_with_tax, F.bindsN (ps := ["supply", "demand", "tax"]) fun _ _ _ _ _ _ us hl => match us, hl with | [_, _, _], _ => rfl, by decide⟩
theorem k_borne (X : K.In h) (G : h.Ns mainGlobals mg) (c : Cs w h K) : FnFact (Y w K mg base) "borne" f_borne := by
  obtain ⟨fd, F⟩ := (He.SaysT.d c.s2.t).def_ 0 (d := d_borne) rfl
  exact ⟨_, fd, _, _, _, (He.glo_ok X G ((He.SaysT.d c.s2.t).fact 0 (f := .glo "borne") rfl)), F, by decide +kernel, c_borne, F.bindsN (ps := ["supply", "demand", "tax"]) fun _ _ _ _ _ _ us hl => match us, hl with | [_, _, _], _ => rfl, by decide⟩
theorem k_share_of_buyers (X : K.In h) (G : h.Ns mainGlobals mg) (c : Cs w h K) : FnFact (Y w K mg base) "share_of_buyers" f_share_of_buyers := by
  obtain ⟨fd, F⟩ := (He.SaysT.d c.s2.t).def_ 1 (d := d_share_of_buyers) rfl
  exact ⟨_, fd, _, _, _, (He.glo_ok X G ((He.SaysT.d c.s2.t).fact 1 (f := .glo "share_of_buyers") rfl)), F, by decide +kernel, c_share_of_buyers, F.bindsN (ps := ["supply", "demand", "tax"]) fun _ _ _ _ _ _ us hl => match us, hl with | [_, _, _], _ => rfl, by decide⟩
theorem k_lost_by_tax (X : K.In h) (G : h.Ns mainGlobals mg) (c : Cs w h K) : FnFact (Y w K mg base) "lost_by_tax" f_lost_by_tax := by
  obtain ⟨fd, F⟩ := (He.SaysT.d c.s2.t).def_ 2 (d := d_lost_by_tax) rfl
  exact ⟨_, fd, _, _, _, (He.glo_ok X G ((He.SaysT.d c.s2.t).fact 2 (f := .glo "lost_by_tax") rfl)), F, by decide +kernel, c_lost_by_tax, F.bindsN (ps := ["supply", "demand", "tax"]) fun _ _ _ _ _ _ us hl => match us, hl with | [_, _, _], _ => rfl, by decide⟩
theorem k_gains_with (X : K.In h) (G : h.Ns mainGlobals mg) (c : Cs w h K) : FnFact (Y w K mg base) "gains_with" f_gains_with := by
  obtain ⟨fd, F⟩ := (He.SaysT.d c.s2.t).def_ 3 (d := d_gains_with) rfl
  exact ⟨_, fd, _, _, _, (He.glo_ok X G ((He.SaysT.d c.s2.t).fact 3 (f := .glo "gains_with") rfl)), F, by decide +kernel, c_gains_with, F.bindsN (ps := ["supply", "demand", "prices"]) fun _ _ _ _ _ _ us hl => match us, hl with | [_, _, _], _ => rfl, by decide⟩
theorem k__law_same (X : K.In h) (G : h.Ns mainGlobals mg) (c : Cs w h K) : FnFact (Y w K mg base) "_law_same" f__law_same := by
  obtain ⟨fd, F⟩ := (He.SaysT.d c.s2.t).def_ 7 (d := d__law_same) rfl
  exact ⟨_, fd, _, _, _, (He.glo_ok X G ((He.SaysT.d c.s2.t).fact 7 (f := .glo "_law_same") rfl)), F, by decide +kernel, c__law_same, F.bindsN (ps := ["a", "b"]) fun _ _ _ _ _ _ us hl => match us, hl with | [_, _], _ => rfl, by decide⟩
theorem k__law_divisor (X : K.In h) (G : h.Ns mainGlobals mg) (c : Cs w h K) : FnFact (Y w K mg base) "_law_divisor" f__law_divisor := by
  obtain ⟨fd, F⟩ := (He.SaysT.d c.s2.t).def_ 8 (d := d__law_divisor) rfl
  exact ⟨_, fd, _, _, _, (He.glo_ok X G ((He.SaysT.d c.s2.t).fact 8 (f := .glo "_law_divisor") rfl)), F, by decide +kernel, c__law_divisor, F.bindsN (ps := ["a", "b"]) fun _ _ _ _ _ _ us hl => match us, hl with | [_, _], _ => rfl, by decide⟩
theorem k__law_ratio (X : K.In h) (G : h.Ns mainGlobals mg) (c : Cs w h K) : FnFact (Y w K mg base) "_law_ratio" f__law_ratio := by
  obtain ⟨fd, F⟩ := (He.SaysT.d c.s2.t).def_ 9 (d := d__law_ratio) rfl
  exact ⟨_, fd, _, _, _, (He.glo_ok X G ((He.SaysT.d c.s2.t).fact 9 (f := .glo "_law_ratio") rfl)), F, by decide +kernel, c__law_ratio, F.bindsN (ps := ["p", "q"]) fun _ _ _ _ _ _ us hl => match us, hl with | [_, _], _ => rfl, by decide⟩
theorem k__law_plus (X : K.In h) (G : h.Ns mainGlobals mg) (c : Cs w h K) : FnFact (Y w K mg base) "_law_plus" f__law_plus := by
  obtain ⟨fd, F⟩ := (He.SaysT.d c.s2.t).def_ 10 (d := d__law_plus) rfl
  exact ⟨_, fd, _, _, _, (He.glo_ok X G ((He.SaysT.d c.s2.t).fact 10 (f := .glo "_law_plus") rfl)), F, by decide +kernel, c__law_plus, F.bindsN (ps := ["one", "other"]) fun _ _ _ _ _ _ us hl => match us, hl with | [_, _], _ => rfl, by decide⟩
theorem k__law_minus (X : K.In h) (G : h.Ns mainGlobals mg) (c : Cs w h K) : FnFact (Y w K mg base) "_law_minus" f__law_minus := by
  obtain ⟨fd, F⟩ := (He.SaysT.d c.s2.t).def_ 11 (d := d__law_minus) rfl
  exact ⟨_, fd, _, _, _, (He.glo_ok X G ((He.SaysT.d c.s2.t).fact 11 (f := .glo "_law_minus") rfl)), F, by decide +kernel, c__law_minus, F.bindsN (ps := ["one", "other"]) fun _ _ _ _ _ _ us hl => match us, hl with | [_, _], _ => rfl, by decide⟩
theorem k__law_times (X : K.In h) (G : h.Ns mainGlobals mg) (c : Cs w h K) : FnFact (Y w K mg base) "_law_times" f__law_times := by
  obtain ⟨fd, F⟩ := (He.SaysT.d c.s2.t).def_ 12 (d := d__law_times) rfl
  exact ⟨_, fd, _, _, _, (He.glo_ok X G ((He.SaysT.d c.s2.t).fact 12 (f := .glo "_law_times") rfl)), F, by decide +kernel, c__law_times, F.bindsN (ps := ["one", "other"]) fun _ _ _ _ _ _ us hl => match us, hl with | [_, _], _ => rfl, by decide⟩
theorem k__law_less (X : K.In h) (G : h.Ns mainGlobals mg) (c : Cs w h K) : FnFact (Y w K mg base) "_law_less" f__law_less := by
  obtain ⟨fd, F⟩ := (He.SaysT.d c.s2.t).def_ 13 (d := d__law_less) rfl
  exact ⟨_, fd, _, _, _, (He.glo_ok X G ((He.SaysT.d c.s2.t).fact 13 (f := .glo "_law_less") rfl)), F, by decide +kernel, c__law_less, F.bindsN (ps := ["one", "other"]) fun _ _ _ _ _ _ us hl => match us, hl with | [_, _], _ => rfl, by decide⟩
theorem k__law_some (X : K.In h) (G : h.Ns mainGlobals mg) (c : Cs w h K) : FnFact (Y w K mg base) "_law_some" f__law_some := by
  obtain ⟨fd, F⟩ := (He.SaysT.d c.s2.t).def_ 14 (d := d__law_some) rfl
  exact ⟨_, fd, _, _, _, (He.glo_ok X G ((He.SaysT.d c.s2.t).fact 14 (f := .glo "_law_some") rfl)), F, by decide +kernel, c__law_some, F.bindsN (ps := ["box", "low", "high"]) fun _ _ _ _ _ _ us hl => match us, hl with | [_, _, _], _ => rfl, by decide⟩
theorem k__law_total (X : K.In h) (G : h.Ns mainGlobals mg) (c : Cs w h K) : FnFact (Y w K mg base) "_law_total" f__law_total := by
  obtain ⟨fd, F⟩ := (He.SaysT.d c.s2.t).def_ 15 (d := d__law_total) rfl
  exact ⟨_, fd, _, _, _, (He.glo_ok X G ((He.SaysT.d c.s2.t).fact 15 (f := .glo "_law_total") rfl)), F, by decide +kernel, c__law_total, F.bindsN (ps := ["rows"]) fun _ _ _ _ _ _ us hl => match us, hl with | [_], _ => rfl, by decide⟩
theorem k__law_at (X : K.In h) (G : h.Ns mainGlobals mg) (c : Cs w h K) : FnFact (Y w K mg base) "_law_at" f__law_at := by
  obtain ⟨fd, F⟩ := (He.SaysT.d c.s2.t).def_ 16 (d := d__law_at) rfl
  exact ⟨_, fd, _, _, _, (He.glo_ok X G ((He.SaysT.d c.s2.t).fact 16 (f := .glo "_law_at") rfl)), F, by decide +kernel, c__law_at, F.bindsN (ps := ["row", "x"]) fun _ _ _ _ _ _ us hl => match us, hl with | [_, _], _ => rfl, by decide⟩
theorem k__law_supply (X : K.In h) (G : h.Ns mainGlobals mg) (c : Cs w h K) : FnFact (Y w K mg base) "_law_supply" f__law_supply := by
  obtain ⟨fd, F⟩ := (He.SaysT.d c.s2.t).def_ 17 (d := d__law_supply) rfl
  exact ⟨_, fd, _, _, _, (He.glo_ok X G ((He.SaysT.d c.s2.t).fact 17 (f := .glo "_law_supply") rfl)), F, by decide +kernel, c__law_supply, F.bindsN (ps := ["box"]) fun _ _ _ _ _ _ us hl => match us, hl with | [_], _ => rfl, by decide⟩
theorem k__law_draw (X : K.In h) (G : h.Ns mainGlobals mg) (c : Cs w h K) : PrimFact (Y w K mg base) "_law_draw" 2 := by
  obtain ⟨fd, F⟩ := (He.SaysT.d c.s2.t).def_ 6 (d := d__law_draw) rfl
  obtain ⟨fdM, FM⟩ := (He.SaysT.d c.s2.t).def_ 5 (d := d__law_load) rfl
  have g1 := (He.free_ok X G ((He.SaysT.d c.sF.t).fact 6 (f := .free "int") rfl))
  have g2 := (He.free_ok X G ((He.SaysT.d c.sF.t).fact 8 (f := .free "len") rfl))
  exact ⟨_, fd, ["box", "many"], (He.glo_ok X G ((He.SaysT.d c.s2.t).fact 6 (f := .glo "_law_draw") rfl)), F.kp, F.bindsN fun _ _ _ _ _ _ us hl => match us, hl with | [_, _], _ => rfl, rfl, fun k hk => ((ok_draw F FM (He.glo_ok X G ((He.SaysT.d c.s2.t).fact 5 (f := .glo "_law_load") rfl)) g1 g2).mono (by omega)).imp fun vs H Q E z => prim_draw rfl rfl hk z⟩
theorem fns (X : K.In h) (G : h.Ns mainGlobals mg) (c : Cs w h K) : FnsOk (Y w K mg base) := by
  intro x n hx
  have hx := lookup_mem (show arT.lookup x = some n from hx)
  simp only [arT, List.mem_append, List.mem_cons, List.not_mem_nil, or_false, Prod.mk.injEq] at hx
  rcases hx with ((((⟨rfl, rfl⟩ | ⟨rfl, rfl⟩ | ⟨rfl, rfl⟩ | ⟨rfl, rfl⟩ | ⟨rfl, rfl⟩ | ⟨rfl, rfl⟩ | ⟨rfl, rfl⟩ | ⟨rfl, rfl⟩ | ⟨rfl, rfl⟩ | ⟨rfl, rfl⟩ | ⟨rfl, rfl⟩ | ⟨rfl, rfl⟩ | ⟨rfl, rfl⟩ | ⟨rfl, rfl⟩ | ⟨rfl, rfl⟩ | ⟨rfl, rfl⟩ | ⟨rfl, rfl⟩ | ⟨rfl, rfl⟩ | ⟨rfl, rfl⟩ | ⟨rfl, rfl⟩) | (⟨rfl, rfl⟩ | ⟨rfl, rfl⟩ | ⟨rfl, rfl⟩ | ⟨rfl, rfl⟩ | ⟨rfl, rfl⟩ | ⟨rfl, rfl⟩ | ⟨rfl, rfl⟩ | ⟨rfl, rfl⟩ | ⟨rfl, rfl⟩ | ⟨rfl, rfl⟩ | ⟨rfl, rfl⟩ | ⟨rfl, rfl⟩ | ⟨rfl, rfl⟩ | ⟨rfl, rfl⟩ | ⟨rfl, rfl⟩ | ⟨rfl, rfl⟩ | ⟨rfl, rfl⟩ | ⟨rfl, rfl⟩ | ⟨rfl, rfl⟩ | ⟨rfl, rfl⟩)) | (⟨rfl, rfl⟩ | ⟨rfl, rfl⟩ | ⟨rfl, rfl⟩ | ⟨rfl, rfl⟩ | ⟨rfl, rfl⟩ | ⟨rfl, rfl⟩ | ⟨rfl, rfl⟩ | ⟨rfl, rfl⟩ | ⟨rfl, rfl⟩ | ⟨rfl, rfl⟩ | ⟨rfl, rfl⟩ | ⟨rfl, rfl⟩ | ⟨rfl, rfl⟩ | ⟨rfl, rfl⟩ | ⟨rfl, rfl⟩ | ⟨rfl, rfl⟩ | ⟨rfl, rfl⟩ | ⟨rfl, rfl⟩ | ⟨rfl, rfl⟩ | ⟨rfl, rfl⟩)) | (⟨rfl, rfl⟩ | ⟨rfl, rfl⟩ | ⟨rfl, rfl⟩ | ⟨rfl, rfl⟩))
  · exact .inr ⟨rfl, f_is_whole, rfl, rfl, k_is_whole X G c⟩
  · exact .inr ⟨rfl, f_common_divisor, rfl, rfl, k_common_divisor X G c⟩
  · exact .inr ⟨rfl, f_is_ratio, rfl, rfl, k_is_ratio X G c⟩
  · exact .inr ⟨rfl, f_ratio, rfl, rfl, k_ratio X G c⟩
  · exact .inr ⟨rfl, f_plus, rfl, rfl, k_plus X G c⟩
  · exact .inr ⟨rfl, f_minus, rfl, rfl, k_minus X G c⟩
  · exact .inr ⟨rfl, f_times, rfl, rfl, k_times X G c⟩
  · exact .inr ⟨rfl, f_over, rfl, rfl, k_over X G c⟩
  · exact .inr ⟨rfl, f_less, rfl, rfl, k_less X G c⟩
  · exact .inr ⟨rfl, f_sum_of, rfl, rfl, k_sum_of X G c⟩
  · exact .inr ⟨rfl, f_is_piece, rfl, rfl, k_is_piece X G c⟩
  · exact .inr ⟨rfl, f_is_row, rfl, rfl, k_is_row X G c⟩
  · exact .inr ⟨rfl, f_along, rfl, rfl, k_along X G c⟩
  · exact .inr ⟨rfl, f_limited, rfl, rfl, k_limited X G c⟩
  · exact .inr ⟨rfl, f_normal, rfl, rfl, k_normal X G c⟩
  · exact .inr ⟨rfl, f_piece_at, rfl, rfl, k_piece_at X G c⟩
  · exact .inr ⟨rfl, f_value_at, rfl, rfl, k_value_at X G c⟩
  · exact .inr ⟨rfl, f_left_value, rfl, rfl, k_left_value X G c⟩
  · exact .inr ⟨rfl, f_is_steady, rfl, rfl, k_is_steady X G c⟩
  · exact .inr ⟨rfl, f_sorted_ratios, rfl, rfl, k_sorted_ratios X G c⟩
  · exact .inr ⟨rfl, f_all_starts, rfl, rfl, k_all_starts X G c⟩
  · exact .inr ⟨rfl, f_slope_at, rfl, rfl, k_slope_at X G c⟩
  · exact .inr ⟨rfl, f_added, rfl, rfl, k_added X G c⟩
  · exact .inr ⟨rfl, f_scaled, rfl, rfl, k_scaled X G c⟩
  · exact .inr ⟨rfl, f_moved, rfl, rfl, k_moved X G c⟩
  · exact .inr ⟨rfl, f_jumps_down, rfl, rfl, k_jumps_down X G c⟩
  · exact .inr ⟨rfl, f_does_rise, rfl, rfl, k_does_rise X G c⟩
  · exact .inr ⟨rfl, f_is_supply, rfl, rfl, k_is_supply X G c⟩
  · exact .inr ⟨rfl, f_excess, rfl, rfl, k_excess X G c⟩
  · exact .inr ⟨rfl, f_meeting_prices, rfl, rfl, k_meeting_prices X G c⟩
  · exact .inr ⟨rfl, f_spots_of, rfl, rfl, k_spots_of X G c⟩
  · exact .inr ⟨rfl, f_first_price, rfl, rfl, k_first_price X G c⟩
  · exact .inr ⟨rfl, f_zero_before, rfl, rfl, k_zero_before X G c⟩
  · exact .inr ⟨rfl, f_last_zero, rfl, rfl, k_last_zero X G c⟩
  · exact .inr ⟨rfl, f_exchanged, rfl, rfl, k_exchanged X G c⟩
  · exact .inr ⟨rfl, f_joined_supply, rfl, rfl, k_joined_supply X G c⟩
  · exact .inr ⟨rfl, f_with_more, rfl, rfl, k_with_more X G c⟩
  · exact .inr ⟨rfl, f_least_change, rfl, rfl, k_least_change X G c⟩
  · exact .inr ⟨rfl, f_scaled_to_meet, rfl, rfl, k_scaled_to_meet X G c⟩
  · exact .inr ⟨rfl, f_halfway, rfl, rfl, k_halfway X G c⟩
  · exact .inr ⟨rfl, f_area_between, rfl, rfl, k_area_between X G c⟩
  · exact .inr ⟨rfl, f_choking_price, rfl, rfl, k_choking_price X G c⟩
  · exact .inr ⟨rfl, f_sellers_gain, rfl, rfl, k_sellers_gain X G c⟩
  · exact .inr ⟨rfl, f_buyers_gain, rfl, rfl, k_buyers_gain X G c⟩
  · exact .inr ⟨rfl, f_both_gain, rfl, rfl, k_both_gain X G c⟩
  · exact .inr ⟨rfl, f_with_tax, rfl, rfl, k_with_tax X G c⟩
  · exact .inr ⟨rfl, f_prices_with_tax, rfl, rfl, k_prices_with_tax X G c⟩
  · exact .inr ⟨rfl, f_exchanged_with_tax, rfl, rfl, k_exchanged_with_tax X G c⟩
  · exact .inr ⟨rfl, f_borne, rfl, rfl, k_borne X G c⟩
  · exact .inr ⟨rfl, f_share_of_buyers, rfl, rfl, k_share_of_buyers X G c⟩
  · exact .inr ⟨rfl, f_lost_by_tax, rfl, rfl, k_lost_by_tax X G c⟩
  · exact .inr ⟨rfl, f_gains_with, rfl, rfl, k_gains_with X G c⟩
  · exact .inr ⟨rfl, f__law_same, rfl, rfl, k__law_same X G c⟩
  · exact .inr ⟨rfl, f__law_divisor, rfl, rfl, k__law_divisor X G c⟩
  · exact .inr ⟨rfl, f__law_ratio, rfl, rfl, k__law_ratio X G c⟩
  · exact .inr ⟨rfl, f__law_plus, rfl, rfl, k__law_plus X G c⟩
  · exact .inr ⟨rfl, f__law_minus, rfl, rfl, k__law_minus X G c⟩
  · exact .inr ⟨rfl, f__law_times, rfl, rfl, k__law_times X G c⟩
  · exact .inr ⟨rfl, f__law_less, rfl, rfl, k__law_less X G c⟩
  · exact .inr ⟨rfl, f__law_some, rfl, rfl, k__law_some X G c⟩
  · exact .inr ⟨rfl, f__law_total, rfl, rfl, k__law_total X G c⟩
  · exact .inr ⟨rfl, f__law_at, rfl, rfl, k__law_at X G c⟩
  · exact .inr ⟨rfl, f__law_supply, rfl, rfl, k__law_supply X G c⟩
  · exact .inl ⟨⟨_, rfl⟩, k__law_draw X G c⟩
def Main : Prop := ∀ b, ∃ ρ' b', exs P.gl (PL.call P 200) f_law.body (.un :: .im .box :: List.replicate (f_law.names.length - 2) .un) b = .ok (.rt (.bl true), ρ') b'
theorem facts (Hm : Main) {f : Addr} (X : K.In h) (G : h.Ns mainGlobals mg) (hfa : mg ("law" : PySem.Str) = some (.ref f)) (c : Cs w h K) :
    ∃ fd : FuncData, (∀ (s : Shared) (v : Value), BindsTo s fd ⟨[v], []⟩ [("script", v)]) ∧ ∀ base : Heap, K.In base → base.Ns mainGlobals mg → FnOk (PySem.Challenge.rw_taxbands_k94_whole_shares_of_a_tax).prog w K mg base CX0 201 f fd ["script"] (spLaw K) := by
  obtain ⟨fd, F⟩ := (He.SaysT.d c.s2.t).def_ 18 (d := d_law) rfl
  obtain ⟨fdT, FT⟩ := (He.SaysT.d c.s2.t).def_ 4 (d := d__law_box) rfl
  have e := hfa.symm.trans (He.glo_ok X G ((He.SaysT.d c.s2.t).fact 18 (f := .glo "law") rfl))
  cases e
  have b := FunD.bindsA (ps := ["script"]) F fun _ _ _ _ _ _ us hl => match us, hl with | [_], _ => rfl
  exact ⟨fd, fun s v => b s [v] rfl, fun base _ _ => law_fn (Y := Y w K mg base) (k := 199) (okY X G c) (fns X G c) (ok_box FT (He.free_ok X G ((He.SaysT.d c.sF.t).fact 9 (f := .free "list") rfl)) (He.free_ok X G ((He.SaysT.d c.sF.t).fact 8 (f := .free "len") rfl))) (tf := "_law_box") (tn := "box") (He.glo_ok X G ((He.SaysT.d c.s2.t).fact 4 (f := .glo "_law_box") rfl)) FT.kp (FT.bindsN fun _ _ _ _ _ _ us hl => match us, hl with | [_], _ => rfl)
    (fun a ns H Q E hS hl q => ⟨a, ns, rfl, hS, by omega, fun bp bq H' e1 e2 _ => q bp bq ⟨ns, 0, 4711 + ns.length⟩ H' e1 e2⟩) (fl := f_law) (ms := f_law.names.drop 2) F rfl (by decide +kernel) c_law (by decide +kernel) (by decide +kernel) (by decide +kernel) (by decide +kernel) Hm⟩
end
end K94
open PySem PySem.W PySem.Calls PyProof.Rows
theorem K94.holds_of (Hm : K94.Main) : PySem.Challenge.rw_taxbands_k94_whole_shares_of_a_tax.Holds := by
  w_on; o_law
  refine HandSHeadRun.head_any (r := OpenLaw.row PySem.Challenge.rw_taxbands_k94_whole_shares_of_a_tax) (q := view (OpenLaw.row PySem.Challenge.rw_taxbands_k94_whole_shares_of_a_tax).prog [80]) (H := K94.hk) (ob := K94.ob) (M := 20000) (loose := K94.loose) (d := HandSHeadRun.topDef (OpenLaw.row PySem.Challenge.rw_taxbands_k94_whole_shares_of_a_tax).prog 80) (kwd := []) K94.ob_eq
    (by kernel_rfl) (fun s => by kernel_rfl) K94.run (by kernel_rfl) (by kernel_rfl) (by kernel_rfl) (by rfl) (by first | assumption | decide +kernel) (by decide +kernel) ⟨rfl, rfl, rfl, rfl, rfl, by decide +kernel⟩ ?hw ?hc
  case hw => w_witness2
  case hc =>
    refine L2.walk_ofE (l := PySem.Challenge.rw_taxbands_k94_whole_shares_of_a_tax) (n := 63) (k := 201) (x := "script") (CX := L2.CX0) rfl (by decide) (by kernel_rfl) ⟨rfl, by decide, by decide⟩ ?F (fun _ _ _ _ z => z)
    intro w mg fa h Y G hmg0
    obtain ⟨K, KX, c⟩ := Y
    have hmg : mg ("law" : PySem.Str) = some (.ref fa) := by
      have e : (HandSHeadRun.topDef (OpenLaw.row PySem.Challenge.rw_taxbands_k94_whole_shares_of_a_tax).prog 80).name = ("law" : PySem.Str) := by kernel_rfl
      rw [← e]
      exact hmg0
    obtain ⟨fd, hb, hF⟩ := K94.facts Hm KX G hmg c
    exact ⟨K, fd, PL.spLaw K, KX, hb, fun H a ns hl _ hS => ⟨a, ns, rfl, hl, hS, fun _ => rfl⟩, hF⟩

theorem PySem.Challenge.cw_taxbands_k94_whole_shares_of_a_tax_holds : PySem.Challenge.rw_taxbands_k94_whole_shares_of_a_tax.Holds := by
  exact K94.holds_of K94.main
