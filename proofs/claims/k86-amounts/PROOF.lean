import PyProof.Rows.All
import PySem.Str
import Wide.All
import OpenK.AllK
import Wide.FinOn
import HandS.ForMost
import HandS.Wide
import HandS.Flow
import HandS.IsInst
import HandS.TupAny
import HandS.TupMul
import HandS.Walk
import HandS.More
import HandS.Deep
import HandS.Conv
import HandS.Style
import HandS.Rev
import HandS.Zip
import HandS.SortInts
import KE.GoesEnum
import HandS.Codes
import HandS.Defaults
import HandS.Base
import HandS.Call
import HandS.Ends
import HandS.Words
import HandS.WordsExc
import HandS.Head0
import HandS.Head1
import HandS.Head2
import HandS.HeadEnd
import HandS.HeadHook1
import HandS.HeadHook2
import HandS.HeadHook3
import HandS.HeadHook4
import KE.KStateDown
import PySem.Challenge.RW_taxbands_k86_whole_amounts_for_kinds
set_option Elab.async false
set_option autoImplicit false
set_option linter.all false
/-! PL1: plain data, the small language, its meaning. -/
namespace PL
abbrev St := PySem.Str

/-- plain data; box: the drawing box; fn: a function of the module -/
inductive D where
  | non | bl (b : Bool) | int (i : Int) | str (s : PySem.Str) | tup (xs : List D) | lst (xs : List D) | box | fn (x : String)
  deriving Inhabited

/-! ### results -/
inductive R (β α : Type) where
  | ok (a : α) (b : β)
  | exc (c : String) (p : List D) (b : β)
  | stuck
def M (β α : Type) := β → R β α
def ret {β α : Type} (a : α) : M β α := fun b => .ok a b
def stk {β α : Type} : M β α := fun _ => .stuck
def rai {β α : Type} (c : String) (p : List D) : M β α := fun b => .exc c p b
def bnd {β α γ : Type} (m : M β α) (f : α → M β γ) : M β γ := fun b => match m b with
  | .ok a b' => f a b'
  | .exc c p b' => .exc c p b'
  | .stuck => .stuck
def lft {β α : Type} : Option α → M β α
  | some a => ret a
  | none => stk
section
variable {β α γ δ : Type}
@[simp] theorem bnd_ret (a : α) (f : α → M β γ) : bnd (ret a) f = f a := rfl
@[simp] theorem bnd_stk (f : α → M β γ) : bnd (stk : M β α) f = stk := rfl
@[simp] theorem bnd_rai (c : String) (p : List D) (f : α → M β γ) : bnd (rai c p : M β α) f = rai c p := rfl
@[simp] theorem lft_some (a : α) : (lft (some a) : M β α) = ret a := rfl
@[simp] theorem lft_none : (lft none : M β α) = stk := rfl
theorem bnd_assoc (m : M β α) (f : α → M β γ) (g : γ → M β δ) : bnd (bnd m f) g = bnd m fun a => bnd (f a) g := by
  funext b; unfold bnd; cases m b <;> rfl
theorem bnd_ret_right (m : M β α) : bnd m ret = m := by
  funext b; unfold bnd; cases m b <;> rfl
theorem bnd_congr (m : M β α) {f g : α → M β γ} (h : ∀ a, f a = g a) : bnd m f = bnd m g := by
  have e : f = g := funext h
  rw [e]
end

/-! ### operations on data -/
def lim : Nat := 4000
/-- as an int among ints -/
def b2i (b : Bool) : Int := if b = true then 1 else 0
mutual
def deq : D → D → Bool
  | .non, .non => true
  | .bl a, .bl b => a == b
  | .bl a, .int j => b2i a == j
  | .int i, .bl b => i == b2i b
  | .int i, .int j => i == j
  | .str a, .str b => a == b
  | .tup a, .tup b => deqL a b
  | .lst a, .lst b => deqL a b
  | _, _ => false
def deqL : List D → List D → Bool
  | [], [] => true
  | a :: as, b :: bs => deq a b && deqL as bs
  | _, _ => false
end
mutual
/-- data that == may look at: at most n deep -/
def pln : Nat → D → Bool
  | _, .non => true
  | _, .bl _ => true
  | _, .int _ => true
  | _, .str s => s.cps.all (· < 0x110000)
  | n, .tup xs => plnT n xs
  | n, .lst xs => plnT n xs
  | _, .box => false
  | _, .fn _ => false
def plnT : Nat → List D → Bool
  | 0, _ => false
  | n + 1, xs => plnL n xs
def plnL : Nat → List D → Bool
  | _, [] => true
  | n, x :: xs => pln n x && plnL n xs
end
def isInts : List D → Option (List Int)
  | [] => some []
  | .int i :: r => (isInts r).map (i :: ·)
  | _ :: _ => none
def isBls : List D → Option (List Bool)
  | [] => some []
  | .bl i :: r => (isBls r).map (i :: ·)
  | _ :: _ => none
def lexLt : List Int → List Int → Bool
  | [], [] => false
  | [], _ :: _ => true
  | _ :: _, [] => false
  | a :: as, b :: bs => if a = b then lexLt as bs else decide (a < b)
def mulOk (i j : Int) : Bool := decide (i.natAbs.log2 + j.natAbs.log2 < 1000000)
def divOk (j : Int) : Bool := decide (0 < j) && decide (j.natAbs.log2 < 9000)
inductive Bop where
  | add | sub | mul | fdiv | mod | pow
  deriving DecidableEq
def bop : Bop → D → D → Option D
  | .add, .int i, .int j => some (.int (i + j))
  | .add, .tup a, .tup b => if a.length + b.length ≤ lim then some (.tup (a ++ b)) else none
  | .add, .lst a, .lst b => if a.length + b.length ≤ lim then some (.lst (a ++ b)) else none
  | .add, .str a, .str b => if a.cps.size + b.cps.size ≤ lim then some (.str (a ++ b)) else none
  | .sub, .int i, .int j => some (.int (i - j))
  | .mul, .int i, .int j => if mulOk i j = true then some (.int (i * j)) else none
  | .mul, .lst a, .int k => if 0 ≤ k ∧ k ≤ 1000 ∧ a.length ≤ 4 then some (.lst (List.replicate k.toNat a).flatten) else none
  | .mul, .tup a, .int k => if a ≠ [] ∧ 1 ≤ k ∧ k ≤ 1000 ∧ a.length ≤ 4 then some (.tup (List.replicate k.toNat a).flatten) else none
  | .fdiv, .int i, .int j => if divOk j = true then some (.int (i / j)) else none
  | .mod, .int i, .int j => if 0 < j then some (.int (i % j)) else none
  | .pow, .int i, .int j => if 0 ≤ j ∧ j ≤ 1000 ∧ i.natAbs < 2 ^ 64 then some (.int (i ^ j.toNat)) else none
  | _, _, _ => none
inductive Cop where
  | eq | ne | lt | le | gt | ge | isin | notin | iss | isnot
  deriving DecidableEq
def tupInts : D → Option (List Int)
  | .tup a => isInts a
  | _ => none
def items : D → Option (List D)
  | .tup xs => some xs
  | .lst xs => some xs
  | _ => none
def isSame : D → D → Option Bool
  | .non, .non => some true
  | _, .non => some false
  | .bl a, .bl b => some (decide (a = b))
  | _, _ => none
def cop : Cop → D → D → Option Bool
  | .eq, a, b => if pln 60 a && pln 60 b then some (deq a b) else none
  | .ne, a, b => if pln 60 a && pln 60 b then some (!deq a b) else none
  | .lt, .int i, .int j => some (decide (i < j))
  | .lt, .tup a, .tup b => (isInts a).bind fun x => (isInts b).map fun y => lexLt x y
  | .le, .int i, .int j => some (decide (i ≤ j))
  | .gt, .int i, .int j => some (decide (j < i))
  | .ge, .int i, .int j => some (decide (j ≤ i))
  | .isin, a, .lst xs => if pln 60 a && plnL 60 xs then some (xs.any fun z => deq z a) else none
  | .notin, a, .lst xs => if pln 60 a && plnL 60 xs then some (!xs.any fun z => deq z a) else none
  | .iss, a, b => isSame a b
  | .isnot, a, b => (isSame a b).map (!·)
  | _, _, _ => none
def truth : D → Option Bool
  | .non => some false
  | .bl b => some b
  | .int i => some (i != 0)
  | .str s => if s.cps.size ≤ lim then some (s.cps.size != 0) else none
  | .tup xs => some (!xs.isEmpty)
  | .lst xs => some (!xs.isEmpty)
  | _ => none
def pyIx (xs : List D) (i : Int) : Option D :=
  if 0 ≤ i then xs[i.toNat]? else if -(xs.length : Int) ≤ i then xs[(i + xs.length).toNat]? else none
def idx : D → D → Option D
  | .tup xs, .int i => pyIx xs i
  | .lst xs, .int i => pyIx xs i
  | _, _ => none
/-- a slice's bound as a place among n -/
def clip (n d : Nat) : Option Int → Nat
  | none => d
  | some v => if v < 0 then (v + (n : Int)).toNat else min v.toNat n
def cutD (xs : List D) (lo hi : Option Int) : List D := (xs.drop (clip xs.length 0 lo)).take (clip xs.length xs.length hi - clip xs.length 0 lo)
def sli (lo hi : Option Int) : D → Option D
  | .tup xs => some (.tup (cutD xs lo hi))
  | .lst xs => some (.lst (cutD xs lo hi))
  | _ => none
def revD : D → Option D
  | .tup xs => some (.tup xs.reverse)
  | .lst xs => some (.lst xs.reverse)
  | _ => none
def toI : D → Option Int
  | .int i => some i
  | _ => none
inductive Ty where
  | tuple | list | int | bool | str
  deriving DecidableEq
def isi : D → Ty → Option Bool
  | .tup _, t => some (t == .tuple)
  | .lst _, t => some (t == .list)
  | .int _, t => some (t == .int)
  | .bl _, t => some (t == .bool || t == .int)
  | .str _, t => some (t == .str)
  | .non, _ => some false
  | _, _ => none
inductive Bi where
  | len | abs | int | list | tuple | all | any | max | min | sum | sorted | lrange | trange
  deriving DecidableEq
def intsFrom (a : Int) (n : Nat) : List D := (List.range n).map fun i => .int (a + (i : Nat))
def bfn : Bi → List D → Option D
  | .len, [.tup xs] => some (.int xs.length)
  | .len, [.lst xs] => some (.int xs.length)
  | .len, [.str s] => if s.cps.size ≤ lim then some (.int s.cps.size) else none
  | .abs, [.int i] => some (.int (if i < 0 then -i else i))
  | .int, [.int i] => some (.int i)
  | .int, [.bl b] => some (.int (b2i b))
  | .list, [.tup xs] => some (.lst xs)
  | .list, [.lst xs] => some (.lst xs)
  | .tuple, [.tup xs] => some (.tup xs)
  | .tuple, [.lst xs] => some (.tup xs)
  | .all, [.lst xs] => (isBls xs).map fun bs => .bl (bs.all id)
  | .any, [.lst xs] => (isBls xs).map fun bs => .bl (bs.any id)
  | .max, [.lst xs] => (isInts xs).bind fun ns => ns.max?.map .int
  | .min, [.lst xs] => (isInts xs).bind fun ns => ns.min?.map .int
  | .max, [.int i, .int j] => some (.int (if j > i then j else i))
  | .min, [.int i, .int j] => some (.int (if j < i then j else i))
  | .sum, [.lst xs] => (isInts xs).map fun ns => .int ns.sum
  | .sorted, [.lst xs] => (isInts xs).map fun ns => .lst ((ns.mergeSort (fun a b => decide (a ≤ b))).map .int)
  | .lrange, [.int n] => if n ≤ lim ∧ -lim ≤ n then some (.lst (intsFrom 0 n.toNat)) else none
  | .trange, [.int n] => if n ≤ lim ∧ -lim ≤ n then some (.tup (intsFrom 0 n.toNat)) else none
  | _, _ => none
/-- what a for walks -/
inductive Ik where
  | seq | ran | enu | zip | rvs
  deriving DecidableEq
def small (a : Int) : Bool := decide (-100000000 ≤ a) && decide (a ≤ 100000000)
def zipD : List D → List D → List D
  | a :: as, b :: bs => .tup [a, b] :: zipD as bs
  | _, _ => []
def enuD : Nat → List D → List D
  | _, [] => []
  | k, a :: as => .tup [.int k, a] :: enuD (k + 1) as
def stepsD (a c : Int) (n : Nat) : List D := (List.range n).map fun i => .int (a + (i : Nat) * c)
def iter : Ik → List D → Option (List D)
  | .seq, [d] => items d
  | .ran, [.int n] => if small n = true then some (intsFrom 0 n.toNat) else none
  | .ran, [.int a, .int b] => if small a && small b then some (intsFrom a (b - a).toNat) else none
  | .ran, [.int a, .int b, .int c] => if small a && small b && (c == -1) then some (stepsD a (-1) (a - b).toNat) else none
  | .enu, [d] => (items d).map (enuD 0)
  | .zip, [.tup xs, .tup ys] => some (zipD xs ys)
  | .zip, [.lst xs, .lst ys] => some (zipD xs ys)
  | .rvs, [d] => (items d).map List.reverse
  | _, _ => none

/-! ### the language -/
inductive Tg where
  | nm (i : Nat)
  | tu (ts : List Tg)
inductive E where
  | var (i : Nat) | bvar (i : Nat) | glob (x : String) | lit (d : D)
  | bin (o : Bop) (a b : E) | neg (a : E) | no (a : E) | and (es : List E) | or (es : List E)
  | cmp (o : Cop) (a b : E) | chn (o p : Cop) (a b c : E) | isi (a : E) (t : Ty)
  | ite (c a b : E) | idx (a i : E) | sl1 (a lo : E) | sl2 (a hi : E) | sl3 (a lo hi : E) | rev (a : E)
  | tup (es : List E) | lst (es : List E) | comp (e : E) (t : Tg) (k : Ik) (es : List E) (cs : List E) (own : List Nat)
  | bi (f : Bi) (es : List E) | call (f : String) (es : List E)
inductive S where
  | asg (t : Tg) (e : E) | own (i : Nat) (e : E) | par (i j : Nat) (oi oj : Bool) (a b : E) | par3 (i j l : Nat) (oi oj ol : Bool) (a b c : E)
  | sto (i : Nat) (k e : E) | sto2 (i j : Nat) (k l a b : E)
  | app (i : Nat) (e : E) | ins (i : Nat) (k e : E) | ext (i : Nat) (e : E) | aug (i : Nat) (o : Bop) (e : E) | agl (i : Nat) (e : E) | pop (t : Tg) (i : Nat)
  | frz (i : Nat) | iff (c : E) (a b : List S) | whl (c : E) (a : List S) | fr (t : Tg) (k : Ik) (es : List E) (a : List S)
  | ret (e : E) | retN | brk | cnt | pas | bad
/-- a slot -/
inductive Cell where
  | un | im (d : D) | ow (xs : List D)
abbrev Env := List Cell
def getV {β : Type} (ρ : Env) (i : Nat) : M β D := match ρ[i]? with
  | some (.im d) => ret d
  | _ => stk
def getB {β : Type} (ρ : Env) (i : Nat) : M β D := match ρ[i]? with
  | some (.im d) => ret d
  | some (.ow xs) => ret (.lst xs)
  | _ => stk
mutual
def bindT : Tg → D → Env → Option Env
  | .nm i, d, ρ => some (ρ.set i (.im d))
  | .tu ts, .tup ds, ρ => bindTs ts ds ρ
  | .tu _, _, _ => none
def bindTs : List Tg → List D → Env → Option Env
  | [], [], ρ => some ρ
  | t :: ts, d :: ds, ρ => (bindT t d ρ).bind fun ρ' => bindTs ts ds ρ'
  | _, _, _ => none
end
def wipeE : Env → List Nat → Env
  | ρ, [] => ρ
  | ρ, i :: r => (wipeE ρ r).set i .un
def compM {β : Type} (f : D → M β (Option D)) : List D → M β (List D)
  | [] => ret []
  | d :: ds => bnd (f d) fun o => bnd (compM f ds) fun r => ret (match o with
    | some v => v :: r
    | none => r)

section
variable {β : Type} (gl : String → Option D) (F : String → List D → M β D)
mutual
def ev : E → Env → M β D
  | .var i, ρ => getV ρ i
  | .bvar i, ρ => getB ρ i
  | .glob x, _ => lft (gl x)
  | .lit d, _ => ret d
  | .bin o a b, ρ => bnd (ev a ρ) fun x => bnd (ev b ρ) fun y => lft (bop o x y)
  | .neg a, ρ => bnd (ev a ρ) fun x => bnd (lft (toI x)) fun i => ret (.int (-i))
  | .no a, ρ => bnd (ev a ρ) fun x => bnd (lft (truth x)) fun t => ret (.bl (!t))
  | .and es, ρ => evA es ρ
  | .or es, ρ => evO es ρ
  | .cmp o a b, ρ => bnd (ev a ρ) fun x => bnd (ev b ρ) fun y => bnd (lft (cop o x y)) fun t => ret (.bl t)
  | .chn o p a b c, ρ => bnd (ev a ρ) fun x => bnd (ev b ρ) fun y => bnd (lft (cop o x y)) fun t =>
      if t = true then bnd (ev c ρ) fun z => bnd (lft (cop p y z)) fun u => ret (.bl u) else ret (.bl false)
  | .isi a t, ρ => bnd (ev a ρ) fun x => bnd (lft (isi x t)) fun t => ret (.bl t)
  | .ite c a b, ρ => bnd (ev c ρ) fun x => bnd (lft (truth x)) fun t => if t = true then ev a ρ else ev b ρ
  | .idx a i, ρ => bnd (ev a ρ) fun x => bnd (ev i ρ) fun y => lft (idx x y)
  | .sl1 a lo, ρ => bnd (ev a ρ) fun x => bnd (ev lo ρ) fun l => bnd (lft (toI l)) fun l => lft (sli (some l) none x)
  | .sl2 a hi, ρ => bnd (ev a ρ) fun x => bnd (ev hi ρ) fun u => bnd (lft (toI u)) fun u => lft (sli none (some u) x)
  | .sl3 a lo hi, ρ => bnd (ev a ρ) fun x => bnd (ev lo ρ) fun l => bnd (lft (toI l)) fun l => bnd (ev hi ρ) fun u => bnd (lft (toI u)) fun u => lft (sli (some l) (some u) x)
  | .rev a, ρ => bnd (ev a ρ) fun x => lft (revD x)
  | .tup es, ρ => bnd (evL es ρ) fun ds => if ds.length ≤ lim then ret (.tup ds) else stk
  | .lst es, ρ => bnd (evL es ρ) fun ds => if ds.length ≤ lim then ret (.lst ds) else stk
  | .comp e t k es cs own, ρ => bnd (evL es ρ) fun ds => bnd (lft (iter k ds)) fun xs => if xs.length ≤ lim then bnd (compM (fun d => bnd (lft (bindT t d (wipeE ρ own))) fun ρ' =>
      bnd (evC cs ρ') fun b => if b = true then bnd (ev e ρ') fun v => ret (some v) else ret none) xs) fun vs => ret (.lst vs) else stk
  | .bi f es, ρ => bnd (evL es ρ) fun ds => lft (bfn f ds)
  | .call f es, ρ => bnd (evL es ρ) fun ds => F f ds
def evL : List E → Env → M β (List D)
  | [], _ => ret []
  | e :: es, ρ => bnd (ev e ρ) fun d => bnd (evL es ρ) fun ds => ret (d :: ds)
def evA : List E → Env → M β D
  | [], _ => stk
  | [e], ρ => ev e ρ
  | e :: es, ρ => bnd (ev e ρ) fun d => bnd (lft (truth d)) fun t => if t = true then evA es ρ else ret d
def evO : List E → Env → M β D
  | [], _ => stk
  | [e], ρ => ev e ρ
  | e :: es, ρ => bnd (ev e ρ) fun d => bnd (lft (truth d)) fun t => if t = true then ret d else evO es ρ
def evC : List E → Env → M β Bool
  | [], _ => ret true
  | e :: es, ρ => bnd (ev e ρ) fun d => bnd (lft (truth d)) fun t => if t = true then evC es ρ else ret false
end
end
/-- how a block ends -/
inductive Fl where
  | nx | bk | ct | rt (d : D)
section
variable {β : Type}
/-- n turns at most -/
def whlN (c : Env → M β Bool) (f : Env → M β (Fl × Env)) : Nat → Env → M β (Fl × Env)
  | 0, _ => stk
  | n + 1, ρ => bnd (c ρ) fun t => if t = true then bnd (f ρ) fun r => (match r.1 with
      | .nx => whlN c f n r.2
      | .ct => whlN c f n r.2
      | .bk => ret (.nx, r.2)
      | .rt d => ret (.rt d, r.2)) else ret (.nx, ρ)
open Classical in
noncomputable def whlM (c : Env → M β Bool) (f : Env → M β (Fl × Env)) : Env → M β (Fl × Env) := fun ρ b =>
  if h : ∃ n, whlN c f n ρ b ≠ .stuck then whlN c f h.choose ρ b else .stuck
def forM (f : D → Env → M β (Fl × Env)) : List D → Env → M β (Fl × Env)
  | [], ρ => ret (.nx, ρ)
  | d :: ds, ρ => bnd (f d ρ) fun r => match r.1 with
    | .nx => forM f ds r.2
    | .ct => forM f ds r.2
    | .bk => ret (.nx, r.2)
    | .rt d => ret (.rt d, r.2)
def getO (ρ : Env) (i : Nat) : M β (List D) := match ρ[i]? with
  | some (.ow xs) => ret xs
  | _ => stk
def setIx (xs : List D) (i : D) (v : D) : Option (List D) := match i with
  | .int k => if 0 ≤ k then (if k < xs.length then some (xs.set k.toNat v) else none) else if -(xs.length : Int) ≤ k then some (xs.set (k + xs.length).toNat v) else none
  | _ => none
def asL : D → Option (List D)
  | .lst xs => some xs
  | _ => none
/-- a value for a slot: as it is, or as a list of one's own -/
def cellOf (o : Bool) (d : D) : Option Cell := if o = true then (asL d).map Cell.ow else some (.im d)
variable (gl : String → Option D) (F : String → List D → M β D)
def nxt (ρ : Env) : M β (Fl × Env) := ret (.nx, ρ)
def tst (e : E) (ρ : Env) : M β Bool := bnd (ev gl F e ρ) fun x => lft (truth x)
mutual
noncomputable def ex : S → Env → M β (Fl × Env)
  | .asg t e, ρ => bnd (ev gl F e ρ) fun v => bnd (lft (bindT t v ρ)) nxt
  | .own i e, ρ => bnd (ev gl F e ρ) fun v => bnd (lft (asL v)) fun xs => nxt (ρ.set i (.ow xs))
  | .par i j oi oj a b, ρ => bnd (ev gl F a ρ) fun v => bnd (ev gl F b ρ) fun w => bnd (lft (cellOf oi v)) fun c => bnd (lft (cellOf oj w)) fun d => nxt ((ρ.set i c).set j d)
  | .par3 i j l oi oj ol a b e, ρ => bnd (ev gl F a ρ) fun v => bnd (ev gl F b ρ) fun w => bnd (ev gl F e ρ) fun u => bnd (lft (cellOf oi v)) fun c => bnd (lft (cellOf oj w)) fun d => bnd (lft (cellOf ol u)) fun g => nxt (((ρ.set i c).set j d).set l g)
  | .sto i k e, ρ => bnd (ev gl F e ρ) fun v => bnd (getO ρ i) fun xs => bnd (ev gl F k ρ) fun z => bnd (lft (setIx xs z v)) fun ys => nxt (ρ.set i (.ow ys))
  | .sto2 i j k l a b, ρ => bnd (ev gl F a ρ) fun v => bnd (ev gl F b ρ) fun w => bnd (getO ρ i) fun xs => bnd (ev gl F k ρ) fun z => bnd (lft (setIx xs z v)) fun ys =>
      bnd (getO (ρ.set i (.ow ys)) j) fun xs' => bnd (ev gl F l (ρ.set i (.ow ys))) fun z' => bnd (lft (setIx xs' z' w)) fun ys' => nxt ((ρ.set i (.ow ys)).set j (.ow ys'))
  | .app i e, ρ => bnd (getO ρ i) fun xs => bnd (ev gl F e ρ) fun v => if xs.length < lim then nxt (ρ.set i (.ow (xs ++ [v]))) else stk
  | .ins i k e, ρ => bnd (getO ρ i) fun xs => bnd (ev gl F k ρ) fun z => bnd (lft (toI z)) fun k => bnd (ev gl F e ρ) fun v =>
      if xs.length < lim ∧ 0 ≤ k ∧ k ≤ 100000000 then nxt (ρ.set i (.ow (xs.take k.toNat ++ [v] ++ xs.drop k.toNat))) else stk
  | .ext i e, ρ => bnd (getO ρ i) fun xs => bnd (ev gl F e ρ) fun v => bnd (lft (asL v)) fun ys => if xs.length + ys.length ≤ lim then nxt (ρ.set i (.ow (xs ++ ys))) else stk
  | .aug i o e, ρ => bnd (getV ρ i) fun x => bnd (ev gl F e ρ) fun y => bnd (lft ((toI x).bind fun _ => (toI y).bind fun _ => if o = .add ∨ o = .sub then bop o x y else none)) fun z => nxt (ρ.set i (.im z))
  | .agl i e, ρ => bnd (getO ρ i) fun xs => bnd (ev gl F e ρ) fun v => bnd (lft (asL v)) fun ys => if xs.length + ys.length ≤ lim then nxt (ρ.set i (.ow (xs ++ ys))) else stk
  | .pop t i, ρ => bnd (getO ρ i) fun xs => match xs.getLast? with
    | some v => bnd (lft (bindT t v (ρ.set i (.ow xs.dropLast)))) nxt
    | none => stk
  | .frz i, ρ => match ρ[i]? with
    | some (.ow xs) => nxt (ρ.set i (.im (.lst xs)))
    | _ => nxt ρ
  | .iff c a b, ρ => bnd (tst gl F c ρ) fun t => if t = true then exs a ρ else exs b ρ
  | .whl c a, ρ => whlM (tst gl F c) (exs a) ρ
  | .fr t k es a, ρ => bnd (evL gl F es ρ) fun ds => bnd (lft (iter k ds)) fun xs => forM (fun d ρ' => bnd (lft (bindT t d ρ')) fun ρ'' => exs a ρ'') xs ρ
  | .ret e, ρ => bnd (ev gl F e ρ) fun v => ret (.rt v, ρ)
  | .retN, ρ => ret (.rt .non, ρ)
  | .brk, ρ => ret (.bk, ρ)
  | .cnt, ρ => ret (.ct, ρ)
  | .pas, ρ => nxt ρ
  | .bad, _ => stk
noncomputable def exs : List S → Env → M β (Fl × Env)
  | [], ρ => nxt ρ
  | s :: r, ρ => bnd (ex s ρ) fun x => match x.1 with
    | .nx => exs r x.2
    | .bk => ret (.bk, x.2)
    | .ct => ret (.ct, x.2)
    | .rt d => ret (.rt d, x.2)
end
end
/-- a function: its names (parameters first), how many parameters, its body -/
structure Fn where
  names : List String
  np : Nat
  body : List S
structure Prog (β : Type) where
  fns : String → Option Fn
  gl : String → Option D
  prim : String → Option (List D → M β D)
def endF {β : Type} (m : M β (Fl × Env)) : M β D := bnd m fun r => match r.1 with
  | .rt d => ret d
  | .nx => ret .non
  | _ => stk
noncomputable def call {β : Type} (P : Prog β) : Nat → String → List D → M β D
  | 0, _, _ => stk
  | k + 1, x, args => match P.prim x with
    | some p => if 3 ≤ k then p args else stk
    | none => match P.fns x with
      | some f => if args.length = f.np then endF (exs P.gl (call P k) f.body (args.map Cell.im ++ List.replicate (f.names.length - f.np) Cell.un)) else stk
      | none => stk
end PL

set_option autoImplicit false
set_option linter.all false
set_option maxRecDepth 100000
set_option maxHeartbeats 4000000
/-! PL2: data over the heap; operations by values. -/
namespace PL
open PySem PySem.Spec PyProof.Rows L2

section
variable (K : PySem.W.Frag) (mg : PySem.Str → Option Value) (bp : Addr) (B : Hp)
mutual
/-- v is d, all of it within B -/
def Rep : D → V → Prop
  | .non, v => v = .non
  | .bl b, v => v = .bl b
  | .int i, v => v = .int i
  | .str s, v => v = .str s
  | .tup ds, v => ∃ a vs, v = .ref a ∧ SqT K B a vs ∧ RepL ds vs
  | .lst ds, v => ∃ a vs, v = .ref a ∧ B a = some (.lst vs) ∧ RepL ds vs
  | .box, v => v = .ref bp
  | .fn x, v => ∃ f, v = .ref f ∧ mg (PySem.Str.ofString x) = some (.ref f)
def RepL : List D → List V → Prop
  | [], vs => vs = []
  | d :: ds, vs => ∃ v r, vs = v :: r ∧ Rep d v ∧ RepL ds r
end
/-- .. or d is a list at a place of its own -/
def RepT (H : Hp) (bq : Addr) (d : D) (v : V) : Prop := Rep K mg bp B d v ∨ ∃ p vs xs, v = .ref p ∧ d = .lst xs ∧ H p = some (.lst vs) ∧ RepL K mg bp B xs vs ∧ p ≠ bp ∧ p ≠ bq
def RepTL (H : Hp) (bq : Addr) : List D → List V → Prop
  | [], vs => vs = []
  | d :: ds, vs => ∃ v r, vs = v :: r ∧ RepT K mg bp B H bq d v ∧ RepTL H bq ds r
end

theorem sqT_mono {K : PySem.W.Frag} {H H' : Hp} {a : Addr} {xs : List V} (e : Same H H') (h : SqT K H a xs) : SqT K H' a xs := by
  rcases h with (h | ⟨o, h⟩) | h
  · exact .inl (.inl (e _ _ h))
  · exact .inl (.inr ⟨o, e _ _ h⟩)
  · exact .inr h
section
variable {K : PySem.W.Frag} {mg : PySem.Str → Option Value} {bp bq : Addr} {B B' H H' : Hp}
mutual
theorem Rep.mono (e : Same B B') : ∀ (d : D) (v : V), Rep K mg bp B d v → Rep K mg bp B' d v
  | .non, _, h => by simpa only [Rep] using h
  | .bl _, _, h => by simpa only [Rep] using h
  | .int _, _, h => by simpa only [Rep] using h
  | .str _, _, h => by simpa only [Rep] using h
  | .tup ds, v, h => by
    simp only [Rep] at h ⊢
    obtain ⟨a, vs, r, q, l⟩ := h
    exact ⟨a, vs, r, sqT_mono e q, RepL.mono e ds vs l⟩
  | .lst ds, v, h => by
    simp only [Rep] at h ⊢
    obtain ⟨a, vs, r, q, l⟩ := h
    exact ⟨a, vs, r, e _ _ q, RepL.mono e ds vs l⟩
  | .box, _, h => by simpa only [Rep] using h
  | .fn _, _, h => by simpa only [Rep] using h
theorem RepL.mono (e : Same B B') : ∀ (ds : List D) (vs : List V), RepL K mg bp B ds vs → RepL K mg bp B' ds vs
  | [], _, h => by simpa only [RepL] using h
  | d :: ds, vs, h => by
    simp only [RepL] at h ⊢
    obtain ⟨v, r, q, h1, h2⟩ := h
    exact ⟨v, r, q, Rep.mono e d v h1, RepL.mono e ds r h2⟩
end
theorem RepL.nil : RepL K mg bp B [] [] := by simp only [RepL]
theorem RepL.cons {d : D} {v : V} {ds : List D} {vs : List V} (h : Rep K mg bp B d v) (r : RepL K mg bp B ds vs) : RepL K mg bp B (d :: ds) (v :: vs) := by
  simp only [RepL]; exact ⟨v, vs, rfl, h, r⟩
theorem RepL.inv {d : D} {ds : List D} {vs : List V} (h : RepL K mg bp B (d :: ds) vs) : ∃ v r, vs = v :: r ∧ Rep K mg bp B d v ∧ RepL K mg bp B ds r := by
  simpa only [RepL] using h
theorem RepL.nil_inv {vs : List V} (h : RepL K mg bp B [] vs) : vs = [] := by simpa only [RepL] using h
theorem RepL.length : ∀ {ds : List D} {vs : List V}, RepL K mg bp B ds vs → ds.length = vs.length
  | [], vs, h => by rw [h.nil_inv]; rfl
  | d :: ds, vs, h => by
    obtain ⟨v, r, rfl, _, h2⟩ := h.inv
    rw [List.length_cons, List.length_cons, RepL.length h2]
theorem RepL.get : ∀ {ds : List D} {vs : List V} {i : Nat} {d : D}, RepL K mg bp B ds vs → ds[i]? = some d → ∃ v, vs[i]? = some v ∧ Rep K mg bp B d v
  | [], _, _, _, _, e => by simp at e
  | _ :: ds, vs, 0, d, h, e => by
    obtain ⟨v, r, rfl, h1, h2⟩ := h.inv
    simp at e; subst e
    exact ⟨v, rfl, h1⟩
  | _ :: ds, vs, i + 1, d, h, e => by
    obtain ⟨v, r, rfl, h1, h2⟩ := h.inv
    obtain ⟨u, e1, h3⟩ := RepL.get h2 (by simpa using e)
    exact ⟨u, by simpa using e1, h3⟩
theorem RepL.append : ∀ {as bs : List D} {us vs : List V}, RepL K mg bp B as us → RepL K mg bp B bs vs → RepL K mg bp B (as ++ bs) (us ++ vs)
  | [], _, _, _, h, k => by rw [h.nil_inv]; exact k
  | a :: as, bs, us, vs, h, k => by
    obtain ⟨v, r, rfl, h1, h2⟩ := h.inv
    exact RepL.cons h1 (RepL.append h2 k)
theorem RepL.take : ∀ (n : Nat) {as : List D} {us : List V}, RepL K mg bp B as us → RepL K mg bp B (as.take n) (us.take n)
  | 0, _, _, _ => by simpa using RepL.nil
  | n + 1, [], _, h => by rw [h.nil_inv]; simpa using RepL.nil
  | n + 1, a :: as, us, h => by
    obtain ⟨v, r, rfl, h1, h2⟩ := h.inv
    exact RepL.cons h1 (RepL.take n h2)
theorem RepL.drop : ∀ (n : Nat) {as : List D} {us : List V}, RepL K mg bp B as us → RepL K mg bp B (as.drop n) (us.drop n)
  | 0, _, _, h => h
  | n + 1, [], _, h => by rw [h.nil_inv]; simpa using RepL.nil
  | n + 1, a :: as, us, h => by
    obtain ⟨v, r, rfl, h1, h2⟩ := h.inv
    exact RepL.drop n h2
theorem RepL.reverse {as : List D} {us : List V} (h : RepL K mg bp B as us) : RepL K mg bp B as.reverse us.reverse := by
  induction as generalizing us with
  | nil => rw [h.nil_inv]; simpa using RepL.nil
  | cons a as ih =>
    obtain ⟨v, r, rfl, h1, h2⟩ := h.inv
    rw [List.reverse_cons, List.reverse_cons]
    exact RepL.append (ih h2) (RepL.cons h1 RepL.nil)
theorem RepL.set {d : D} {v : V} (h : Rep K mg bp B d v) : ∀ (n : Nat) {as : List D} {us : List V}, RepL K mg bp B as us → RepL K mg bp B (as.set n d) (us.set n v)
  | _, [], us, h2 => by rw [h2.nil_inv]; simpa using RepL.nil
  | 0, a :: as, us, h2 => by
    obtain ⟨v', r, rfl, _, h3⟩ := h2.inv
    exact RepL.cons h h3
  | n + 1, a :: as, us, h2 => by
    obtain ⟨v', r, rfl, h4, h3⟩ := h2.inv
    exact RepL.cons h4 (RepL.set h n h3)
theorem RepL.rep {as : List D} {us : List V} (h : RepL K mg bp B as us) : ∀ n : Nat, RepL K mg bp B (List.replicate n as).flatten (List.replicate n us).flatten
  | 0 => by simpa using RepL.nil
  | n + 1 => by
    rw [List.replicate_succ, List.replicate_succ, List.flatten_cons, List.flatten_cons]
    exact RepL.append h (RepL.rep h n)
theorem RepL.dropLast {as : List D} {us : List V} (h : RepL K mg bp B as us) : RepL K mg bp B as.dropLast us.dropLast := by
  rw [List.dropLast_eq_take, List.dropLast_eq_take, ← h.length]; exact h.take _
theorem RepL.ints : ∀ {ds : List D} {vs : List V} {ns : List Int}, isInts ds = some ns → RepL K mg bp B ds vs → vs = ns.map V.int
  | [], vs, ns, e, h => by
    simp only [isInts, Option.some.injEq] at e; subst e
    rw [h.nil_inv]; rfl
  | d :: ds, vs, ns, e, h => by
    obtain ⟨v, r, rfl, h1, h2⟩ := h.inv
    cases d with
    | int i =>
      simp only [isInts, Option.map_eq_some_iff] at e
      obtain ⟨ms, e1, rfl⟩ := e
      have h1 : v = .int i := by simpa only [Rep] using h1
      rw [h1, RepL.ints e1 h2]; rfl
    | _ => simp [isInts] at e
theorem RepL.bls : ∀ {ds : List D} {vs : List V} {ns : List Bool}, isBls ds = some ns → RepL K mg bp B ds vs → vs = ns.map V.bl
  | [], vs, ns, e, h => by
    simp only [isBls, Option.some.injEq] at e; subst e
    rw [h.nil_inv]; rfl
  | d :: ds, vs, ns, e, h => by
    obtain ⟨v, r, rfl, h1, h2⟩ := h.inv
    cases d with
    | bl i =>
      simp only [isBls, Option.map_eq_some_iff] at e
      obtain ⟨ms, e1, rfl⟩ := e
      have h1 : v = .bl i := by simpa only [Rep] using h1
      rw [h1, RepL.bls e1 h2]; rfl
    | _ => simp [isBls] at e
theorem RepL.of_ints : ∀ ns : List Int, RepL K mg bp B (ns.map D.int) (ns.map V.int)
  | [] => RepL.nil
  | n :: ns => RepL.cons (by simp only [Rep]) (RepL.of_ints ns)
theorem RepL.of_list : ∀ {ds : List D} {vs : List V}, ds.length = vs.length → (∀ (i : Nat) (d : D) (v : V), ds[i]? = some d → vs[i]? = some v → Rep K mg bp B d v) → RepL K mg bp B ds vs
  | [], [], _, _ => RepL.nil
  | [], _ :: _, e, _ => by simp at e
  | _ :: _, [], e, _ => by simp at e
  | d :: ds, v :: vs, e, h => RepL.cons (h 0 d v rfl rfl) (RepL.of_list (by simpa using e) fun i d' v' h1 h2 => h (i + 1) d' v' (by simpa using h1) (by simpa using h2))
theorem RepT.mono (e : Same B B') (k : ∀ a, a ≠ bp → a ≠ bq → H a ≠ none → H' a = H a) {d : D} {v : V} (h : RepT K mg bp B H bq d v) : RepT K mg bp B' H' bq d v := by
  rcases h with h | ⟨p, vs, xs, rfl, rfl, h1, h2, h3, h4⟩
  · exact .inl (Rep.mono e d v h)
  · exact .inr ⟨p, vs, xs, rfl, rfl, by rw [k p h3 h4 (by rw [h1]; exact Option.some_ne_none _)]; exact h1, RepL.mono e _ _ h2, h3, h4⟩
/-- who works here: B is part of H, the box apart -/
structure Gd (bp bq : Addr) (B H : Hp) : Prop where
  sub : Same B H
  b1 : B bp = none
  b2 : B bq = none
  n1 : H bp ≠ none
  n2 : H bq ≠ none
/-- new things alone -/
structure Ex0 (B B' H H' : Hp) : Prop where
  bs : Same B B'
  sub : Same B' H'
  fr : ∀ a, B' a ≠ none → B a = none → H a = none
  kp : ∀ a, H a ≠ none → H' a = H a
theorem Ex0.refl (s : Same B H) : Ex0 B B H H := ⟨Same.refl B, s, fun a h k => absurd k h, fun _ _ => rfl⟩
theorem Ex0.gd (e : Ex0 B B' H H') (g : Gd bp bq B H) : Gd bp bq B' H' where
  sub := e.sub
  b1 := Classical.byContradiction fun h => g.n1 (e.fr bp h g.b1)
  b2 := Classical.byContradiction fun h => g.n2 (e.fr bq h g.b2)
  n1 := by rw [e.kp bp g.n1]; exact g.n1
  n2 := by rw [e.kp bq g.n2]; exact g.n2
theorem same_upd {p : Addr} {o : HO} (h : H p = none) : Same H (upd H p o) := fun b o' e => by rw [upd_ne (ne_of_none e h)]; exact e
theorem Ex0.new {p : Addr} {o : HO} (s : Same B H) (h : H p = none) : Ex0 B (upd B p o) H (upd H p o) where
  bs := same_upd (s.free h)
  sub := fun b o' e => by
    by_cases hb : b = p
    · subst hb; rw [upd_same] at e ⊢; exact e
    · rw [upd_ne hb] at e ⊢; exact s _ _ e
  fr := fun a h1 h2 => by
    by_cases hb : a = p
    · subst hb; exact h
    · rw [upd_ne hb] at h1; exact absurd h2 h1
  kp := fun a ha => upd_ne fun e => ha (by rw [e]; exact h)
theorem Ex0.own {p : Addr} {o : HO} (s : Same B H) (h : H p = none) : Ex0 B B H (upd H p o) where
  bs := Same.refl B
  sub := s.trans (same_upd h)
  fr := fun a h1 h2 => absurd h2 h1
  kp := fun a ha => upd_ne fun e => ha (by rw [e]; exact h)
theorem Ex0.trans {B'' H'' : Hp} (a : Ex0 B B' H H') (b : Ex0 B' B'' H' H'') : Ex0 B B'' H H'' where
  bs := a.bs.trans b.bs
  sub := b.sub
  fr := fun c h1 h2 => by
    cases q : B' c with
    | some o => exact a.fr c (by rw [q]; exact Option.some_ne_none _) h2
    | none =>
      have h3 := b.fr c h1 q
      exact Classical.byContradiction fun h => by rw [a.kp c h] at h3; exact h h3
  kp := fun c h => by rw [b.kp c (by rw [a.kp c h]; exact h), a.kp c h]
/-- how a value is asked for: as a value; to be looked at; as a new list -/
inductive Md where
  | val | bor | own
  deriving DecidableEq
def RepM (K : PySem.W.Frag) (mg : PySem.Str → Option Value) (bp bq : Addr) (m : Md) (H B' H' : Hp) (d : D) (v : V) : Prop := match m with
  | .val => Rep K mg bp B' d v
  | .bor => RepT K mg bp B' H' bq d v
  | .own => ∀ xs, d = .lst xs → ∃ p vs, v = .ref p ∧ H p = none ∧ H' p = some (.lst vs) ∧ B' p = none ∧ RepL K mg bp B' xs vs
def ResM (K : PySem.W.Frag) (mg : PySem.Str → Option Value) (bp bq : Addr) (m : Md) (B H : Hp) (d : D) (Q : VK) : Prop :=
  ∀ B' H' v, Ex0 B B' H H' → RepM K mg bp bq m H B' H' d v → Q v H'
theorem ResM.lst {m : Md} {xs : List D} {vs : List V} {Q : VK} {p : Addr} (g : Gd bp bq B H) (h : ResM K mg bp bq m B H (.lst xs) Q) (r : RepL K mg bp B xs vs) (hp : H p = none) : Q (.ref p) (upd H p (.lst vs)) := by
  have hr : Rep K mg bp (upd B p (.lst vs)) (.lst xs) (.ref p) := by
    simp only [Rep]
    exact ⟨p, vs, rfl, upd_same, RepL.mono (same_upd (g.sub.free hp)) _ _ r⟩
  cases m with
  | val => exact h _ _ _ (Ex0.new g.sub hp) hr
  | bor => exact h _ _ _ (Ex0.new g.sub hp) (.inl hr)
  | own =>
    refine h _ _ _ (Ex0.own g.sub hp) fun ys e => ?_
    cases e
    exact ⟨p, vs, rfl, hp, upd_same, g.sub.free hp, r⟩
theorem ResM.tup {m : Md} {xs : List D} {vs : List V} {Q : VK} {p : Addr} (g : Gd bp bq B H) (h : ResM K mg bp bq m B H (.tup xs) Q) (r : RepL K mg bp B xs vs) (hp : H p = none) : Q (.ref p) (upd H p (.tup vs)) := by
  have hr : Rep K mg bp (upd B p (.tup vs)) (.tup xs) (.ref p) := by
    simp only [Rep]
    exact ⟨p, vs, rfl, .inl (.inl upd_same), RepL.mono (same_upd (g.sub.free hp)) _ _ r⟩
  cases m with
  | val => exact h _ _ _ (Ex0.new g.sub hp) hr
  | bor => exact h _ _ _ (Ex0.new g.sub hp) (.inl hr)
  | own => exact h _ _ _ (Ex0.new g.sub hp) fun ys e => by cases e
theorem ResM.same {m : Md} {d : D} {v : V} {Q : VK} (g : Gd bp bq B H) (h : ResM K mg bp bq m B H d Q) (r : Rep K mg bp B d v) (nl : ∀ xs, d ≠ .lst xs) : Q v H := by
  cases m with
  | val => exact h _ _ _ (Ex0.refl g.sub) r
  | bor => exact h _ _ _ (Ex0.refl g.sub) (.inl r)
  | own => exact h _ _ _ (Ex0.refl g.sub) fun ys e => absurd e (nl ys)
theorem ResM.int {m : Md} {i : Int} {Q : VK} (g : Gd bp bq B H) (h : ResM K mg bp bq m B H (.int i) Q) : Q (.int i) H := h.same g (by simp only [Rep]) (by intro xs e; cases e)
theorem ResM.bl {m : Md} {i : Bool} {Q : VK} (g : Gd bp bq B H) (h : ResM K mg bp bq m B H (.bl i) Q) : Q (.bl i) H := h.same g (by simp only [Rep]) (by intro xs e; cases e)
theorem ResM.str {m : Md} {i : PySem.Str} {Q : VK} (g : Gd bp bq B H) (h : ResM K mg bp bq m B H (.str i) Q) : Q (.str i) H := h.same g (by simp only [Rep]) (by intro xs e; cases e)
/-! ### what stands there, by the datum -/
theorem RepT.int {i : Int} {v : V} (h : RepT K mg bp B H bq (.int i) v) : v = .int i := by
  rcases h with h | ⟨p, vs, xs, _, e, _⟩
  · simpa only [Rep] using h
  · cases e
theorem RepT.bl {i : Bool} {v : V} (h : RepT K mg bp B H bq (.bl i) v) : v = .bl i := by
  rcases h with h | ⟨p, vs, xs, _, e, _⟩
  · simpa only [Rep] using h
  · cases e
theorem RepT.str {i : PySem.Str} {v : V} (h : RepT K mg bp B H bq (.str i) v) : v = .str i := by
  rcases h with h | ⟨p, vs, xs, _, e, _⟩
  · simpa only [Rep] using h
  · cases e
theorem RepT.non {v : V} (h : RepT K mg bp B H bq .non v) : v = .non := by
  rcases h with h | ⟨p, vs, xs, _, e, _⟩
  · simpa only [Rep] using h
  · cases e
theorem RepT.tup {xs : List D} {v : V} (s : Same B H) (h : RepT K mg bp B H bq (.tup xs) v) : ∃ a vs, v = .ref a ∧ SqT K H a vs ∧ RepL K mg bp B xs vs := by
  rcases h with h | ⟨p, vs, xs, _, e, _⟩
  · simp only [Rep] at h
    obtain ⟨a, vs, r, q, l⟩ := h
    exact ⟨a, vs, r, sqT_mono s q, l⟩
  · cases e
theorem RepT.lst {xs : List D} {v : V} (s : Same B H) (h : RepT K mg bp B H bq (.lst xs) v) : ∃ a vs, v = .ref a ∧ H a = some (.lst vs) ∧ RepL K mg bp B xs vs := by
  rcases h with h | ⟨p, vs, ys, r, e, h1, h2, _⟩
  · simp only [Rep] at h
    obtain ⟨a, vs, r, q, l⟩ := h
    exact ⟨a, vs, r, s _ _ q, l⟩
  · cases e
    exact ⟨p, vs, r, h1, h2⟩
/-- a flat datum's value is what it is -/
theorem RepT.flat {d : D} {v : V} (h : RepT K mg bp B H bq d v) (nl : ∀ xs, d ≠ .lst xs) : Rep K mg bp B d v := by
  rcases h with h | ⟨p, vs, ys, r, e, _⟩
  · exact h
  · exact absurd e (nl ys)

/-! ### data as the library's data -/
mutual
def py : D → PyData
  | .non => .none
  | .bl b => .bool b
  | .int i => .int i
  | .str s => .str s
  | .tup xs => .tuple (pyL xs)
  | .lst xs => .list (pyL xs)
  | .box => .none
  | .fn _ => .none
def pyL : List D → List PyData
  | [] => []
  | x :: xs => py x :: pyL xs
end
mutual
theorem dp_of (s : Same B H) : ∀ (n : Nat) (d : D) (v : V), pln n d = true → Rep K mg bp B d v → Dp K H v (py d)
  | _, .non, v, _, h => by simp only [Rep] at h; subst h; simp only [py]; exact .non
  | _, .bl _, v, _, h => by simp only [Rep] at h; subst h; simp only [py]; exact .bl _
  | _, .int _, v, _, h => by simp only [Rep] at h; subst h; simp only [py]; exact .int _
  | _, .str _, v, _, h => by simp only [Rep] at h; subst h; simp only [py]; exact .str _
  | 0, .tup xs, v, e, h => by simp [pln, plnT] at e
  | 0, .lst xs, v, e, h => by simp [pln, plnT] at e
  | n + 1, .tup xs, v, e, h => by
    simp only [Rep] at h
    obtain ⟨a, vs, rfl, q, l⟩ := h
    simp only [py]
    exact .tup (sqT_mono s q) (dpAll_of s n xs vs (by simpa only [pln, plnT] using e) l)
  | n + 1, .lst xs, v, e, h => by
    simp only [Rep] at h
    obtain ⟨a, vs, rfl, q, l⟩ := h
    simp only [py]
    exact .lst (SqL.of (s _ _ q)) (dpAll_of s n xs vs (by simpa only [pln, plnT] using e) l)
  | _, .box, _, e, _ => by simp [pln] at e
  | _, .fn _, _, e, _ => by simp [pln] at e
theorem dpAll_of (s : Same B H) : ∀ (n : Nat) (ds : List D) (vs : List V), plnL n ds = true → RepL K mg bp B ds vs → DpAll K H vs (pyL ds)
  | _, [], vs, _, h => by rw [h.nil_inv]; simp only [pyL]; exact .nil
  | n, d :: ds, vs, e, h => by
    obtain ⟨v, r, rfl, h1, h2⟩ := h.inv
    simp only [plnL, Bool.and_eq_true] at e
    simp only [pyL]
    exact .cons (dp_of s n d v e.1 h1) (dpAll_of s n ds r e.2 h2)
end
theorem dpT_of {d : D} {v : V} {n : Nat} (s : Same B H) (e : pln n d = true) (h : RepT K mg bp B H bq d v) : Dp K H v (py d) := by
  rcases h with h | ⟨p, vs, xs, rfl, rfl, h1, h2, _⟩
  · exact dp_of s n d v e h
  · cases n with
    | zero => simp [pln, plnT] at e
    | succ n =>
      simp only [py]
      exact .lst (SqL.of h1) (dpAll_of s n xs vs (by simpa only [pln, plnT] using e) h2)
mutual
theorem lay_of : ∀ (n : Nat) (d : D), pln n d = true → (py d).canLay0 = true ∧ (py d).depth ≤ n
  | n, .non, _ => by simp [py, PyData.canLay0, PyData.depth]
  | n, .bl _, _ => by simp [py, PyData.canLay0, PyData.depth]
  | n, .int _, _ => by simp [py, PyData.canLay0, PyData.depth]
  | n, .str s, e => by
    simp only [pln] at e
    simp only [py, PyData.canLay0, PyData.depth]
    exact ⟨e, Nat.zero_le _⟩
  | 0, .tup xs, e => by simp [pln, plnT] at e
  | 0, .lst xs, e => by simp [pln, plnT] at e
  | n + 1, .tup xs, e => by
    have h := layL_of n xs (by simpa only [pln, plnT] using e)
    simp only [py, PyData.canLay0, PyData.depth]
    exact ⟨h.1, by omega⟩
  | n + 1, .lst xs, e => by
    have h := layL_of n xs (by simpa only [pln, plnT] using e)
    simp only [py, PyData.canLay0, PyData.depth]
    exact ⟨h.1, by omega⟩
  | _, .box, e => by simp [pln] at e
  | _, .fn _, e => by simp [pln] at e
theorem layL_of : ∀ (n : Nat) (ds : List D), plnL n ds = true → PyData.canLayAll0 (pyL ds) = true ∧ PyData.depthAll (pyL ds) ≤ n
  | n, [], _ => by simp [pyL, PyData.canLayAll0, PyData.depthAll]
  | n, d :: ds, e => by
    simp only [plnL, Bool.and_eq_true] at e
    have h1 := lay_of n d e.1
    have h2 := layL_of n ds e.2
    simp only [pyL, PyData.canLayAll0, PyData.depthAll, Bool.and_eq_true]
    exact ⟨⟨h1.1, h2.1⟩, by omega⟩
end
theorem shaped_of {d : D} (e : pln 60 d = true) : SeqAt.shaped (py d) = true := by
  have h := lay_of 60 d e
  unfold SeqAt.shaped
  rw [h.1, decide_eq_true (show (py d).depth ≤ 64 by omega)]
  rfl
theorem shapedL_of {ds : List D} (e : plnL 60 ds = true) : SeqAt.shaped (.list (pyL ds)) = true := by
  have h := layL_of 60 ds e
  unfold SeqAt.shaped
  have h2 : (PyData.list (pyL ds)).depth ≤ 64 := by simp only [PyData.depth]; omega
  rw [decide_eq_true h2]
  simp only [PyData.canLay0, h.1, Bool.and_self]
mutual
theorem eqv_of : ∀ (n m : Nat) (a b : D), pln n a = true → pln m b = true → PyData.eqv (py a) (py b) = deq a b
  | n, m, a, b, ea, eb => by
    cases a <;> cases b <;> first
      | (simp [pln] at ea; done)
      | (simp [pln] at eb; done)
      | (simp only [py, PyData.eqv, deq, b2i]; done)
      | (cases n with
         | zero => simp [pln, plnT] at ea
         | succ n =>
           cases m with
           | zero => simp [pln, plnT] at eb
           | succ m =>
             simp only [py, PyData.eqv, deq]
             exact eqvL_of n m _ _ (by simpa only [pln, plnT] using ea) (by simpa only [pln, plnT] using eb))
theorem eqvL_of : ∀ (n m : Nat) (a b : List D), plnL n a = true → plnL m b = true → PyData.eqvAll (pyL a) (pyL b) = deqL a b
  | _, _, [], [], _, _ => by simp only [pyL, PyData.eqvAll, deqL]
  | _, _, [], _ :: _, _, _ => by simp only [pyL, PyData.eqvAll, deqL]
  | _, _, _ :: _, [], _, _ => by simp only [pyL, PyData.eqvAll, deqL]
  | n, m, a :: as, b :: bs, ea, eb => by
    simp only [plnL, Bool.and_eq_true] at ea eb
    simp only [pyL, PyData.eqvAll, deqL]
    rw [eqv_of n m a b ea.1 eb.1, eqvL_of n m as bs ea.2 eb.2]
end
theorem any_eqv {a : D} (ea : pln 60 a = true) : ∀ {ds : List D}, plnL 60 ds = true → ((pyL ds).any fun z => PyData.eqv z (py a)) = ds.any fun z => deq z a
  | [], _ => by simp [pyL]
  | d :: ds, e => by
    simp only [plnL, Bool.and_eq_true] at e
    simp only [pyL, List.any_cons]
    rw [eqv_of 60 60 d a e.1 ea, any_eqv ea e.2]
end
end PL

set_option autoImplicit false
set_option linter.all false
set_option maxRecDepth 100000
set_option maxHeartbeats 4000000
/-! PL3: operations by values. -/
namespace HT
open PySem PySem.Spec PyProof.Rows
section
variable {prog : Program} {w : World} {A : Around} {E : Value → Shared → Prop} {s : Shared}
theorem sliceApplied_rev {sl : Addr} {t : Tok} {n : Nat} {Q : Int × Int × Nat → Shared → Prop} (hs : s.heap.IsSliceOf sl .none .none (.int (-1) t))
    (h : Q ((n : Int) - 1, -1, n) s) : wpAny (model prog w) A (Builtin.Slice.sliceApplied (.ref sl) (pure (n : Int))) Q E s := by
  obtain ⟨os, hos, hcs, hds⟩ := id hs
  unfold Builtin.Slice.sliceApplied Builtin.Slice.sliceFields
  refine wpAny_bind (wpAny_bind (wpAny_field hos hds (x := .none) rfl (wpAny_bind (wpAny_field hos hds (x := .none) rfl (wpAny_bind (wpAny_field hos hds (x := .int (-1) t) rfl (wpAny_pure ?_)))))))
  refine wpAny_bind (slicePart_int ?_)
  show wpAny _ _ (if ((-1 : Int) == 0) = true then _ else _) _ _ s
  rw [if_neg (by decide)]
  refine wpAny_bind (slicePart_none (wpAny_bind (slicePart_none (wpAny_bind (wpAny_pure ?_)))))
  show wpAny _ _ (pure ((n : Int) - 1, (-1 : Int), Builtin.Slice.slicePlaces ((n : Int) - 1) (-1) (-1))) _ _ s
  have e : Builtin.Slice.slicePlaces ((n : Int) - 1) (-1) (-1) = n := by
    unfold Builtin.Slice.slicePlaces
    rw [if_neg (by decide)]
    cases n with
    | zero => simp
    | succ n =>
      rw [if_pos (by omega)]
      have e1 : (((n + 1 : Nat) : Int) - 1 - -1 - 1) = (n : Int) := by omega
      rw [e1]
      simp
  rw [e]
  exact wpAny_pure h
theorem pick_rev (xs : Array Value) : ((List.range xs.size).filterMap fun (m : Nat) => xs[(((xs.size : Nat) : Int) - 1 + (m : Int) * (-1)).toNat]?).toArray = xs.toList.reverse.toArray := by
  have key : ((List.range xs.size).filterMap fun (m : Nat) => xs[(((xs.size : Nat) : Int) - 1 + (m : Int) * (-1)).toNat]?) = xs.toList.reverse := by
    have h2 : ∀ m, m < xs.size → xs[(((xs.size : Nat) : Int) - 1 + (m : Int) * (-1)).toNat]? = some (xs.toList.reverse.getD m default) := fun m hm => by
      have e : (((xs.size : Nat) : Int) - 1 + (m : Int) * (-1)).toNat = xs.size - 1 - m := by omega
      rw [e, ← Array.getElem?_toList, List.getD_eq_getElem?_getD, List.getElem?_reverse (by simpa using hm), Array.length_toList]
      have hl : xs.size - 1 - m < xs.toList.length := by rw [Array.length_toList]; omega
      rw [List.getElem?_eq_getElem hl]
      rfl
    have h3 : ∀ l : List Nat, (∀ m ∈ l, m < xs.size) → (l.filterMap fun (m : Nat) => xs[(((xs.size : Nat) : Int) - 1 + (m : Int) * (-1)).toNat]?) = l.map fun m => xs.toList.reverse.getD m default := fun l => by
      induction l with
      | nil => intro _; rfl
      | cons a l ih =>
        intro hl
        rw [List.filterMap_cons, h2 a (hl a List.mem_cons_self), List.map_cons, ih fun m hm => hl m (List.mem_cons_of_mem _ hm)]
    rw [h3 _ fun m hm => List.mem_range.mp hm]
    apply List.ext_getElem?
    intro i
    rw [List.getElem?_map]
    by_cases hi : i < xs.size
    · have hl : i < xs.toList.reverse.length := by rw [List.length_reverse, Array.length_toList]; exact hi
      rw [List.getElem?_range hi, List.getElem?_eq_getElem hl, Option.map_some, List.getD_eq_getElem?_getD, List.getElem?_eq_getElem hl]
      rfl
    · rw [List.getElem?_eq_none (by rw [List.length_range]; omega), List.getElem?_eq_none (by rw [List.length_reverse, Array.length_toList]; omega)]
      rfl
  rw [key]
theorem getItem_tuple_rev {t sl : Addr} {items : Array Value} {u : Tok} {Q : Value → Shared → Prop} (ht : IsTup s.heap t items) (hs : s.heap.IsSliceOf sl .none .none (.int (-1) u))
    (h : Q (.ref s.heap.objs.size) { s with heap := s.heap.push { cls := .type "tuple", data := .seq items.toList.reverse.toArray } })
    (hsz : items.size ≤ sizeLine) : wpAny (model prog w) A (getItem (.ref t) (.ref sl)) Q E s := by
  have htake : sizeOk (.seq items.toList.reverse.toArray) := by
    show items.toList.reverse.toArray.size ≤ sizeLine
    rw [List.size_toArray, List.length_reverse, Array.length_toList]
    exact hsz
  obtain ⟨os, hos, hcs, hds⟩ := id hs
  have hTs : s.TypeIs (.ref sl) "slice" := ⟨os, hos, hcs⟩
  unfold getItem
  try with_reducible refine wpAny_holding ?_
  first | refine wpAny_bind (wpAny_pure ?_) | skip
  refine wpAny_bind (wpAny_sequenceKey ht.typeIs (by decide) ?_)
  refine wpAny_bind (wpAny_callSpecial?_slot (name := Str.ofString "__getitem__") ht.typeIs PyProof.Rows.slot_tuple_getitem
    (wpAny_call_entry PyProof.Rows.slot_tuple_getitem ht.typeIs entry_tuple_getitem ?_ (args_tuple_getitem _ _)))
  show wpAny _ _ (Builtin.Tuple.tupleItemsOf (.ref t) >>= _) _ _ s
  refine wpAny_bind (tupleItemsOf_ ht ?_)
  refine wpAny_bind (wpAny_typeOf hTs ?_)
  rw [if_pos (by decide)]
  refine wpAny_bind (sliceApplied_rev hs ?_)
  have hno : ¬ (((((items.size : Nat) : Int) - 1) == 0 && (-1 : Int) == 1 && items.size == items.size) = true) := by
    intro q
    rw [Bool.and_eq_true, Bool.and_eq_true] at q
    exact absurd q.1.2 (by decide)
  show wpAny _ _ (if ((((items.size : Nat) : Int) - 1) == 0 && (-1 : Int) == 1 && items.size == items.size) = true then _ else _) _ _ s
  rw [if_neg hno, pick_rev]
  first
    | exact wpAny_bind (m := Builtin.Tuple.tupleExact _) (wpAny_newObj_type (wpAny_pure ⟨_, rfl, wpAny_pure h⟩) htake)
    | exact wpAny_bind (m := Builtin.Tuple.tupleExact _) (wpAny_newObj_type (wpAny_bind (wpAny_pure (wpAny_pure ⟨_, rfl, wpAny_pure h⟩))) htake)
    | exact wpAny_bind (wpAny_bind (m := Builtin.Tuple.tupleExact _) (wpAny_newObj_type (wpAny_pure (wpAny_pure ⟨_, rfl, wpAny_pure h⟩)) htake))
    | exact wpAny_bind (wpAny_bind (m := Builtin.Tuple.tupleExact _) (wpAny_newObj_type (wpAny_pure ⟨_, rfl, wpAny_pure h⟩) htake))
end
end HT
namespace L2
open PySem PySem.Spec PyProof.Rows
section
variable {X : Cx}
/-- t[::-1] of a list, of a tuple -/
def tRevA (K : PySem.W.Frag) (te : TE) : TE := fun σ H Q => te σ H fun x H1 => ∃ a xs, x = .ref a ∧ ((SqL K H1 a xs ∧ ∀ p, H1 p = none → Q (.ref p) (upd H1 p (.lst xs.reverse))) ∨ (SqT K H1 a xs ∧ ∀ p, H1 p = none → Q (.ref p) (upd H1 p (.tup xs.reverse))))
theorem pe_revA {e : Expr} {te : TE} {k : Nat} {p1 p2 p3 pos : Pos} (he : PE X e te) : PE X (.Subscript e (.Slice none none (some (.UnaryOp .USub (.Constant (.int 1) k p1) p2)) p3) pos) (tRevA X.K te) := by
  refine ⟨fun pins s σ H Q I h => ?_⟩
  refine Subscript_ (thn (he.run pins s σ H _ I h) fun v s1 ⟨x, H1, I1, r1, q1⟩ => ?_)
  obtain ⟨a, xs, ex, q1⟩ := q1
  subst ex
  cases r1
  have hst : PO X (some (.UnaryOp .USub (.Constant (.int 1) k p1) p2)) (tPart (tUn (rU fun i => .int (-i)) (tC (.int 1)))) := po_some (pe_un un_neg pe_int)
  refine wpAny_Slice (thn (po_none.run pins s1 σ H1 (fun o H2 => o = none ∧ H2 = H1) I1 ⟨rfl, rfl⟩) fun vl s2 ⟨l, H2, I2, pl, el, e2⟩ => ?_)
  subst el e2
  refine thn (po_none.run pins s2 σ H2 (fun o H3 => o = none ∧ H3 = H2) I2 ⟨rfl, rfl⟩) fun vu s3 ⟨u, H3, I3, pu, eu, e3⟩ => ?_
  subst eu e3
  refine thn (hst.run pins s3 σ H3 (fun o H4 => o = some (-1) ∧ H4 = H3) I3 ⟨1, rfl, -1, rfl, rfl, rfl⟩) fun vs s4 ⟨o, H4, I4, ps, eo, e4⟩ => ?_
  subst eo e4
  have I5 : Inv X pins σ H4 { s4 with heap := s4.heap.push { cls := .type "slice", data := .fields #[vl, vu, vs] } } := I4.kept (t' := s4.toks) fun b ob q => Heap.get?_push_of_some _ q
  show wpAny (model X.prog X.w) X.A (subscriptTail e (.Slice none none (some (.UnaryOp .USub (.Constant (.int 1) k p1) p2)) p3) (.ref a) (.ref s4.heap.objs.size)) (EP X pins σ Q) X.xe { s4 with heap := s4.heap.push { cls := .type "slice", data := .fields #[vl, vu, vs] } }
  rcases q1 with ⟨hx, q⟩ | ⟨hx, q⟩
  · obtain ⟨its, r, ht, hz⟩ := I5.list hx
    have hlen := r.length
    refine tail_any (ops := [.ref a, .ref s4.heap.objs.size]) ht.isList.typeIs (PySem.slot_list_getitem.lookup) ?_ (by with_unfolding_all rfl)
    refine wpAny_getItem_list_slice ht.isList (Heap.IsSliceOf.new _ vl vu vs) pl pu ps (by decide) ?_ (by rw [List.size_toArray]; omega)
    rw [PySem.W.krv_pick]
    refine ⟨.ref _, _, I5.laid (t' := s4.toks) (o := .lst xs.reverse) (fun b ob q => Heap.get?_push_of_some _ q) (Nat.le_refl _) ?_, rfl, q _ (I5.hok.fresh (Nat.le_refl _))⟩
    exact ⟨by rw [List.length_reverse]; exact hz, _, 0, r.reverse, Heap.get?_push_size _ rfl⟩
  · obtain ⟨its, r, ht, hz⟩ := I5.tuple hx
    have hlen := r.length
    cases pl
    cases pu
    cases ps
    refine tail_any (ops := [.ref a, .ref s4.heap.objs.size]) ht.typeIs (PyProof.Rows.slot_tuple_getitem.lookup) ?_ (by with_unfolding_all rfl)
    refine HT.getItem_tuple_rev ht (Heap.IsSliceOf.new _ _ _ _) ?_ (by rw [List.size_toArray]; omega)
    refine ⟨.ref _, _, I5.laid (t' := s4.toks) (o := .tup xs.reverse) (fun b ob q => Heap.get?_push_of_some _ q) (Nat.le_refl _) ?_, rfl, q _ (I5.hok.fresh (Nat.le_refl _))⟩
    exact ⟨by rw [List.length_reverse]; exact hz, _, r.reverse, ⟨_, Heap.get?_push_size _ rfl, rfl, 0, by simp⟩⟩
end
end L2

namespace PL
open PySem PySem.Spec PyProof.Rows L2
theorem lim_le : lim ≤ sizeLine := by rw [sizeLine_eq]; decide
section
variable {X : Cx} {mg : PySem.Str → Option Value} {m : Md}
/-! ### two-place operations -/
def pyB : Bop → Operator
  | .add => .Add | .sub => .Sub | .mul => .Mult | .fdiv => .FloorDiv | .mod => .Mod | .pow => .Pow
theorem tuple_mul1 (l : Addr) (items : Array Value) (n : Nat) (dd : Option Addr) (sl : Array (Option Value)) (u : Tok) :
    Meets (Builtin.«tuple.__mul__» ⟨[.ref l, .int 1 u], []⟩) (fun _ R s => s.heap.get? l = some { cls := .type "tuple", dict := dd, data := .seq items n, slots := sl } ∧ R (.ok (.ret (Value.ref l))) s) :=
  .of_wp fun prog w A R s h => by
    obtain ⟨hp, g, d, tk, os⟩ := s
    obtain ⟨hl, h⟩ := h
    have f1 := AutoSeq1.idx_int
    have c1 : (items.isEmpty || (1 : Int) == 1) = true := by simp
    have c0 : (decide ((1 : Int) < -(2 ^ 63)) || decide ((1 : Int) ≥ 2 ^ 63)) = false := by decide
    wp_walk using wpAny_loadPart' hl
    repeat (first
      | (refine wpAny_ite_false (decide_eq_false (by rw [c0]; exact Bool.false_ne_true)) ?_; wp_walk using wpAny_loadPart' hl)
      | (refine wpAny_ite_true (decide_eq_true (by rw [c1])) ?_; wp_walk using wpAny_loadPart' hl))
    exact ⟨_, rfl, h⟩
def rRepT1 (K : PySem.W.Frag) : R2 := fun x y H Q => ∃ l xs, x = .ref l ∧ y = .int 1 ∧ SqT K H l xs ∧ Q (.ref l) H
theorem op_repT1 : OpR X (binaryOp .Mult) (rRepT1 X.K) := by
  intro pins s σ H x y v u Q I rx ry h
  obtain ⟨l, xs, rfl, rfl, hT, q⟩ := h
  cases rx
  obtain ⟨t, rfl⟩ := ry
  obtain ⟨its, r, ⟨⟨cls, dd, data, sl⟩, ho, hc, n, hd⟩, hs⟩ := I.tuple hT
  simp only at hc hd
  subst hc hd
  exact wpAny_binaryOp_repeat_ref (T := "tuple") (U := "int") (by decide) ⟨_, ho, rfl⟩ (fun s' => typeIs_int s' 1 t) noFill_tuple_mul PySem.F.fills_int_mul PySem.F.slot_int_rmul repeat_tuple PySem.F.slot_int_index.lookup
    (call_meets PySem.F.slot_int_rmul (typeIs_int s 1 t) PySem.F.entry_int_rmul (PySem.F.args_int_rmul_2 _ _) (int_rmul_tuple 1 t l its.toArray n dd sl)
      ⟨ho, rfl, ⟨_, ho, rfl⟩, call_meets PySem.F.slot_tuple_mul ⟨_, ho, rfl⟩ PySem.F.entry_tuple_mul (PySem.F.args_tuple_mul_2 _ _) (tuple_mul1 l its.toArray n dd sl t) ⟨ho, .ref l, H, I, rfl, q⟩⟩)
def rB (K : PySem.W.Frag) (mg : PySem.Str → Option Value) (m : Md) (o : Bop) : R2 := fun x y H Q => ∃ bp bq B a b d,
  Gd bp bq B H ∧ RepT K mg bp B H bq a x ∧ RepT K mg bp B H bq b y ∧ bop o a b = some d ∧ ResM K mg bp bq m B H d Q
theorem op_B (o : Bop) : OpR X (binaryOp (pyB o)) (rB X.K mg m o) := by
  intro pins s σ H x y v u Q I rx ry h
  obtain ⟨bp, bq, B, a, b, d, g, ha, hb, e, q⟩ := h
  have hl := lim_le
  cases o with
  | add =>
    cases a with
    | int i =>
      cases b with
      | int j =>
        simp only [bop, Option.some.injEq] at e; subst e
        exact op_add pins s σ H x y v u Q I rx ry ⟨i, j, ha.int, hb.int, q.int g⟩
      | _ => simp [bop] at e
    | tup xs =>
      cases b with
      | tup ys =>
        simp only [bop, Option.ite_none_right_eq_some, Option.some.injEq] at e
        obtain ⟨hle, e⟩ := e; subst e
        obtain ⟨p, vs, rfl, h1, r1⟩ := ha.tup g.sub
        obtain ⟨p2, ws, rfl, h2, r2⟩ := hb.tup g.sub
        refine op_catA pins s σ H _ _ v u Q I rx ry ⟨p, p2, vs, ws, rfl, rfl, h1, h2, by rw [← r1.length, ← r2.length]; omega, fun z => ?_, fun z z2 => ?_, fun _ _ p' hp' => q.tup g (r1.append r2) hp'⟩
        · subst z
          have e0 : xs = [] := List.eq_nil_of_length_eq_zero (by rw [r1.length]; rfl)
          subst e0
          exact q.same g (hb.flat (by intro xs e; cases e)) (by intro xs e; cases e)
        · subst z2
          have e0 : ys = [] := List.eq_nil_of_length_eq_zero (by rw [r2.length]; rfl)
          subst e0
          rw [List.append_nil] at q
          exact q.same g (ha.flat (by intro xs e; cases e)) (by intro xs e; cases e)
      | _ => simp [bop] at e
    | lst xs =>
      cases b with
      | lst ys =>
        simp only [bop, Option.ite_none_right_eq_some, Option.some.injEq] at e
        obtain ⟨hle, e⟩ := e; subst e
        obtain ⟨p, vs, rfl, h1, r1⟩ := ha.lst g.sub
        obtain ⟨p2, ws, rfl, h2, r2⟩ := hb.lst g.sub
        exact op_cat pins s σ H _ _ v u Q I rx ry ⟨p, p2, vs, ws, rfl, rfl, h1, h2, by rw [← r1.length, ← r2.length]; omega, fun p' hp' => q.lst g (r1.append r2) hp'⟩
      | _ => simp [bop] at e
    | str i =>
      cases b with
      | str j =>
        simp only [bop, Option.ite_none_right_eq_some, Option.some.injEq] at e
        obtain ⟨hle, e⟩ := e; subst e
        exact op_add_str pins s σ H x y v u Q I rx ry ⟨i, j, ha.str, hb.str, by show i.cps.size + j.cps.size ≤ sizeLine; omega, q.str g⟩
      | _ => simp [bop] at e
    | _ => cases b <;> simp [bop] at e
  | sub =>
    cases a with
    | int i =>
      cases b with
      | int j =>
        simp only [bop, Option.some.injEq] at e; subst e
        exact op_sub pins s σ H x y v u Q I rx ry ⟨i, j, ha.int, hb.int, q.int g⟩
      | _ => simp [bop] at e
    | _ => cases b <;> simp [bop] at e
  | mul =>
    cases a with
    | int i =>
      cases b with
      | int j =>
        simp only [bop, Option.ite_none_right_eq_some, Option.some.injEq] at e
        obtain ⟨hle, e⟩ := e; subst e
        exact op_mulW pins s σ H x y v u Q I rx ry ⟨i, j, ha.int, hb.int, (by simpa only [mulOk, decide_eq_true_eq] using hle : i.natAbs.log2 + j.natAbs.log2 < 1000000), q.int g⟩
      | _ => simp [bop] at e
    | lst xs =>
      cases b with
      | int k =>
        simp only [bop, Option.ite_none_right_eq_some, Option.some.injEq] at e
        obtain ⟨⟨k0, k1, k2⟩, e⟩ := e; subst e
        obtain ⟨p, vs, rfl, h1, r1⟩ := ha.lst g.sub
        have hz : vs.length * k.toNat ≤ 4 * 1000 := Nat.mul_le_mul (by rw [← r1.length]; exact k2) (by omega)
        have hz2 : vs.length * k.toNat ≤ sizeLine := Nat.le_trans hz (by rw [sizeLine_eq]; decide)
        exact op_rep pins s σ H _ _ v u Q I rx ry ⟨p, k, vs, rfl, hb.int, h1, by omega, by omega, hz2, fun p' hp' => q.lst g (r1.rep _) hp'⟩
      | _ => simp [bop] at e
    | tup xs =>
      cases b with
      | int k =>
        simp only [bop, Option.ite_none_right_eq_some, Option.some.injEq] at e
        obtain ⟨⟨k3, k0, k1, k2⟩, e⟩ := e; subst e
        obtain ⟨p, vs, rfl, h1, r1⟩ := ha.tup g.sub
        have hne : vs ≠ [] := fun z => k3 (List.eq_nil_of_length_eq_zero (by rw [r1.length, z]; rfl))
        by_cases hk1 : k = 1
        · subst hk1
          have e1 : (List.replicate (1 : Int).toNat xs).flatten = xs := by simp [List.replicate]
          rw [e1] at q
          exact op_repT1 pins s σ H _ _ v u Q I rx ry ⟨p, vs, rfl, hb.int, h1, q.same g (ha.flat (by intro xs e; cases e)) (by intro xs e; cases e)⟩
        have k0 : 2 ≤ k := by omega
        exact op_repT pins s σ H _ _ v u Q I rx ry ⟨p, k, vs, rfl, hb.int, h1, hne, k0, k1, by rw [← r1.length]; omega, fun p' hp' => q.tup g (r1.rep _) hp'⟩
      | _ => simp [bop] at e
    | _ => cases b <;> simp [bop] at e
  | fdiv =>
    cases a with
    | int i =>
      cases b with
      | int j =>
        simp only [bop, Option.ite_none_right_eq_some, Option.some.injEq] at e
        obtain ⟨hle, e⟩ := e; subst e
        simp only [divOk, Bool.and_eq_true, decide_eq_true_eq] at hle
        exact op_fdivW pins s σ H x y v u Q I rx ry ⟨i, j, ha.int, hb.int, hle, q.int g⟩
      | _ => simp [bop] at e
    | _ => cases b <;> simp [bop] at e
  | mod =>
    cases a with
    | int i =>
      cases b with
      | int j =>
        simp only [bop, Option.ite_none_right_eq_some, Option.some.injEq] at e
        obtain ⟨hle, e⟩ := e; subst e
        exact op_mod pins s σ H x y v u Q I rx ry ⟨i, j, ha.int, hb.int, hle, q.int g⟩
      | _ => simp [bop] at e
    | _ => cases b <;> simp [bop] at e
  | pow =>
    cases a with
    | int i =>
      cases b with
      | int j =>
        simp only [bop, Option.ite_none_right_eq_some, Option.some.injEq] at e
        obtain ⟨⟨h0, h1, h2⟩, e⟩ := e; subst e
        exact op_pow pins s σ H x y v u Q I rx ry ⟨i, j, ha.int, hb.int, ⟨h0, by omega, h2⟩, q.int g⟩
      | _ => simp [bop] at e
    | _ => cases b <;> simp [bop] at e
/-! ### comparisons -/
def pyC : Cop → CmpOp
  | .eq => .Eq | .ne => .NotEq | .lt => .Lt | .le => .LtE | .gt => .Gt | .ge => .GtE | .isin => .In | .notin => .NotIn | .iss => .Is | .isnot => .IsNot
def rC (K : PySem.W.Frag) (mg : PySem.Str → Option Value) (o : Cop) : R2 := fun x y H Q => ∃ bp bq B a b t,
  Gd bp bq B H ∧ RepT K mg bp B H bq a x ∧ RepT K mg bp B H bq b y ∧ cop o a b = some t ∧ Q (.bl t) H
theorem lexLt_eq : ∀ ns ms : List Int, HT.lexLt ns ms = lexLt ns ms
  | [], [] => rfl
  | [], _ :: _ => rfl
  | _ :: _, [] => rfl
  | a :: as, b :: bs => by
    rw [HT.lexLt_cons]
    simp only [lexLt]
    rw [lexLt_eq as bs]
theorem nonrep {K : PySem.W.Frag} {bp bq : Addr} {B H : Hp} {a : D} {v : V} (h : RepT K mg bp B H bq a v) (n : a ≠ .non) : v ≠ .non := by
  rcases h with h | ⟨p, vs, xs, e, _⟩
  · cases a with
    | non => exact absurd rfl n
    | bl b => simp only [Rep] at h; rw [h]; intro z; cases z
    | int b => simp only [Rep] at h; rw [h]; intro z; cases z
    | str b => simp only [Rep] at h; rw [h]; intro z; cases z
    | tup b => simp only [Rep] at h; obtain ⟨a, vs, e, _⟩ := h; rw [e]; intro z; cases z
    | lst b => simp only [Rep] at h; obtain ⟨a, vs, e, _⟩ := h; rw [e]; intro z; cases z
    | box => simp only [Rep] at h; rw [h]; intro z; cases z
    | fn b => simp only [Rep] at h; obtain ⟨f, e, _⟩ := h; rw [e]; intro z; cases z
  · rw [e]; intro z; cases z
theorem isSame_non {a : D} : isSame a .non = some true ∧ a = .non ∨ isSame a .non = some false ∧ a ≠ .non := by
  cases a <;> simp [isSame]
theorem op_C (hu : X.A.units + 65 < cLine) (o : Cop) : OpR X (compareOp (pyC o)) (rC X.K mg o) := by
  intro pins s σ H x y v u Q I rx ry h
  obtain ⟨bp, bq, B, a, b, t, g, ha, hb, e, q⟩ := h
  cases o with
  | eq =>
    simp only [cop, Option.ite_none_right_eq_some, Option.some.injEq, Bool.and_eq_true] at e
    obtain ⟨⟨e1, e2⟩, rfl⟩ := e
    rw [← eqv_of 60 60 a b e1 e2] at q
    exact op_eqD (by omega) pins s σ H x y v u Q I rx ry ⟨py a, py b, dpT_of g.sub e1 ha, dpT_of g.sub e2 hb, shaped_of e1, shaped_of e2, q⟩
  | ne =>
    simp only [cop, Option.ite_none_right_eq_some, Option.some.injEq, Bool.and_eq_true] at e
    obtain ⟨⟨e1, e2⟩, rfl⟩ := e
    rw [← eqv_of 60 60 a b e1 e2] at q
    exact op_neD (by omega) pins s σ H x y v u Q I rx ry ⟨py a, py b, dpT_of g.sub e1 ha, dpT_of g.sub e2 hb, shaped_of e1, shaped_of e2, q⟩
  | lt =>
    cases a with
    | int i =>
      cases b with
      | int j =>
        simp only [cop, Option.some.injEq] at e; subst e
        exact op_lt pins s σ H x y v u Q I rx ry ⟨i, j, ha.int, hb.int, q⟩
      | _ => simp [cop] at e
    | tup xs =>
      cases b with
      | tup ys =>
        simp only [cop, Option.bind_eq_some_iff, Option.map_eq_some_iff] at e
        obtain ⟨ns, e1, ms, e2, rfl⟩ := e
        obtain ⟨p, vs, rfl, h1, r1⟩ := ha.tup g.sub
        obtain ⟨p2, ws, rfl, h2, r2⟩ := hb.tup g.sub
        have z1 := RepL.ints e1 r1
        have z2 := RepL.ints e2 r2
        subst z1 z2
        rw [← lexLt_eq] at q
        exact op_ltT (by omega) pins s σ H _ _ v u Q I rx ry ⟨p, p2, ns, ms, rfl, rfl, h1, h2, q⟩
      | _ => simp [cop] at e
    | _ => cases b <;> simp [cop] at e
  | le =>
    cases a with
    | int i =>
      cases b with
      | int j =>
        simp only [cop, Option.some.injEq] at e; subst e
        exact op_le pins s σ H x y v u Q I rx ry ⟨i, j, ha.int, hb.int, q⟩
      | _ => simp [cop] at e
    | _ => cases b <;> simp [cop] at e
  | gt =>
    cases a with
    | int i =>
      cases b with
      | int j =>
        simp only [cop, Option.some.injEq] at e; subst e
        exact op_gt pins s σ H x y v u Q I rx ry ⟨i, j, ha.int, hb.int, q⟩
      | _ => simp [cop] at e
    | _ => cases b <;> simp [cop] at e
  | ge =>
    cases a with
    | int i =>
      cases b with
      | int j =>
        simp only [cop, Option.some.injEq] at e; subst e
        exact op_ge pins s σ H x y v u Q I rx ry ⟨i, j, ha.int, hb.int, q⟩
      | _ => simp [cop] at e
    | _ => cases b <;> simp [cop] at e
  | isin =>
    cases b with
    | lst ys =>
      simp only [cop, Option.ite_none_right_eq_some, Option.some.injEq, Bool.and_eq_true] at e
      obtain ⟨⟨e1, e2⟩, rfl⟩ := e
      rw [← any_eqv e1 e2] at q
      obtain ⟨p, vs, rfl, h1, r1⟩ := hb.lst g.sub
      exact op_inD hu pins s σ H _ _ v u Q I rx ry ⟨py a, pyL ys, dpT_of g.sub e1 ha, .lst (SqL.of h1) (dpAll_of g.sub 60 ys vs e2 r1), shaped_of e1, shapedL_of e2, q⟩
    | _ => cases a <;> simp [cop] at e
  | notin =>
    cases b with
    | lst ys =>
      simp only [cop, Option.ite_none_right_eq_some, Option.some.injEq, Bool.and_eq_true] at e
      obtain ⟨⟨e1, e2⟩, rfl⟩ := e
      rw [← any_eqv e1 e2] at q
      obtain ⟨p, vs, rfl, h1, r1⟩ := hb.lst g.sub
      exact op_notInD hu pins s σ H _ _ v u Q I rx ry ⟨py a, pyL ys, dpT_of g.sub e1 ha, .lst (SqL.of h1) (dpAll_of g.sub 60 ys vs e2 r1), shaped_of e1, shapedL_of e2, q⟩
    | _ => cases a <;> simp [cop] at e
  | iss =>
    have e : isSame a b = some t := e
    cases b with
    | non =>
      have hy := hb.non
      rcases isSame_non (a := a) with ⟨e1, e2⟩ | ⟨e1, e2⟩
      · rw [e1] at e; cases e
        subst e2
        have hx := ha.non
        refine op_isN pins s σ H x y v u Q I rx ry ⟨hy, ?_⟩
        rw [decide_eq_true hx]; exact q
      · rw [e1] at e; cases e
        refine op_isN pins s σ H x y v u Q I rx ry ⟨hy, ?_⟩
        rw [decide_eq_false (nonrep ha e2)]; exact q
    | bl j =>
      cases a with
      | bl i =>
        simp only [isSame, Option.some.injEq] at e; subst e
        exact op_isBl pins s σ H x y v u Q I rx ry ⟨i, j, ha.bl, hb.bl, q⟩
      | _ => simp [isSame] at e
    | _ => cases a <;> simp [isSame] at e
  | isnot =>
    have e2 : (isSame a b).map (!·) = some t := e
    clear e
    rw [Option.map_eq_some_iff] at e2
    obtain ⟨t', e, rfl⟩ := e2
    cases b with
    | non =>
      have hy := hb.non
      rcases isSame_non (a := a) with ⟨e1, e2⟩ | ⟨e1, e2⟩
      · rw [e1] at e; cases e
        subst e2
        have hx := ha.non
        refine op_notN pins s σ H x y v u Q I rx ry ⟨hy, ?_⟩
        rw [decide_eq_true hx]; exact q
      · rw [e1] at e; cases e
        refine op_notN pins s σ H x y v u Q I rx ry ⟨hy, ?_⟩
        rw [decide_eq_false (nonrep ha e2)]; exact q
    | bl j =>
      cases a with
      | bl i =>
        simp only [isSame, Option.some.injEq] at e; subst e
        exact op_notBl pins s σ H x y v u Q I rx ry ⟨i, j, ha.bl, hb.bl, q⟩
      | _ => simp [isSame] at e
    | _ => cases a <;> simp [isSame] at e
/-! ### truth -/
theorem tru_of {K : PySem.W.Frag} {bp bq : Addr} {B H : Hp} {a : D} {v : V} {t : Bool} (g : Gd bp bq B H) (h : RepT K mg bp B H bq a v) (e : truth a = some t) : TruV K v H t := by
  have hl := lim_le
  cases a with
  | non => rw [h.non]; simp only [truth, Option.some.injEq] at e; exact e.symm
  | bl b => rw [h.bl]; simp only [truth, Option.some.injEq] at e; exact e.symm
  | int i => rw [h.int]; simp only [truth, Option.some.injEq] at e; exact e.symm
  | str s =>
    rw [h.str]
    simp only [truth, Option.ite_none_right_eq_some, Option.some.injEq] at e
    obtain ⟨h1, rfl⟩ := e
    refine ⟨by show s.cps.size ≤ sizeLine; omega, ?_⟩
    show (s.cps.size != 0) = (((s.cps.size : Nat) : Int) != 0)
    by_cases z : s.cps.size = 0
    · rw [z]; rfl
    · rw [bne_iff_ne.mpr z, eq_comm, bne_iff_ne]; omega
  | tup xs =>
    obtain ⟨p, vs, rfl, h1, r1⟩ := h.tup g.sub
    simp only [truth, Option.some.injEq] at e; subst e
    refine .inr (.inl ⟨vs, h1, ?_⟩)
    have := r1.length
    cases xs <;> cases vs <;> simp at this ⊢
  | lst xs =>
    obtain ⟨p, vs, rfl, h1, r1⟩ := h.lst g.sub
    simp only [truth, Option.some.injEq] at e; subst e
    refine .inl ⟨vs, SqL.of h1, ?_⟩
    have := r1.length
    cases xs <;> cases vs <;> simp at this ⊢
  | box => simp [truth] at e
  | fn _ => simp [truth] at e
/-! ### items, slices -/
theorem pyIx_at {K : PySem.W.Frag} {bp : Addr} {B : Hp} {xs : List D} {vs : List V} {i : Int} {d : D} (r : RepL K mg bp B xs vs) (e : pyIx xs i = some d) : ∃ v, atI vs i = some v ∧ Rep K mg bp B d v := by
  have hl := r.length
  unfold pyIx at e
  unfold atI ixN
  by_cases h : 0 ≤ i
  · rw [if_pos h] at e
    obtain ⟨v, h1, h2⟩ := r.get e
    have hlt : i.toNat < vs.length := (List.getElem?_eq_some_iff.mp h1).1
    exact ⟨v, by rw [if_pos h, if_pos (by omega)]; exact h1, h2⟩
  · rw [if_neg h] at e
    by_cases h3 : -(xs.length : Int) ≤ i
    · rw [if_pos h3, hl] at e
      obtain ⟨v, h1, h2⟩ := r.get e
      exact ⟨v, by rw [if_neg h, if_pos (by omega)]; exact h1, h2⟩
    · rw [if_neg h3] at e; cases e
def rIxD (K : PySem.W.Frag) (mg : PySem.Str → Option Value) : R2 := fun x y H Q => ∃ bp bq B a b d,
  Gd bp bq B H ∧ RepT K mg bp B H bq a x ∧ RepT K mg bp B H bq b y ∧ idx a b = some d ∧ ∀ v, Rep K mg bp B d v → Q v H
theorem ix_D : IxR X (rIxD X.K mg) := by
  intro value slice pins s σ H x y v u Q I rx ry h hs
  obtain ⟨bp, bq, B, a, b, d, g, ha, hb, e, q⟩ := h
  cases b with
  | int i =>
    cases a with
    | tup xs =>
      obtain ⟨p, vs, rfl, h1, r1⟩ := ha.tup g.sub
      obtain ⟨v', h2, h3⟩ := pyIx_at r1 (show pyIx xs i = some d from e)
      exact ix_tup value slice pins s σ H _ _ v u Q I rx ry ⟨p, vs, i, v', rfl, hb.int, h1, h2, q v' h3⟩ hs
    | lst xs =>
      obtain ⟨p, vs, rfl, h1, r1⟩ := ha.lst g.sub
      obtain ⟨v', h2, h3⟩ := pyIx_at r1 (show pyIx xs i = some d from e)
      exact ix_list value slice pins s σ H _ _ v u Q I rx ry ⟨p, vs, i, v', rfl, hb.int, SqL.of h1, h2, q v' h3⟩ hs
    | _ => simp [idx] at e
  | _ => cases a <;> simp [idx] at e
theorem clip_eq (n d : Nat) : ∀ o : Option Int, HT.sIx n d o = clip n d o
  | none => rfl
  | some _ => rfl
theorem cut_rep {K : PySem.W.Frag} {bp : Addr} {B : Hp} {xs : List D} {vs : List V} (r : RepL K mg bp B xs vs) (lo hi : Option Int) : RepL K mg bp B (cutD xs lo hi) (cutV vs lo hi) := by
  unfold cutD cutV
  rw [clip_eq, clip_eq, ← r.length]
  exact (r.drop _).take _
def rSlD (K : PySem.W.Frag) (mg : PySem.Str → Option Value) (m : Md) : V → Option Int → Option Int → Hp → VK → Prop := fun x lo hi H Q => ∃ bp bq B a d,
  Gd bp bq B H ∧ RepT K mg bp B H bq a x ∧ sli lo hi a = some d ∧ ResM K mg bp bq m B H d Q
theorem sl_D : SlR X (rSlD X.K mg m) := by
  intro pins s σ H x v vl vu lo hi sl Q I rx hs pl pu h
  obtain ⟨bp, bq, B, a, d, g, ha, e, q⟩ := h
  cases a with
  | tup xs =>
    simp only [sli, Option.some.injEq] at e; subst e
    obtain ⟨p, vs, rfl, h1, r1⟩ := ha.tup g.sub
    refine sl_tupA pins s σ H _ v vl vu lo hi sl Q I rx hs pl pu ⟨p, vs, rfl, h1, fun hw => ?_, fun _ p' hp' => q.tup g (cut_rep r1 lo hi) hp'⟩
    have e0 : cutD xs lo hi = xs := by
      unfold cutD
      rw [← clip_eq, ← clip_eq, r1.length, hw.1, hw.2, List.drop_zero, Nat.sub_zero, ← r1.length, List.take_length]
    rw [e0] at q
    exact q.same g (ha.flat (by intro xs e; cases e)) (by intro xs e; cases e)
  | lst xs =>
    simp only [sli, Option.some.injEq] at e; subst e
    obtain ⟨p, vs, rfl, h1, r1⟩ := ha.lst g.sub
    exact sl_list pins s σ H _ v vl vu lo hi sl Q I rx hs pl pu ⟨p, vs, rfl, SqL.of h1, fun p' hp' => q.lst g (cut_rep r1 lo hi) hp'⟩
  | _ => simp [sli] at e
end
end PL

set_option autoImplicit false
set_option linter.all false
set_option maxRecDepth 100000
set_option maxHeartbeats 4000000
/-! PL4: enumerate over a tuple; built-ins and iterators by data. -/
namespace PySem
open Sem (wp)
open AutoSeq1 (wpAny_loadPart')
theorem meets_enumerate_new1B {v : Value} {o : Obj} {H : Heap → Prop} (B : Begins v o H) :
    Meets (Builtin.«enumerate.__new__» ⟨[.type "enumerate", v], []⟩) (fun _ R s => H s.heap ∧
      R (.ok (.ret (.ref (s.heap.push o).objs.size))) { s with heap := (s.heap.push o).push { cls := .type "enumerate", data := .fields #[.none, .bool false, .ref s.heap.objs.size, rawInt 0, .none, .none] } }) :=
  .of_wp fun prog w A R s h => by
    obtain ⟨hp, g, d, tk, os⟩ := s; obtain ⟨h1, h⟩ := h
    have hsub := sub_enumerate
    have q1 : ∀ {A' : Around} {E : Value → Shared → Prop} {Q : Value → Shared → Prop}, Q (.ref hp.objs.size) ⟨hp.push o, g, d, tk, os⟩ → wpAny (model prog w) A' (pyIter v) Q E ⟨hp, g, d, tk, os⟩ :=
      fun q => B.iter prog w _ _ ⟨hp, g, d, tk, os⟩ _ h1 q
    wp_walk using q1
    refine wpAny_stack_any fun st => wpAny_pure ?_
    split
    · rename_i c _ _ _ _ _
      cases (c == Value.type "enumerate")
      · wp_walk using q1
        exact ⟨_, rfl, h⟩
      · wp_walk using q1
        exact ⟨_, rfl, h⟩
    · wp_walk using q1
      exact ⟨_, rfl, h⟩
section
variable {prog : Program} {w : World} {A : Around} {E : Value → Shared → Prop} {s : Shared}
theorem enum_begins1 {v : Value} {o : Obj} {H : Heap → Prop} {Q : Value → Shared → Prop} (B : Begins v o H) (h1 : H s.heap)
    (h : ∀ h', IsEnum h' (s.heap.objs.size + 1) s.heap.objs.size 0 .none → h'.get? s.heap.objs.size = some o → h'.objs.size = s.heap.objs.size + 2 →
      (∀ b o, s.heap.get? b = some o → h'.get? b = some o) → Q (.ref (s.heap.objs.size + 1)) { s with heap := h' }) :
    wpAny (model prog w) A (call (.type "enumerate") [v]) Q E s := by
  refine callType_new F.called_enumerate (by decide) (F.typeCall_enumerate_1 _) (F.newCall_enumerate_1 _) (fun obj => F.args_object_init_2 obj _) F.entry_enumerate_new
    (meets_enumerate_new1B B) ⟨h1, ?_⟩
  have hz : (s.heap.push o).objs.size = s.heap.objs.size + 1 := Heap.size_push ..
  show _ ∧ _
  rw [hz]
  have he : IsEnum ((s.heap.push o).push { cls := .type "enumerate", data := .fields #[.none, .bool false, .ref s.heap.objs.size, rawInt 0, .none, .none] }) (s.heap.objs.size + 1) s.heap.objs.size 0 .none := by
    have := Heap.get?_push_size (s.heap.push o) (o := { cls := .type "enumerate", data := .fields #[.none, .bool false, .ref s.heap.objs.size, rawInt 0, .none, .none] }) rfl
    rw [hz] at this; exact this
  refine ⟨⟨_, he, rfl⟩, h _ he (Heap.get?_push_of_some _ (Heap.get?_push_size _ B.free)) (by rw [Heap.size_push, hz]) fun b o x => Heap.get?_push_of_some _ (Heap.get?_push_of_some _ x)⟩
end
end PySem
namespace L2
open PySem PySem.Spec PyProof.Rows
def IteT (K : PySem.W.Frag) (a : Addr) : It :=
  ⟨fun i H => ∃ (xs : List V) (x : V), SqT K H a xs ∧ xs[i]? = some x, fun i H v H' => ∃ T x, v = .ref T ∧ H T = none ∧ H' = upd H T (.tup [.int (i : Nat), x]) ∧ ∀ xs, SqT K H a xs → xs[i]? = some x, fun i H => ∃ xs : List V, SqT K H a xs ∧ xs.length ≤ i⟩
theorem turn_enumT {P : Program} {w : World} {K : PySem.W.Frag} {elts : List Expr} {kk : Nat} {tpos : Pos} (a e it : Addr) (hat : a ≠ it) :
    Turn P w K (.Tuple elts kk tpos) (IteT K a) [e, it] e (fun i h => (∃ old, IsEnum h e it ((i : Nat) : Int) old) ∧ h.IsTupleIter it a i ∧ e ≠ it) where
  mem := by simp
  obj := fun i h st b hb => by
    obtain ⟨⟨old, he⟩, ⟨o, ho, hc, hd⟩, _⟩ := st
    have e' : b = e ∨ b = it := by simpa using hb
    rcases e' with z | z
    · rw [z]; exact ⟨_, he, fun v q => nomatch q⟩
    · rw [z]; exact ⟨o, ho, fun v q => by rw [hd] at q; cases q⟩
  keep := fun i h h' st k => let ⟨⟨old, he⟩, hi, hne⟩ := st; ⟨⟨old, k e (by simp) _ he⟩, hi.at fun o q => k it (by simp) o q, hne⟩
  item := by
    intro X hP hw hK hc i pins s σ H E I hf st hg
    subst hP hw hK
    obtain ⟨⟨old, he⟩, hit, hne⟩ := st
    obtain ⟨xs, x, hq, hx⟩ := hg
    obtain ⟨its, rv, p, hz⟩ := I.tuple hq
    obtain ⟨u, hu, ru⟩ := rv.get hx
    have hel : e < s.heap.objs.size := Heap.lt_size he
    have hil : it < s.heap.objs.size := by obtain ⟨_, q, _⟩ := hit; exact Heap.lt_size q
    have hlt : i < its.toArray.size := by
      have := (List.getElem?_eq_some_iff.mp hu).1
      rw [List.size_toArray]; exact this
    have hae : e ∉ [it, a] := fun z => by
      rcases List.mem_cons.mp z with q | q
      · exact hne q
      · have q : e = a := List.mem_singleton.mp q
        obtain ⟨o1, ho1, hc1, _⟩ := p
        have he' : s.heap.get? e = some { cls := .type "enumerate", dict := none, data := .fields #[.none, .bool false, .ref it, rawInt i, .none, old], slots := #[] } := he
        rw [q, ho1] at he'
        have z2 := Option.some.inj he'
        rw [z2] at hc1
        simp at hc1
    refine wpAny_pyNext_enum_itemD (Draws.tuple (prog := X.prog) (w := X.w) (A := X.A.in1) (I.ok.hd hc) it a hat its.toArray) he ⟨hit, p⟩ hlt hne hae fun y h' tk hy ho ⟨hit', _⟩ hT hsz hk => ?_
    have ey : y = u := by
      have z : its.toArray[i]? = some u := by simpa using hu
      rw [z] at hy; exact (Option.some.inj hy).symm
    subst ey
    refine ⟨_, rfl, wpAny_letOwnedTupleGo_enum (s := { s with heap := h', toks := tk + 1 }) ho fun h'' he' sb => ?_⟩
    have hT2 : h''.get? s.heap.objs.size = some { cls := .type "tuple", data := .seq #[.int i tk, y] } := (sb.2 _ (Nat.ne_of_gt hel)).trans hT
    have new : ObjOk X.prog X.w (upd H s.heap.objs.size (.tup [.int (i : Nat), x])) h'' s.heap.objs.size (.tup [.int (i : Nat), x]) :=
      ⟨by show 2 ≤ sizeLine; decide, [.int i tk, y], .cons ⟨_, rfl⟩ (.cons ru .nil), ⟨_, hT2, rfl, _, rfl⟩⟩
    have I1 : Inv X pins σ (upd H s.heap.objs.size (.tup [.int (i : Nat), x])) { s with heap := h'', toks := tk + 1 } :=
      I.turnedNew (ch := [e, it]) (fun b ob hb q => (sb.2 b (fun z => hb (by simp [z]))).trans (hk b ob (fun z => hb (by simp [z])) (fun z => hb (by simp [z])) q)) hf (Nat.le_refl _) new
    refine ⟨.ref s.heap.objs.size, _, I1, rfl, ⟨_, x, rfl, I.hok.fresh (Nat.le_refl _), rfl, fun ys hy => by rw [I.tuple_inj hy hq]; exact hx⟩, ⟨⟨y, ?_⟩, hit'.at fun o q => (sb.2 it (Ne.symm hne)).trans q, hne⟩, fun b hb => ?_⟩
    · have e1 : ((i + 1 : Nat) : Int) = (i : Int) + 1 := by omega
      rw [e1]; exact he'
    · have hb' : b < s.heap.objs.size := by
        have e' : b = e ∨ b = it := by simpa using hb
        rcases e' with z | z
        · rw [z]; exact hel
        · rw [z]; exact hil
      rw [upd_ne (Nat.ne_of_lt hb')]
      exact (hf b hb).1
  done := by
    intro X hP hw hK hc i pins s σ H E I hf st hg
    subst hP hw hK
    obtain ⟨⟨old, he⟩, hit, hne⟩ := st
    obtain ⟨xs, hq, hx⟩ := hg
    obtain ⟨its, rv, p, hz⟩ := I.tuple hq
    obtain ⟨f0, f1, f2, f3, f4, f5⟩ := hf it (by simp)
    have hl := rv.length
    have D : Draws X.prog X.w X.A.in1 it [it, a] i (fun _ _ => False) (fun j h => j = i ∧ h.IsTupleIter it a i ∧ h.IsTuple a its.toArray) := {
      live := fun _ _ st => let ⟨o, ho, _⟩ := st.2.1; ⟨o, ho⟩
      frame := fun _ _ _ st hk => ⟨st.1, st.2.1.at fun o e => hk it (by simp) o e, st.2.2.at fun o e => hk a (by simp) o e⟩
      item := fun j s Q E hj st _ => absurd st.1 (Nat.ne_of_lt hj)
      done := fun s Q E st hE => wpAny_nextOf_tuple_end (I.ok.hd hc) st.2.1 st.2.2 (by simp; omega) hE }
    exact wpAny_pyNext_enum_endD D he ⟨rfl, hit, p⟩ fun h' eb => ⟨rfl, I.turned (t' := s.toks) (fun b o hb q => eb b o hb q) f0 f1 f3 f4 f5⟩
  self := fun A i s Q E st h => let ⟨⟨_, he⟩, _⟩ := st; wpAny_pyIter_enum he h
/-- enumerate over a list, over a tuple -/
def iEnumA (K : PySem.W.Frag) (ta : TA) : TI := fun σ H R => ta σ H fun vs H1 => ∃ a xs, vs = [.ref a] ∧ ((SqL K H1 a xs ∧ R (Ite K a) H1) ∨ (SqT K H1 a xs ∧ R (IteT K a) H1))
theorem pi_enumA {X : Cx} {e : Expr} {ta : TA} {p pos tpos : Pos} {elts : List Expr} {kk : Nat} (hg : Gl X "enumerate") (hm : X.mg "enumerate" = none) (ha : PA X [e] ta) (hs : starEach [e] X.env = [(false, eval e X.env)]) :
    PI X (.Tuple elts kk tpos) (.Call (.Name "enumerate" p) [e] [] pos) (iEnumA X.K ta) := by
  refine ⟨fun pins s σ H R I h => ?_⟩
  refine Call_ (ld_blt I hg hm boot_enumerate (PyProof.Rows.callWith_type1 (thn (ha.run pos pins s σ H _ I h) fun us s1 ⟨vs, H1, I1, r1, q1⟩ => ?_) hs rfl))
  obtain ⟨a, xs, ex, q⟩ := q1
  subst ex
  cases r1 with
  | cons r rr =>
    cases rr
    cases r
    have fin : ∀ b ∈ [s1.heap.objs.size + 1, s1.heap.objs.size], FpOk X pins H1 b := fun b hb => by
      have e' : b = s1.heap.objs.size + 1 ∨ b = s1.heap.objs.size := by simpa using hb
      have hle : s1.heap.objs.size ≤ b := by
        rcases e' with z | z
        · rw [z]; exact Nat.le_add_right _ _
        · rw [z]; exact Nat.le_refl _
      exact I1.fpOk hle (I1.hok.fresh hle)
    rcases q with ⟨hq, q⟩ | ⟨hq, q⟩
    · obtain ⟨its, rv, p', hz⟩ := I1.list hq
      refine call_enumerate_list p'.isList fun h' he hit hsz hk => wpAny_pyIter_enum he ?_
      have I2 : Inv X pins σ H1 { s1 with heap := h' } := I1.kept (t' := s1.toks) hk
      exact ⟨s1.heap.objs.size + 1, [s1.heap.objs.size + 1, s1.heap.objs.size], _, _, H1, rfl, I2, turn_enum a (s1.heap.objs.size + 1) s1.heap.objs.size, ⟨⟨.none, he⟩, hit, Nat.succ_ne_self _⟩, fin, q⟩
    · obtain ⟨its, rv, p', hz⟩ := I1.tuple hq
      have hlt : a < s1.heap.objs.size := p'.lt
      refine enum_begins1 (begins_tuple a its.toArray) p' fun h' he hit hsz hk => wpAny_pyIter_enum he ?_
      have I2 : Inv X pins σ H1 { s1 with heap := h' } := I1.kept (t' := s1.toks) hk
      exact ⟨s1.heap.objs.size + 1, [s1.heap.objs.size + 1, s1.heap.objs.size], _, _, H1, rfl, I2, turn_enumT a (s1.heap.objs.size + 1) s1.heap.objs.size (Nat.ne_of_lt hlt), ⟨⟨.none, he⟩, ⟨_, hit, rfl, rfl⟩, Nat.succ_ne_self _⟩, fin, q⟩
theorem walk_enumT {K : PySem.W.Frag} {a : Addr} {xs : List V} : Walk (IteT K a) xs.length (fun H => SqT K H a xs) (YPair (fun i => some (.int (i : Nat))) (fun i => xs[i]?)) where
  goes := fun i H hi h => ⟨xs, xs[i], h, by simp [hi]⟩
  stops := fun H h => ⟨xs, h, Nat.le_refl _⟩
  yields := fun i H x H' hi h ⟨T, y, e, n, e2, hy⟩ => ⟨T, _, y, e, n, e2, rfl, hy xs h⟩
/-- over a list or a tuple -/
def iSeq (K : PySem.W.Frag) (tl : TE) : TI := fun σ H R => tl σ H fun x H1 => ∃ a xs, x = .ref a ∧ ((SqL K H1 a xs ∧ R (Itl K a) H1) ∨ (SqT K H1 a xs ∧ R (Itt K a) H1))
theorem pi_seq {X : Cx} {tg l : Expr} {tl : TE} (hl : PE X l tl) : PI X tg l (iSeq X.K tl) := by
  refine ⟨fun pins s σ H R I h => ?_⟩
  refine thn (hl.run pins s σ H _ I h) fun v s1 ⟨x, H1, I1, r1, q1⟩ => ?_
  obtain ⟨a, xs, e, q⟩ := q1
  subst e
  cases r1
  have fin : ∀ b ∈ [s1.heap.objs.size], FpOk X pins H1 b := fun b hb => by
    have e : b = s1.heap.objs.size := by simpa using hb
    subst e
    exact I1.fpOk (Nat.le_refl _) (I1.hok.fresh (Nat.le_refl _))
  rcases q with ⟨hq, q⟩ | ⟨hq, q⟩
  · obtain ⟨its, rv, p, hz⟩ := I1.list hq
    refine wpAny_pyIter_list p.isList ?_
    exact ⟨s1.heap.objs.size, [s1.heap.objs.size], _, _, H1, rfl, I1.kept (t' := s1.toks) fun b o e => Heap.get?_push_of_some _ e, turn_list a _, ⟨_, Heap.get?_push_size _ rfl, rfl, rfl⟩, fin, q⟩
  · obtain ⟨its, rv, p, hz⟩ := I1.tuple hq
    refine wpAny_pyIter_tuple (show s1.heap.IsTuple a its.toArray from p) ?_
    exact ⟨s1.heap.objs.size, [s1.heap.objs.size], _, _, H1, rfl, I1.kept (t' := s1.toks) fun b o e => Heap.get?_push_of_some _ e, turn_tuple a _, ⟨_, Heap.get?_push_size _ rfl, rfl, rfl⟩, fin, q⟩
end L2

set_option autoImplicit false
set_option linter.all false
set_option maxRecDepth 100000
set_option maxHeartbeats 4000000
/-! PL5: built-ins and iterators by data. -/
namespace PL
open PySem PySem.Spec PyProof.Rows L2
section
variable {X : Cx} {mg : PySem.Str → Option Value} {m : Md}
theorem RepTL.inv {K : PySem.W.Frag} {bp bq : Addr} {B H : Hp} {d : D} {ds : List D} {vs : List V} (h : RepTL K mg bp B H bq (d :: ds) vs) : ∃ v r, vs = v :: r ∧ RepT K mg bp B H bq d v ∧ RepTL K mg bp B H bq ds r := by
  simpa only [RepTL] using h
theorem RepTL.nil_inv {K : PySem.W.Frag} {bp bq : Addr} {B H : Hp} {vs : List V} (h : RepTL K mg bp B H bq [] vs) : vs = [] := by simpa only [RepTL] using h
theorem RepTL.one {K : PySem.W.Frag} {bp bq : Addr} {B H : Hp} {d : D} {vs : List V} (h : RepTL K mg bp B H bq [d] vs) : ∃ v, vs = [v] ∧ RepT K mg bp B H bq d v := by
  obtain ⟨v, r, rfl, h1, h2⟩ := h.inv
  rw [h2.nil_inv]
  exact ⟨v, rfl, h1⟩
theorem RepTL.two {K : PySem.W.Frag} {bp bq : Addr} {B H : Hp} {d e : D} {vs : List V} (h : RepTL K mg bp B H bq [d, e] vs) : ∃ v w, vs = [v, w] ∧ RepT K mg bp B H bq d v ∧ RepT K mg bp B H bq e w := by
  obtain ⟨v, r, rfl, h1, h2⟩ := h.inv
  obtain ⟨w, rfl, h3⟩ := h2.one
  exact ⟨v, w, rfl, h1, h3⟩
theorem RepTL.three {K : PySem.W.Frag} {bp bq : Addr} {B H : Hp} {d e f : D} {vs : List V} (h : RepTL K mg bp B H bq [d, e, f] vs) : ∃ v w u, vs = [v, w, u] ∧ RepT K mg bp B H bq d v ∧ RepT K mg bp B H bq e w ∧ RepT K mg bp B H bq f u := by
  obtain ⟨v, r, rfl, h1, h2⟩ := h.inv
  obtain ⟨w, u, rfl, h3, h4⟩ := h2.two
  exact ⟨v, w, u, rfl, h1, h3, h4⟩
/-- the name, the value of a built-in -/
def biName : Bi → String
  | .len => "len" | .abs => "abs" | .int => "int" | .list => "list" | .tuple => "tuple" | .all => "all" | .any => "any" | .max => "max" | .min => "min" | .sum => "sum" | .sorted => "sorted" | .lrange => "list" | .trange => "tuple"
def biTy : Bi → Bool
  | .int => true | .list => true | .tuple => true | .lrange => true | .trange => true | _ => false
def biVal (f : Bi) : Value := if biTy f = true then .type (biName f) else .builtin (biName f)
def rBi (K : PySem.W.Frag) (mg : PySem.Str → Option Value) (m : Md) (f : Bi) : List V → Hp → VK → Prop := fun vs H Q => ∃ bp bq B ds d,
  Gd bp bq B H ∧ RepTL K mg bp B H bq ds vs ∧ bfn f ds = some d ∧ ResM K mg bp bq m B H d Q
def isRg : Bi → Bool
  | .lrange => true | .trange => true | _ => false
theorem bfn_one {f : Bi} {ds : List D} {d : D} (e : bfn f ds = some d) : (∃ a, ds = [a]) ∨ ∃ a b, ds = [a, b] := by
  match ds, e with
  | [], e => cases f <;> simp [bfn] at e
  | [a], _ => exact .inl ⟨a, rfl⟩
  | [a, b], _ => exact .inr ⟨a, b, rfl⟩
  | a :: b :: c :: r, e => cases f <;> simp [bfn] at e
theorem call_bi (hc : X.calm = true) (f : Bi) (nf : isRg f = false) : CallR X (biVal f) (rBi X.K mg m f) := by
  intro pins s σ H vs us Q I r h
  obtain ⟨bp, bq, B, ds, d, g, hr, e, q⟩ := h
  have hl := lim_le
  rcases bfn_one e with ⟨a, rfl⟩ | ⟨a, b, rfl⟩
  · obtain ⟨v, rfl, ha⟩ := hr.one
    cases f with
    | len =>
      cases a with
      | tup xs =>
        obtain ⟨p, ws, rfl, h1, r1⟩ := ha.tup g.sub
        simp only [bfn, Option.some.injEq] at e; subst e
        refine call_len pins s σ H _ us Q I r ⟨_, _, rfl, .inr ⟨ws, h1, rfl⟩, ?_⟩
        rw [← r1.length]; exact q.int g
      | lst xs =>
        obtain ⟨p, ws, rfl, h1, r1⟩ := ha.lst g.sub
        simp only [bfn, Option.some.injEq] at e; subst e
        refine call_len pins s σ H _ us Q I r ⟨_, _, rfl, .inl ⟨ws, SqL.of h1, rfl⟩, ?_⟩
        rw [← r1.length]; exact q.int g
      | str x =>
        simp only [bfn, Option.ite_none_right_eq_some, Option.some.injEq] at e
        obtain ⟨hz, rfl⟩ := e
        rw [ha.str] at r
        exact call_len pins s σ H _ us Q I r ⟨_, _, rfl, ⟨by show x.cps.size ≤ sizeLine; omega, rfl⟩, q.int g⟩
      | _ => simp [bfn] at e
    | abs =>
      cases a with
      | int i =>
        simp only [bfn, Option.some.injEq] at e; subst e
        rw [ha.int] at r
        exact call_abs pins s σ H _ us Q I r ⟨i, rfl, q.int g⟩
      | _ => simp [bfn] at e
    | int =>
      cases a with
      | int i =>
        simp only [bfn, Option.some.injEq] at e; subst e
        rw [ha.int] at r
        exact call_int1 pins s σ H _ us Q I r (.inl ⟨i, rfl, q.int g⟩)
      | bl b =>
        simp only [bfn, Option.some.injEq] at e; subst e
        rw [ha.bl] at r
        exact call_int1 pins s σ H _ us Q I r (.inr ⟨b, rfl, q.int g⟩)
      | _ => simp [bfn] at e
    | list =>
      cases a with
      | tup xs =>
        obtain ⟨p, ws, rfl, h1, r1⟩ := ha.tup g.sub
        simp only [bfn, Option.some.injEq] at e; subst e
        exact call_list_of pins s σ H _ us Q I r ⟨p, ws, rfl, .inr h1, fun l hl => q.lst g r1 hl⟩
      | lst xs =>
        obtain ⟨p, ws, rfl, h1, r1⟩ := ha.lst g.sub
        simp only [bfn, Option.some.injEq] at e; subst e
        exact call_list_of pins s σ H _ us Q I r ⟨p, ws, rfl, .inl (SqL.of h1), fun l hl => q.lst g r1 hl⟩
      | _ => simp [bfn] at e
    | tuple =>
      cases a with
      | tup xs =>
        have hr := ha.flat (by intro xs e; cases e)
        obtain ⟨p, ws, rfl, h1, r1⟩ := ha.tup g.sub
        simp only [bfn, Option.some.injEq] at e; subst e
        exact call_tuple_of pins s σ H _ us Q I r ⟨p, ws, rfl, .inr ⟨h1, q.same g hr (by intro xs e; cases e)⟩⟩
      | lst xs =>
        obtain ⟨p, ws, rfl, h1, r1⟩ := ha.lst g.sub
        simp only [bfn, Option.some.injEq] at e; subst e
        exact call_tuple_of pins s σ H _ us Q I r ⟨p, ws, rfl, .inl ⟨SqL.of h1, fun l hl => q.tup g r1 hl⟩⟩
      | _ => simp [bfn] at e
    | all =>
      cases a with
      | lst xs =>
        obtain ⟨p, ws, rfl, h1, r1⟩ := ha.lst g.sub
        simp only [bfn, Option.map_eq_some_iff] at e
        obtain ⟨bs, e1, rfl⟩ := e
        have z := RepL.bls e1 r1
        subst z
        exact cr_all hc pins s σ H _ us Q I r ⟨p, bs, rfl, SqL.of h1, q.bl g⟩
      | _ => simp [bfn] at e
    | any =>
      cases a with
      | lst xs =>
        obtain ⟨p, ws, rfl, h1, r1⟩ := ha.lst g.sub
        simp only [bfn, Option.map_eq_some_iff] at e
        obtain ⟨bs, e1, rfl⟩ := e
        have z := RepL.bls e1 r1
        subst z
        exact cr_any hc pins s σ H _ us Q I r ⟨p, bs, rfl, SqL.of h1, q.bl g⟩
      | _ => simp [bfn] at e
    | max =>
      cases a with
      | lst xs =>
        obtain ⟨p, ws, rfl, h1, r1⟩ := ha.lst g.sub
        simp only [bfn, Option.bind_eq_some_iff, Option.map_eq_some_iff] at e
        obtain ⟨ns, e1, mx, e2, rfl⟩ := e
        have z := RepL.ints e1 r1
        subst z
        have e3 := List.max?_eq_some_iff.mp e2
        refine cr_max hc pins s σ H _ us Q I r ⟨p, ns, rfl, SqL.of h1, ?_, fun k hk hle => ?_⟩
        · exact List.length_pos_of_mem e3.1
        · have z : k = mx := Int.le_antisymm (e3.2 k hk) (hle mx e3.1)
          rw [z]; exact q.int g
      | _ => simp [bfn] at e
    | min =>
      cases a with
      | lst xs =>
        obtain ⟨p, ws, rfl, h1, r1⟩ := ha.lst g.sub
        simp only [bfn, Option.bind_eq_some_iff, Option.map_eq_some_iff] at e
        obtain ⟨ns, e1, mx, e2, rfl⟩ := e
        have z := RepL.ints e1 r1
        subst z
        have e3 := List.min?_eq_some_iff.mp e2
        refine cr_min hc pins s σ H _ us Q I r ⟨p, ns, rfl, SqL.of h1, ?_, fun k hk hle => ?_⟩
        · exact List.length_pos_of_mem e3.1
        · have z : k = mx := Int.le_antisymm (hle mx e3.1) (e3.2 k hk)
          rw [z]; exact q.int g
      | _ => simp [bfn] at e
    | sum =>
      cases a with
      | lst xs =>
        obtain ⟨p, ws, rfl, h1, r1⟩ := ha.lst g.sub
        simp only [bfn, Option.map_eq_some_iff] at e
        obtain ⟨ns, e1, rfl⟩ := e
        have z := RepL.ints e1 r1
        subst z
        exact cr_sum hc pins s σ H _ us Q I r ⟨p, ns, rfl, SqL.of h1, q.int g⟩
      | _ => simp [bfn] at e
    | sorted =>
      cases a with
      | lst xs =>
        obtain ⟨p, ws, rfl, h1, r1⟩ := ha.lst g.sub
        simp only [bfn, Option.map_eq_some_iff] at e
        obtain ⟨ns, e1, rfl⟩ := e
        have z := RepL.ints e1 r1
        subst z
        refine cr_sortedI pins s σ H _ us Q I r ⟨p, ns, rfl, SqL.of h1, fun ns' p' hp hs hn => ?_⟩
        have e3 : ns' = ns.mergeSort (fun a b => decide (a ≤ b)) := by
          refine List.Perm.eq_of_pairwise (le := fun a b : Int => a ≤ b) (fun a b _ _ h1 h2 => Int.le_antisymm h1 h2) hs ?_ (hp.trans (List.mergeSort_perm _ _).symm)
          have := List.pairwise_mergeSort (le := fun a b : Int => decide (a ≤ b)) (fun a b c h1 h2 => by simp only [decide_eq_true_eq] at *; omega) (fun a b => by simp only [Bool.or_eq_true, decide_eq_true_eq]; omega) ns
          exact this.imp fun h => of_decide_eq_true h
        rw [e3]
        exact q.lst g (RepL.of_ints _) hn
      | _ => simp [bfn] at e
    | lrange => cases nf
    | trange => cases nf
  · obtain ⟨v, w, rfl, ha, hb⟩ := hr.two
    cases f with
    | max =>
      cases a with
      | int i =>
        cases b with
        | int j =>
          simp only [bfn, Option.some.injEq] at e; subst e
          rw [ha.int, hb.int] at r
          exact call_max2 hc pins s σ H _ us Q I r ⟨i, j, rfl, q.int g⟩
        | _ => simp [bfn] at e
      | _ => cases b <;> simp [bfn] at e
    | min =>
      cases a with
      | int i =>
        cases b with
        | int j =>
          simp only [bfn, Option.some.injEq] at e; subst e
          rw [ha.int, hb.int] at r
          exact call_min2 hc pins s σ H _ us Q I r ⟨i, j, rfl, q.int g⟩
        | _ => simp [bfn] at e
      | _ => cases b <;> simp [bfn] at e
    | _ => simp [bfn] at e
/-! ### isinstance -/
def tyName : Ty → String
  | .tuple => "tuple" | .list => "list" | .int => "int" | .bool => "bool" | .str => "str"
theorem kit1 : ∀ t : Ty, kitB "tuple" (tyName t) = some (t == .tuple) := by intro t; cases t <;> decide +kernel
theorem kit2 : ∀ t : Ty, kitB "list" (tyName t) = some (t == .list) := by intro t; cases t <;> decide +kernel
theorem kit3 : ∀ t : Ty, kitB "int" (tyName t) = some (t == .int) := by intro t; cases t <;> decide +kernel
theorem kit4 : ∀ t : Ty, kitB "bool" (tyName t) = some (t == .bool || t == .int) := by intro t; cases t <;> decide +kernel
theorem kit5 : ∀ t : Ty, kitB "str" (tyName t) = some (t == .str) := by intro t; cases t <;> decide +kernel
theorem kit6 : ∀ t : Ty, kitB "NoneType" (tyName t) = some false := by intro t; cases t <;> decide +kernel
def rIsD (K : PySem.W.Frag) (mg : PySem.Str → Option Value) (t : Ty) : List V → Hp → VK → Prop := fun vs H Q => ∃ bp bq B a v b,
  vs = [v, .ty (tyName t)] ∧ Gd bp bq B H ∧ RepT K mg bp B H bq a v ∧ isi a t = some b ∧ Q (.bl b) H
theorem call_isD (t : Ty) : CallR X (.builtin "isinstance") (rIsD X.K mg t) := by
  intro pins s σ H vs us Q I r h
  obtain ⟨bp, bq, B, a, v, b, rfl, g, ha, e, q⟩ := h
  have fin : ∀ {tn : String}, TyX X.K H v (.type tn) → kitB tn (tyName t) = some b → wpAny (model X.prog X.w) X.A (PySem.call (.builtin "isinstance") us) (EP X pins σ Q) X.xe s := fun {tn} h1 h2 =>
    call_isi pins s σ H _ us Q I r ⟨v, _, _, _, b, rfl, .ty _, h1, kit_ty h2, q⟩
  cases a with
  | non =>
    simp only [isi, Option.some.injEq] at e; subst e
    have hv := ha.non
    exact fin (by rw [hv]; exact .base .non) (kit6 t)
  | bl i =>
    simp only [isi, Option.some.injEq] at e; subst e
    have hv := ha.bl
    exact fin (by rw [hv]; exact .base (.bl _)) (kit4 t)
  | int i =>
    simp only [isi, Option.some.injEq] at e; subst e
    have hv := ha.int
    exact fin (by rw [hv]; exact .base (.int _)) (kit3 t)
  | str i =>
    simp only [isi, Option.some.injEq] at e; subst e
    have hv := ha.str
    exact fin (by rw [hv]; exact .base (.str _)) (kit5 t)
  | tup xs =>
    simp only [isi, Option.some.injEq] at e; subst e
    obtain ⟨p, ws, hv, h1, r1⟩ := ha.tup g.sub
    refine fin (tn := "tuple") ?_ (kit1 t)
    rw [hv]
    rcases h1 with (h1 | ⟨o, h1⟩) | ⟨o, its, n, h1, h2, _⟩
    · exact .base (.tup h1)
    · exact .fTuple h1
    · exact .kTuple h1 h2
  | lst xs =>
    simp only [isi, Option.some.injEq] at e; subst e
    obtain ⟨p, ws, hv, h1, r1⟩ := ha.lst g.sub
    refine fin (tn := "list") ?_ (kit2 t)
    rw [hv]
    exact .base (.lst h1)
  | box => simp [isi] at e
  | fn _ => simp [isi] at e
/-! ### what is walked -/
/-- what stays while one walks -/
def Stb (md : Md) (bp bq : Addr) (B H : Hp) : Hp → Prop := fun H' => Same B H' ∧ (md = .val ∨ ∀ a, a ≠ bp → a ≠ bq → H a ≠ none → H' a = H a)
/-- the i-th thing -/
def YD (K : PySem.W.Frag) (mg : PySem.Str → Option Value) (bp : Addr) (B : Hp) (xs : List D) : Nat → Hp → V → Hp → Prop := fun i H v H' => ∃ d, xs[i]? = some d ∧
  ((H' = H ∧ Rep K mg bp B d v) ∨ ∃ T us ds, v = .ref T ∧ H T = none ∧ H' = upd H T (.tup us) ∧ d = .tup ds ∧ RepL K mg bp B ds us)
/-- a sequence to be walked -/
def Src (K : PySem.W.Frag) (mg : PySem.Str → Option Value) (bp : Addr) (B : Hp) (S : Hp → Prop) (d : D) (v : V) : Prop := ∀ xs, items d = some xs → ∃ a us, v = .ref a ∧ RepL K mg bp B xs us ∧
  ((d = .tup xs ∧ ∀ H, S H → SqT K H a us) ∨ (d = .lst xs ∧ ∀ H, S H → H a = some (.lst us)))
def RepX (K : PySem.W.Frag) (mg : PySem.Str → Option Value) (bp bq : Addr) (md : Md) (B H : Hp) (d : D) (v : V) : Prop := match md with
  | .val => Rep K mg bp B d v
  | _ => RepT K mg bp B H bq d v
theorem RepX.t {K : PySem.W.Frag} {bp bq : Addr} {md : Md} {B H : Hp} {d : D} {v : V} (h : RepX K mg bp bq md B H d v) : RepT K mg bp B H bq d v := by
  cases md with
  | val => exact .inl h
  | bor => exact h
  | own => exact h
theorem src_of {K : PySem.W.Frag} {bp bq : Addr} {md : Md} {B H : Hp} {d : D} {v : V} (h : RepX K mg bp bq md B H d v) : Src K mg bp B (Stb md bp bq B H) d v := by
  intro xs e
  have viaR : Rep K mg bp B d v → ∃ a us, v = .ref a ∧ RepL K mg bp B xs us ∧ ((d = .tup xs ∧ ∀ H', Stb md bp bq B H H' → SqT K H' a us) ∨ (d = .lst xs ∧ ∀ H', Stb md bp bq B H H' → H' a = some (.lst us))) := fun h => by
    cases d with
    | tup ys =>
      simp only [items, Option.some.injEq] at e; subst e
      simp only [Rep] at h
      obtain ⟨a, us, rfl, h1, h2⟩ := h
      exact ⟨a, us, rfl, h2, .inl ⟨rfl, fun H' s => sqT_mono s.1 h1⟩⟩
    | lst ys =>
      simp only [items, Option.some.injEq] at e; subst e
      simp only [Rep] at h
      obtain ⟨a, us, rfl, h1, h2⟩ := h
      exact ⟨a, us, rfl, h2, .inr ⟨rfl, fun H' s => s.1 _ _ h1⟩⟩
    | _ => simp [items] at e
  have viaT : md ≠ .val → RepT K mg bp B H bq d v → ∃ a us, v = .ref a ∧ RepL K mg bp B xs us ∧ ((d = .tup xs ∧ ∀ H', Stb md bp bq B H H' → SqT K H' a us) ∨ (d = .lst xs ∧ ∀ H', Stb md bp bq B H H' → H' a = some (.lst us))) := fun nm h => by
    rcases h with h | ⟨p, us, ys, rfl, rfl, h1, h2, h3, h4⟩
    · exact viaR h
    · simp only [items, Option.some.injEq] at e; subst e
      refine ⟨p, us, rfl, h2, .inr ⟨rfl, fun H' s => ?_⟩⟩
      rcases s.2 with z | z
      · exact absurd z nm
      · rw [z p h3 h4 (by rw [h1]; exact Option.some_ne_none _)]; exact h1
  cases md with
  | val => exact viaR h
  | bor => exact viaT (by decide) h
  | own => exact viaT (by decide) h
section
variable {K : PySem.W.Frag} {bp : Addr} {B : Hp} {S : Hp → Prop}
theorem enuD_get : ∀ (k : Nat) (xs : List D) (i : Nat), (enuD k xs)[i]? = (xs[i]?).map fun d => D.tup [.int ((k + i : Nat) : Int), d]
  | _, [], _ => by simp [enuD]
  | k, x :: xs, 0 => by simp [enuD]
  | k, x :: xs, i + 1 => by
    simp only [enuD, List.getElem?_cons_succ]
    rw [enuD_get (k + 1) xs i]
    have e : k + 1 + i = k + (i + 1) := by omega
    rw [e]
theorem enuD_len : ∀ (k : Nat) (xs : List D), (enuD k xs).length = xs.length
  | _, [] => rfl
  | k, x :: xs => by simp only [enuD, List.length_cons]; rw [enuD_len (k + 1) xs]
theorem zipD_get : ∀ (xs ys : List D) (i : Nat), (zipD xs ys)[i]? = (xs[i]?).bind fun d => (ys[i]?).map fun e => D.tup [d, e]
  | [], ys, i => by simp [zipD]
  | x :: xs, [], i => by simp [zipD]
  | x :: xs, y :: ys, 0 => by simp [zipD]
  | x :: xs, y :: ys, i + 1 => by simp only [zipD, List.getElem?_cons_succ]; exact zipD_get xs ys i
theorem zipD_len : ∀ (xs ys : List D), (zipD xs ys).length = min xs.length ys.length
  | [], ys => by simp [zipD]
  | x :: xs, [] => by simp [zipD]
  | x :: xs, y :: ys => by simp only [zipD, List.length_cons]; rw [zipD_len xs ys]; omega
theorem y_at {xs : List D} {us : List V} (r : RepL K mg bp B xs us) (i : Nat) (H H' : Hp) (v : V) (hi : i < xs.length) (h : YAt us i H v H') : YD K mg bp B xs i H v H' := by
  obtain ⟨rfl, e⟩ := h
  obtain ⟨v', h1, h2⟩ := r.get (List.getElem?_eq_getElem hi)
  rw [h1] at e; cases e
  exact ⟨_, List.getElem?_eq_getElem hi, .inl ⟨rfl, h2⟩⟩
theorem w_list {xs : List D} {us : List V} {a : Addr} (r : RepL K mg bp B xs us) (h : ∀ H, S H → H a = some (.lst us)) : Walk (Itl K a) xs.length S (YD K mg bp B xs) := by
  have w := walk_list (K := K) (a := a) (xs := us)
  rw [← r.length] at w
  exact w.mono (fun H s => SqL.of (h H s)) fun i H x H' hi _ y => y_at r i H H' x hi y
theorem w_tup {xs : List D} {us : List V} {a : Addr} (r : RepL K mg bp B xs us) (h : ∀ H, S H → SqT K H a us) : Walk (Itt K a) xs.length S (YD K mg bp B xs) := by
  have w := walk_tup (K := K) (a := a) (xs := us)
  rw [← r.length] at w
  exact w.mono (fun H s => h H s) fun i H x H' hi _ y => y_at r i H H' x hi y
theorem intsFrom_get (a : Int) (n i : Nat) (h : i < n) : (intsFrom a n)[i]? = some (.int (a + (i : Nat))) := by
  unfold intsFrom
  rw [List.getElem?_map, List.getElem?_range h]; rfl
theorem intsFrom_len (a : Int) (n : Nat) : (intsFrom a n).length = n := by unfold intsFrom; simp
theorem stepsD_get (a c : Int) (n i : Nat) (h : i < n) : (stepsD a c n)[i]? = some (.int (a + (i : Nat) * c)) := by
  unfold stepsD
  rw [List.getElem?_map, List.getElem?_range h]; rfl
theorem stepsD_len (a c : Int) (n : Nat) : (stepsD a c n).length = n := by unfold stepsD; simp
theorem w_range (a : Int) (n : Nat) : Walk (Itr a n) (intsFrom a n).length S (YD K mg bp B (intsFrom a n)) := by
  have w := walk_range (lo := a) (n := n)
  rw [← intsFrom_len a n] at w
  rw [intsFrom_len a n] at w
  rw [intsFrom_len]
  exact w.mono (fun _ _ => trivial) fun i H x H' hi _ ⟨e1, e2⟩ => ⟨_, intsFrom_get a n i hi, .inl ⟨e1, by rw [e2]; simp only [Rep]⟩⟩
theorem w_rangeC (a c : Int) (n : Nat) : Walk (Itc a c n) (stepsD a c n).length S (YD K mg bp B (stepsD a c n)) := by
  have w := walk_rangeC (lo := a) (c := c) (n := n)
  rw [stepsD_len]
  exact w.mono (fun _ _ => trivial) fun i H x H' hi _ ⟨e1, e2⟩ => ⟨_, stepsD_get a c n i hi, .inl ⟨e1, by rw [e2]; simp only [Rep]⟩⟩
theorem y_enu {xs : List D} {us : List V} (r : RepL K mg bp B xs us) (i : Nat) (H H' : Hp) (v : V) (hi : i < xs.length) (h : YPair (fun i => some (.int (i : Nat))) (fun i => us[i]?) i H v H') : YD K mg bp B (enuD 0 xs) i H v H' := by
  obtain ⟨T, x, y, rfl, hT, rfl, e1, e2⟩ := h
  obtain ⟨v', h1, h2⟩ := r.get (List.getElem?_eq_getElem hi)
  have e2 : us[i]? = some y := e2
  rw [h1] at e2; cases e2
  have e1 : some (V.int (i : Nat)) = some x := e1
  cases e1
  refine ⟨.tup [.int i, xs[i]], ?_, .inr ⟨T, _, _, rfl, hT, rfl, rfl, RepL.cons (by simp only [Rep]) (RepL.cons h2 RepL.nil)⟩⟩
  rw [enuD_get, List.getElem?_eq_getElem hi]
  simp
theorem w_enuL {xs : List D} {us : List V} {a : Addr} (r : RepL K mg bp B xs us) (h : ∀ H, S H → H a = some (.lst us)) : Walk (Ite K a) (enuD 0 xs).length S (YD K mg bp B (enuD 0 xs)) := by
  have w := walk_enum (K := K) (a := a) (xs := us)
  rw [← r.length] at w
  rw [enuD_len]
  exact w.mono (fun H s => SqL.of (h H s)) fun i H x H' hi _ y => y_enu r i H H' x hi y
theorem w_enuT {xs : List D} {us : List V} {a : Addr} (r : RepL K mg bp B xs us) (h : ∀ H, S H → SqT K H a us) : Walk (IteT K a) (enuD 0 xs).length S (YD K mg bp B (enuD 0 xs)) := by
  have w := walk_enumT (K := K) (a := a) (xs := us)
  rw [← r.length] at w
  rw [enuD_len]
  exact w.mono (fun H s => h H s) fun i H x H' hi _ y => y_enu r i H H' x hi y
theorem y_zip {xs ys : List D} {us ws : List V} (r : RepL K mg bp B xs us) (r' : RepL K mg bp B ys ws) (i : Nat) (H H' : Hp) (v : V) (hi : i < min xs.length ys.length) (h : YPair (fun i => us[i]?) (fun i => ws[i]?) i H v H') : YD K mg bp B (zipD xs ys) i H v H' := by
  obtain ⟨T, x, y, rfl, hT, rfl, e1, e2⟩ := h
  have hi1 : i < xs.length := by omega
  have hi2 : i < ys.length := by omega
  obtain ⟨v1, h1, h2⟩ := r.get (List.getElem?_eq_getElem hi1)
  obtain ⟨v2, h3, h4⟩ := r'.get (List.getElem?_eq_getElem hi2)
  have e1 : us[i]? = some x := e1
  have e2 : ws[i]? = some y := e2
  rw [h1] at e1; cases e1
  rw [h3] at e2; cases e2
  refine ⟨.tup [xs[i], ys[i]], ?_, .inr ⟨T, _, _, rfl, hT, rfl, rfl, RepL.cons h2 (RepL.cons h4 RepL.nil)⟩⟩
  rw [zipD_get, List.getElem?_eq_getElem hi1, List.getElem?_eq_getElem hi2]
  rfl
theorem w_zipL {xs ys : List D} {us ws : List V} {a b : Addr} (r : RepL K mg bp B xs us) (r' : RepL K mg bp B ys ws) (h : ∀ H, S H → H a = some (.lst us)) (h' : ∀ H, S H → H b = some (.lst ws)) : Walk (Itz K a b) (zipD xs ys).length S (YD K mg bp B (zipD xs ys)) := by
  have w := walk_zip (K := K) (a := a) (b := b) (xs := us) (ys := ws) rfl
  rw [← r.length, ← r'.length] at w
  rw [zipD_len]
  exact w.mono (fun H s => ⟨SqL.of (h H s), SqL.of (h' H s)⟩) fun i H x H' hi _ y => y_zip r r' i H H' x hi y
theorem walk_zipT {xs ys : List V} {a b : Addr} : Walk (RZ.ItzT K a b) (min xs.length ys.length) (fun H => SqT K H a xs ∧ SqT K H b ys) (YPair (fun i => xs[i]?) (fun i => ys[i]?)) where
  goes := fun i H hi h => ⟨xs, ys, xs[i]'(by omega), ys[i]'(by omega), h.1, h.2, by simp, by simp⟩
  stops := fun H h => ⟨xs, ys, h.1, h.2, by omega⟩
  yields := fun i H x H' hi h ⟨T, y, z, e, n, e2, h1, h2⟩ => ⟨T, y, z, e, n, e2, h1 xs h.1, h2 ys h.2⟩
theorem w_zipT {xs ys : List D} {us ws : List V} {a b : Addr} (r : RepL K mg bp B xs us) (r' : RepL K mg bp B ys ws) (h : ∀ H, S H → SqT K H a us) (h' : ∀ H, S H → SqT K H b ws) : Walk (RZ.ItzT K a b) (zipD xs ys).length S (YD K mg bp B (zipD xs ys)) := by
  have w := walk_zipT (K := K) (a := a) (b := b) (xs := us) (ys := ws)
  rw [← r.length, ← r'.length] at w
  rw [zipD_len]
  exact w.mono (fun H s => ⟨h H s, h' H s⟩) fun i H x H' hi _ y => y_zip r r' i H H' x hi y
end
theorem small_b {a : Int} (h : small a = true) : -(2 ^ 62) ≤ a ∧ a < 2 ^ 62 := by
  simp only [small, Bool.and_eq_true, decide_eq_true_eq] at h
  omega
end
end PL

set_option autoImplicit false
set_option linter.all false
set_option maxRecDepth 100000
set_option maxHeartbeats 4000000
/-! PL6: where one stands; the check of a term against the text. -/
namespace PL
open PySem PySem.Spec PyProof.Rows L2
abbrev sx (x : String) : PySem.Str := PySem.Str.ofString x
structure Sys (β : Type) where
  P : Program
  w : World
  K : PySem.W.Frag
  mg : PySem.Str → Option Value
  base : Heap
  pr : Prog β
  bo : Addr → β → HO × HO
  ar : String → Option Nat
  fr : String → Bool
section
variable {β : Type} (Y : Sys β)
structure Good (bp bq : Addr) (B H : Hp) (b : β) : Prop where
  sub : Same B H
  b1 : B bp = none
  b2 : B bq = none
  h1 : H bp = some (Y.bo bq b).1
  h2 : H bq = some (Y.bo bq b).2
/-- a later heap -/
structure Ext (bp bq : Addr) (B B' H H' : Hp) : Prop where
  bs : Same B B'
  fr : ∀ a, B' a ≠ none → B a = none → H a = none
  kp : ∀ a, a ≠ bp → a ≠ bq → H a ≠ none → H' a = H a
abbrev RepY (bp : Addr) (B : Hp) (d : D) (v : V) : Prop := Rep Y.K Y.mg bp B d v
/-- the slots -/
structure RepE (bp bq : Addr) (B H : Hp) (ρ : Env) (σ : L2.St) : Prop where
  len : σ.length = ρ.length
  im : ∀ (i : Nat) d, ρ[i]? = some (.im d) → ∃ v, σ[i]? = some (some v) ∧ Rep Y.K Y.mg bp B d v
  ow : ∀ (i : Nat) xs, ρ[i]? = some (.ow xs) → ∃ p vs, σ[i]? = some (some (.ref p)) ∧ H p = some (.lst vs) ∧ B p = none ∧ p ≠ bp ∧ p ≠ bq ∧ RepL Y.K Y.mg bp B xs vs
  dj : ∀ (i j : Nat) xs ys p, i ≠ j → ρ[i]? = some (.ow xs) → ρ[j]? = some (.ow ys) → σ[i]? = some (some (.ref p)) → σ[j]? ≠ some (some (.ref p))
end
section
variable {β : Type} {Y : Sys β} {bp bq : Addr} {B B' B'' H H' H'' : Hp} {b b' : β}
theorem Good.gd (g : Good Y bp bq B H b) : Gd bp bq B H := ⟨g.sub, g.b1, g.b2, by rw [g.h1]; exact Option.some_ne_none _, by rw [g.h2]; exact Option.some_ne_none _⟩
theorem Ext.refl : Ext bp bq B B H H := ⟨Same.refl B, fun a h k => absurd k h, fun _ _ _ _ => rfl⟩
theorem Ext.trans (a : Ext bp bq B B' H H') (c : Ext bp bq B' B'' H' H'') (g : Good Y bp bq B'' H'' b) : Ext bp bq B B'' H H'' where
  bs := a.bs.trans c.bs
  fr := fun x h1 h2 => by
    cases q : B' x with
    | some o => exact a.fr x (by rw [q]; exact Option.some_ne_none _) h2
    | none =>
      have h3 := c.fr x h1 q
      refine Classical.byContradiction fun h => ?_
      have n1 : x ≠ bp := fun e => h1 (by rw [e]; exact g.b1)
      have n2 : x ≠ bq := fun e => h1 (by rw [e]; exact g.b2)
      rw [a.kp x n1 n2 h] at h3
      exact h h3
  kp := fun x n1 n2 h => by rw [c.kp x n1 n2 (by rw [a.kp x n1 n2 h]; exact h), a.kp x n1 n2 h]
theorem Ex0.ext (e : Ex0 B B' H H') : Ext bp bq B B' H H' := ⟨e.bs, e.fr, fun a _ _ h => e.kp a h⟩
theorem Ex0.good (e : Ex0 B B' H H') (g : Good Y bp bq B H b) : Good Y bp bq B' H' b where
  sub := e.sub
  b1 := (e.gd g.gd).b1
  b2 := (e.gd g.gd).b2
  h1 := by rw [e.kp bp g.gd.n1]; exact g.h1
  h2 := by rw [e.kp bq g.gd.n2]; exact g.h2
/-- what was free is free before -/
theorem Ext.back (e : Ext bp bq B B' H H') (g : Good Y bp bq B' H' b) {p : Addr} (h : H' p = none) : H p = none := by
  refine Classical.byContradiction fun n => ?_
  have n1 : p ≠ bp := fun z => by rw [z, g.h1] at h; cases h
  have n2 : p ≠ bq := fun z => by rw [z, g.h2] at h; cases h
  rw [e.kp p n1 n2 n] at h
  exact n h
theorem RepM.back {md : Md} (e : Ext bp bq B B' H H') (g : Good Y bp bq B' H' b) {d : D} {v : V} (h : RepM Y.K Y.mg bp bq md H' B'' H'' d v) : RepM Y.K Y.mg bp bq md H B'' H'' d v := by
  cases md with
  | val => exact h
  | bor => exact h
  | own =>
    intro xs ed
    obtain ⟨p, vs, h1, h2, h3⟩ := h xs ed
    exact ⟨p, vs, h1, e.back g h2, h3⟩
/-- what is wished of a value from here on -/
def Wish (Y : Sys β) (bp bq : Addr) (md : Md) (B H : Hp) (d : D) (b' : β) (Q : VK) : Prop :=
  ∀ B' H' v, Ext bp bq B B' H H' → Good Y bp bq B' H' b' → RepM Y.K Y.mg bp bq md H B' H' d v → Q v H'
theorem Wish.later {md : Md} {d : D} {Q : VK} (w : Wish Y bp bq md B H d b' Q) (e : Ext bp bq B B' H H') (g : Good Y bp bq B' H' b) : Wish Y bp bq md B' H' d b' Q :=
  fun B2 H2 v e2 g2 r => w B2 H2 v (e.trans e2 g2) g2 (r.back e g)
theorem Wish.res {md : Md} {d : D} {Q : VK} (w : Wish Y bp bq md B H d b Q) (g : Good Y bp bq B H b) : ResM Y.K Y.mg bp bq md B H d Q :=
  fun B2 H2 v e r => w B2 H2 v e.ext (e.good g) r
theorem RepE.ext {ρ : Env} {σ : L2.St} (r : RepE Y bp bq B H ρ σ) (e : Ext bp bq B B' H H') (g : Good Y bp bq B' H' b) : RepE Y bp bq B' H' ρ σ where
  len := r.len
  im := fun i d h => let ⟨v, h1, h2⟩ := r.im i d h; ⟨v, h1, Rep.mono e.bs d v h2⟩
  ow := fun i xs h => by
    obtain ⟨p, vs, h1, h2, h3, h4, h5, h6⟩ := r.ow i xs h
    refine ⟨p, vs, h1, by rw [e.kp p h4 h5 (by rw [h2]; exact Option.some_ne_none _)]; exact h2, ?_, h4, h5, RepL.mono e.bs _ _ h6⟩
    refine Classical.byContradiction fun n => ?_
    rw [e.fr p n h3] at h2; cases h2
  dj := r.dj
theorem RepT.ext {d : D} {v : V} (h : RepT Y.K Y.mg bp B H bq d v) (e : Ext bp bq B B' H H') : RepT Y.K Y.mg bp B' H' bq d v := h.mono e.bs e.kp
end
/-! ### inversions -/
section
variable {β α γ : Type}
theorem bnd_ok {m : M β α} {f : α → M β γ} {b b' : β} {c : γ} (h : bnd m f b = .ok c b') : ∃ a b1, m b = .ok a b1 ∧ f a b1 = .ok c b' := by
  unfold bnd at h
  cases q : m b with
  | ok a b1 => rw [q] at h; exact ⟨a, b1, rfl, h⟩
  | exc _ _ _ => rw [q] at h; cases h
  | stuck => rw [q] at h; cases h
theorem lft_ok {o : Option α} {b b' : β} {a : α} (h : lft o b = .ok a b') : o = some a ∧ b' = b := by
  cases o with
  | none => cases h
  | some c =>
    have h : R.ok c b = R.ok a b' := h
    cases h
    exact ⟨rfl, rfl⟩
theorem ret_ok {a c : α} {b b' : β} (h : ret a b = .ok c b') : c = a ∧ b' = b := by
  have h : R.ok a b = R.ok c b' := h
  cases h
  exact ⟨rfl, rfl⟩
theorem stk_ok {c : α} {b b' : β} (h : stk b = .ok c b') : False := by cases h
end
/-! ### the check -/
def nmOk (x : PySem.Str) : Bool := !(x == sx "__debug__") && !(x == sx "__classdict__") && !(x == sx "__name__")
def visB (sc : Scope) (x : PySem.Str) : Bool := match sc.names.lookup x with
  | some .local => true
  | some .cell => true
  | some .free => true
  | _ => false
def locB (sc : Scope) (x : PySem.Str) : Bool := match sc.names.lookup x with
  | some .local => true
  | some .cell => true
  | _ => false
def loclB (sc : Scope) (x : PySem.Str) : Bool := match sc.names.lookup x with
  | some .local => true
  | _ => false
def glbB (sc : Scope) (x : PySem.Str) : Bool := match sc.names.lookup x with
  | some .globalImplicit => true
  | _ => false
def opB : Bop → Operator → Bool
  | .add, .Add => true | .sub, .Sub => true | .mul, .Mult => true | .fdiv, .FloorDiv => true | .mod, .Mod => true | .pow, .Pow => true
  | _, _ => false
def opC : Cop → CmpOp → Bool
  | .eq, .Eq => true | .ne, .NotEq => true | .lt, .Lt => true | .le, .LtE => true | .gt, .Gt => true | .ge, .GtE => true
  | .isin, .In => true | .notin, .NotIn => true | .iss, .Is => true | .isnot, .IsNot => true
  | _, _ => false
theorem opB_eq {o : Bop} {p : Operator} (h : opB o p = true) : p = pyB o := by cases o <;> cases p <;> simp [opB] at h <;> rfl
theorem opC_eq {o : Cop} {p : CmpOp} (h : opC o p = true) : p = pyC o := by cases o <;> cases p <;> simp [opC] at h <;> rfl
def litB : D → Const → Bool
  | .non, .none => true
  | .bl a, .bool c => a == c
  | .int i, .int j => decide (i = j)
  | .str s, .str t => decide (s = t)
  | _, _ => false
def strT (x : Expr) : Bool := match x with
  | .Starred _ _ => true
  | _ => false
section
variable (ar : String → Option Nat) (fr : String → Bool) (N : List PySem.Str)
/-- a built-in's name that stands for it -/
def bltB (sc : Scope) (x : PySem.Str) (n : String) : Bool := decide (x = sx n) && glbB sc x && fr n
mutual
def slotsT : Tg → List Nat
  | .nm i => [i]
  | .tu ts => slotsTs ts
def slotsTs : List Tg → List Nat
  | [] => []
  | t :: ts => slotsT t ++ slotsTs ts
end
section
variable (fb : PySem.Str → Bool)
mutual
def chkT : Tg → Scope → Expr → Bool
  | .nm i, sc, .Name x _ => decide (N[i]? = some x) && (locB sc x && fb x)
  | .tu ts, sc, .Tuple xs _ _ => chkTs ts sc xs
  | _, _, _ => false
def chkTs : List Tg → Scope → List Expr → Bool
  | [], _, [] => true
  | t :: ts, sc, x :: xs => chkT t sc x && chkTs ts sc xs
  | _, _, _ => false
end
end
/-- which names a comprehension's block may store -/
def fbC (scope sc : Scope) (x : PySem.Str) : Bool := (match scope.names.lookup x with
  | some .cell => true
  | _ => false) || loclB (L2.relS scope sc) x
def isTup : Tg → Bool
  | .tu _ => true
  | _ => false
def ownS (own : List Nat) : List (PySem.Str × Nat) := own.map fun i => ((N[i]?).getD (sx ""), i)
mutual
def chkE : E → Md → Scope → Expr → Bool
  | .var i, md, sc, x => decide (md ≠ .own) && (match x with
    | .Name x _ => decide (N[i]? = some x) && visB sc x && nmOk x
    | _ => false)
  | .bvar i, md, sc, x => decide (md = .bor) && (match x with
    | .Name x _ => decide (N[i]? = some x) && visB sc x && nmOk x
    | _ => false)
  | .glob g, md, sc, x => decide (md ≠ .own) && (match x with
    | .Name x _ => decide (x = sx g) && glbB sc x && nmOk x
    | _ => false)
  | .lit d, _, _, x => (match x with
    | .Constant c _ _ => litB d c
    | _ => false)
  | .bin o a b, _, sc, x => (match x with
    | .BinOp l p r _ => opB o p && (chkE a .bor sc l && chkE b .bor sc r)
    | _ => false)
  | .neg a, _, sc, x => (match x with
    | .UnaryOp .USub y _ => chkE a .bor sc y
    | _ => false)
  | .no a, _, sc, x => (match x with
    | .UnaryOp .Not y _ => chkE a .bor sc y
    | _ => false)
  | .and es, md, sc, x => decide (md ≠ .own) && (match x with
    | .BoolOp .And xs _ => !es.isEmpty && chkL es md sc xs
    | _ => false)
  | .or es, md, sc, x => decide (md ≠ .own) && (match x with
    | .BoolOp .Or xs _ => !es.isEmpty && chkL es md sc xs
    | _ => false)
  | .cmp o a b, _, sc, x => (match x with
    | .Compare l [p] [r] _ => opC o p && (chkE a .bor sc l && chkE b .bor sc r)
    | _ => false)
  | .chn o p a b c, _, sc, x => (match x with
    | .Compare l [o', p'] [r, t] _ => opC o o' && (opC p p' && (chkE a .bor sc l && (chkE b .bor sc r && chkE c .bor sc t)))
    | _ => false)
  | .isi a t, _, sc, x => (match x with
    | .Call (.Name f _) [y, .Name n _] [] _ => bltB fr sc f "isinstance" && (bltB fr sc n (tyName t) && chkE a .bor sc y)
    | _ => false)
  | .ite c a b, md, sc, x => (match x with
    | .IfExp t y z _ => chkE c .bor sc t && (chkE a md sc y && chkE b md sc z)
    | _ => false)
  | .idx a i, md, sc, x => decide (md ≠ .own) && (match x with
    | .Subscript y z _ => chkE a .bor sc y && chkE i .bor sc z
    | _ => false)
  | .sl1 a l, _, sc, x => (match x with
    | .Subscript y (.Slice (some z) none none _) _ => chkE a .bor sc y && chkE l .bor sc z
    | _ => false)
  | .sl2 a u, _, sc, x => (match x with
    | .Subscript y (.Slice none (some z) none _) _ => chkE a .bor sc y && chkE u .bor sc z
    | _ => false)
  | .sl3 a l u, _, sc, x => (match x with
    | .Subscript y (.Slice (some z) (some t) none _) _ => chkE a .bor sc y && (chkE l .bor sc z && chkE u .bor sc t)
    | _ => false)
  | .rev a, _, sc, x => (match x with
    | .Subscript y (.Slice none none (some (.UnaryOp .USub (.Constant (.int 1) _ _) _)) _) _ => chkE a .bor sc y
    | _ => false)
  | .tup es, _, sc, x => (match x with
    | .Tuple xs _ _ => chkL es .val sc xs
    | _ => false)
  | .lst es, _, sc, x => (match x with
    | .List xs _ => chkL es .val sc xs
    | _ => false)
  | .comp e t k es cs own, _, sc, x => (match x with
    | .ListComp elt [⟨tg, it, ifs, 0⟩] scope _ => blkC N sc scope (ownS N own) && (chkT N (fbC scope sc) t (L2.relS scope sc) tg && ((slotsT t).all (fun i => decide (i ∈ own)) && (decide (cs.length ≤ 1) &&
        ((match k, it with
          | .seq, it => chkL es .bor sc [it]
          | .ran, .Call (.Name f _) xs [] _ => bltB fr sc f "range" && chkL es .bor sc xs
          | .enu, .Call (.Name f _) xs [] _ => bltB fr sc f "enumerate" && (isTup t && chkL es .bor sc xs)
          | .zip, .Call (.Name f _) xs [] _ => bltB fr sc f "zip" && (isTup t && chkL es .bor sc xs)
          | .rvs, .Call (.Name f _) xs [] _ => bltB fr sc f "reversed" && chkL es .bor sc xs
          | _, _ => false) && (chkL cs .bor (L2.relS scope sc) ifs && chkE e .val (L2.relS scope sc) elt)))))
    | _ => false)
  | .bi f es, _, sc, x => (match x with
    | .Call (.Name n _) xs [] _ => bltB fr sc n (biName f) && (if isRg f = true then (match xs with
        | [.Call (.Name r _) ys [] _] => bltB fr sc r "range" && (decide (es.length = 1) && chkL es .bor sc ys)
        | _ => false) else !es.isEmpty && chkL es .bor sc xs)
    | _ => false)
  | .call f es, md, sc, x => decide (md ≠ .own) && (match x with
    | .Call (.Name n _) xs [] _ => decide (n = sx f) && (glbB sc n && (nmOk n && (decide (ar f = some es.length) && chkL es .val sc xs)))
    | _ => false)
def chkL : List E → Md → Scope → List Expr → Bool
  | [], _, _, [] => true
  | e :: es, md, sc, x :: xs => chkE e md sc x && chkL es md sc xs
  | _, _, _, _ => false
end
/-- what a for or a comprehension walks -/
def chkI (k : Ik) (tup : Bool) (es : List E) (md : Md) (sc : Scope) (it : Expr) : Bool := match k, it with
  | .seq, it => chkL ar fr N es md sc [it]
  | .ran, .Call (.Name f _) xs [] _ => bltB fr sc f "range" && chkL ar fr N es md sc xs
  | .enu, .Call (.Name f _) xs [] _ => bltB fr sc f "enumerate" && (tup && chkL ar fr N es md sc xs)
  | .zip, .Call (.Name f _) xs [] _ => bltB fr sc f "zip" && (tup && chkL ar fr N es md sc xs)
  | .rvs, .Call (.Name f _) xs [] _ => bltB fr sc f "reversed" && chkL ar fr N es md sc xs
  | _, _ => false
theorem notStar : ∀ {e : E} {md : Md} {sc : Scope} {x : Expr}, chkE ar fr N e md sc x = true → strT x = false := by
  intro e md sc x h
  cases x with
  | Starred y p => cases e <;> simp [chkE] at h
  | _ => rfl
end
end PL

set_option autoImplicit false
set_option linter.all false
set_option maxRecDepth 100000
set_option maxHeartbeats 4000000
/-! PL7: each construct, by its parts. -/
namespace PL
open PySem PySem.Spec PyProof.Rows L2
section
variable {β : Type} (Y : Sys β)
structure Sys.Ok : Prop where
  fr : ∀ x, Y.fr x = true → Y.mg (sx x) = none
  gl : ∀ x d, Y.pr.gl x = some d → ∃ v u, Y.mg (sx x) = some u ∧ RelV v u ∧ ∀ bp B, Rep Y.K Y.mg bp B d v
/-- what a function of the program keeps, k calls deep -/
def spC (k : Nat) (x : String) (n : Nat) : Sp := fun vs H Q _ => vs.length = n ∧ ∃ bp bq B ds b d b',
  Good Y bp bq B H b ∧ RepL Y.K Y.mg bp B ds vs ∧ PL.call Y.pr k x ds b = .ok d b' ∧ ∀ B' H' v, Ext bp bq B B' H H' → Good Y bp bq B' H' b' → Rep Y.K Y.mg bp B' d v → Q v H'
def Callee (k : Nat) (x : String) (n : Nat) : Prop := ∃ a fd ps, Y.mg (sx x) = some (.ref a) ∧ PySem.W.keepIn Y.K (.ref a) = true ∧ Binds Y.K fd ps [] ∧ ps.length = n ∧
  FnOk Y.P Y.w Y.K Y.mg Y.base CX0 k a fd ps (spC Y k x n)
structure CxOk (k : Nat) (N : List PySem.Str) (sc : Scope) (X : Cx) : Prop where
  prog : X.prog = Y.P
  w : X.w = Y.w
  K : X.K = Y.K
  mg : X.mg = Y.mg
  base : X.base = Y.base
  calm : X.calm = true
  xN : X.N = N
  nd : N.Nodup
  xsc : X.env.scope = sc
  kind : sc.kind = .function
  room : Room k X.A
  xe : X.xe = fun _ _ => False
variable (k : Nat)
noncomputable abbrev evY (e : E) (ρ : Env) : M β D := ev Y.pr.gl (PL.call Y.pr k) e ρ
noncomputable abbrev evLY (e : List E) (ρ : Env) : M β (List D) := evL Y.pr.gl (PL.call Y.pr k) e ρ
/-- the meaning m as a reading -/
def lM (md : Md) (m : Env → M β D) : TE := fun σ H Q => ∃ bp bq B ρ b d b', Good Y bp bq B H b ∧ RepE Y bp bq B H ρ σ ∧ m ρ b = .ok d b' ∧ Wish Y bp bq md B H d b' Q
abbrev lE (md : Md) (e : E) : TE := lM Y md (evY Y k e)
def RepXL (md : Md) (bp bq : Addr) (B H : Hp) (ds : List D) (vs : List V) : Prop := match md with
  | .val => RepL Y.K Y.mg bp B ds vs
  | _ => RepTL Y.K Y.mg bp B H bq ds vs
def lL (md : Md) (es : List E) : TA := fun σ H Q => ∃ bp bq B ρ b ds b', Good Y bp bq B H b ∧ RepE Y bp bq B H ρ σ ∧ evLY Y k es ρ b = .ok ds b' ∧
  ∀ B' H' vs, Ext bp bq B B' H H' → Good Y bp bq B' H' b' → RepXL Y md bp bq B' H' ds vs → Q vs H'
def lT (m : Env → M β Bool) : TT := fun σ H Q => ∃ bp bq B ρ b t b', Good Y bp bq B H b ∧ RepE Y bp bq B H ρ σ ∧ m ρ b = .ok t b' ∧
  ∀ B' H', Ext bp bq B B' H H' → Good Y bp bq B' H' b' → Q t H'
noncomputable def tstY (e : E) (ρ : Env) : M β Bool := tst Y.pr.gl (PL.call Y.pr k) e ρ
end
theorem PE.imp {X : Cx} {e : Expr} {t t' : TE} (h : PE X e t) (i : ∀ σ H Q, t' σ H Q → t σ H Q) : PE X e t' := ⟨fun pins s σ H Q I q => h.run pins s σ H Q I (i σ H Q q)⟩
theorem PT.imp {X : Cx} {e : Expr} {t t' : TT} (h : PT X e t) (i : ∀ σ H Q, t' σ H Q → t σ H Q) : PT X e t' := ⟨fun pins s σ H Q I q => h.run pins s σ H Q I (i σ H Q q)⟩
theorem PW.imp {X : Cx} {e : Expr} {t t' : TT} (h : PW X e t) (i : ∀ σ H Q, t' σ H Q → t σ H Q) : PW X e t' := ⟨fun wh pins s σ H Q I q => h.run wh pins s σ H Q I (i σ H Q q)⟩
theorem PA.imp {X : Cx} {e : List Expr} {t t' : TA} (h : PA X e t) (i : ∀ σ H Q, t' σ H Q → t σ H Q) : PA X e t' := ⟨fun pos pins s σ H Q I q => h.run pos pins s σ H Q I (i σ H Q q)⟩
theorem PI.imp {X : Cx} {tg e : Expr} {t t' : TI} (h : PI X tg e t) (i : ∀ σ H R, t' σ H R → t σ H R) : PI X tg e t' := ⟨fun pins s σ H R I q => h.run pins s σ H R I (i σ H R q)⟩
theorem PG.imp {X : Cx} {e : Expr} {t t' : TG} (h : PG X e t) (i : ∀ v σ H Q, t' v σ H Q → t v σ H Q) : PG X e t' := ⟨fun pins s σ H v u Q I r q => h.run pins s σ H v u Q I r (i v σ H Q q)⟩
section
variable {β : Type} {Y : Sys β} {k : Nat} {N : List PySem.Str} {sc : Scope} {X : Cx} {md : Md}
theorem star1 {x : Expr} {xs : List Expr} {env : PySem.Env} (h : strT x = false) : starEach (x :: xs) env = (false, eval x env) :: starEach xs env := by
  cases x <;> first | rfl | cases h
theorem star_any : ∀ {xs : List Expr} {env : PySem.Env} {pos : Pos}, xs.all (fun x => !strT x) = true → (backTo pos (starEach xs env)).any (·.1) = false
  | [], _, _, _ => rfl
  | x :: xs, env, pos, h => by
    simp only [List.all_cons, Bool.and_eq_true, Bool.not_eq_true'] at h
    rw [star1 h.1]
    have := star_any (env := env) (pos := pos) h.2
    simp only [backTo, List.map_cons, List.any_cons] at this ⊢
    simpa using this
theorem nm_dbg {x : PySem.Str} (h : nmOk x = true) : (x == ("__debug__" : PySem.Str)) = false ∧ (x == ("__classdict__" : PySem.Str)) = false ∧ x ≠ ("__name__" : PySem.Str) := by
  simp only [nmOk, Bool.and_eq_true, Bool.not_eq_true'] at h
  exact ⟨h.1.1, h.1.2, fun e => by have h2 := h.2; rw [e] at h2; exact absurd h2 (by decide +kernel)⟩
theorem vis_of {x : PySem.Str} (h : visB sc x = true) : Vis sc x := by
  unfold visB at h
  unfold Vis
  cases q : sc.names.lookup x with
  | none => rw [q] at h; cases h
  | some kk => rw [q] at h; cases kk <;> first | (exact .inl rfl) | (exact .inr (.inl rfl)) | (exact .inr (.inr rfl)) | cases h
theorem loc_of {x : PySem.Str} (h : locB sc x = true) : L2.Loc sc x := by
  unfold locB at h
  unfold L2.Loc
  cases q : sc.names.lookup x with
  | none => rw [q] at h; cases h
  | some kk => rw [q] at h; cases kk <;> first | (exact .inl rfl) | (exact .inr rfl) | cases h
theorem gl_of {x : PySem.Str} (C : CxOk Y k N sc X) (h : glbB sc x = true) : Gl X x := by
  unfold glbB at h
  show X.env.scope.names.lookup x = some .globalImplicit
  rw [C.xsc]
  cases q : sc.names.lookup x with
  | none => rw [q] at h; cases h
  | some kk => rw [q] at h; cases kk <;> first | rfl | cases h

/-! ### names, constants -/
theorem c_var {i : Nat} {x : PySem.Str} {pos : Pos} (C : CxOk Y k N sc X) (hn : md ≠ .own) (h1 : N[i]? = some x) (h2 : visB sc x = true) (h3 : nmOk x = true) : PE X (.Name x pos) (lE Y k md (.var i)) := by
  refine PE.imp (pe_var (i := i) (by rw [C.xN]; exact h1) (by rw [C.xsc]; exact vis_of h2) (nm_dbg h3).1 (nm_dbg h3).2.1) fun σ H Q q => ?_
  obtain ⟨bp, bq, B, ρ, b, d, b', g, r, e, w⟩ := q
  have e : getV ρ i b = .ok d b' := e
  unfold getV at e
  cases hd : ρ[i]? with
  | none => rw [hd] at e; exact (stk_ok e).elim
  | some c =>
    rw [hd] at e
    cases c with
    | im d' =>
      obtain ⟨rfl, rfl⟩ := ret_ok e
      obtain ⟨v, h4, h5⟩ := r.im i _ hd
      refine ⟨v, h4, w B H v Ext.refl g ?_⟩
      cases md with
      | val => exact h5
      | bor => exact .inl h5
      | own => exact absurd rfl hn
    | un => exact (stk_ok e).elim
    | ow xs => exact (stk_ok e).elim
theorem c_bvar {i : Nat} {x : PySem.Str} {pos : Pos} (C : CxOk Y k N sc X) (h1 : N[i]? = some x) (h2 : visB sc x = true) (h3 : nmOk x = true) : PE X (.Name x pos) (lE Y k .bor (.bvar i)) := by
  refine PE.imp (pe_var (i := i) (by rw [C.xN]; exact h1) (by rw [C.xsc]; exact vis_of h2) (nm_dbg h3).1 (nm_dbg h3).2.1) fun σ H Q q => ?_
  obtain ⟨bp, bq, B, ρ, b, d, b', g, r, e, w⟩ := q
  have e : getB ρ i b = .ok d b' := e
  unfold getB at e
  cases hd : ρ[i]? with
  | none => rw [hd] at e; exact (stk_ok e).elim
  | some c =>
    rw [hd] at e
    cases c with
    | im d' =>
      obtain ⟨rfl, rfl⟩ := ret_ok e
      obtain ⟨v, h4, h5⟩ := r.im i _ hd
      exact ⟨v, h4, w B H v Ext.refl g (.inl h5)⟩
    | un => exact (stk_ok e).elim
    | ow xs =>
      obtain ⟨rfl, rfl⟩ := ret_ok e
      obtain ⟨p, vs, h4, h5, h6, h7, h8, h9⟩ := r.ow i _ hd
      exact ⟨.ref p, h4, w B H _ Ext.refl g (.inr ⟨p, vs, xs, rfl, rfl, h5, h9, h7, h8⟩)⟩
theorem c_glob {y : String} {x : PySem.Str} {pos : Pos} (O : Y.Ok) (C : CxOk Y k N sc X) (hn : md ≠ .own) (h1 : x = sx y) (h2 : glbB sc x = true) (h3 : nmOk x = true) : PE X (.Name x pos) (lE Y k md (.glob y)) := by
  refine ⟨fun pins s σ H Q I q => ?_⟩
  obtain ⟨bp, bq, B, ρ, b, d, b', g, r, e, w⟩ := q
  obtain ⟨e1, rfl⟩ := lft_ok (show lft (Y.pr.gl y) b = .ok d b' from e)
  obtain ⟨v, u, h4, h5, h6⟩ := O.gl y d e1
  subst h1
  refine (pe_glob (v := v) (u := u) (gl_of C h2) (by rw [C.mg]; exact h4) h5 (nm_dbg h3).1).run pins s σ H Q I (w B H v Ext.refl g ?_)
  cases md with
  | val => exact h6 bp B
  | bor => exact .inl (h6 bp B)
  | own => exact absurd rfl hn
theorem c_lit {d : D} {c : Const} {j : Nat} {pos : Pos} (h : litB d c = true) : PE X (.Constant c j pos) (lE Y k md (.lit d)) := by
  have fin : ∀ {v : V} {t : TE}, PE X (.Constant c j pos) t → (∀ σ H Q, Q v H → t σ H Q) → (∀ bp B, Rep Y.K Y.mg bp B d v) → (∀ xs, d ≠ .lst xs) → PE X (.Constant c j pos) (lE Y k md (.lit d)) := fun {v t} hp hi hr nl => by
    refine PE.imp hp fun σ H Q q => hi σ H Q ?_
    obtain ⟨bp, bq, B, ρ, b, d', b', g, r, e, w⟩ := q
    obtain ⟨rfl, rfl⟩ := ret_ok (show ret d b = .ok d' b' from e)
    refine w B H v Ext.refl g ?_
    cases md with
    | val => exact hr bp B
    | bor => exact .inl (hr bp B)
    | own => exact fun xs e => absurd e (nl xs)
  cases d <;> cases c <;> simp [litB] at h
  · exact fin (v := .non) pe_non (fun _ _ _ q => q) (fun _ _ => by simp only [Rep]) (by intro xs e; cases e)
  · subst h
    exact fin (v := .bl _) pe_bl (fun _ _ _ q => q) (fun _ _ => by simp only [Rep]) (by intro xs e; cases e)
  · subst h
    exact fin (v := .int _) pe_int (fun _ _ _ q => q) (fun _ _ => by simp only [Rep]) (by intro xs e; cases e)
  · subst h
    exact fin (v := .str _) pe_str (fun _ _ _ q => q) (fun _ _ => by simp only [Rep]) (by intro xs e; cases e)
/-! ### operators -/
/-- two parts, one after the other -/
theorem two_of {a b : E} {σ : L2.St} {H : Hp} {bp bq : Addr} {B : Hp} {ρ : Env} {β0 β2 : β} {α : Type} {f : D → D → M β α} {z : α} (g : Good Y bp bq B H β0) (r : RepE Y bp bq B H ρ σ)
    (e : bnd (evY Y k a ρ) (fun x => bnd (evY Y k b ρ) fun y => f x y) β0 = .ok z β2) {R : V → V → Hp → Prop}
    (h : ∀ d1 d2 b1 B2 H2 x y, Ext bp bq B B2 H H2 → Good Y bp bq B2 H2 b1 → RepT Y.K Y.mg bp B2 H2 bq d1 x → RepT Y.K Y.mg bp B2 H2 bq d2 y → f d1 d2 b1 = .ok z β2 → R x y H2) :
    lE Y k .bor a σ H fun x H1 => lE Y k .bor b σ H1 fun y H2 => R x y H2 := by
  obtain ⟨d1, b1, e1, e⟩ := bnd_ok e
  obtain ⟨d2, b2, e2, e⟩ := bnd_ok e
  refine ⟨bp, bq, B, ρ, β0, d1, b1, g, r, e1, fun B1 H1 x x1 g1 r1 => ?_⟩
  refine ⟨bp, bq, B1, ρ, b1, d2, b2, g1, r.ext x1 g1, e2, fun B2 H2 y x2 g2 r2 => ?_⟩
  exact h d1 d2 b2 B2 H2 x y (x1.trans x2 g2) g2 (RepT.ext r1 x2) r2 e
theorem c_bin {o : Bop} {a b : E} {l r : Expr} {pos : Pos} (C : CxOk Y k N sc X) (ha : PE X l (lE Y k .bor a)) (hb : PE X r (lE Y k .bor b)) : PE X (.BinOp l (pyB o) r pos) (lE Y k md (.bin o a b)) := by
  refine PE.imp (pe_op (op_B (mg := Y.mg) (m := md) o) ha hb) fun σ H Q q => ?_
  obtain ⟨bp, bq, B, ρ, b0, d, b', g, r, e, w⟩ := q
  rw [C.K]
  refine two_of g r e fun d1 d2 b1 B2 H2 x y x2 g2 r1 r2 e => ?_
  obtain ⟨e1, rfl⟩ := lft_ok e
  exact ⟨bp, bq, B2, d1, d2, d, g2.gd, r1, r2, e1, (w.later x2 g2).res g2⟩
theorem Wish.bl {bp bq : Addr} {B H : Hp} {t : Bool} {b' : β} {Q : VK} (w : Wish Y bp bq md B H (.bl t) b' Q) (g : Good Y bp bq B H b') : Q (.bl t) H := (w.res g).bl g.gd
theorem Wish.int {bp bq : Addr} {B H : Hp} {t : Int} {b' : β} {Q : VK} (w : Wish Y bp bq md B H (.int t) b' Q) (g : Good Y bp bq B H b') : Q (.int t) H := (w.res g).int g.gd
theorem c_cmp {o : Cop} {a b : E} {l r : Expr} {pos : Pos} (C : CxOk Y k N sc X) (ha : PE X l (lE Y k .bor a)) (hb : PE X r (lE Y k .bor b)) (hm : behindInMarks (pyC o) r = false) : PE X (.Compare l [pyC o] [r] pos) (lE Y k md (.cmp o a b)) := by
  have hu : X.A.units + 65 < cLine := by have := C.room.un; omega
  refine PE.imp (pe_cmpR (op_C (mg := Y.mg) hu o) ha hb hm) fun σ H Q q => ?_
  obtain ⟨bp, bq, B, ρ, b0, d, b', g, r, e, w⟩ := q
  rw [C.K]
  refine two_of g r e fun d1 d2 b1 B2 H2 x y x2 g2 r1 r2 e => ?_
  obtain ⟨t, b3, e1, e2⟩ := bnd_ok e
  replace e1 := lft_ok e1
  obtain ⟨e1, rfl⟩ := e1
  obtain ⟨rfl, rfl⟩ := ret_ok e2
  exact ⟨bp, bq, B2, d1, d2, t, g2.gd, r1, r2, e1, (w.later x2 g2).bl g2⟩
theorem c_chn {o p : Cop} {a b c : E} {l r t : Expr} {pos : Pos} (C : CxOk Y k N sc X) (ha : PE X l (lE Y k .bor a)) (hb : PE X r (lE Y k .bor b)) (hc : PE X t (lE Y k .bor c)) (hm : behindInMarks (pyC p) t = false) : PE X (.Compare l [pyC o, pyC p] [r, t] pos) (lE Y k md (.chn o p a b c)) := by
  have hu : X.A.units + 65 < cLine := by have := C.room.un; omega
  refine PE.imp (pe_chain (op_C (mg := Y.mg) hu o) (op_C (mg := Y.mg) hu p) ha hb hc (by exact hm)) fun σ H Q q => ?_
  obtain ⟨bp, bq, B, ρ, b0, d, b', g, r, e, w⟩ := q
  rw [C.K]
  refine two_of g r e fun d1 d2 b1 B2 H2 x y x2 g2 r1 r2 e => ?_
  obtain ⟨t, b3, e1, e2⟩ := bnd_ok e
  replace e1 := lft_ok e1
  obtain ⟨e1, rfl⟩ := e1
  refine ⟨bp, bq, B2, d1, d2, t, g2.gd, r1, r2, e1, t, rfl, ?_⟩
  cases t with
  | false =>
    rw [if_neg (by decide)] at e2
    obtain ⟨rfl, rfl⟩ := ret_ok e2
    rw [if_neg (by decide)]
    exact (w.later x2 g2).bl g2
  | true =>
    rw [if_pos rfl] at e2
    rw [if_pos rfl]
    obtain ⟨d3, b4, e3, e4⟩ := bnd_ok e2
    obtain ⟨u, b5, e5, e6⟩ := bnd_ok e4
    replace e5 := lft_ok e5
    obtain ⟨e5, rfl⟩ := e5
    obtain ⟨rfl, rfl⟩ := ret_ok e6
    refine ⟨bp, bq, B2, ρ, _, d3, _, g2, r.ext x2 g2, e3, fun B3 H3 z x3 g3 r3 => ?_⟩
    exact ⟨bp, bq, B3, d2, d3, u, g3.gd, RepT.ext r2 x3, r3, e5, (w.later (x2.trans x3 g3) g3).bl g3⟩
theorem c_neg {a : E} {l : Expr} {pos : Pos} (ha : PE X l (lE Y k .bor a)) : PE X (.UnaryOp .USub l pos) (lE Y k md (.neg a)) := by
  refine PE.imp (pe_un un_neg ha) fun σ H Q q => ?_
  obtain ⟨bp, bq, B, ρ, b0, d, b', g, r, e, w⟩ := q
  obtain ⟨d1, b1, e1, e⟩ := bnd_ok e
  obtain ⟨i, b2, e2, e3⟩ := bnd_ok e
  replace e2 := lft_ok e2
  obtain ⟨e2, rfl⟩ := e2
  obtain ⟨rfl, rfl⟩ := ret_ok e3
  refine ⟨bp, bq, B, ρ, b0, d1, _, g, r, e1, fun B1 H1 x x1 g1 r1 => ?_⟩
  cases d1 with
  | int j =>
    simp only [toI, Option.some.injEq] at e2; subst e2
    exact ⟨j, RepT.int r1, (w.later x1 g1).int g1⟩
  | _ => simp [toI] at e2
theorem c_no {a : E} {l : Expr} {pos : Pos} (C : CxOk Y k N sc X) (ha : PE X l (lE Y k .bor a)) : PE X (.UnaryOp .Not l pos) (lE Y k md (.no a)) := by
  refine PE.imp (pe_notT ha) fun σ H Q q => ?_
  obtain ⟨bp, bq, B, ρ, b0, d, b', g, r, e, w⟩ := q
  obtain ⟨d1, b1, e1, e⟩ := bnd_ok e
  obtain ⟨t, b2, e2, e3⟩ := bnd_ok e
  replace e2 := lft_ok e2
  obtain ⟨e2, rfl⟩ := e2
  obtain ⟨rfl, rfl⟩ := ret_ok e3
  refine ⟨bp, bq, B, ρ, b0, d1, _, g, r, e1, fun B1 H1 x x1 g1 r1 => ?_⟩
  rw [C.K]
  exact ⟨t, tru_of g1.gd r1 e2, (w.later x1 g1).bl g1⟩
theorem RepM.t {bp bq : Addr} {H B' H' : Hp} {d : D} {v : V} (hn : md ≠ .own) (h : RepM Y.K Y.mg bp bq md H B' H' d v) : RepT Y.K Y.mg bp B' H' bq d v := by
  cases md with
  | val => exact .inl h
  | bor => exact h
  | own => exact absurd rfl hn
theorem RepM.same {bp bq : Addr} {H H2 B' H' : Hp} {d : D} {v : V} (hn : md ≠ .own) (h : RepM Y.K Y.mg bp bq md H B' H' d v) : RepM Y.K Y.mg bp bq md H2 B' H' d v := by
  cases md with
  | val => exact h
  | bor => exact h
  | own => exact absurd rfl hn
theorem c_and1 {a : E} {l : Expr} {pos : Pos} (ha : PE X l (lE Y k md a)) : PE X (.BoolOp .And [l] pos) (lE Y k md (.and [a])) := by
  refine PE.imp (pe_one ha) fun σ H Q q => ?_
  obtain ⟨bp, bq, B, ρ, b0, d, b', g, r, e, w⟩ := q
  exact ⟨bp, bq, B, ρ, b0, d, b', g, r, by simpa only [evY, ev, evA] using e, w⟩
theorem c_or1 {a : E} {l : Expr} {pos : Pos} (ha : PE X l (lE Y k md a)) : PE X (.BoolOp .Or [l] pos) (lE Y k md (.or [a])) := by
  refine PE.imp (pe_one ha) fun σ H Q q => ?_
  obtain ⟨bp, bq, B, ρ, b0, d, b', g, r, e, w⟩ := q
  exact ⟨bp, bq, B, ρ, b0, d, b', g, r, by simpa only [evY, ev, evO] using e, w⟩
theorem c_and {a a2 : E} {as : List E} {l l2 : Expr} {ls : List Expr} {pos : Pos} (C : CxOk Y k N sc X) (hn : md ≠ .own) (ha : PE X l (lE Y k md a)) (hb : PE X (.BoolOp .And (l2 :: ls) pos) (lE Y k md (.and (a2 :: as)))) :
    PE X (.BoolOp .And (l :: l2 :: ls) pos) (lE Y k md (.and (a :: a2 :: as))) := by
  refine PE.imp (pe_andT ha hb) fun σ H Q q => ?_
  obtain ⟨bp, bq, B, ρ, b0, d, b', g, r, e, w⟩ := q
  simp only [evY, ev, evA] at e
  obtain ⟨d1, b1, e1, e⟩ := bnd_ok e
  obtain ⟨t, b2, e2, e⟩ := bnd_ok e
  replace e2 := lft_ok e2
  obtain ⟨e2, rfl⟩ := e2
  refine ⟨bp, bq, B, ρ, b0, d1, _, g, r, e1, fun B1 H1 x x1 g1 r1 => ?_⟩
  rw [C.K]
  refine ⟨t, tru_of g1.gd (r1.t hn) e2, ?_⟩
  cases t with
  | true =>
    rw [if_pos rfl] at e ⊢
    exact ⟨bp, bq, B1, ρ, _, d, b', g1, r.ext x1 g1, by simpa only [evY, ev, evA] using e, w.later x1 g1⟩
  | false =>
    rw [if_neg (by decide)] at e ⊢
    obtain ⟨rfl, rfl⟩ := ret_ok e
    exact w B1 H1 x x1 g1 r1
theorem c_or {a a2 : E} {as : List E} {l l2 : Expr} {ls : List Expr} {pos : Pos} (C : CxOk Y k N sc X) (hn : md ≠ .own) (ha : PE X l (lE Y k md a)) (hb : PE X (.BoolOp .Or (l2 :: ls) pos) (lE Y k md (.or (a2 :: as)))) :
    PE X (.BoolOp .Or (l :: l2 :: ls) pos) (lE Y k md (.or (a :: a2 :: as))) := by
  refine PE.imp (pe_orT ha hb) fun σ H Q q => ?_
  obtain ⟨bp, bq, B, ρ, b0, d, b', g, r, e, w⟩ := q
  simp only [evY, ev, evO] at e
  obtain ⟨d1, b1, e1, e⟩ := bnd_ok e
  obtain ⟨t, b2, e2, e⟩ := bnd_ok e
  replace e2 := lft_ok e2
  obtain ⟨e2, rfl⟩ := e2
  refine ⟨bp, bq, B, ρ, b0, d1, _, g, r, e1, fun B1 H1 x x1 g1 r1 => ?_⟩
  rw [C.K]
  refine ⟨t, tru_of g1.gd (r1.t hn) e2, ?_⟩
  cases t with
  | false =>
    rw [if_neg (by decide)] at e ⊢
    exact ⟨bp, bq, B1, ρ, _, d, b', g1, r.ext x1 g1, by simpa only [evY, ev, evO] using e, w.later x1 g1⟩
  | true =>
    rw [if_pos rfl] at e ⊢
    obtain ⟨rfl, rfl⟩ := ret_ok e
    exact w B1 H1 x x1 g1 r1
/-! ### tests -/
theorem bnd_run {β α γ : Type} {m : M β α} {f : α → M β γ} {b b1 : β} {a : α} (h : m b = .ok a b1) : bnd m f b = f a b1 := by
  unfold bnd
  rw [h]
theorem tst_of {a : E} {ρ : Env} {b0 b1 : β} {d1 : D} {t : Bool} (e1 : evY Y k a ρ b0 = .ok d1 b1) (e2 : truth d1 = some t) : tstY Y k a ρ b0 = .ok t b1 := by
  show bnd (evY Y k a ρ) (fun x => lft (truth x)) b0 = _
  rw [bnd_run e1, e2]
  rfl
theorem t_any {a : E} {l : Expr} (C : CxOk Y k N sc X) (ha : PE X l (lE Y k .bor a)) (he : ∀ whole, isTrue l X.env whole = (do let v ← whole; standAt l.pos; holding [v] (truthy v))) : PT X l (lT Y (tstY Y k a)) := by
  refine PT.imp (pt_truth ha he) fun σ H Q q => ?_
  obtain ⟨bp, bq, B, ρ, b0, t, b', g, r, e, w⟩ := q
  obtain ⟨d1, b1, e1, e⟩ := bnd_ok e
  obtain ⟨e2, rfl⟩ := lft_ok e
  refine ⟨bp, bq, B, ρ, b0, d1, _, g, r, e1, fun B1 H1 x x1 g1 r1 => ?_⟩
  rw [C.K]
  exact ⟨t, tru_of g1.gd r1 e2, w B1 H1 x1 g1⟩
theorem t_no {a : E} {l : Expr} {pos : Pos} (ha : PT X l (lT Y (tstY Y k a))) : PT X (.UnaryOp .Not l pos) (lT Y (tstY Y k (.no a))) := by
  refine PT.imp (pt_not ha) fun σ H Q q => ?_
  obtain ⟨bp, bq, B, ρ, b0, t, b', g, r, e, w⟩ := q
  simp only [tstY, tst, ev] at e
  obtain ⟨d, b1, e1, e⟩ := bnd_ok e
  obtain ⟨d1, b2, e2, e3⟩ := bnd_ok e1
  obtain ⟨t1, b3, e4, e5⟩ := bnd_ok e3
  replace e4 := lft_ok e4
  obtain ⟨e4, rfl⟩ := e4
  obtain ⟨rfl, rfl⟩ := ret_ok e5
  obtain ⟨e6, rfl⟩ := lft_ok e
  simp only [truth, Option.some.injEq] at e6
  subst e6
  refine ⟨bp, bq, B, ρ, b0, t1, _, g, r, tst_of e2 e4, fun B1 H1 x1 g1 => w B1 H1 x1 g1⟩
theorem t_cmp {o : Cop} {a b : E} {l r : Expr} {pos : Pos} (C : CxOk Y k N sc X) (ha : PE X l (lE Y k .bor a)) (hb : PE X r (lE Y k .bor b)) (hm : behindInMarks (pyC o) r = false) : PT X (.Compare l [pyC o] [r] pos) (lT Y (tstY Y k (.cmp o a b))) := by
  have hu : X.A.units + 65 < cLine := by have := C.room.un; omega
  refine PT.imp (pt_cmpR (op_C (mg := Y.mg) hu o) ha hb hm) fun σ H Q q => ?_
  obtain ⟨bp, bq, B, ρ, b0, t, b', g, r, e, w⟩ := q
  simp only [tstY, tst, ev, bnd_assoc, bnd_ret, truth, lft_some] at e
  rw [C.K]
  refine two_of g r e fun d1 d2 b1 B2 H2 x y x2 g2 r1 r2 e => ?_
  obtain ⟨t', b3, e1, e2⟩ := bnd_ok e
  replace e1 := lft_ok e1
  obtain ⟨e1, rfl⟩ := e1
  obtain ⟨rfl, rfl⟩ := ret_ok e2
  exact ⟨bp, bq, B2, d1, d2, _, g2.gd, r1, r2, e1, _, rfl, w B2 H2 x2 g2⟩
theorem t_chn {o p : Cop} {a b c : E} {l r t : Expr} {pos : Pos} (C : CxOk Y k N sc X) (ha : PE X l (lE Y k .bor a)) (hb : PE X r (lE Y k .bor b)) (hc : PE X t (lE Y k .bor c)) (hm : behindInMarks (pyC p) t = false) : PT X (.Compare l [pyC o, pyC p] [r, t] pos) (lT Y (tstY Y k (.chn o p a b c))) := by
  have hu : X.A.units + 65 < cLine := by have := C.room.un; omega
  refine PT.imp (pt_chain (op_C (mg := Y.mg) hu o) (op_C (mg := Y.mg) hu p) ha hb hc (by exact hm)) fun σ H Q q => ?_
  obtain ⟨bp, bq, B, ρ, b0, t, b', g, r, e, w⟩ := q
  simp only [tstY, tst, ev, bnd_assoc] at e
  rw [C.K]
  refine two_of g r e fun d1 d2 b1 B2 H2 x y x2 g2 r1 r2 e => ?_
  obtain ⟨t1, b3, e1, e2⟩ := bnd_ok e
  replace e1 := lft_ok e1
  obtain ⟨e1, rfl⟩ := e1
  refine ⟨bp, bq, B2, d1, d2, t1, g2.gd, r1, r2, e1, t1, rfl, ?_⟩
  cases t1 with
  | false =>
    rw [if_neg (by decide)] at e2
    obtain ⟨rfl, rfl⟩ := ret_ok e2
    rw [if_neg (by decide)]
    exact ⟨false, rfl, w B2 H2 x2 g2⟩
  | true =>
    rw [if_pos rfl] at e2
    rw [if_pos rfl]
    simp only [bnd_assoc, bnd_ret, truth, lft_some] at e2
    obtain ⟨d3, b4, e3, e4⟩ := bnd_ok e2
    obtain ⟨u, b5, e5, e6⟩ := bnd_ok e4
    replace e5 := lft_ok e5
    obtain ⟨e5, rfl⟩ := e5
    obtain ⟨rfl, rfl⟩ := ret_ok e6
    refine ⟨bp, bq, B2, ρ, _, d3, _, g2, r.ext x2 g2, e3, fun B3 H3 z x3 g3 r3 => ?_⟩
    exact ⟨bp, bq, B3, d2, d3, _, g3.gd, RepT.ext r2 x3, r3, e5, _, rfl, w B3 H3 (x2.trans x3 g3) g3⟩
theorem t_and1 {a : E} {l : Expr} {pos : Pos} (ha : PT X l (lT Y (tstY Y k a))) : PW X (.BoolOp .And [l] pos) (lT Y (tstY Y k (.and [a]))) := by
  refine PW.imp (pw_and1 ha) fun σ H Q q => ?_
  obtain ⟨bp, bq, B, ρ, b0, t, b', g, r, e, w⟩ := q
  exact ⟨bp, bq, B, ρ, b0, t, b', g, r, by simpa only [tstY, tst, ev, evA] using e, w⟩
theorem t_or1 {a : E} {l : Expr} {pos : Pos} (ha : PT X l (lT Y (tstY Y k a))) : PW X (.BoolOp .Or [l] pos) (lT Y (tstY Y k (.or [a]))) := by
  refine PW.imp (pw_or1 ha) fun σ H Q q => ?_
  obtain ⟨bp, bq, B, ρ, b0, t, b', g, r, e, w⟩ := q
  exact ⟨bp, bq, B, ρ, b0, t, b', g, r, by simpa only [tstY, tst, ev, evO] using e, w⟩
theorem t_and {a a2 : E} {as : List E} {l l2 : Expr} {ls : List Expr} {pos : Pos} (ha : PT X l (lT Y (tstY Y k a))) (hb : PW X (.BoolOp .And (l2 :: ls) pos) (lT Y (tstY Y k (.and (a2 :: as))))) :
    PW X (.BoolOp .And (l :: l2 :: ls) pos) (lT Y (tstY Y k (.and (a :: a2 :: as)))) := by
  refine PW.imp (pw_and ha hb) fun σ H Q q => ?_
  obtain ⟨bp, bq, B, ρ, b0, t, b', g, r, e, w⟩ := q
  simp only [tstY, tst, ev, evA, bnd_assoc] at e
  obtain ⟨d1, b1, e1, e⟩ := bnd_ok e
  obtain ⟨t1, b2, e2, e⟩ := bnd_ok e
  replace e2 := lft_ok e2
  obtain ⟨e2, rfl⟩ := e2
  refine ⟨bp, bq, B, ρ, b0, t1, _, g, r, tst_of e1 e2, fun B1 H1 x1 g1 => ?_⟩
  cases t1 with
  | true =>
    rw [if_pos rfl] at e ⊢
    exact ⟨bp, bq, B1, ρ, _, t, b', g1, r.ext x1 g1, by simpa only [tstY, tst, ev, evA] using e, fun B2 H2 x2 g2 => w B2 H2 (x1.trans x2 g2) g2⟩
  | false =>
    rw [if_neg (by decide)] at e ⊢
    simp only [bnd_ret, e2, lft_some] at e
    obtain ⟨rfl, rfl⟩ := ret_ok e
    exact w B1 H1 x1 g1
theorem t_or {a a2 : E} {as : List E} {l l2 : Expr} {ls : List Expr} {pos : Pos} (ha : PT X l (lT Y (tstY Y k a))) (hb : PW X (.BoolOp .Or (l2 :: ls) pos) (lT Y (tstY Y k (.or (a2 :: as))))) :
    PW X (.BoolOp .Or (l :: l2 :: ls) pos) (lT Y (tstY Y k (.or (a :: a2 :: as)))) := by
  refine PW.imp (pw_or ha hb) fun σ H Q q => ?_
  obtain ⟨bp, bq, B, ρ, b0, t, b', g, r, e, w⟩ := q
  simp only [tstY, tst, ev, evO, bnd_assoc] at e
  obtain ⟨d1, b1, e1, e⟩ := bnd_ok e
  obtain ⟨t1, b2, e2, e⟩ := bnd_ok e
  replace e2 := lft_ok e2
  obtain ⟨e2, rfl⟩ := e2
  refine ⟨bp, bq, B, ρ, b0, t1, _, g, r, tst_of e1 e2, fun B1 H1 x1 g1 => ?_⟩
  cases t1 with
  | false =>
    rw [if_neg (by decide)] at e ⊢
    exact ⟨bp, bq, B1, ρ, _, t, b', g1, r.ext x1 g1, by simpa only [tstY, tst, ev, evO] using e, fun B2 H2 x2 g2 => w B2 H2 (x1.trans x2 g2) g2⟩
  | true =>
    rw [if_pos rfl] at e ⊢
    simp only [bnd_ret, e2, lft_some] at e
    obtain ⟨rfl, rfl⟩ := ret_ok e
    exact w B1 H1 x1 g1
theorem c_ite {c a b : E} {t y z : Expr} {pos : Pos} (hc : PT X t (lT Y (tstY Y k c))) (ha : PE X y (lE Y k md a)) (hb : PE X z (lE Y k md b)) : PE X (.IfExp t y z pos) (lE Y k md (.ite c a b)) := by
  refine PE.imp (pe_ifExp hc ha hb) fun σ H Q q => ?_
  obtain ⟨bp, bq, B, ρ, b0, d, b', g, r, e, w⟩ := q
  simp only [evY, ev] at e
  obtain ⟨d1, b1, e1, e⟩ := bnd_ok e
  obtain ⟨t1, b2, e2, e⟩ := bnd_ok e
  replace e2 := lft_ok e2
  obtain ⟨e2, rfl⟩ := e2
  refine ⟨bp, bq, B, ρ, b0, t1, _, g, r, tst_of e1 e2, fun B1 H1 x1 g1 => ?_⟩
  cases t1 with
  | true =>
    rw [if_pos rfl] at e ⊢
    exact ⟨bp, bq, B1, ρ, _, d, b', g1, r.ext x1 g1, e, w.later x1 g1⟩
  | false =>
    rw [if_neg (by decide)] at e ⊢
    exact ⟨bp, bq, B1, ρ, _, d, b', g1, r.ext x1 g1, e, w.later x1 g1⟩
/-! ### items, slices -/
theorem c_idx {a i : E} {y z : Expr} {pos : Pos} (C : CxOk Y k N sc X) (hn : md ≠ .own) (ha : PE X y (lE Y k .bor a)) (hi : PE X z (lE Y k .bor i)) (hp : PlainIx z) : PE X (.Subscript y z pos) (lE Y k md (.idx a i)) := by
  refine PE.imp (pe_ix (ix_D (mg := Y.mg)) ha hi hp) fun σ H Q q => ?_
  obtain ⟨bp, bq, B, ρ, b0, d, b', g, r, e, w⟩ := q
  rw [C.K]
  refine two_of g r e fun d1 d2 b1 B2 H2 x y x2 g2 r1 r2 e => ?_
  obtain ⟨e1, rfl⟩ := lft_ok e
  refine ⟨bp, bq, B2, d1, d2, d, g2.gd, r1, r2, e1, fun v rv => w.later x2 g2 B2 H2 v Ext.refl g2 ?_⟩
  cases md with
  | val => exact rv
  | bor => exact .inl rv
  | own => exact absurd rfl hn
theorem c_sl1 {a l : E} {y z : Expr} {pos p2 : Pos} (C : CxOk Y k N sc X) (ha : PE X y (lE Y k .bor a)) (hl : PE X z (lE Y k .bor l)) : PE X (.Subscript y (.Slice (some z) none none p2) pos) (lE Y k md (.sl1 a l)) := by
  refine PE.imp (pe_slice (sl_D (mg := Y.mg) (m := md)) ha (po_some hl) po_none) fun σ H Q q => ?_
  obtain ⟨bp, bq, B, ρ, b0, d, b', g, r, e, w⟩ := q
  rw [C.K]
  refine two_of g r e fun d1 d2 b1 B2 H2 x y x2 g2 r1 r2 e => ?_
  obtain ⟨j, b3, e1, e2⟩ := bnd_ok e
  replace e1 := lft_ok e1
  obtain ⟨e1, rfl⟩ := e1
  replace e2 := lft_ok e2
  obtain ⟨e2, rfl⟩ := e2
  cases d2 with
  | int j' =>
    simp only [toI, Option.some.injEq] at e1; subst e1
    exact ⟨j', RepT.int r2, bp, bq, B2, d1, d, g2.gd, r1, e2, (w.later x2 g2).res g2⟩
  | _ => simp [toI] at e1
theorem c_sl2 {a l : E} {y z : Expr} {pos p2 : Pos} (C : CxOk Y k N sc X) (ha : PE X y (lE Y k .bor a)) (hl : PE X z (lE Y k .bor l)) : PE X (.Subscript y (.Slice none (some z) none p2) pos) (lE Y k md (.sl2 a l)) := by
  refine PE.imp (pe_slice (sl_D (mg := Y.mg) (m := md)) ha po_none (po_some hl)) fun σ H Q q => ?_
  obtain ⟨bp, bq, B, ρ, b0, d, b', g, r, e, w⟩ := q
  rw [C.K]
  refine two_of g r e fun d1 d2 b1 B2 H2 x y x2 g2 r1 r2 e => ?_
  obtain ⟨j, b3, e1, e2⟩ := bnd_ok e
  replace e1 := lft_ok e1
  obtain ⟨e1, rfl⟩ := e1
  replace e2 := lft_ok e2
  obtain ⟨e2, rfl⟩ := e2
  cases d2 with
  | int j' =>
    simp only [toI, Option.some.injEq] at e1; subst e1
    exact ⟨j', RepT.int r2, bp, bq, B2, d1, d, g2.gd, r1, e2, (w.later x2 g2).res g2⟩
  | _ => simp [toI] at e1
theorem c_sl3 {a l u : E} {y z t : Expr} {pos p2 : Pos} (C : CxOk Y k N sc X) (ha : PE X y (lE Y k .bor a)) (hl : PE X z (lE Y k .bor l)) (hu : PE X t (lE Y k .bor u)) : PE X (.Subscript y (.Slice (some z) (some t) none p2) pos) (lE Y k md (.sl3 a l u)) := by
  refine PE.imp (pe_slice (sl_D (mg := Y.mg) (m := md)) ha (po_some hl) (po_some hu)) fun σ H Q q => ?_
  obtain ⟨bp, bq, B, ρ, b0, d, b', g, r, e, w⟩ := q
  rw [C.K]
  refine two_of g r e fun d1 d2 b1 B2 H2 x y x2 g2 r1 r2 e => ?_
  obtain ⟨j, b3, f1, f⟩ := bnd_ok e
  obtain ⟨f2, rfl⟩ := lft_ok f1
  obtain ⟨d3, b4, f3, f4⟩ := bnd_ok f
  obtain ⟨j2, b5, f5, f6⟩ := bnd_ok f4
  obtain ⟨f7, rfl⟩ := lft_ok f5
  obtain ⟨f8, rfl⟩ := lft_ok f6
  cases d2 with
  | int j' =>
    simp only [toI, Option.some.injEq] at f2; subst f2
    refine ⟨j', RepT.int r2, bp, bq, B2, ρ, _, d3, _, g2, r.ext x2 g2, f3, fun B3 H3 zz x3 g3 r3 => ?_⟩
    cases d3 with
    | int j3 =>
      simp only [toI, Option.some.injEq] at f7; subst f7
      exact ⟨j3, RepT.int r3, bp, bq, B3, d1, d, g3.gd, RepT.ext r1 x3, f8, (w.later (x2.trans x3 g3) g3).res g3⟩
    | _ => simp [toI] at f7
  | _ => simp [toI] at f2
theorem c_rev {a : E} {y : Expr} {j : Nat} {p1 p2 p3 pos : Pos} (C : CxOk Y k N sc X) (ha : PE X y (lE Y k .bor a)) : PE X (.Subscript y (.Slice none none (some (.UnaryOp .USub (.Constant (.int 1) j p1) p2)) p3) pos) (lE Y k md (.rev a)) := by
  refine PE.imp (pe_revA ha) fun σ H Q q => ?_
  obtain ⟨bp, bq, B, ρ, b0, d, b', g, r, e, w⟩ := q
  obtain ⟨d1, b1, e1, e⟩ := bnd_ok e
  obtain ⟨e2, rfl⟩ := lft_ok e
  refine ⟨bp, bq, B, ρ, b0, d1, _, g, r, e1, fun B1 H1 x x1 g1 r1 => ?_⟩
  rw [C.K]
  cases d1 with
  | tup xs =>
    simp only [revD, Option.some.injEq] at e2; subst e2
    obtain ⟨p, vs, rfl, h1, rl⟩ := RepT.tup g1.sub r1
    exact ⟨p, vs, rfl, .inr ⟨h1, fun p' hp' => ((w.later x1 g1).res g1).tup g1.gd rl.reverse hp'⟩⟩
  | lst xs =>
    simp only [revD, Option.some.injEq] at e2; subst e2
    obtain ⟨p, vs, rfl, h1, rl⟩ := RepT.lst g1.sub r1
    exact ⟨p, vs, rfl, .inl ⟨SqL.of h1, fun p' hp' => ((w.later x1 g1).res g1).lst g1.gd rl.reverse hp'⟩⟩
  | _ => simp [revD] at e2
/-! ### lists of parts -/
theorem a_nil : PA X [] (lL Y k md []) := by
  refine PA.imp pa_nil fun σ H Q q => ?_
  obtain ⟨bp, bq, B, ρ, b0, ds, b', g, r, e, w⟩ := q
  obtain ⟨rfl, rfl⟩ := ret_ok (show ret [] b0 = .ok ds b' from e)
  refine w B H [] Ext.refl g ?_
  cases md with
  | val => exact (RepL.nil : RepL Y.K Y.mg bp B [] [])
  | bor => simp only [RepXL, RepTL]
  | own => simp only [RepXL, RepTL]
theorem a_cons {e : E} {es : List E} {x : Expr} {xs : List Expr} (hn : md ≠ .own) (h : PE X x (lE Y k md e)) (hs : PA X xs (lL Y k md es)) (st : strT x = false) : PA X (x :: xs) (lL Y k md (e :: es)) := by
  refine PA.imp (pa_cons h hs (star1 st)) fun σ H Q q => ?_
  obtain ⟨bp, bq, B, ρ, b0, ds, b', g, r, e, w⟩ := q
  simp only [evLY, evL] at e
  obtain ⟨d1, b1, e1, e⟩ := bnd_ok e
  obtain ⟨d2, b2, e2, e⟩ := bnd_ok e
  obtain ⟨rfl, rfl⟩ := ret_ok e
  refine ⟨bp, bq, B, ρ, b0, d1, b1, g, r, e1, fun B1 H1 x x1 g1 r1 => ?_⟩
  refine ⟨bp, bq, B1, ρ, b1, d2, _, g1, r.ext x1 g1, e2, fun B2 H2 vs x2 g2 r2 => ?_⟩
  refine w B2 H2 _ (x1.trans x2 g2) g2 ?_
  cases md with
  | val => exact RepL.cons (Rep.mono x2.bs _ _ r1) r2
  | bor =>
    simp only [RepXL, RepTL]
    exact ⟨x, vs, rfl, RepT.ext r1 x2, r2⟩
  | own => exact absurd rfl hn
theorem c_tup {es : List E} {xs : List Expr} {j : Nat} {pos : Pos} (h : PA X xs (lL Y k .val es)) : PE X (.Tuple xs j pos) (lE Y k md (.tup es)) := by
  refine PE.imp (pe_tup h) fun σ H Q q => ?_
  obtain ⟨bp, bq, B, ρ, b0, d, b', g, r, e, w⟩ := q
  obtain ⟨ds, b1, e1, e⟩ := bnd_ok e
  by_cases hz : ds.length ≤ lim
  · rw [if_pos hz] at e
    obtain ⟨rfl, rfl⟩ := ret_ok e
    refine ⟨bp, bq, B, ρ, b0, ds, _, g, r, e1, fun B1 H1 vs x1 g1 r1 => ?_⟩
    have r1 : RepL Y.K Y.mg bp B1 ds vs := r1
    exact ⟨by rw [← r1.length]; exact Nat.le_trans hz lim_le, fun p hp => ((w.later x1 g1).res g1).tup g1.gd r1 hp⟩
  · rw [if_neg hz] at e
    exact (stk_ok e).elim
theorem c_lst {es : List E} {xs : List Expr} {pos : Pos} (h : PA X xs (lL Y k .val es)) : PE X (.List xs pos) (lE Y k md (.lst es)) := by
  refine PE.imp (pe_lst h) fun σ H Q q => ?_
  obtain ⟨bp, bq, B, ρ, b0, d, b', g, r, e, w⟩ := q
  obtain ⟨ds, b1, e1, e⟩ := bnd_ok e
  by_cases hz : ds.length ≤ lim
  · rw [if_pos hz] at e
    obtain ⟨rfl, rfl⟩ := ret_ok e
    refine ⟨bp, bq, B, ρ, b0, ds, _, g, r, e1, fun B1 H1 vs x1 g1 r1 => ?_⟩
    have r1 : RepL Y.K Y.mg bp B1 ds vs := r1
    exact ⟨by rw [← r1.length]; exact Nat.le_trans hz lim_le, fun p hp => ((w.later x1 g1).res g1).lst g1.gd r1 hp⟩
  · rw [if_neg hz] at e
    exact (stk_ok e).elim
end
end PL

set_option autoImplicit false
set_option linter.all false
set_option maxRecDepth 100000
set_option maxHeartbeats 4000000
/-! PL8: calls, targets, what is walked, comprehensions. -/
namespace PL
open PySem PySem.Spec PyProof.Rows L2
section
variable {β : Type} {Y : Sys β} {k : Nat} {N : List PySem.Str} {sc : Scope} {X : Cx} {md : Md}
/-- parts that are right, one by one -/
inductive AllOk (Y : Sys β) (k : Nat) (X : Cx) (md : Md) : List E → List Expr → Prop where
  | nil : AllOk Y k X md [] []
  | cons {e : E} {x : Expr} {es : List E} {xs : List Expr} : PE X x (lE Y k md e) → (md = .bor → PT X x (lT Y (tstY Y k e))) → strT x = false → AllOk Y k X md es xs → AllOk Y k X md (e :: es) (x :: xs)
theorem AllOk.pa (hn : md ≠ .own) : ∀ {es : List E} {xs : List Expr}, AllOk Y k X md es xs → PA X xs (lL Y k md es)
  | _, _, .nil => a_nil
  | _, _, .cons h _ st hs => a_cons hn h (hs.pa hn) st
theorem AllOk.star : ∀ {es : List E} {xs : List Expr}, AllOk Y k X md es xs → xs.all (fun x => !strT x) = true
  | _, _, .nil => rfl
  | _, _, .cons _ _ st hs => by rw [List.all_cons, hs.star, st]; rfl
theorem AllOk.length : ∀ {es : List E} {xs : List Expr}, AllOk Y k X md es xs → es.length = xs.length
  | _, _, .nil => rfl
  | _, _, .cons _ _ _ hs => by rw [List.length_cons, List.length_cons, hs.length]
theorem AllOk.and (C : CxOk Y k N sc X) (hn : md ≠ .own) {pos : Pos} : ∀ {es : List E} {xs : List Expr}, es.isEmpty = false → AllOk Y k X md es xs → PE X (.BoolOp .And xs pos) (lE Y k md (.and es))
  | _, _, h, .nil => by cases h
  | _, _, _, .cons h _ _ .nil => c_and1 h
  | _, _, _, .cons h _ _ (.cons h2 t2 s2 hs) => c_and C hn h (AllOk.and C hn rfl (.cons h2 t2 s2 hs))
theorem AllOk.or (C : CxOk Y k N sc X) (hn : md ≠ .own) {pos : Pos} : ∀ {es : List E} {xs : List Expr}, es.isEmpty = false → AllOk Y k X md es xs → PE X (.BoolOp .Or xs pos) (lE Y k md (.or es))
  | _, _, h, .nil => by cases h
  | _, _, _, .cons h _ _ .nil => c_or1 h
  | _, _, _, .cons h _ _ (.cons h2 t2 s2 hs) => c_or C hn h (AllOk.or C hn rfl (.cons h2 t2 s2 hs))
theorem AllOk.andT {pos : Pos} : ∀ {es : List E} {xs : List Expr}, es.isEmpty = false → AllOk Y k X .bor es xs → PW X (.BoolOp .And xs pos) (lT Y (tstY Y k (.and es)))
  | _, _, h, .nil => by cases h
  | _, _, _, .cons _ t _ .nil => t_and1 (t rfl)
  | _, _, _, .cons _ t _ (.cons h2 t2 s2 hs) => t_and (t rfl) (AllOk.andT rfl (.cons h2 t2 s2 hs))
theorem AllOk.orT {pos : Pos} : ∀ {es : List E} {xs : List Expr}, es.isEmpty = false → AllOk Y k X .bor es xs → PW X (.BoolOp .Or xs pos) (lT Y (tstY Y k (.or es)))
  | _, _, h, .nil => by cases h
  | _, _, _, .cons _ t _ .nil => t_or1 (t rfl)
  | _, _, _, .cons _ t _ (.cons h2 t2 s2 hs) => t_or (t rfl) (AllOk.orT rfl (.cons h2 t2 s2 hs))
theorem t_ite {c a b : E} {t y z : Expr} {pos : Pos} (hc : PT X t (lT Y (tstY Y k c))) (ha : PT X y (lT Y (tstY Y k a))) (hb : PT X z (lT Y (tstY Y k b))) : PT X (.IfExp t y z pos) (lT Y (tstY Y k (.ite c a b))) := by
  refine ⟨fun pins s σ H Q I q => ?_⟩
  show wpAny (model X.prog X.w) X.A (do if ← isTrue t X.env (eval t X.env) then isTrue y X.env (eval y X.env) else isTrue z X.env (eval z X.env)) _ _ s
  obtain ⟨bp, bq, B, ρ, b0, d, b', g, r, e, w⟩ := q
  simp only [tstY, tst, ev, bnd_assoc] at e
  obtain ⟨d1, b1, e1, e3⟩ := bnd_ok e
  obtain ⟨t1, b2, e2, e4⟩ := bnd_ok e3
  obtain ⟨f2, rfl⟩ := lft_ok e2
  refine wpAny_bind (thn (hc.run pins s σ H (fun t H1 => t = t1 ∧ ∃ B1, Ext bp bq B B1 H H1 ∧ Good Y bp bq B1 H1 _) I ⟨bp, bq, B, ρ, b0, t1, _, g, r, tst_of e1 f2, fun B1 H1 x1 g1 => ⟨rfl, B1, x1, g1⟩⟩) fun t' s1 ⟨H1, I1, et, B1, x1, g1⟩ => ?_)
  subst et
  cases t' with
  | true =>
    rw [if_pos rfl] at e4 ⊢
    exact ha.run pins s1 σ H1 Q I1 ⟨bp, bq, B1, ρ, _, d, b', g1, r.ext x1 g1, e4, fun B2 H2 x2 g2 => w B2 H2 (x1.trans x2 g2) g2⟩
  | false =>
    rw [if_neg (by decide)] at e4
    rw [if_neg (by decide)]
    exact hb.run pins s1 σ H1 Q I1 ⟨bp, bq, B1, ρ, _, d, b', g1, r.ext x1 g1, e4, fun B2 H2 x2 g2 => w B2 H2 (x1.trans x2 g2) g2⟩
/-! ### calls -/
theorem boot_bi : ∀ f : Bi, bootBuiltins (sx (biName f)) = some (biVal f) := by intro f; cases f <;> decide +kernel
theorem bi_ne : ∀ f : Bi, sx (biName f) ≠ ("__name__" : PySem.Str) ∧ (sx (biName f) == ("__debug__" : PySem.Str)) = false := by intro f; cases f <;> decide +kernel
theorem boot_ty : ∀ t : Ty, bootBuiltins (sx (tyName t)) = some (.type (tyName t)) := by intro t; cases t <;> decide +kernel
theorem ty_ne : ∀ t : Ty, sx (tyName t) ≠ ("__name__" : PySem.Str) ∧ (sx (tyName t) == ("__debug__" : PySem.Str)) = false := by intro t; cases t <;> decide +kernel
theorem blt_of {f : PySem.Str} {n : String} (O : Y.Ok) (C : CxOk Y k N sc X) (h : bltB Y.fr sc f n = true) : f = sx n ∧ Gl X f ∧ X.mg f = none := by
  simp only [bltB, Bool.and_eq_true, decide_eq_true_eq] at h
  obtain ⟨⟨h1, h2⟩, h3⟩ := h
  refine ⟨h1, gl_of C h2, ?_⟩
  rw [C.mg, h1]
  exact O.fr n h3
theorem c_bi {f : Bi} {es : List E} {n : PySem.Str} {p pos : Pos} {xs : List Expr} (O : Y.Ok) (C : CxOk Y k N sc X) (hb : bltB Y.fr sc n (biName f) = true) (nf : isRg f = false) (ne : es.isEmpty = false) (h : AllOk Y k X .bor es xs) :
    PE X (.Call (.Name n p) xs [] pos) (lE Y k md (.bi f es)) := by
  obtain ⟨rfl, hg, hm⟩ := blt_of O C hb
  have hpa := h.pa (by decide)
  have hst := h.star
  cases h with
  | nil => cases ne
  | @cons e x es xs h1 t1 s1 hs =>
    have rd : ∀ σ H Q, lE Y k md (.bi f (e :: es)) σ H Q → tCB (rBi X.K Y.mg md f) (lL Y k .bor (e :: es)) σ H Q := fun σ H Q q => by
      obtain ⟨bp, bq, B, ρ, b0, d, b', g, r, e', w⟩ := q
      obtain ⟨ds, b1, e1, e2⟩ := bnd_ok e'
      obtain ⟨f2, rfl⟩ := lft_ok e2
      refine ⟨bp, bq, B, ρ, b0, ds, _, g, r, e1, fun B1 H1 vs x1 g1 r1 => ?_⟩
      rw [C.K]
      exact ⟨bp, bq, B1, ds, d, g1.gd, r1, f2, (w.later x1 g1).res g1⟩
    have hpl := star_any (env := X.env) (pos := pos) hs.star
    have hc := call_bi (X := X) (mg := Y.mg) (m := md) C.calm f nf
    have hv := boot_bi f
    unfold biVal at hc hv
    cases hty : biTy f with
    | true =>
      rw [hty, if_pos rfl] at hc hv
      exact PE.imp (pe_callTy hc hg hm hv hpa (bi_ne f).1 (bi_ne f).2 (star1 s1) hpl) rd
    | false =>
      rw [hty, if_neg (by decide)] at hc hv
      exact PE.imp (pe_callB hc hg hm hv hpa (bi_ne f).1 (bi_ne f).2 (star1 s1) hpl) rd
theorem c_rg {f : Bi} {a : E} {n m : PySem.Str} {p pos p2 pos2 : Pos} {x : Expr} (O : Y.Ok) (C : CxOk Y k N sc X) (hb : bltB Y.fr sc n (biName f) = true) (hr : bltB Y.fr sc m "range" = true) (nf : isRg f = true) (h : PE X x (lE Y k .bor a)) (st : strT x = false) :
    PE X (.Call (.Name n p) [.Call (.Name m p2) [x] [] pos2] [] pos) (lE Y k md (.bi f [a])) := by
  obtain ⟨rfl, hg, hm⟩ := blt_of O C hb
  obtain ⟨rfl, hg2, hm2⟩ := blt_of O C hr
  have pr := prg_1 (p := p2) (pos := pos2) hg2 hm2 h (star1 st)
  have rd : ∀ (σ : L2.St) (H : Hp) (Q : VK), lE Y k md (.bi f [a]) σ H Q → tRg1 (lE Y k .bor a) σ H fun i j H1 => ∃ (n : Int) (B1 : Hp) (bp bq : Addr) (b1 : β) (d : D), i = 0 ∧ j = n ∧ bfn f [.int n] = some d ∧ n ≤ lim ∧ -lim ≤ n ∧ Good Y bp bq B1 H1 b1 ∧ Wish Y bp bq md B1 H1 d b1 Q := fun σ H Q q => by
    obtain ⟨bp, bq, B, ρ, b0, d, b', g, r, e', w⟩ := q
    obtain ⟨ds, b1, e1, e2⟩ := bnd_ok e'
    obtain ⟨f2, rfl⟩ := lft_ok e2
    simp only [evLY, evL] at e1
    obtain ⟨d1, b2, e3, e4⟩ := bnd_ok e1
    simp only [bnd_ret] at e4
    obtain ⟨rfl, rfl⟩ := ret_ok e4
    refine ⟨bp, bq, B, ρ, b0, d1, _, g, r, e3, fun B1 H1 v x1 g1 r1 => ?_⟩
    cases d1 with
    | int n =>
      refine ⟨n, RepT.int r1, n, B1, bp, bq, _, d, rfl, rfl, f2, ?_, ?_, g1, w.later x1 g1⟩
      · cases f <;> simp only [bfn, Option.ite_none_right_eq_some] at f2 <;> first | exact f2.1.1 | cases nf
      · cases f <;> simp only [bfn, Option.ite_none_right_eq_some] at f2 <;> first | exact f2.1.2 | cases nf
    | _ => cases f <;> simp [bfn] at f2 <;> cases nf
  have same : ∀ n : Int, (rgV 0 n) = (intsFrom 0 n.toNat).map fun d => match d with
      | .int i => V.int i
      | _ => .non := fun n => by
    unfold rgV intsFrom
    rw [List.map_map, Int.sub_zero]
    rfl
  have reps : ∀ (n : Int) (bp : Addr) (B : Hp), RepL Y.K Y.mg bp B (intsFrom 0 n.toNat) (rgV 0 n) := fun n bp B => by
    refine RepL.of_list (by rw [intsFrom_len, rgV_length, Int.sub_zero]) fun i d v h1 h2 => ?_
    have hi : i < n.toNat := by
      have := (List.getElem?_eq_some_iff.mp h1).1
      rwa [intsFrom_len] at this
    rw [intsFrom_get 0 _ i hi] at h1; cases h1
    rw [same, List.getElem?_map, intsFrom_get 0 _ i hi] at h2; cases h2
    simp only [Rep]
  have hl : (lim : Int) = 4000 := rfl
  have okr : ∀ n : Int, n ≤ lim → -lim ≤ n → RgOk 0 n := fun n h1 h2 => by
    rw [hl] at h1 h2
    exact ⟨by omega, by omega, by omega, by omega, by omega⟩
  cases f with
  | lrange =>
    refine PE.imp (pe_listRg C.calm hg hm pr (by rfl)) fun σ H Q q => ?_
    obtain ⟨bp', bq', B', ρ', b0', d', b1', g', r', e', w'⟩ := rd σ H Q q
    refine ⟨bp', bq', B', ρ', b0', d', b1', g', r', e', fun B1 H1 v x1 g1 r1 => ?_⟩
    obtain ⟨n, hv, n', B2, bp, bq, b1, d, h0, h1, h2, h3, h4, g2, w⟩ := w' B1 H1 v x1 g1 r1
    cases h1
    refine ⟨n, hv, okr n h3 h4, fun q hq => ?_⟩
    simp only [bfn] at h2
    rw [if_pos ⟨h3, h4⟩] at h2
    cases h2
    exact (w.res g2).lst g2.gd (reps n bp B2) hq
  | trange =>
    refine PE.imp (pe_tupRg C.calm hg hm pr (by rfl)) fun σ H Q q => ?_
    obtain ⟨bp', bq', B', ρ', b0', d', b1', g', r', e', w'⟩ := rd σ H Q q
    refine ⟨bp', bq', B', ρ', b0', d', b1', g', r', e', fun B1 H1 v x1 g1 r1 => ?_⟩
    obtain ⟨n, hv, n', B2, bp, bq, b1, d, h0, h1, h2, h3, h4, g2, w⟩ := w' B1 H1 v x1 g1 r1
    cases h1
    refine ⟨n, hv, okr n h3 h4, fun q hq => ?_⟩
    simp only [bfn] at h2
    rw [if_pos ⟨h3, h4⟩] at h2
    cases h2
    exact (w.res g2).tup g2.gd (reps n bp B2) hq
  | _ => cases nf
theorem c_isi {t : Ty} {a : E} {f n : PySem.Str} {p p2 pos : Pos} {x : Expr} (O : Y.Ok) (C : CxOk Y k N sc X) (hb : bltB Y.fr sc f "isinstance" = true) (hn : bltB Y.fr sc n (tyName t) = true) (h : PE X x (lE Y k .bor a)) (st : strT x = false) :
    PE X (.Call (.Name f p) [x, .Name n p2] [] pos) (lE Y k md (.isi a t)) := by
  obtain ⟨rfl, hg, hm⟩ := blt_of O C hb
  obtain ⟨rfl, hg2, hm2⟩ := blt_of O C hn
  refine PE.imp (pe_callB (call_isD (mg := Y.mg) t) hg hm (by decide +kernel) (pa_cons h (pa_cons (pe_bltn (v := .ty (tyName t)) hg2 hm2 (boot_ty t) rfl (ty_ne t).1 (ty_ne t).2) pa_nil (by rfl)) (star1 st)) (by decide +kernel) (by decide +kernel) (star1 st) (by rfl)) fun σ H Q q => ?_
  obtain ⟨bp, bq, B, ρ, b0, d, b', g, r, e, w⟩ := q
  obtain ⟨d1, b1, e1, e2⟩ := bnd_ok e
  obtain ⟨t', b2, e3, e4⟩ := bnd_ok e2
  obtain ⟨f3, rfl⟩ := lft_ok e3
  obtain ⟨rfl, rfl⟩ := ret_ok e4
  refine ⟨bp, bq, B, ρ, b0, d1, _, g, r, e1, fun B1 H1 x x1 g1 r1 => ?_⟩
  rw [C.K]
  exact ⟨bp, bq, B1, d1, x, _, rfl, g1.gd, r1, f3, (w.later x1 g1).bl g1⟩
theorem evL_len : ∀ {es : List E} {ρ : Env} {b0 b1 : β} {ds : List D}, evLY Y k es ρ b0 = .ok ds b1 → ds.length = es.length
  | [], ρ, b0, b1, ds, e1 => by obtain ⟨rfl, _⟩ := ret_ok (show ret [] b0 = .ok ds b1 from e1); rfl
  | a :: es, ρ, b0, b1, ds, e1 => by
    simp only [evLY, evL] at e1
    obtain ⟨d1, b2, _, e4⟩ := bnd_ok e1
    obtain ⟨d2, b3, e5, e6⟩ := bnd_ok e4
    obtain ⟨rfl, rfl⟩ := ret_ok e6
    rw [List.length_cons, List.length_cons]
    exact congrArg (· + 1) (evL_len e5)
theorem c_call {f : String} {es : List E} {n : PySem.Str} {p pos : Pos} {xs : List Expr} (C : CxOk Y k N sc X) (F : Callee Y k f es.length) (hn : md ≠ .own) (e1 : n = sx f) (h2 : glbB sc n = true) (h3 : nmOk n = true) (h : AllOk Y k X .val es xs) :
    PE X (.Call (.Name n p) xs [] pos) (lE Y k md (.call f es)) := by
  obtain ⟨a, fd, ps, f1, f2, f3, f4, f5⟩ := F
  subst e1
  have f1' : X.mg (sx f) = some (.ref a) := by rw [C.mg]; exact f1
  have f2' : PySem.W.keepIn X.K (.ref a) = true := by rw [C.K]; exact f2
  have f3' : Binds X.K fd ps [] := by rw [C.K]; exact f3
  have f5' : FnOk X.prog X.w X.K X.mg X.base CX0 k a fd ps (spC Y k f es.length) := by rw [C.prog, C.w, C.K, C.mg, C.base]; exact f5
  have rd : ∀ σ H Q, lE Y k md (.call f es) σ H Q → tCall (spC Y k f es.length) [] E0 (lL Y k .val es) σ H Q := fun σ H Q q => by
    obtain ⟨bp, bq, B, ρ, b0, d, b', g, r, e', w⟩ := q
    obtain ⟨ds, b1, e1, e2⟩ := bnd_ok e'
    refine ⟨bp, bq, B, ρ, b0, ds, b1, g, r, e1, fun B1 H1 vs x1 g1 r1 => ?_⟩
    have r1 : RepL Y.K Y.mg bp B1 ds vs := r1
    show spC Y k f es.length (vs ++ []) H1 Q E0
    rw [List.append_nil]
    have hlen : ds.length = es.length := evL_len e1
    refine ⟨by rw [← r1.length]; exact hlen, bp, bq, B1, ds, b1, d, b', g1, r1, e2, fun B2 H2 v x2 g2 r2 => ?_⟩
    refine w B2 H2 v (x1.trans x2 g2) g2 ?_
    cases md with
    | val => exact r2
    | bor => exact .inl r2
    | own => exact absurd rfl hn
  have hpa := h.pa (by decide)
  cases h with
  | nil =>
    refine PE.imp (pe_call0 f5' C.room (gl_of C h2) f1' f2' f3' .nil pass0 (nm_dbg h3).1) fun σ H Q q => ?_
    have q2 := rd σ H Q q
    obtain ⟨bp, bq, B, ρ, b0, ds, b1, g, r, e', w⟩ := q2
    obtain ⟨rfl, rfl⟩ := ret_ok (show ret [] b0 = .ok ds b1 from e')
    exact w B H [] Ext.refl g (by show RepL _ _ _ _ _ _; exact RepL.nil)
  | cons h1 t1 s1 hs => exact PE.imp (pe_call f5' C.room (gl_of C h2) f1' f2' f3' .nil pass0 hpa (nm_dbg h3).1 (star1 s1) (star_any hs.star)) rd
end
end PL

set_option autoImplicit false
set_option linter.all false
set_option maxRecDepth 100000
set_option maxHeartbeats 4000000
/-! PL9: targets, what is walked, comprehensions; the expressions' soundness. -/
namespace PL
open PySem PySem.Spec PyProof.Rows L2
section
variable {β : Type} {Y : Sys β} {k : Nat} {N : List PySem.Str} {sc : Scope} {X : Cx} {md : Md} {fb : PySem.Str → Bool}
/-! ### targets -/
theorem RepE.set {bp bq : Addr} {B H : Hp} {ρ : Env} {σ : L2.St} {d : D} {v : V} (r : RepE Y bp bq B H ρ σ) (h : Rep Y.K Y.mg bp B d v) (i : Nat) : RepE Y bp bq B H (ρ.set i (.im d)) (σ.set i (some v)) where
  len := by rw [List.length_set, List.length_set]; exact r.len
  im := fun j d' e => by
    by_cases hj : i = j
    · subst hj
      have hl : i < ρ.length := by
        have := (List.getElem?_eq_some_iff.mp e).1
        rwa [List.length_set] at this
      rw [List.getElem?_set_self hl] at e; cases e
      exact ⟨v, List.getElem?_set_self (by rw [r.len]; exact hl), h⟩
    · rw [List.getElem?_set_ne hj] at e ⊢
      exact r.im j d' e
  ow := fun j xs e => by
    by_cases hj : i = j
    · subst hj
      have hl : i < ρ.length := by
        have := (List.getElem?_eq_some_iff.mp e).1
        rwa [List.length_set] at this
      rw [List.getElem?_set_self hl] at e; cases e
    · rw [List.getElem?_set_ne hj] at e ⊢
      exact r.ow j xs e
  dj := fun j l xs ys p hne e1 e2 e3 => by
    by_cases hj : i = j
    · subst hj
      have hl : i < ρ.length := by
        have := (List.getElem?_eq_some_iff.mp e1).1
        rwa [List.length_set] at this
      rw [List.getElem?_set_self hl] at e1; cases e1
    · by_cases hl : i = l
      · subst hl
        have hl : i < ρ.length := by
          have := (List.getElem?_eq_some_iff.mp e2).1
          rwa [List.length_set] at this
        rw [List.getElem?_set_self hl] at e2; cases e2
      · rw [List.getElem?_set_ne hj] at e1 e3
        rw [List.getElem?_set_ne hl] at e2 ⊢
        exact r.dj j l xs ys p hne e1 e2 e3
theorem RepE.wipe1 {bp bq : Addr} {B H : Hp} {ρ : Env} {σ : L2.St} (r : RepE Y bp bq B H ρ σ) (i : Nat) : RepE Y bp bq B H (ρ.set i .un) (σ.set i none) where
  len := by rw [List.length_set, List.length_set]; exact r.len
  im := fun j d' e => by
    by_cases hj : i = j
    · subst hj
      have hl : i < ρ.length := by
        have := (List.getElem?_eq_some_iff.mp e).1
        rwa [List.length_set] at this
      rw [List.getElem?_set_self hl] at e; cases e
    · rw [List.getElem?_set_ne hj] at e ⊢
      exact r.im j d' e
  ow := fun j xs e => by
    by_cases hj : i = j
    · subst hj
      have hl : i < ρ.length := by
        have := (List.getElem?_eq_some_iff.mp e).1
        rwa [List.length_set] at this
      rw [List.getElem?_set_self hl] at e; cases e
    · rw [List.getElem?_set_ne hj] at e ⊢
      exact r.ow j xs e
  dj := fun j l xs ys p hne e1 e2 e3 => by
    by_cases hj : i = j
    · subst hj
      have hl : i < ρ.length := by
        have := (List.getElem?_eq_some_iff.mp e1).1
        rwa [List.length_set] at this
      rw [List.getElem?_set_self hl] at e1; cases e1
    · by_cases hl : i = l
      · subst hl
        have hl : i < ρ.length := by
          have := (List.getElem?_eq_some_iff.mp e2).1
          rwa [List.length_set] at this
        rw [List.getElem?_set_self hl] at e2; cases e2
      · rw [List.getElem?_set_ne hj] at e1 e3
        rw [List.getElem?_set_ne hl] at e2 ⊢
        exact r.dj j l xs ys p hne e1 e2 e3
theorem RepE.wipe {bp bq : Addr} {B H : Hp} {ρ : Env} {σ : L2.St} (r : RepE Y bp bq B H ρ σ) : ∀ vs : List Nat, RepE Y bp bq B H (wipeE ρ vs) (L2.wipe σ vs)
  | [] => r
  | i :: vs => (r.wipe vs).wipe1 i
def lG (Y : Sys β) (t : Tg) : TG := fun v σ H Q => ∃ bp bq B b ρ d ρ', Good Y bp bq B H b ∧ RepE Y bp bq B H ρ σ ∧ Rep Y.K Y.mg bp B d v ∧ bindT t d ρ = some ρ' ∧
  ∀ σ', RepE Y bp bq B H ρ' σ' → σ'.length = σ.length → (∀ i, i ∉ slotsT t → σ'[i]? = σ[i]?) → Q σ' H
def lGs (Y : Sys β) (ts : List Tg) : TGs := fun vs σ H Q => ∃ bp bq B b ρ ds ρ', Good Y bp bq B H b ∧ RepE Y bp bq B H ρ σ ∧ RepL Y.K Y.mg bp B ds vs ∧ bindTs ts ds ρ = some ρ' ∧
  ∀ σ', RepE Y bp bq B H ρ' σ' → σ'.length = σ.length → (∀ i, i ∉ slotsTs ts → σ'[i]? = σ[i]?) → Q σ' H
theorem chkTs_len : ∀ {ts : List Tg} {xs : List Expr}, chkTs N fb ts sc xs = true → ts.length = xs.length
  | [], [], _ => rfl
  | [], _ :: _, h => by simp [chkTs] at h
  | _ :: _, [], h => by simp [chkTs] at h
  | t :: ts, x :: xs, h => by
    simp only [chkTs, Bool.and_eq_true] at h
    rw [List.length_cons, List.length_cons, chkTs_len h.2]
theorem chkT_star {t : Tg} {x : Expr} (h : chkT N fb t sc x = true) : strT x = false := by
  cases x with
  | Starred y p => cases t <;> simp [chkT] at h
  | _ => rfl
theorem asg1 {x : Expr} {xs : List Expr} {env : PySem.Env} (h : strT x = false) : assignEach (x :: xs) env = (false, assign x env) :: assignEach xs env := by
  cases x <;> first | rfl | cases h
theorem asg_len : ∀ {ts : List Tg} {xs : List Expr} {env : PySem.Env}, chkTs N fb ts sc xs = true → (assignEach xs env).length = xs.length ∧ (assignEach xs env).findIdx? (·.1) = none
  | [], [], _, _ => ⟨rfl, rfl⟩
  | [], _ :: _, _, h => by simp [chkTs] at h
  | _ :: _, [], _, h => by simp [chkTs] at h
  | t :: ts, x :: xs, env, h => by
    simp only [chkTs, Bool.and_eq_true] at h
    have ih := asg_len (env := env) h.2
    rw [asg1 (chkT_star h.1)]
    refine ⟨by rw [List.length_cons, List.length_cons, ih.1], ?_⟩
    rw [List.findIdx?_cons]
    simp only [Bool.false_eq_true, if_false]
    rw [ih.2]
    rfl
theorem bindTs_len : ∀ {ts : List Tg} {ds : List D} {ρ ρ' : Env}, bindTs ts ds ρ = some ρ' → ts.length = ds.length
  | [], [], _, _, _ => rfl
  | [], _ :: _, _, _, h => by simp [bindTs] at h
  | _ :: _, [], _, _, h => by simp [bindTs] at h
  | t :: ts, d :: ds, ρ, ρ', h => by
    simp only [bindTs, Option.bind_eq_some_iff] at h
    obtain ⟨ρ1, _, h2⟩ := h
    rw [List.length_cons, List.length_cons, bindTs_len h2]
mutual
theorem g_tg (C : CxOk Y k N sc X) (hf : ∀ x, fb x = true → X.fn x = true ∨ sc.names.lookup x = some .local) : ∀ (t : Tg) (x : Expr), chkT N fb t sc x = true → PG X x (lG Y t)
  | .nm i, x, h => by
    cases x with
    | Name x p =>
      simp only [chkT, Bool.and_eq_true, decide_eq_true_eq] at h
      have hx := loc_of h.2.1
      refine PG.imp (pg_name (i := i) (by rw [C.xN]; exact C.nd) (by rw [C.xN]; exact h.1) (by rw [C.xsc]; exact hx) (by rw [C.xsc]; exact hf x h.2.2)) fun v σ H Q q => ?_
      obtain ⟨bp, bq, B, b, ρ, d, ρ', g, r, rv, e, w⟩ := q
      simp only [bindT, Option.some.injEq] at e; subst e
      refine w _ (r.set rv i) (by rw [List.length_set]) fun j hj => ?_
      rw [List.getElem?_set_ne]
      intro e
      exact hj (by simp [slotsT, e])
    | _ => simp [chkT] at h
  | .tu ts, x, h => by
    cases x with
    | Tuple xs j p =>
      simp only [chkT] at h
      have hl := asg_len (env := X.env) h
      refine PG.imp (pg_tup (n := xs.length) C.calm (g_tgs C hf ts xs h) hl.1 hl.2) fun v σ H Q q => ?_
      obtain ⟨bp, bq, B, b, ρ, d, ρ', g, r, rv, e, w⟩ := q
      cases d with
      | tup ds =>
        simp only [bindT] at e
        simp only [Rep] at rv
        obtain ⟨a, vs, rfl, h1, h2⟩ := rv
        refine ⟨a, vs, rfl, by rw [C.K]; exact sqT_mono g.sub h1, by rw [← h2.length, ← bindTs_len e, chkTs_len h], bp, bq, B, b, ρ, ds, ρ', g, r, h2, e, fun σ' r' l' s' => w σ' r' l' fun i hi => s' i ?_⟩
        simpa only [slotsT] using hi
      | _ => simp [bindT] at e
    | _ => simp [chkT] at h
theorem g_tgs (C : CxOk Y k N sc X) (hf : ∀ x, fb x = true → X.fn x = true ∨ sc.names.lookup x = some .local) : ∀ (ts : List Tg) (xs : List Expr), chkTs N fb ts sc xs = true → PGs X xs (lGs Y ts)
  | [], [], _ => by
    have h := pgs_nil (X := X)
    refine ⟨fun pins s σ H vs us Q I r q => h.run pins s σ H vs us Q I r ?_⟩
    obtain ⟨bp, bq, B, b, ρ, ds, ρ', g, r, rv, e, w⟩ := q
    cases ds with
    | nil =>
      simp only [bindTs, Option.some.injEq] at e; subst e
      exact ⟨rv.nil_inv, w σ r rfl fun _ _ => rfl⟩
    | cons _ _ => simp [bindTs] at e
  | [], _ :: _, h => by simp [chkTs] at h
  | _ :: _, [], h => by simp [chkTs] at h
  | t :: ts, x :: xs, h => by
    simp only [chkTs, Bool.and_eq_true] at h
    have hp := pgs_cons (g_tg C hf t x h.1) (g_tgs C hf ts xs h.2) (by rw [asg1 (chkT_star h.1)]; rfl)
    refine ⟨fun pins s σ H vs us Q I r0 q => hp.run pins s σ H vs us Q I r0 ?_⟩
    obtain ⟨bp, bq, B, b, ρ, ds, ρ', g, r, rv, e, w⟩ := q
    cases ds with
    | nil => simp [bindTs] at e
    | cons d ds =>
      simp only [bindTs, Option.bind_eq_some_iff] at e
      obtain ⟨ρ1, e1, e2⟩ := e
      obtain ⟨v, r', rfl, h1, h2⟩ := rv.inv
      refine ⟨v, r', rfl, bp, bq, B, b, ρ, d, ρ1, g, r, h1, e1, fun σ1 r1 l1 s1 => ?_⟩
      refine ⟨bp, bq, B, b, ρ1, ds, ρ', g, r1, h2, e2, fun σ2 r2 l2 s2 => w σ2 r2 (l2.trans l1) fun i hi => ?_⟩
      simp only [slotsTs, List.mem_append, not_or] at hi
      rw [s2 i hi.2, s1 i hi.1]
end
/-! ### what is walked -/
def lI (Y : Sys β) (k : Nat) (md : Md) (ik : Ik) (es : List E) : TI := fun σ H R => ∃ bp bq B ρ b ds b' xs, Good Y bp bq B H b ∧ RepE Y bp bq B H ρ σ ∧ evLY Y k es ρ b = .ok ds b' ∧ iter ik ds = some xs ∧
  ∀ B' H' J, Ext bp bq B B' H H' → Good Y bp bq B' H' b' → Walk J xs.length (Stb md bp bq B' H') (YD Y.K Y.mg bp B' xs) → R J H'
theorem RepXL.one {bp bq : Addr} {B H : Hp} {d : D} {vs : List V} (h : RepXL Y md bp bq B H [d] vs) : ∃ v, vs = [v] ∧ RepX Y.K Y.mg bp bq md B H d v := by
  cases md with
  | val =>
    obtain ⟨v, r, e, h1, h2⟩ := RepL.inv (show RepL _ _ _ _ _ _ from h)
    rw [h2.nil_inv] at e
    exact ⟨v, e, h1⟩
  | bor => exact RepTL.one h
  | own => exact RepTL.one h
theorem RepXL.two {bp bq : Addr} {B H : Hp} {d e : D} {vs : List V} (h : RepXL Y md bp bq B H [d, e] vs) : ∃ v w, vs = [v, w] ∧ RepX Y.K Y.mg bp bq md B H d v ∧ RepX Y.K Y.mg bp bq md B H e w := by
  cases md with
  | val =>
    obtain ⟨v, r, e, h1, h2⟩ := RepL.inv (show RepL _ _ _ _ _ _ from h)
    obtain ⟨w, r', e', h3, h4⟩ := h2.inv
    rw [h4.nil_inv] at e'
    subst e'
    exact ⟨v, w, e, h1, h3⟩
  | bor => exact RepTL.two h
  | own => exact RepTL.two h
theorem RepXL.three {bp bq : Addr} {B H : Hp} {d e f : D} {vs : List V} (h : RepXL Y md bp bq B H [d, e, f] vs) : ∃ v w u, vs = [v, w, u] ∧ RepX Y.K Y.mg bp bq md B H d v ∧ RepX Y.K Y.mg bp bq md B H e w ∧ RepX Y.K Y.mg bp bq md B H f u := by
  cases md with
  | val =>
    obtain ⟨v, r, e, h1, h2⟩ := RepL.inv (show RepL _ _ _ _ _ _ from h)
    obtain ⟨w, r', e', h3, h4⟩ := h2.inv
    obtain ⟨u, r'', e'', h5, h6⟩ := h4.inv
    rw [h6.nil_inv] at e''
    subst e''
    subst e'
    exact ⟨v, w, u, e, h1, h3, h5⟩
  | bor => exact RepTL.three h
  | own => exact RepTL.three h
section
variable {K : PySem.W.Frag} {mg : PySem.Str → Option Value} {bp : Addr} {B : Hp} {S : Hp → Prop}
theorem y_rev {xs : List D} {us : List V} (r : RepL K mg bp B xs us) (i : Nat) (H H' : Hp) (v : V) (hi : i < xs.reverse.length) (e1 : H' = H) (e2 : us[us.length - 1 - i]? = some v) : YD K mg bp B xs.reverse i H v H' := by
  have hi' : i < xs.length := by rwa [List.length_reverse] at hi
  have hj : us.length - 1 - i < xs.length := by rw [← r.length]; omega
  obtain ⟨v', h1, h2⟩ := r.get (List.getElem?_eq_getElem hj)
  rw [h1] at e2; cases e2
  refine ⟨_, ?_, .inl ⟨e1, h2⟩⟩
  rw [List.getElem?_reverse hi', r.length, List.getElem?_eq_getElem hj]
theorem w_revL {xs : List D} {us : List V} {a : Addr} (r : RepL K mg bp B xs us) (h : ∀ H, S H → H a = some (.lst us)) : Walk (Itv K a us.length) xs.reverse.length S (YD K mg bp B xs.reverse) where
  goes := fun i H hi s => by
    have hi' : i < us.length := by rw [List.length_reverse, r.length] at hi; exact hi
    exact ⟨hi', us, us[us.length - 1 - i]'(by omega), SqL.of (h H s), by simp⟩
  stops := fun H s => by show us.length ≤ xs.reverse.length; rw [List.length_reverse, r.length]; exact Nat.le_refl _
  yields := fun i H x H' hi s ⟨e1, e2⟩ => y_rev r i H H' x hi e1 (e2 us (SqL.of (h H s)))
theorem w_revT {xs : List D} {us : List V} {a : Addr} (r : RepL K mg bp B xs us) (h : ∀ H, S H → SqT K H a us) : Walk (RT.ItvT K a us.length) xs.reverse.length S (YD K mg bp B xs.reverse) where
  goes := fun i H hi s => by
    have hi' : i < us.length := by rw [List.length_reverse, r.length] at hi; exact hi
    exact ⟨hi', us, us[us.length - 1 - i]'(by omega), h H s, by simp⟩
  stops := fun H s => by show us.length ≤ xs.reverse.length; rw [List.length_reverse, r.length]; exact Nat.le_refl _
  yields := fun i H x H' hi s ⟨e1, e2⟩ => y_rev r i H H' x hi e1 (e2 us (h H s))
end
theorem iter_lens {ik : Ik} {ds xs : List D} (e : iter ik ds = some xs) : (∃ a, ds = [a]) ∨ (∃ a b, ds = [a, b]) ∨ ∃ a b c, ds = [a, b, c] := by
  match ds, e with
  | [], e => cases ik <;> simp [iter] at e
  | [a], _ => exact .inl ⟨a, rfl⟩
  | [a, b], _ => exact .inr (.inl ⟨a, b, rfl⟩)
  | [a, b, c], _ => exact .inr (.inr ⟨a, b, c, rfl⟩)
  | a :: b :: c :: d :: r, e => cases ik <;> simp [iter] at e
def bltI : Ik → String
  | .seq => "" | .ran => "range" | .enu => "enumerate" | .zip => "zip" | .rvs => "reversed"
theorem i_ok {ik : Ik} {tup : Bool} {es : List E} {xs : List Expr} {tg it : Expr} (O : Y.Ok) (C : CxOk Y k N sc X) (hn : md ≠ .own)
    (h : AllOk Y k X md es xs) (ht : tup = true → ∃ ts j p, tg = .Tuple ts j p)
    (hi : (ik = .seq ∧ xs = [it] ∧ (∀ e, es = [e] → PE X it (lE Y k md e))) ∨ (ik ≠ .seq ∧ (ik = .enu ∨ ik = .zip → tup = true) ∧ ∃ f p pos, it = .Call (.Name f p) xs [] pos ∧ bltB Y.fr sc f (bltI ik) = true)) : PI X tg it (lI Y k md ik es) := by
  have hpa := h.pa hn
  have hst := h.star
  have hlen := h.length
  rcases hi with ⟨rfl, rfl, hp⟩ | ⟨hs, htup, f, p, pos, rfl, hb⟩
  · match es, hlen with
    | [e], _ =>
      refine PI.imp (pi_seq (hp e rfl)) fun σ H R q => ?_
      obtain ⟨bp, bq, B, ρ, b, ds, b', xs, g, r, e1, e2, w⟩ := q
      simp only [evLY, evL] at e1
      obtain ⟨d1, b1, e3, e4⟩ := bnd_ok e1
      simp only [bnd_ret] at e4
      obtain ⟨rfl, rfl⟩ := ret_ok e4
      have e2 : items d1 = some xs := e2
      refine ⟨bp, bq, B, ρ, b, d1, _, g, r, e3, fun B1 H1 v x1 g1 r1 => ?_⟩
      have r1 : RepX Y.K Y.mg bp bq md B1 H1 d1 v := by
        cases md with
        | val => exact r1
        | bor => exact r1
        | own => exact absurd rfl hn
      rw [C.K]
      obtain ⟨a, us, rfl, rl, hh⟩ := src_of r1 xs e2
      have self : Stb md bp bq B1 H1 H1 := ⟨g1.sub, .inr fun _ _ _ _ => rfl⟩
      refine ⟨a, us, rfl, ?_⟩
      rcases hh with ⟨_, hh⟩ | ⟨_, hh⟩
      · exact .inr ⟨hh H1 self, w B1 H1 _ x1 g1 (w_tup rl hh)⟩
      · exact .inl ⟨SqL.of (hh H1 self), w B1 H1 _ x1 g1 (w_list rl hh)⟩
  · obtain ⟨rfl, hg, hm⟩ := blt_of O C hb
    have stbs : ∀ {bp bq : Addr} {B1 H1 : Hp} {b1 : β}, Good Y bp bq B1 H1 b1 → Stb md bp bq B1 H1 H1 := fun g1 => ⟨g1.sub, .inr fun _ _ _ _ => rfl⟩
    cases ik with
    | seq => exact absurd rfl hs
    | ran =>
      have hval : ∀ {bp bq : Addr} {B H : Hp} {i : Int} {v : V}, RepX Y.K Y.mg bp bq md B H (.int i) v → v = .int i := fun h => RepT.int h.t
      match xs, h with
      | [x1], .cons h1 t1 s1 .nil =>
        refine PI.imp (pi_range1 hg hm hpa (by rw [star1 s1]; rfl)) fun σ H R q => ?_
        obtain ⟨bp, bq, B, ρ, b, ds, b', xs, g, r, e1, e2, w⟩ := q
        refine ⟨bp, bq, B, ρ, b, ds, b', g, r, e1, fun B1 H1 vs x1 g1 r1 => ?_⟩
        have hl := evL_len e1
        match ds, hl with
        | [d], _ =>
          obtain ⟨v, rfl, rv⟩ := r1.one
          cases d with
          | int n =>
            simp only [iter, Option.ite_none_right_eq_some, Option.some.injEq] at e2
            obtain ⟨hz, rfl⟩ := e2
            exact ⟨n, by rw [hval rv], (small_b hz).1, (small_b hz).2, w B1 H1 _ x1 g1 (w_range 0 n.toNat)⟩
          | _ => simp [iter] at e2
      | [x1, x2], .cons h1 t1 s1 (.cons h2 t2 s2 .nil) =>
        refine PI.imp (pi_range2 hg hm hpa (by rw [star1 s1, star1 s2]; rfl) (by rw [star1 s2]; rfl)) fun σ H R q => ?_
        obtain ⟨bp, bq, B, ρ, b, ds, b', xs, g, r, e1, e2, w⟩ := q
        refine ⟨bp, bq, B, ρ, b, ds, b', g, r, e1, fun B1 H1 vs x1 g1 r1 => ?_⟩
        have hl := evL_len e1
        match ds, hl with
        | [d, d2], _ =>
          obtain ⟨v, v2, rfl, rv, rv2⟩ := r1.two
          cases d with
          | int n =>
            cases d2 with
            | int n2 =>
              simp only [iter, Option.ite_none_right_eq_some, Option.some.injEq, Bool.and_eq_true] at e2
              obtain ⟨⟨hz, hz2⟩, rfl⟩ := e2
              exact ⟨n, n2, by rw [hval rv, hval rv2], ⟨(small_b hz).1, (small_b hz).2, (small_b hz2).1, (small_b hz2).2⟩, w B1 H1 _ x1 g1 (w_range n _)⟩
            | _ => simp [iter] at e2
          | _ => simp [iter] at e2
      | [x1, x2, x3], .cons h1 t1 s1 (.cons h2 t2 s2 (.cons h3 t3 s3 .nil)) =>
        refine PI.imp (pi_range3 hg hm hpa (star1 s1) (star_any (by simp [s2, s3]))) fun σ H R q => ?_
        obtain ⟨bp, bq, B, ρ, b, ds, b', xs, g, r, e1, e2, w⟩ := q
        refine ⟨bp, bq, B, ρ, b, ds, b', g, r, e1, fun B1 H1 vs x1 g1 r1 => ?_⟩
        have hl := evL_len e1
        match ds, hl with
        | [d, d2, d3], _ =>
          obtain ⟨v, v2, v3, rfl, rv, rv2, rv3⟩ := r1.three
          cases d with
          | int n =>
            cases d2 with
            | int n2 =>
              cases d3 with
              | int n3 =>
                simp only [iter, Option.ite_none_right_eq_some, Option.some.injEq, Bool.and_eq_true] at e2
                obtain ⟨⟨⟨hz, hz2⟩, hz3⟩, rfl⟩ := e2
                have e3 : n3 = -1 := eq_of_beq hz3
                subst e3
                exact ⟨n, n2, -1, _, by rw [hval rv, hval rv2, hval rv3], RgC.neg (small_b hz).1 (small_b hz).2 (small_b hz2).1 (small_b hz2).2, w B1 H1 _ x1 g1 (w_rangeC n (-1) _)⟩
              | _ => simp [iter] at e2
            | _ => simp [iter] at e2
          | _ => simp [iter] at e2
      | [], .nil =>
        refine ⟨fun pins s σ H R I q => ?_⟩
        obtain ⟨bp, bq, B, ρ, b, ds, b', xs, g, r, e1, e2, w⟩ := q
        have hl := evL_len e1
        rcases iter_lens e2 with ⟨_, z⟩ | ⟨_, _, z⟩ | ⟨_, _, _, z⟩ <;> (rw [z] at hl; try (simp at hl))
      | _ :: _ :: _ :: _ :: _, h =>
        refine ⟨fun pins s σ H R I q => ?_⟩
        obtain ⟨bp, bq, B, ρ, b, ds, b', xs, g, r, e1, e2, w⟩ := q
        have hl := evL_len e1
        rw [h.length] at hl
        rcases iter_lens e2 with ⟨_, z⟩ | ⟨_, _, z⟩ | ⟨_, _, _, z⟩ <;> (rw [z] at hl; try (simp at hl))
    | enu =>
      obtain ⟨ts, j, tp, rfl⟩ := ht (htup (.inl rfl))
      match xs, h with
      | [x1], .cons h1 t1 s1 .nil =>
        refine PI.imp (pi_enumA hg hm hpa (by rw [star1 s1]; rfl)) fun σ H R q => ?_
        obtain ⟨bp, bq, B, ρ, b, ds, b', xs, g, r, e1, e2, w⟩ := q
        refine ⟨bp, bq, B, ρ, b, ds, b', g, r, e1, fun B1 H1 vs x1 g1 r1 => ?_⟩
        have hl := evL_len e1
        match ds, hl with
        | [d], _ =>
          obtain ⟨v, rfl, rv⟩ := r1.one
          simp only [iter, Option.map_eq_some_iff] at e2
          obtain ⟨ys, e3, rfl⟩ := e2
          obtain ⟨a, us, rfl, rl, hh⟩ := src_of rv ys e3
          rw [C.K]
          refine ⟨a, us, rfl, ?_⟩
          rcases hh with ⟨_, hh⟩ | ⟨_, hh⟩
          · exact .inr ⟨hh H1 (stbs g1), w B1 H1 _ x1 g1 (w_enuT rl hh)⟩
          · exact .inl ⟨SqL.of (hh H1 (stbs g1)), w B1 H1 _ x1 g1 (w_enuL rl hh)⟩
      | [], .nil =>
        refine ⟨fun pins s σ H R I q => ?_⟩
        obtain ⟨bp, bq, B, ρ, b, ds, b', xs, g, r, e1, e2, w⟩ := q
        have hl := evL_len e1
        rcases iter_lens e2 with ⟨_, z⟩ | ⟨_, _, z⟩ | ⟨_, _, _, z⟩ <;> (rw [z] at hl; try (simp at hl))
      | _ :: _ :: _, h =>
        refine ⟨fun pins s σ H R I q => ?_⟩
        obtain ⟨bp, bq, B, ρ, b, ds, b', xs, g, r, e1, e2, w⟩ := q
        have hl := evL_len e1
        rw [h.length] at hl
        rcases iter_lens e2 with ⟨_, z⟩ | ⟨_, _, z⟩ | ⟨_, _, _, z⟩
        · rw [z] at hl; try (simp at hl)
        · rw [z] at e2; simp [iter] at e2
        · rw [z] at e2; simp [iter] at e2
    | zip =>
      obtain ⟨ts, j, tp, rfl⟩ := ht (htup (.inr rfl))
      match xs, h with
      | [x1, x2], .cons h1 t1 s1 (.cons h2 t2 s2 .nil) =>
        refine PI.imp (RZ.pi_zipA hg hm hpa (star1 s1) (star_any (by simp [s2]))) fun σ H R q => ?_
        obtain ⟨bp, bq, B, ρ, b, ds, b', xs, g, r, e1, e2, w⟩ := q
        refine ⟨bp, bq, B, ρ, b, ds, b', g, r, e1, fun B1 H1 vs x1 g1 r1 => ?_⟩
        have hl := evL_len e1
        match ds, hl with
        | [d, d2], _ =>
          obtain ⟨v, v2, rfl, rv, rv2⟩ := r1.two
          rw [C.K]
          cases d with
          | tup ys =>
            cases d2 with
            | tup zs =>
              simp only [iter, Option.some.injEq] at e2; subst e2
              obtain ⟨a, us, rfl, rl, hh⟩ := src_of rv ys rfl
              obtain ⟨a2, us2, rfl, rl2, hh2⟩ := src_of rv2 zs rfl
              rcases hh with ⟨_, hh⟩ | ⟨z, _⟩
              · rcases hh2 with ⟨_, hh2⟩ | ⟨z, _⟩
                · exact ⟨a, a2, us, us2, rfl, .inr ⟨hh H1 (stbs g1), hh2 H1 (stbs g1), w B1 H1 _ x1 g1 (w_zipT rl rl2 hh hh2)⟩⟩
                · cases z
              · cases z
            | _ => simp [iter] at e2
          | lst ys =>
            cases d2 with
            | lst zs =>
              simp only [iter, Option.some.injEq] at e2; subst e2
              obtain ⟨a, us, rfl, rl, hh⟩ := src_of rv ys rfl
              obtain ⟨a2, us2, rfl, rl2, hh2⟩ := src_of rv2 zs rfl
              rcases hh with ⟨z, _⟩ | ⟨_, hh⟩
              · cases z
              · rcases hh2 with ⟨z, _⟩ | ⟨_, hh2⟩
                · cases z
                · exact ⟨a, a2, us, us2, rfl, .inl ⟨SqL.of (hh H1 (stbs g1)), SqL.of (hh2 H1 (stbs g1)), w B1 H1 _ x1 g1 (w_zipL rl rl2 hh hh2)⟩⟩
            | _ => simp [iter] at e2
          | _ => simp [iter] at e2
      | [], .nil =>
        refine ⟨fun pins s σ H R I q => ?_⟩
        obtain ⟨bp, bq, B, ρ, b, ds, b', xs, g, r, e1, e2, w⟩ := q
        have hl := evL_len e1
        rcases iter_lens e2 with ⟨_, z⟩ | ⟨_, _, z⟩ | ⟨_, _, _, z⟩ <;> (rw [z] at hl; try (simp at hl))
      | [x1], h =>
        refine ⟨fun pins s σ H R I q => ?_⟩
        obtain ⟨bp, bq, B, ρ, b, ds, b', xs, g, r, e1, e2, w⟩ := q
        have hl := evL_len e1
        rw [h.length] at hl
        rcases iter_lens e2 with ⟨_, z⟩ | ⟨_, _, z⟩ | ⟨_, _, _, z⟩
        · rw [z] at e2; simp [iter] at e2
        · rw [z] at hl; try (simp at hl)
        · rw [z] at hl; try (simp at hl)
      | _ :: _ :: _ :: _, h =>
        refine ⟨fun pins s σ H R I q => ?_⟩
        obtain ⟨bp, bq, B, ρ, b, ds, b', xs, g, r, e1, e2, w⟩ := q
        have hl := evL_len e1
        rw [h.length] at hl
        rcases iter_lens e2 with ⟨_, z⟩ | ⟨_, _, z⟩ | ⟨_, _, _, z⟩
        · rw [z] at hl; try (simp at hl)
        · rw [z] at hl; try (simp at hl)
        · rw [z] at e2; simp [iter] at e2
    | rvs =>
      match xs, h with
      | [x1], .cons h1 t1 s1 .nil =>
        refine PI.imp (RT.pi_revA hg hm h1 (star1 s1)) fun σ H R q => ?_
        obtain ⟨bp, bq, B, ρ, b, ds, b', xs, g, r, e1, e2, w⟩ := q
        simp only [evLY, evL] at e1
        obtain ⟨d1, b1, e3, e4⟩ := bnd_ok e1
        simp only [bnd_ret] at e4
        obtain ⟨rfl, rfl⟩ := ret_ok e4
        simp only [iter, Option.map_eq_some_iff] at e2
        obtain ⟨ys, e5, rfl⟩ := e2
        refine ⟨bp, bq, B, ρ, b, d1, _, g, r, e3, fun B1 H1 v x1 g1 r1 => ?_⟩
        have r1 : RepX Y.K Y.mg bp bq md B1 H1 d1 v := by
          cases md with
          | val => exact r1
          | bor => exact r1
          | own => exact absurd rfl hn
        rw [C.K]
        obtain ⟨a, us, rfl, rl, hh⟩ := src_of r1 ys e5
        have self : Stb md bp bq B1 H1 H1 := ⟨g1.sub, .inr fun _ _ _ _ => rfl⟩
        refine ⟨a, us, rfl, ?_⟩
        rcases hh with ⟨_, hh⟩ | ⟨_, hh⟩
        · exact .inr ⟨hh H1 self, w B1 H1 _ x1 g1 (w_revT rl hh)⟩
        · exact .inl ⟨SqL.of (hh H1 self), w B1 H1 _ x1 g1 (w_revL rl hh)⟩
      | [], .nil =>
        refine ⟨fun pins s σ H R I q => ?_⟩
        obtain ⟨bp, bq, B, ρ, b, ds, b', xs, g, r, e1, e2, w⟩ := q
        have hl := evL_len e1
        rcases iter_lens e2 with ⟨_, z⟩ | ⟨_, _, z⟩ | ⟨_, _, _, z⟩ <;> (rw [z] at hl; try (simp at hl))
      | _ :: _ :: _, h =>
        refine ⟨fun pins s σ H R I q => ?_⟩
        obtain ⟨bp, bq, B, ρ, b, ds, b', xs, g, r, e1, e2, w⟩ := q
        have hl := evL_len e1
        rw [h.length] at hl
        rcases iter_lens e2 with ⟨_, z⟩ | ⟨_, _, z⟩ | ⟨_, _, _, z⟩
        · rw [z] at hl; try (simp at hl)
        · rw [z] at e2; simp [iter] at e2
        · rw [z] at e2; simp [iter] at e2
end
end PL
namespace PL
open PySem PySem.Spec PyProof.Rows L2
section
variable {β : Type} {Y : Sys β} {k : Nat} {N : List PySem.Str} {sc : Scope} {X : Cx} {md : Md}
/-! ### comprehensions -/
theorem wipe_in {σ : L2.St} {i : Nat} : ∀ {vs : List Nat}, i ∈ vs → (L2.wipe σ vs)[i]? = some none ∨ (L2.wipe σ vs)[i]? = none
  | [], h => by cases h
  | v :: vs, h => by
    unfold L2.wipe
    by_cases e : v = i
    · subst e
      by_cases hl : v < (L2.wipe σ vs).length
      · exact .inl (List.getElem?_set_self hl)
      · exact .inr (List.getElem?_eq_none (by rw [List.length_set]; omega))
    · rw [List.getElem?_set_ne e]
      exact wipe_in (by rcases List.mem_cons.mp h with z | z; exact absurd z.symm e; exact z)
theorem wipe_back {σ σ2 : L2.St} {vs : List Nat} (hl : σ2.length = σ.length) (h : ∀ i, i ∉ vs → σ2[i]? = (L2.wipe σ vs)[i]?) : L2.wipe σ2 vs = L2.wipe σ vs := by
  apply List.ext_getElem?
  intro i
  by_cases hi : i ∈ vs
  · have l1 := wipe_length σ vs
    have l2 := wipe_length σ2 vs
    by_cases hb : i < σ.length
    · rcases wipe_in (σ := σ) hi with e1 | e1
      · rcases wipe_in (σ := σ2) hi with e2 | e2
        · rw [e1, e2]
        · have := List.getElem?_eq_none_iff.mp e2; omega
      · have := List.getElem?_eq_none_iff.mp e1; omega
    · rw [List.getElem?_eq_none (by omega), List.getElem?_eq_none (by omega)]
  · rw [L2.wipe_out hi, L2.wipe_out hi, h i hi, L2.wipe_out hi]
def lC (Y : Sys β) (k : Nat) (cs : List E) : TT := lT Y (fun ρ => evC Y.pr.gl (PL.call Y.pr k) cs ρ)
theorem cs_ok : ∀ {cs : List E} {ifs : List Expr}, cs.length ≤ 1 → AllOk Y k X .bor cs ifs → PTs X ifs (lC Y k cs)
  | _, _, _, .nil => by
    refine ⟨fun pins s σ H Q I q => (pts_nil (X := X)).run pins s σ H Q I ?_⟩
    obtain ⟨bp, bq, B, ρ, b0, t, b', g, r, e, w⟩ := q
    obtain ⟨rfl, rfl⟩ := ret_ok (show ret true b0 = .ok t b' from e)
    exact w B H Ext.refl g
  | _, _, _, .cons h1 t1 s1 .nil => by
    refine ⟨fun pins s σ H Q I q => (pts_one (t1 rfl)).run pins s σ H Q I ?_⟩
    obtain ⟨bp, bq, B, ρ, b0, t, b', g, r, e, w⟩ := q
    refine ⟨bp, bq, B, ρ, b0, t, b', g, r, ?_, w⟩
    simp only [evC] at e
    obtain ⟨d1, b1, e1, e2⟩ := bnd_ok e
    obtain ⟨t1, b2, e3, e4⟩ := bnd_ok e2
    obtain ⟨f3, rfl⟩ := lft_ok e3
    have e5 := tst_of (Y := Y) (k := k) e1 f3
    cases t1 with
    | true => rw [if_pos rfl] at e4; obtain ⟨rfl, rfl⟩ := ret_ok e4; exact e5
    | false => rw [if_neg (by decide)] at e4; obtain ⟨rfl, rfl⟩ := ret_ok e4; exact e5
  | _, _, hz, .cons _ _ _ (.cons _ _ _ _) => by simp at hz
theorem compM_cons {f : D → M β (Option D)} {d : D} {ds : List D} {b b' : β} {vs : List D} (h : compM f (d :: ds) b = .ok vs b') : ∃ o b1 r, f d b = .ok o b1 ∧ compM f ds b1 = .ok r b' ∧ vs = (match o with | some v => v :: r | none => r) := by
  simp only [compM] at h
  obtain ⟨o, b1, h1, h2⟩ := bnd_ok h
  obtain ⟨r, b2, h3, h4⟩ := bnd_ok h2
  obtain ⟨rfl, rfl⟩ := ret_ok h4
  exact ⟨o, b1, r, h1, h3, rfl⟩
theorem compM_len {f : D → M β (Option D)} : ∀ {ds : List D} {b b' : β} {vs : List D}, compM f ds b = .ok vs b' → vs.length ≤ ds.length
  | [], b, b', vs, h => by obtain ⟨rfl, _⟩ := ret_ok (show ret [] b = .ok vs b' from h); exact Nat.le_refl _
  | d :: ds, b, b', vs, h => by
    obtain ⟨o, b1, r, _, h2, e⟩ := compM_cons h
    have := compM_len h2
    subst e
    cases o <;> simp only [List.length_cons] <;> omega
theorem blk_ok (C : CxOk Y k N sc X) {scope : Scope} {own : List (PySem.Str × Nat)} (ok : BlkOk N sc scope own) (s : Shared) (H : Hp) (A : Addr) (cl : List (PySem.Str × Addr)) (fp : List Addr) : CxOk Y k N (L2.relS scope sc) (X.blk s H scope (PySem.compEnvC scope cl A X.env) fp) where
  prog := C.prog
  w := C.w
  K := C.K
  mg := C.mg
  base := C.base
  calm := C.calm
  xN := C.xN
  nd := C.nd
  xsc := by rw [← C.xsc]; rfl
  kind := ok.kind
  room := C.room
  xe := rfl
theorem fb_blk {scope : Scope} (s : Shared) (H : Hp) (A : Addr) (cl : List (PySem.Str × Addr)) (fp : List Addr) : ∀ x, fbC scope sc x = true → (X.blk s H scope (PySem.compEnvC scope cl A X.env) fp).fn x = true ∨ (L2.relS scope sc).names.lookup x = some .local := fun x h => by
  simp only [fbC, Bool.or_eq_true] at h
  rcases h with h | h
  · refine .inl ?_
    show (scope.names.lookup x == some .cell) = true
    cases q : scope.names.lookup x with
    | none => rw [q] at h; cases h
    | some kk => rw [q] at h; cases kk <;> first | rfl | cases h
  · unfold loclB at h
    cases q : (L2.relS scope sc).names.lookup x with
    | none => rw [q] at h; cases h
    | some kk => rw [q] at h; cases kk <;> first | exact .inr rfl | cases h
theorem ownS_snd (N : List PySem.Str) (own : List Nat) : (ownS N own).map (·.2) = own := by
  unfold ownS
  rw [List.map_map]
  exact List.map_id own
theorem comp_rd {e : E} {t : Tg} {ik : Ik} {es cs : List E} {own : List Nat} (hsub : ∀ i ∈ slotsT t, i ∈ own) (σ : L2.St) (H : Hp) (Q : VK) (q : lE Y k md (.comp e t ik es cs own) σ H Q) :
    tLc (lI Y k .bor ik es) (lG Y t) (lC Y k cs) (lE Y k .val e) own σ H Q := by
  obtain ⟨bp, bq, B, ρ, b0, d, b', g, r, e0, w⟩ := q
  simp only [evY, ev] at e0
  obtain ⟨ds, b1, e1, e2⟩ := bnd_ok e0
  obtain ⟨xs, b2, e3, e4⟩ := bnd_ok e2
  obtain ⟨f3, hb2⟩ := lft_ok e3
  subst hb2
  by_cases hlen : xs.length ≤ lim
  case neg => rw [if_neg hlen] at e4; exact (stk_ok e4).elim
  rw [if_pos hlen] at e4
  obtain ⟨vs, b3, e5, e6⟩ := bnd_ok e4
  obtain ⟨rfl, rfl⟩ := ret_ok e6
  refine ⟨bp, bq, B, ρ, b0, ds, _, xs, g, r, e1, f3, fun B1 H1 J x1 g1 wk => ?_⟩
  intro Dd hDd
  have nbp : Dd ≠ bp := fun z => by rw [z, g1.h1] at hDd; cases hDd
  have nbq : Dd ≠ bq := fun z => by rw [z, g1.h2] at hDd; cases hDd
  -- the invariant: how far one is
  let F : D → M β (Option D) := fun d => bnd (lft (bindT t d (wipeE ρ own))) fun ρ' => bnd (evC Y.pr.gl (PL.call Y.pr k) cs ρ') fun b => if b = true then bnd (ev Y.pr.gl (PL.call Y.pr k) e ρ') fun v => ret (some v) else ret none
  have e5 : compM F xs b2 = .ok vs b' := e5
  refine lc_it wk (fun i H' => ∃ B2 b2 acc vacc rest, Ext bp bq B1 B2 H1 H' ∧ Good Y bp bq B2 H' b2 ∧ H' Dd = some (.lst vacc) ∧ B2 Dd = none ∧ RepL Y.K Y.mg bp B2 acc vacc ∧ acc.length ≤ i ∧ compM F (xs.drop i) b2 = .ok rest b' ∧ acc ++ rest = vs) ?_ ?_ ?_ ?_
  · refine ⟨B1, _, [], [], vs, ⟨Same.refl _, fun a h h2 => absurd h2 h, fun a _ _ h => upd_ne fun z => h (by rw [z]; exact hDd)⟩, ⟨g1.sub.trans (same_upd hDd), g1.b1, g1.b2, by rw [upd_ne nbp.symm]; exact g1.h1, by rw [upd_ne nbq.symm]; exact g1.h2⟩, upd_same, g1.sub.free hDd, RepL.nil, Nat.le_refl _, by rw [List.drop_zero]; exact e5, by simp⟩
  · rintro i H' hi ⟨B2, b2, acc, vacc, rest, x2, g2, _⟩
    exact ⟨x2.bs.trans g2.sub, .inr x2.kp⟩
  · rintro i v H2 H3 hi ⟨B2, b2, acc, vacc, rest, x2, g2, hD2, hB2, ra, hacc, ec, eapp⟩ ⟨d, hd, hy⟩
    have ed : xs.drop i = d :: xs.drop (i + 1) := by
      rw [List.drop_eq_getElem_cons hi]
      rw [List.getElem?_eq_getElem hi] at hd
      rw [Option.some.inj hd]
    rw [ed] at ec
    obtain ⟨o, b4, r4, ef, er, eo⟩ := compM_cons ec
    -- the turn's thing
    have key : ∃ B3, Ext bp bq B2 B3 H2 H3 ∧ Good Y bp bq B3 H3 b2 ∧ Rep Y.K Y.mg bp B3 d v ∧ H3 Dd = some (.lst vacc) ∧ B3 Dd = none := by
      rcases hy with ⟨rfl, rv⟩ | ⟨T, us, ds', rfl, hT, rfl, rfl, rus⟩
      · exact ⟨B2, Ext.refl, g2, Rep.mono x2.bs _ _ rv, hD2, hB2⟩
      · have x0 := Ex0.new (B := B2) (o := .tup us) g2.sub hT
        have nT : Dd ≠ T := fun z => by rw [z, hT] at hD2; cases hD2
        refine ⟨_, x0.ext, x0.good g2, ?_, by rw [upd_ne nT]; exact hD2, by rw [upd_ne nT]; exact hB2⟩
        simp only [Rep]
        exact ⟨T, us, rfl, .inl (.inl upd_same), RepL.mono (x2.bs.trans x0.bs) _ _ rus⟩
    obtain ⟨B3, x3, g3, rv, hD3, hB3⟩ := key
    simp only [F] at ef
    obtain ⟨ρ1, b5, ef1, ef2⟩ := bnd_ok ef
    obtain ⟨ff1, rfl⟩ := lft_ok ef1
    obtain ⟨tb, b6, ef3, ef4⟩ := bnd_ok ef2
    have x13 : Ext bp bq B1 B3 H1 H3 := x2.trans x3 g3
    have rw3 : RepE Y bp bq B3 H3 (wipeE ρ own) (L2.wipe σ own) := ((r.ext x1 g1).ext x13 g3).wipe own
    refine ⟨bp, bq, B3, _, wipeE ρ own, d, ρ1, g3, rw3, rv, ff1, fun σ2 r2 l2 s2 => ⟨wipe_back (by rw [l2, wipe_length]) fun i hi => s2 i fun z => hi (hsub i z), ?_⟩⟩
    refine ⟨bp, bq, B3, ρ1, _, tb, b6, g3, r2, ef3, fun B4 H4 x4 g4 => ?_⟩
    have keepD : ∀ {B5 H5}, Ext bp bq B3 B5 H3 H5 → H5 Dd = some (.lst vacc) ∧ B5 Dd = none := fun {B5 H5} x5 => by
      refine ⟨by rw [x5.kp Dd nbp nbq (by rw [hD3]; exact Option.some_ne_none _)]; exact hD3, ?_⟩
      refine Classical.byContradiction fun n => ?_
      have := x5.fr Dd n hB3
      rw [hD3] at this; cases this
    cases tb with
    | true =>
      rw [if_pos rfl] at ef4
      refine L2.iteT ?_
      obtain ⟨v5, b7, ef5, ef6⟩ := bnd_ok ef4
      obtain ⟨rfl, rfl⟩ := ret_ok ef6
      refine ⟨bp, bq, B4, ρ1, b6, v5, _, g4, r2.ext x4 g4, ef5, fun B5 H5 y x5 g5 r5 => ?_⟩
      have x35 := x4.trans x5 g5
      obtain ⟨hD5, hB5⟩ := keepD x35
      have r5 : Rep Y.K Y.mg bp B5 v5 y := r5
      have x15 := x13.trans x35 g5
      have hl2 := RepL.length ra
      refine ⟨vacc, hD5, by have := lim_le; omega, B5, _, acc ++ [v5], vacc ++ [y], r4, ⟨x15.bs, x15.fr, fun a n1 n2 h => ?_⟩, ⟨?_, g5.b1, g5.b2, by rw [upd_ne nbp.symm]; exact g5.h1, by rw [upd_ne nbq.symm]; exact g5.h2⟩, upd_same, hB5, RepL.append (RepL.mono (x3.bs.trans x35.bs) _ _ ra) (RepL.cons r5 RepL.nil), by simp; omega, er, ?_⟩
      · rw [upd_ne fun z => h (by rw [z]; exact hDd)]
        exact x15.kp a n1 n2 h
      · intro a o ha
        rw [upd_ne fun z => by rw [z, hB5] at ha; cases ha]
        exact g5.sub a o ha
      · rw [List.append_assoc, List.singleton_append, ← eapp, eo]
    | false =>
      rw [if_neg (by decide)] at ef4
      refine L2.iteF ?_
      obtain ⟨rfl, rfl⟩ := ret_ok ef4
      obtain ⟨hD5, hB5⟩ := keepD x4
      have x15 := x13.trans x4 g4
      exact ⟨B4, _, acc, vacc, r4, x15, g4, hD5, hB5, RepL.mono (x3.bs.trans x4.bs) _ _ ra, by omega, er, by rw [← eapp, eo]⟩
  · rintro H2 ⟨B2, b2, acc, vacc, rest, x2, g2, hD2, hB2, ra, hacc, ec, eapp⟩
    rw [List.drop_length] at ec
    obtain ⟨rfl, rfl⟩ := ret_ok (show ret [] b2 = .ok rest _ from ec)
    rw [List.append_nil] at eapp
    subst eapp
    -- the new list as it was wished for
    have x12 := x1.trans x2 g2
    cases md with
    | own => exact w B2 H2 _ x12 g2 fun ys ey => by cases ey; exact ⟨Dd, vacc, rfl, x1.back g1 hDd, hD2, hB2, ra⟩
    | val =>
      have hB : Same B2 (upd B2 Dd (.lst vacc)) := same_upd hB2
      refine w (upd B2 Dd (.lst vacc)) H2 _ ⟨x12.bs.trans hB, fun a h1 h2 => ?_, x12.kp⟩ ⟨?_, by rw [upd_ne nbp.symm]; exact g2.b1, by rw [upd_ne nbq.symm]; exact g2.b2, g2.h1, g2.h2⟩ ?_
      · by_cases z : a = Dd
        · rw [z]; exact x1.back g1 hDd
        · rw [upd_ne z] at h1; exact x12.fr a h1 h2
      · intro a o ha
        by_cases z : a = Dd
        · subst z; rw [upd_same] at ha; rw [hD2]; exact ha
        · rw [upd_ne z] at ha; exact g2.sub a o ha
      · show Rep Y.K Y.mg bp _ (.lst acc) _
        simp only [Rep]
        exact ⟨Dd, vacc, rfl, upd_same, RepL.mono hB _ _ ra⟩
    | bor => exact w B2 H2 _ x12 g2 (.inr ⟨Dd, vacc, acc, rfl, rfl, hD2, ra, nbp, nbq⟩)
end
end PL
namespace PL
open PySem PySem.Spec PyProof.Rows L2
section
variable {β : Type} {Y : Sys β} {k : Nat} {N : List PySem.Str}
theorem bior (x : Expr) (h : strT x = false) (o : Cop) (hs : ∀ es j p, x ≠ .Set es j p) : behindInMarks (pyC o) x = false := by
  cases x <;> first | rfl | exact absurd rfl (hs _ _ _)
theorem notSet {ar : String → Option Nat} {fr : String → Bool} {N : List PySem.Str} : ∀ {e : E} {md : Md} {sc : Scope} {x : Expr}, chkE ar fr N e md sc x = true → (∀ es j p, x ≠ .Set es j p) ∧ (∀ a b c p, x ≠ .Slice a b c p) := by
  intro e md sc x h
  cases x with
  | Set a b c => cases e <;> simp [chkE] at h
  | Slice a b c d => cases e <;> simp [chkE] at h
  | _ => exact ⟨(fun _ _ _ z => by cases z), fun _ _ _ _ z => by cases z⟩
theorem plain_of {x : Expr} (h : ∀ a b c p, x ≠ .Slice a b c p) : PlainIx x := by
  cases x <;> first | exact fun _ _ => rfl | exact absurd rfl (h _ _ _ _)
def plainT (x : Expr) : Bool := match x with
  | .UnaryOp .Not _ _ => false
  | .BoolOp _ _ _ => false
  | .IfExp _ _ _ _ => false
  | .Compare _ _ _ _ => false
  | _ => true
theorem plain_true {x : Expr} (h : plainT x = true) (env : PySem.Env) (whole : Sem Value) : isTrue x env whole = (do let v ← whole; standAt x.pos; holding [v] (truthy v)) := by
  cases x with
  | UnaryOp o y p => cases o <;> first | rfl | cases h
  | BoolOp _ _ _ => cases h
  | IfExp _ _ _ _ => cases h
  | Compare _ _ _ _ => cases h
  | _ => rfl
def isCell : Expr → Bool
  | _ => true
/-- the goal for one part -/
def Snd (Y : Sys β) (k : Nat) (N : List PySem.Str) (e : E) : Prop := ∀ (md : Md) (sc : Scope) (x : Expr), chkE Y.ar Y.fr N e md sc x = true → ∀ X, CxOk Y k N sc X → PE X x (lE Y k md e) ∧ (md = .bor → PT X x (lT Y (tstY Y k e)))
def SndL (Y : Sys β) (k : Nat) (N : List PySem.Str) (es : List E) : Prop := ∀ (md : Md) (sc : Scope) (xs : List Expr), chkL Y.ar Y.fr N es md sc xs = true → ∀ X, CxOk Y k N sc X → AllOk Y k X md es xs
theorem snd_plain {e : E} {md : Md} {sc : Scope} {x : Expr} {X : Cx} (C : CxOk Y k N sc X) (hp : plainT x = true) (h : PE X x (lE Y k md e)) : PE X x (lE Y k md e) ∧ (md = .bor → PT X x (lT Y (tstY Y k e))) :=
  ⟨h, fun z => by subst z; exact t_any C h (plain_true hp X.env)⟩
structure CompParts (Y : Sys β) (k : Nat) (N : List PySem.Str) (X : Cx) (e : E) (t : Tg) (ik : Ik) (es cs : List E) (own : List Nat) (elt tg it : Expr) (ifs : List Expr) (scope : Scope) : Prop where
  nd : X.N.Nodup
  hit : PI X tg it (lI Y k .bor ik es)
  ok : BlkOk X.N X.env.scope scope (ownS N own)
  hg : ∀ (s : Shared) (H : Hp) (C : Addr) (cl : List (PySem.Str × Addr)) (fp : List Addr), PG (X.blk s H scope (PySem.compEnvC scope cl C X.env) fp) tg (lG Y t)
  ht : ∀ (s : Shared) (H : Hp) (C : Addr) (cl : List (PySem.Str × Addr)) (fp : List Addr), PTs (X.blk s H scope (PySem.compEnvC scope cl C X.env) fp) ifs (lC Y k cs)
  he : ∀ (s : Shared) (H : Hp) (C : Addr) (cl : List (PySem.Str × Addr)) (fp : List Addr), PE (X.blk s H scope (PySem.compEnvC scope cl C X.env) fp) elt (lE Y k .val e)
  hs : ∀ x, foldedSetIterable it X.env x = pure x
  sub : ∀ i ∈ slotsT t, i ∈ own
theorem comp_parts (O : Y.Ok) {e : E} {t : Tg} {ik : Ik} {es cs : List E} {own : List Nat} (he : Snd Y k N e) (hes : SndL Y k N es) (hcs : SndL Y k N cs) {md : Md} {sc : Scope} {x : Expr} (h : chkE Y.ar Y.fr N (.comp e t ik es cs own) md sc x = true) {X : Cx} (C : CxOk Y k N sc X) :
    ∃ elt tg it ifs scope pos, x = .ListComp elt [⟨tg, it, ifs, 0⟩] scope pos ∧ CompParts Y k N X e t ik es cs own elt tg it ifs scope := by
  unfold chkE at h
  split at h
  case h_2 => cases h
  rename_i elt tg it ifs scope pos
  simp only [Bool.and_eq_true, List.all_eq_true, decide_eq_true_eq] at h
  obtain ⟨h1, h2, h3, h4, h5, h6, h7⟩ := h
  have ok := blkOk_by h1
  have hnd : X.N.Nodup := by rw [C.xN]; exact C.nd
  have ok' : BlkOk X.N X.env.scope scope (ownS N own) := by rw [C.xN, C.xsc]; exact ok
  have hit : PI X tg it (lI Y k .bor ik es) := by
    have htup : isTup t = true → ∃ ts j p, tg = .Tuple ts j p := fun ht => by
      cases t with
      | nm i => cases ht
      | tu ts => cases tg <;> first | (simp [chkT] at h2; done) | exact ⟨_, _, _, rfl⟩
    split at h5
    · have hA := hes .bor sc _ h5 X C
      refine i_ok O C (by decide) (tup := isTup t) hA htup (.inl ⟨rfl, rfl, fun e' e1 => ?_⟩)
      subst e1
      cases hA with
      | cons h1 t1 s1 hs => exact h1
    · rename_i f p xs pos'
      simp only [Bool.and_eq_true] at h5
      exact i_ok O C (by decide) (tup := isTup t) (hes .bor sc _ h5.2 X C) htup (.inr ⟨by decide, fun z => (by rcases z with z | z <;> cases z), f, p, pos', rfl, h5.1⟩)
    · rename_i f p xs pos'
      simp only [Bool.and_eq_true] at h5
      exact i_ok O C (by decide) (tup := isTup t) (hes .bor sc _ h5.2.2 X C) htup (.inr ⟨by decide, fun _ => h5.2.1, f, p, pos', rfl, h5.1⟩)
    · rename_i f p xs pos'
      simp only [Bool.and_eq_true] at h5
      exact i_ok O C (by decide) (tup := isTup t) (hes .bor sc _ h5.2.2 X C) htup (.inr ⟨by decide, fun _ => h5.2.1, f, p, pos', rfl, h5.1⟩)
    · rename_i f p xs pos'
      simp only [Bool.and_eq_true] at h5
      exact i_ok O C (by decide) (tup := isTup t) (hes .bor sc _ h5.2 X C) htup (.inr ⟨by decide, fun z => (by rcases z with z | z <;> cases z), f, p, pos', rfl, h5.1⟩)
    · cases h5
  have hsit : ∀ x, foldedSetIterable it X.env x = pure x := by
    have hns : ∀ es' j p, it ≠ .Set es' j p := by
      intro es' j p z
      subst z
      cases ik <;> first | (simp at h5; done) | skip
      cases es with
      | nil => simp [chkL] at h5
      | cons a as =>
        simp only [chkL, Bool.and_eq_true] at h5
        exact (notSet h5.1).1 _ _ _ rfl
    intro v
    cases it <;> first | rfl | exact absurd rfl (hns _ _ _)
  exact ⟨elt, tg, it, ifs, scope, pos, rfl, hnd, hit, ok', fun s H A cl fp => g_tg (blk_ok C ok s H A cl fp) (fb_blk s H A cl fp) t tg h2, fun s H A cl fp => cs_ok h4 (hcs .bor _ _ h6 _ (blk_ok C ok s H A cl fp)), fun s H A cl fp => (he .val _ _ h7 _ (blk_ok C ok s H A cl fp)).1, hsit, h3⟩
theorem snd_comp (O : Y.Ok) {e : E} {t : Tg} {ik : Ik} {es cs : List E} {own : List Nat} (he : Snd Y k N e) (hes : SndL Y k N es) (hcs : SndL Y k N cs) : Snd Y k N (.comp e t ik es cs own) := by
  intro md sc x h X C
  obtain ⟨elt, tg, it, ifs, scope, pos, rfl, P⟩ := comp_parts O he hes hcs h C
  refine snd_plain C rfl (PE.imp (pe_lc (own := ownS N own) (wi := lI Y k .bor ik es) (g := lG Y t) (tt := lC Y k cs) (te := lE Y k .val e) C.calm P.nd P.hit P.ok P.hg P.ht P.he P.hs) fun σ H Q q => ?_)
  rw [ownS_snd]
  exact comp_rd P.sub σ H Q q
mutual
theorem snd (O : Y.Ok) (F : ∀ x n, Y.ar x = some n → Callee Y k x n) : ∀ e : E, Snd Y k N e
  | .var i => by
    intro md sc x h X C
    simp only [chkE, Bool.and_eq_true, decide_eq_true_eq] at h
    obtain ⟨h0, h⟩ := h
    split at h
    · simp only [Bool.and_eq_true, decide_eq_true_eq] at h
      exact snd_plain C rfl (c_var C h0 h.1.1 h.1.2 h.2)
    · cases h
  | .bvar i => by
    intro md sc x h X C
    simp only [chkE, Bool.and_eq_true, decide_eq_true_eq] at h
    obtain ⟨rfl, h⟩ := h
    split at h
    · simp only [Bool.and_eq_true, decide_eq_true_eq] at h
      exact snd_plain C rfl (c_bvar C h.1.1 h.1.2 h.2)
    · cases h
  | .glob g => by
    intro md sc x h X C
    simp only [chkE, Bool.and_eq_true, decide_eq_true_eq] at h
    obtain ⟨h0, h⟩ := h
    split at h
    · simp only [Bool.and_eq_true, decide_eq_true_eq] at h
      exact snd_plain C rfl (c_glob O C h0 h.1.1 h.1.2 h.2)
    · cases h
  | .lit d => by
    intro md sc x h X C
    simp only [chkE] at h
    split at h
    · exact snd_plain C rfl (c_lit h)
    · cases h
  | .bin o a b => by
    intro md sc x h X C
    simp only [chkE] at h
    split at h
    · simp only [Bool.and_eq_true] at h
      obtain ⟨h1, h2, h3⟩ := h
      rw [opB_eq h1]
      exact snd_plain C rfl (c_bin C (snd O F a .bor sc _ h2 X C).1 (snd O F b .bor sc _ h3 X C).1)
    · cases h
  | .neg a => by
    intro md sc x h X C
    simp only [chkE] at h
    split at h
    · exact snd_plain C rfl (c_neg (snd O F a .bor sc _ h X C).1)
    · cases h
  | .no a => by
    intro md sc x h X C
    simp only [chkE] at h
    split at h
    · have ih := snd O F a .bor sc _ h X C
      exact ⟨c_no C ih.1, fun _ => t_no (ih.2 rfl)⟩
    · cases h
  | .and es => by
    intro md sc x h X C
    simp only [chkE, Bool.and_eq_true, decide_eq_true_eq] at h
    obtain ⟨h0, h⟩ := h
    split at h
    · simp only [Bool.and_eq_true, Bool.not_eq_true'] at h
      have ih := sndL O F es md sc _ h.2 X C
      refine ⟨ih.and C h0 h.1, fun z => ?_⟩
      subst z
      exact (ih.andT h.1).pt
    · cases h
  | .or es => by
    intro md sc x h X C
    simp only [chkE, Bool.and_eq_true, decide_eq_true_eq] at h
    obtain ⟨h0, h⟩ := h
    split at h
    · simp only [Bool.and_eq_true, Bool.not_eq_true'] at h
      have ih := sndL O F es md sc _ h.2 X C
      refine ⟨ih.or C h0 h.1, fun z => ?_⟩
      subst z
      exact (ih.orT h.1).pt
    · cases h
  | .cmp o a b => by
    intro md sc x h X C
    simp only [chkE] at h
    split at h
    · simp only [Bool.and_eq_true] at h
      obtain ⟨h1, h2, h3⟩ := h
      rw [opC_eq h1]
      have ha := (snd O F a .bor sc _ h2 X C).1
      have hb := (snd O F b .bor sc _ h3 X C).1
      have hm := bior _ (notStar _ _ _ h3) o (notSet h3).1
      exact ⟨c_cmp C ha hb hm, fun _ => t_cmp C ha hb hm⟩
    · cases h
  | .chn o p a b c => by
    intro md sc x h X C
    simp only [chkE] at h
    split at h
    · simp only [Bool.and_eq_true] at h
      obtain ⟨h1, h2, h3, h4, h5⟩ := h
      rw [opC_eq h1, opC_eq h2]
      have ha := (snd O F a .bor sc _ h3 X C).1
      have hb := (snd O F b .bor sc _ h4 X C).1
      have hc := (snd O F c .bor sc _ h5 X C).1
      have hm := bior _ (notStar _ _ _ h5) p (notSet h5).1
      exact ⟨c_chn C ha hb hc hm, fun _ => t_chn C ha hb hc hm⟩
    · cases h
  | .isi a t => by
    intro md sc x h X C
    simp only [chkE] at h
    split at h
    · simp only [Bool.and_eq_true] at h
      obtain ⟨h1, h2, h3⟩ := h
      exact snd_plain C rfl (c_isi O C h1 h2 (snd O F a .bor sc _ h3 X C).1 (notStar _ _ _ h3))
    · cases h
  | .ite c a b => by
    intro md sc x h X C
    simp only [chkE] at h
    split at h
    · simp only [Bool.and_eq_true] at h
      obtain ⟨h1, h2, h3⟩ := h
      have hc := (snd O F c .bor sc _ h1 X C).2 rfl
      have ha := snd O F a md sc _ h2 X C
      have hb := snd O F b md sc _ h3 X C
      exact ⟨c_ite hc ha.1 hb.1, fun z => by subst z; exact t_ite hc (ha.2 rfl) (hb.2 rfl)⟩
    · cases h
  | .idx a i => by
    intro md sc x h X C
    simp only [chkE, Bool.and_eq_true, decide_eq_true_eq] at h
    obtain ⟨h0, h⟩ := h
    split at h
    · simp only [Bool.and_eq_true] at h
      exact snd_plain C rfl (c_idx C h0 (snd O F a .bor sc _ h.1 X C).1 (snd O F i .bor sc _ h.2 X C).1 (plain_of (notSet h.2).2))
    · cases h
  | .sl1 a l => by
    intro md sc x h X C
    simp only [chkE] at h
    split at h
    · simp only [Bool.and_eq_true] at h
      exact snd_plain C rfl (c_sl1 C (snd O F a .bor sc _ h.1 X C).1 (snd O F l .bor sc _ h.2 X C).1)
    · cases h
  | .sl2 a l => by
    intro md sc x h X C
    simp only [chkE] at h
    split at h
    · simp only [Bool.and_eq_true] at h
      exact snd_plain C rfl (c_sl2 C (snd O F a .bor sc _ h.1 X C).1 (snd O F l .bor sc _ h.2 X C).1)
    · cases h
  | .sl3 a l u => by
    intro md sc x h X C
    simp only [chkE] at h
    split at h
    · simp only [Bool.and_eq_true] at h
      exact snd_plain C rfl (c_sl3 C (snd O F a .bor sc _ h.1 X C).1 (snd O F l .bor sc _ h.2.1 X C).1 (snd O F u .bor sc _ h.2.2 X C).1)
    · cases h
  | .rev a => by
    intro md sc x h X C
    simp only [chkE] at h
    split at h
    · exact snd_plain C rfl (c_rev C (snd O F a .bor sc _ h X C).1)
    · cases h
  | .tup es => by
    intro md sc x h X C
    simp only [chkE] at h
    split at h
    · exact snd_plain C rfl (c_tup ((sndL O F es .val sc _ h X C).pa (by decide)))
    · cases h
  | .lst es => by
    intro md sc x h X C
    simp only [chkE] at h
    split at h
    · exact snd_plain C rfl (c_lst ((sndL O F es .val sc _ h X C).pa (by decide)))
    · cases h
  | .comp e t ik es cs own => snd_comp O (snd O F e) (sndL O F es) (sndL O F cs)
  | .bi f es => by
    intro md sc x h X C
    have ih := sndL O F es
    simp only [chkE] at h
    split at h
    · simp only [Bool.and_eq_true] at h
      obtain ⟨h1, h2⟩ := h
      split at h2
      · rename_i hr
        split at h2
        · simp only [Bool.and_eq_true, decide_eq_true_eq] at h2
          obtain ⟨h3, h4, h5⟩ := h2
          obtain ⟨a, rfl⟩ := List.length_eq_one_iff.mp h4
          have hA := ih .bor sc _ h5 X C
          cases hA with
          | cons ha ta sa hs =>
            cases hs
            exact snd_plain C rfl (c_rg O C h1 h3 hr ha sa)
        · cases h2
      · rename_i hr
        simp only [Bool.and_eq_true, Bool.not_eq_true'] at h2
        exact snd_plain C rfl (c_bi O C h1 (by simpa using hr) h2.1 (ih .bor sc _ h2.2 X C))
    · cases h
  | .call f es => by
    intro md sc x h X C
    have ih := sndL O F es
    simp only [chkE, Bool.and_eq_true, decide_eq_true_eq] at h
    obtain ⟨h0, h⟩ := h
    split at h
    · simp only [Bool.and_eq_true, decide_eq_true_eq] at h
      obtain ⟨h1, h2, h3, h4, h5⟩ := h
      exact snd_plain C rfl (c_call C (F f _ h4) h0 h1 h2 h3 (ih .val sc _ h5 X C))
    · cases h
theorem sndL (O : Y.Ok) (F : ∀ x n, Y.ar x = some n → Callee Y k x n) : ∀ es : List E, SndL Y k N es
  | [] => by
    intro md sc xs h X C
    cases xs with
    | nil => exact .nil
    | cons _ _ => simp [chkL] at h
  | e :: es => by
    intro md sc xs h X C
    cases xs with
    | nil => simp [chkL] at h
    | cons x xs =>
      simp only [chkL, Bool.and_eq_true] at h
      have h1 := snd O F e md sc x h.1 X C
      exact .cons h1.1 h1.2 (notStar _ _ _ h.1) (sndL O F es md sc xs h.2 X C)
end
end
end PL

set_option autoImplicit false
set_option linter.all false
set_option maxRecDepth 100000
set_option maxHeartbeats 4000000
/-! PL10: statements. -/
namespace PL
open PySem PySem.Spec PyProof.Rows L2
/-! ### how a tuple is stored -/
def locLn (sc : Scope) (line : Nat) (e : Expr) : Bool := match e with
  | .Name id pos => loclB sc id && (pos.line == line)
  | _ => false
def lineOf (ts : List Expr) : Nat := (ts.head?.map (·.pos.line)).getD 0
/-- for sure not by swapped stores -/
def noSw (sc : Scope) (ts vs : List Expr) : Bool := !(ts.length == 2 || ts.length == 3) || (vs.length != ts.length) || !(ts.all (locLn sc (lineOf ts))) || vs.all (foldedForSure 8)
/-- for sure by swapped stores (of names that differ) -/
def yesSw (sc : Scope) (ts vs : List Expr) : Bool := (ts.length == 2 || ts.length == 3) && (vs.length == ts.length) && ts.all (locLn sc (lineOf ts)) && !vs.all (foldedForSure 8) && !vs.all (constantsAlone 8) && vs.all (fun x => !strT x)
theorem locl_look {sc : Scope} {x : PySem.Str} (h : loclB sc x = true) : sc.names.lookup x = some .local := by
  unfold loclB at h
  cases q : sc.names.lookup x with
  | none => rw [q] at h; cases h
  | some kk => rw [q] at h; cases kk <;> first | rfl | cases h
def nmF (env : PySem.Env) (line : Nat) (e : Expr) : Option PySem.Str := match e with
  | .Name id pos => if env.kindOf id == some .local && pos.line == line then some id else none
  | _ => none
theorem nmF_some {sc : Scope} {env : PySem.Env} {line : Nat} (he : env.scope = sc) {t : Expr} {y : PySem.Str} (h : nmF env line t = some y) : locLn sc line t = true := by
  cases t with
  | Name id pos =>
    simp only [nmF, Option.ite_none_right_eq_some, Bool.and_eq_true] at h
    obtain ⟨⟨h1, h2⟩, _⟩ := h
    have hk : sc.names.lookup id = some NameKind.local := by
      rw [← he]
      show env.kindOf id = some .local
      cases q : env.kindOf id with
      | none => rw [q] at h1; cases h1
      | some kk => rw [q] at h1; cases kk <;> first | rfl | cases h1
    simp only [locLn, loclB, hk, h2, Bool.and_self]
  | _ => simp [nmF] at h
theorem filt_len {sc : Scope} {line : Nat} {env : PySem.Env} (he : env.scope = sc) : ∀ ts : List Expr, (ts.filterMap (nmF env line)).length ≤ ts.length ∧ ((ts.filterMap (nmF env line)).length = ts.length → ts.all (locLn sc line) = true)
  | [] => ⟨Nat.le_refl _, fun _ => rfl⟩
  | t :: ts => by
    have ih := filt_len (line := line) he ts
    cases q : nmF env line t with
    | none =>
      rw [List.filterMap_cons_none q, List.length_cons]
      exact ⟨by omega, fun h => by omega⟩
    | some y =>
      rw [List.filterMap_cons_some q, List.length_cons, List.length_cons]
      refine ⟨by omega, fun h => ?_⟩
      rw [List.all_cons, nmF_some he q, ih.2 (by omega)]; rfl
theorem locLn_nm {sc : Scope} {line : Nat} {env : PySem.Env} (he : env.scope = sc) {x : PySem.Str} {p : Pos} (h : locLn sc line (.Name x p) = true) : nmF env line (.Name x p) = some x := by
  simp only [locLn, Bool.and_eq_true] at h
  have hk := locl_look h.1
  have : env.kindOf x = some NameKind.local := by rw [← he] at hk; exact hk
  simp only [nmF, this, h.2, Bool.and_true]
  rfl
theorem sw_none {sc : Scope} {env : PySem.Env} {ts vs : List Expr} {k k2 : Nat} {p p2 : Pos} (he : env.scope = sc) (h : noSw sc ts vs = true) : swappedStores [.Tuple ts k p] (.Tuple vs k2 p2) env = pure none := by
  unfold swappedStores
  simp only [noSw, Bool.or_eq_true] at h
  simp only [pure_bind]
  split
  · rfl
  · rename_i h1
    split
    · rfl
    · rename_i h2
      split
      · rfl
      · rename_i h3
        split
        · rfl
        · rename_i h4
          exfalso
          have hf := filt_len (line := lineOf ts) he ts
          simp only [Bool.or_eq_true, not_or, Bool.not_eq_true] at h1 h3
          rcases h with ((h | h) | h) | h
          · rw [h] at h1; exact absurd h1.1.1 (by decide)
          · rw [h] at h1; exact absurd h1.1.2 (by decide)
          · have h5 := hf.2 (by
              have := h3.1
              simp only [bne_eq_false_iff_eq] at this
              exact this)
            rw [h5] at h
            cases h
          · exact h4 h
theorem any_star {vs : List Expr} (h : vs.all (fun x => !strT x) = true) : (vs.any fun | .Starred .. => true | _ => false) = false := by
  induction vs with
  | nil => rfl
  | cons v vs ih =>
    rw [List.all_cons, Bool.and_eq_true] at h
    rw [List.any_cons, ih h.2, Bool.or_false]
    cases v <;> first | rfl | (simp [strT] at h)
theorem sw_two {sc : Scope} {env : PySem.Env} {x y : PySem.Str} {px py : Pos} {vs : List Expr} {k k2 : Nat} {p p2 : Pos} (he : env.scope = sc) (hk : sc.kind = .function) (hxy : x ≠ y) (h : yesSw sc [.Name x px, .Name y py] vs = true) :
    swappedStores [.Tuple [.Name x px, .Name y py] k p] (.Tuple vs k2 p2) env = pure (some [x, y]) := by
  simp only [yesSw, Bool.and_eq_true, Bool.not_eq_true', List.all_cons, List.all_nil, Bool.and_true] at h
  obtain ⟨⟨⟨⟨⟨h1, h2⟩, h3⟩, h4⟩, h5⟩, h6⟩ := h
  have hb : env.blockKind = .function := by unfold Env.blockKind; rw [he, hk]; rfl
  have n1 := locLn_nm he h3.1
  have n2 := locLn_nm he h3.2
  have hf : ([Expr.Name x px, Expr.Name y py].filterMap (nmF env (lineOf [Expr.Name x px, Expr.Name y py]))) = [x, y] := by
    rw [List.filterMap_cons_some n1, List.filterMap_cons_some n2]; rfl
  have hd : ([x, y] : List PySem.Str).eraseDups = [x, y] := by
    rw [List.eraseDups_cons]
    have : (y == x) = false := beq_eq_false_iff_ne.mpr (Ne.symm hxy)
    simp [this, List.eraseDups_cons]
  unfold swappedStores
  simp only [pure_bind]
  split
  · rename_i h
    exfalso
    have h : (!([Expr.Name x px, Expr.Name y py].length == 2 || [Expr.Name x px, Expr.Name y py].length == 3) || vs.length != [Expr.Name x px, Expr.Name y py].length || env.blockKind != .function) = true := h
    rw [hb, bne, h2] at h
    exact absurd h (by simp)
  · split
    · rename_i h
      exact absurd (h.symm.trans (any_star h6)) (by decide)
    · split
      · rename_i h
        exfalso
        have h : (([Expr.Name x px, Expr.Name y py].filterMap (nmF env (lineOf [Expr.Name x px, Expr.Name y py]))).length != [Expr.Name x px, Expr.Name y py].length || ([Expr.Name x px, Expr.Name y py].filterMap (nmF env (lineOf [Expr.Name x px, Expr.Name y py]))).eraseDups.length != ([Expr.Name x px, Expr.Name y py].filterMap (nmF env (lineOf [Expr.Name x px, Expr.Name y py]))).length) = true := h
        rw [hf, hd] at h
        exact absurd h (by simp)
      · split
        · rename_i h
          exact absurd (h.symm.trans h4) (by decide)
        · split
          · rename_i h
            exact absurd (h.symm.trans h5) (by decide)
          · show pure (some ([Expr.Name x px, Expr.Name y py].filterMap (nmF env (lineOf [Expr.Name x px, Expr.Name y py])))) = _
            rw [hf]
theorem sw_three {sc : Scope} {env : PySem.Env} {x y z : PySem.Str} {px py pz : Pos} {vs : List Expr} {k k2 : Nat} {p p2 : Pos} (he : env.scope = sc) (hk : sc.kind = .function) (hxy : x ≠ y) (hxz : x ≠ z) (hyz : y ≠ z) (h : yesSw sc [.Name x px, .Name y py, .Name z pz] vs = true) :
    swappedStores [.Tuple [.Name x px, .Name y py, .Name z pz] k p] (.Tuple vs k2 p2) env = pure (some [x, y, z]) := by
  simp only [yesSw, Bool.and_eq_true, Bool.not_eq_true', List.all_cons, List.all_nil, Bool.and_true] at h
  obtain ⟨⟨⟨⟨⟨h1, h2⟩, h3⟩, h4⟩, h5⟩, h6⟩ := h
  have hb : env.blockKind = .function := by unfold Env.blockKind; rw [he, hk]; rfl
  have n1 := locLn_nm he h3.1
  have n2 := locLn_nm he h3.2.1
  have n3 := locLn_nm he h3.2.2
  have hf : ([Expr.Name x px, Expr.Name y py, Expr.Name z pz].filterMap (nmF env (lineOf [Expr.Name x px, Expr.Name y py, Expr.Name z pz]))) = [x, y, z] := by
    rw [List.filterMap_cons_some n1, List.filterMap_cons_some n2, List.filterMap_cons_some n3]; rfl
  have hd : ([x, y, z] : List PySem.Str).eraseDups = [x, y, z] := by
    rw [List.eraseDups_cons]
    have e1 : (y == x) = false := beq_eq_false_iff_ne.mpr (Ne.symm hxy)
    have e2 : (z == x) = false := beq_eq_false_iff_ne.mpr (Ne.symm hxz)
    have e3 : (z == y) = false := beq_eq_false_iff_ne.mpr (Ne.symm hyz)
    simp [e1, e2, e3, List.eraseDups_cons]
  unfold swappedStores
  simp only [pure_bind]
  split
  · rename_i h
    exfalso
    have h : (!([Expr.Name x px, Expr.Name y py, Expr.Name z pz].length == 2 || [Expr.Name x px, Expr.Name y py, Expr.Name z pz].length == 3) || vs.length != [Expr.Name x px, Expr.Name y py, Expr.Name z pz].length || env.blockKind != .function) = true := h
    rw [hb, bne, h2] at h
    exact absurd h (by simp)
  · split
    · rename_i h
      exact absurd (h.symm.trans (any_star h6)) (by decide)
    · split
      · rename_i h
        exfalso
        have h : (([Expr.Name x px, Expr.Name y py, Expr.Name z pz].filterMap (nmF env (lineOf [Expr.Name x px, Expr.Name y py, Expr.Name z pz]))).length != [Expr.Name x px, Expr.Name y py, Expr.Name z pz].length || ([Expr.Name x px, Expr.Name y py, Expr.Name z pz].filterMap (nmF env (lineOf [Expr.Name x px, Expr.Name y py, Expr.Name z pz]))).eraseDups.length != ([Expr.Name x px, Expr.Name y py, Expr.Name z pz].filterMap (nmF env (lineOf [Expr.Name x px, Expr.Name y py, Expr.Name z pz]))).length) = true := h
        rw [hf, hd] at h
        exact absurd h (by simp)
      · split
        · rename_i h
          exact absurd (h.symm.trans h4) (by decide)
        · split
          · rename_i h
            exact absurd (h.symm.trans h5) (by decide)
          · show pure (some ([Expr.Name x px, Expr.Name y py, Expr.Name z pz].filterMap (nmF env (lineOf [Expr.Name x px, Expr.Name y py, Expr.Name z pz])))) = _
            rw [hf]
end PL

set_option autoImplicit false
set_option linter.all false
set_option maxRecDepth 100000
set_option maxHeartbeats 4000000
/-! PL11: the check of statements; each statement by its parts. -/
namespace PL
open PySem PySem.Spec PyProof.Rows L2
section
variable (ar : String → Option Nat) (fr : String → Bool) (N : List PySem.Str)
def fb1 : PySem.Str → Bool := fun _ => true
/-- the local name of the slot i -/
def nmB (sc : Scope) (i : Nat) (x : PySem.Str) : Bool := decide (N[i]? = some x) && (visB sc x && nmOk x)
def isTupX (x : Expr) : Option (List Expr) := match x with
  | .Tuple xs _ _ => some xs
  | _ => none
/-- o.m(..) with o the slot i -/
def mB (sc : Scope) (i : Nat) (m : String) (f : Expr) (cpos : Pos) : Bool := match f with
  | .Attribute (.Name x _) a apos => nmB N sc i x && (decide (a = sx m) && (apos.endLine == cpos.line))
  | _ => false
def mdO (o : Bool) : Md := if o = true then .own else .val
mutual
def chkS : S → Scope → Stmt → Bool
  | .asg t e, sc, x => (match x with
    | .Assign [tg] v _ => chkT N fb1 t sc tg && (chkE ar fr N e .val sc v && (match tg with
        | .Tuple ts _ _ => (match isTupX v with
          | some vs => noSw sc ts vs
          | none => true)
        | _ => true))
    | _ => false)
  | .own i e, sc, x => (match x with
    | .Assign [.Name y _] v _ => decide (N[i]? = some y) && (locB sc y && chkE ar fr N e .own sc v)
    | _ => false)
  | .par i j oi oj a b, sc, x => (match x with
    | .Assign [.Tuple [.Name x px, .Name y py] _ _] (.Tuple [v, w] _ _) _ => decide (N[i]? = some x) && (decide (N[j]? = some y) && (decide (i ≠ j) && (((loclB sc x && (loclB sc y && yesSw sc [.Name x px, .Name y py] [v, w])) || (locB sc x && (locB sc y && noSw sc [.Name x px, .Name y py] [v, w]))) &&
        (chkE ar fr N a (mdO oi) sc v && chkE ar fr N b (mdO oj) sc w))))
    | _ => false)
  | .par3 i j l oi oj ol a b c, sc, x => (match x with
    | .Assign [.Tuple [.Name x px, .Name y py, .Name z pz] _ _] (.Tuple [u, v, w] _ _) _ => decide (N[i]? = some x) && (decide (N[j]? = some y) && (decide (N[l]? = some z) && (decide (i ≠ j) && (decide (i ≠ l) && (decide (j ≠ l) &&
        (((loclB sc x && (loclB sc y && (loclB sc z && yesSw sc [.Name x px, .Name y py, .Name z pz] [u, v, w]))) || (locB sc x && (locB sc y && (locB sc z && noSw sc [.Name x px, .Name y py, .Name z pz] [u, v, w])))) &&
          (chkE ar fr N a (mdO oi) sc u && (chkE ar fr N b (mdO oj) sc v && chkE ar fr N c (mdO ol) sc w))))))))
    | _ => false)
  | .sto i k e, sc, x => (match x with
    | .Assign [.Subscript (.Name y _) z _] v _ => nmB N sc i y && (chkE ar fr N k .bor sc z && chkE ar fr N e .val sc v)
    | _ => false)
  | .sto2 i j k l a b, sc, x => (match x with
    | .Assign [.Tuple [.Subscript (.Name y _) z _, .Subscript (.Name y2 _) z2 _] _ _] (.Tuple [v, w] _ _) _ => nmB N sc i y && (nmB N sc j y2 && (chkE ar fr N k .bor sc z && (chkE ar fr N l .bor sc z2 && (chkE ar fr N a .val sc v && chkE ar fr N b .val sc w))))
    | _ => false)
  | .app i e, sc, x => (match x with
    | .Expr (.Call f [v] [] cp) _ => mB N sc i "append" f cp && chkE ar fr N e .val sc v
    | _ => false)
  | .ins i k e, sc, x => (match x with
    | .Expr (.Call f [z, v] [] cp) _ => mB N sc i "insert" f cp && (chkE ar fr N k .bor sc z && chkE ar fr N e .val sc v)
    | _ => false)
  | .ext i e, sc, x => (match x with
    | .Expr (.Call f [v] [] cp) _ => mB N sc i "extend" f cp && chkE ar fr N e .bor sc v
    | _ => false)
  | .aug i o e, sc, x => (match x with
    | .AugAssign (.Name y _) p v _ => opB o p && (decide (N[i]? = some y) && (locB sc y && chkE ar fr N e .bor sc v))
    | _ => false)
  | .agl i e, sc, x => (match x with
    | .AugAssign (.Name y _) .Add v _ => decide (N[i]? = some y) && (locB sc y && chkE ar fr N e .bor sc v)
    | _ => false)
  | .pop t i, sc, x => (match x with
    | .Assign [tg] (.Call f [] [] cp) _ => mB N sc i "pop" f cp && chkT N fb1 t sc tg
    | _ => false)
  | .frz _, _, _ => false
  | .iff c a b, sc, x => (match x with
    | .If t y z _ => chkE ar fr N c .bor sc t && (chkSs a sc y && chkSs b sc z)
    | _ => false)
  | .whl c a, sc, x => (match x with
    | .While t y [] _ => chkE ar fr N c .bor sc t && chkSs a sc y
    | _ => false)
  | .fr t k es a, sc, x => (match x with
    | .For tg it y [] _ => chkT N fb1 t sc tg && (chkI ar fr N k (isTup t) es .val sc it && chkSs a sc y)
    | _ => false)
  | .ret e, sc, x => (match x with
    | .Return (some v) _ => chkE ar fr N e .val sc v
    | _ => false)
  | .retN, _, x => (match x with
    | .Return none _ => true
    | _ => false)
  | .brk, _, x => (match x with
    | .Break _ => true
    | _ => false)
  | .cnt, _, x => (match x with
    | .Continue _ => true
    | _ => false)
  | .pas, _, x => (match x with
    | .Pass _ => true
    | _ => false)
  | .bad, _, _ => true
def chkSs : List S → Scope → List Stmt → Bool
  | [], _, xs => (match xs with
    | [] => true
    | _ => false)
  | s :: r, sc, xs => (match s with
    | .frz _ => chkSs r sc xs
    | s => (match xs with
      | x :: xs => chkS s sc x && chkSs r sc xs
      | [] => false))
end
end
section
variable {β : Type} (Y : Sys β)
/-- within a call: from (B0, H0) one has come to (B, H) -/
structure Cur (bp bq : Addr) (B0 H0 B H : Hp) (ρ : Env) (σ : L2.St) (b : β) : Prop where
  g : Good Y bp bq B H b
  r : RepE Y bp bq B H ρ σ
  x : Ext bp bq B0 B H0 H
  nw : ∀ (i : Nat) xs p, ρ[i]? = some (.ow xs) → σ[i]? = some (some (.ref p)) → H0 p = none
def EndOk (bp : Addr) (D : Ends) (fl : Fl) (σ : L2.St) (B H : Hp) : Prop := match fl with
  | .nx => D.nx σ H
  | .bk => D.bk σ H
  | .ct => D.ct σ H
  | .rt d => ∀ v, Rep Y.K Y.mg bp B d v → D.rt v H
def lS (m : Env → M β (Fl × Env)) : TS := fun D σ H => ∃ bp bq B0 H0 B ρ b fl ρ' b', Cur Y bp bq B0 H0 B H ρ σ b ∧ m ρ b = .ok (fl, ρ') b' ∧
  ∀ σ' B' H', Cur Y bp bq B0 H0 B' H' ρ' σ' b' → EndOk Y bp D fl σ' B' H'
end
section
variable {β : Type} {Y : Sys β} {k : Nat} {N : List PySem.Str} {sc : Scope} {X : Cx} {md : Md} {bp bq : Addr} {B0 H0 B B' H H' : Hp} {ρ : Env} {σ : L2.St} {b b' : β}
noncomputable abbrev exY (Y : Sys β) (k : Nat) (s : S) (ρ : Env) : M β (Fl × Env) := ex Y.pr.gl (PL.call Y.pr k) s ρ
noncomputable abbrev exsY (Y : Sys β) (k : Nat) (s : List S) (ρ : Env) : M β (Fl × Env) := exs Y.pr.gl (PL.call Y.pr k) s ρ
theorem PS.imp {X : Cx} {e : Stmt} {t t' : TS} (h : PS X e t) (i : ∀ D σ H, t' D σ H → t D σ H) : PS X e t' := ⟨fun pins s σ H D I q => h.run pins s σ H D I (i D σ H q)⟩
theorem PSs.imp {X : Cx} {e : List Stmt} {t t' : TS} (h : PSs X e t) (i : ∀ D σ H, t' D σ H → t D σ H) : PSs X e t' := ⟨fun pins s σ H D I q => h.run pins s σ H D I (i D σ H q)⟩
theorem Cur.ext (c : Cur Y bp bq B0 H0 B H ρ σ b) (x : Ext bp bq B B' H H') (g : Good Y bp bq B' H' b') : Cur Y bp bq B0 H0 B' H' ρ σ b' := ⟨g, c.r.ext x g, c.x.trans x g, c.nw⟩
/-- an expression's value, on the way -/
theorem Cur.ev {md : Md} {e : E} {d : D} {b1 : β} {Q : VK} (c : Cur Y bp bq B0 H0 B H ρ σ b) (h : evY Y k e ρ b = .ok d b1)
    (q : ∀ B1 H1 v, Cur Y bp bq B0 H0 B1 H1 ρ σ b1 → RepM Y.K Y.mg bp bq md H0 B1 H1 d v → Ext bp bq B B1 H H1 → Q v H1) : lE Y k md e σ H Q :=
  ⟨bp, bq, B, ρ, b, d, b1, c.g, c.r, h, fun B1 H1 v x g r => q B1 H1 v (c.ext x g) (r.back c.x c.g) x⟩
theorem Cur.tst {e : E} {t : Bool} {b1 : β} {Q : Bool → Hp → Prop} (c : Cur Y bp bq B0 H0 B H ρ σ b) (h : tst Y.pr.gl (PL.call Y.pr k) e ρ b = .ok t b1)
    (q : ∀ B1 H1, Cur Y bp bq B0 H0 B1 H1 ρ σ b1 → Q t H1) : lT Y (tstY Y k e) σ H Q :=
  ⟨bp, bq, B, ρ, b, t, b1, c.g, c.r, h, fun B1 H1 x g => q B1 H1 (c.ext x g)⟩
theorem nxt_ok {ρ ρ' : Env} {fl : Fl} {b b' : β} (h : nxt ρ b = .ok (fl, ρ') b') : fl = .nx ∧ ρ' = ρ ∧ b' = b := by
  have h : R.ok (Fl.nx, ρ) b = R.ok (fl, ρ') b' := h
  cases h
  exact ⟨rfl, rfl, rfl⟩
/-- a slot gets a datum -/
theorem Cur.set {d : D} {v : V} (c : Cur Y bp bq B0 H0 B H ρ σ b) (h : Rep Y.K Y.mg bp B d v) (i : Nat) : Cur Y bp bq B0 H0 B H (ρ.set i (.im d)) (σ.set i (some v)) b where
  g := c.g
  r := c.r.set h i
  x := c.x
  nw := fun j xs p e1 e2 => by
    by_cases hj : i = j
    · subst hj
      have hl : i < ρ.length := by
        have := (List.getElem?_eq_some_iff.mp e1).1
        rwa [List.length_set] at this
      rw [List.getElem?_set_self hl] at e1; cases e1
    · rw [List.getElem?_set_ne hj] at e1 e2
      exact c.nw j xs p e1 e2
/-- a slot gets a list of its own, at a place that no other slot has -/
theorem Cur.own {xs : List D} {vs : List V} {p : Addr} (c : Cur Y bp bq B0 H0 B H ρ σ b) (i : Nat) (h1 : H p = some (.lst vs)) (h2 : B p = none) (h3 : H0 p = none) (h4 : p ≠ bp) (h5 : p ≠ bq) (h6 : RepL Y.K Y.mg bp B xs vs)
    (hd : ∀ (j : Nat) ys q, j ≠ i → ρ[j]? = some (.ow ys) → σ[j]? = some (some (.ref q)) → q ≠ p) : Cur Y bp bq B0 H0 B H (ρ.set i (.ow xs)) (σ.set i (some (.ref p))) b where
  g := c.g
  r := {
    len := by rw [List.length_set, List.length_set]; exact c.r.len
    im := fun j d' e => by
      by_cases hj : i = j
      · subst hj
        have hl : i < ρ.length := by
          have := (List.getElem?_eq_some_iff.mp e).1
          rwa [List.length_set] at this
        rw [List.getElem?_set_self hl] at e; cases e
      · rw [List.getElem?_set_ne hj] at e ⊢
        exact c.r.im j d' e
    ow := fun j ys e => by
      by_cases hj : i = j
      · subst hj
        have hl : i < ρ.length := by
          have := (List.getElem?_eq_some_iff.mp e).1
          rwa [List.length_set] at this
        rw [List.getElem?_set_self hl] at e; cases e
        exact ⟨p, vs, List.getElem?_set_self (by rw [c.r.len]; exact hl), h1, h2, h4, h5, h6⟩
      · rw [List.getElem?_set_ne hj] at e ⊢
        exact c.r.ow j ys e
    dj := fun j l ys zs q hne e1 e2 e3 e4 => by
      by_cases hj : i = j
      · subst hj
        have hl : i < ρ.length := by
          have := (List.getElem?_eq_some_iff.mp e1).1
          rwa [List.length_set] at this
        rw [List.getElem?_set_self (by rw [c.r.len]; exact hl)] at e3; cases e3
        rw [List.getElem?_set_ne hne] at e2 e4
        exact hd l zs p (Ne.symm hne) e2 e4 rfl
      · rw [List.getElem?_set_ne hj] at e1 e3
        by_cases hl : i = l
        · subst hl
          have hl : i < ρ.length := by
            have := (List.getElem?_eq_some_iff.mp e2).1
            rwa [List.length_set] at this
          rw [List.getElem?_set_self (by rw [c.r.len]; exact hl)] at e4; cases e4
          exact hd j ys p (fun z => hj z.symm) e1 e3 rfl
        · rw [List.getElem?_set_ne hl] at e2 e4
          exact c.r.dj j l ys zs q hne e1 e2 e3 e4 }
  x := c.x
  nw := fun j ys q e1 e2 => by
    by_cases hj : i = j
    · subst hj
      have hl : i < ρ.length := by
        have := (List.getElem?_eq_some_iff.mp e1).1
        rwa [List.length_set] at this
      rw [List.getElem?_set_self (by rw [c.r.len]; exact hl)] at e2; cases e2
      exact h3
    · rw [List.getElem?_set_ne hj] at e1 e2
      exact c.nw j ys q e1 e2
/-- the own list of a slot is changed -/
theorem Cur.upd {xs ys : List D} {ws : List V} {p : Addr} (c : Cur Y bp bq B0 H0 B H ρ σ b) {i : Nat} (e : ρ[i]? = some (.ow xs)) (e2 : σ[i]? = some (some (.ref p))) (r : RepL Y.K Y.mg bp B ys ws) :
    Cur Y bp bq B0 H0 B (L2.upd H p (.lst ws)) (ρ.set i (.ow ys)) σ b := by
  obtain ⟨p', vs', h1, h2, h3, h4, h5, h6⟩ := c.r.ow i xs e
  rw [e2] at h1; cases h1
  have hl : i < ρ.length := (List.getElem?_eq_some_iff.mp e).1
  have h0 := c.nw i xs p e e2
  refine ⟨⟨?_, c.g.b1, c.g.b2, by rw [upd_ne h4.symm]; exact c.g.h1, by rw [upd_ne h5.symm]; exact c.g.h2⟩, ⟨by rw [List.length_set]; exact c.r.len, fun j d h => ?_, fun j zs h => ?_, fun j l zs zs' q hne f1 f2 f3 f4 => ?_⟩, ⟨c.x.bs, c.x.fr, fun a n1 n2 h => by rw [upd_ne fun z => h (by rw [z]; exact h0)]; exact c.x.kp a n1 n2 h⟩, fun j zs q f1 f2 => ?_⟩
  · intro a o ha
    rw [upd_ne fun z => by rw [z, h3] at ha; cases ha]
    exact c.g.sub a o ha
  · by_cases hj : i = j
    · subst hj
      rw [List.getElem?_set_self hl] at h; cases h
    · rw [List.getElem?_set_ne hj] at h
      exact c.r.im j d h
  · by_cases hj : i = j
    · subst hj
      rw [List.getElem?_set_self hl] at h; cases h
      exact ⟨p, ws, e2, upd_same, h3, h4, h5, r⟩
    · rw [List.getElem?_set_ne hj] at h
      obtain ⟨q, us, g1, g2, g3, g4, g5, g6⟩ := c.r.ow j zs h
      exact ⟨q, us, g1, by rw [upd_ne fun z => by rw [z] at g1; exact c.r.dj i j xs zs p hj e h e2 g1]; exact g2, g3, g4, g5, g6⟩
  · by_cases hj : i = j
    · subst hj
      rw [List.getElem?_set_ne hne] at f2
      rw [e2] at f3; cases f3
      exact c.r.dj i l xs zs' p hne e f2 e2 f4
    · rw [List.getElem?_set_ne hj] at f1
      by_cases hl2 : i = l
      · subst hl2
        rw [e2] at f4; cases f4
        exact c.r.dj j i zs xs p hne f1 e f3 e2
      · rw [List.getElem?_set_ne hl2] at f2
        exact c.r.dj j l zs zs' q hne f1 f2 f3 f4
  · by_cases hj : i = j
    · subst hj
      rw [e2] at f2; cases f2
      exact h0
    · rw [List.getElem?_set_ne hj] at f1
      exact c.nw j zs q f1 f2
/-- an own list becomes a datum -/
theorem Cur.frz {xs : List D} (c : Cur Y bp bq B0 H0 B H ρ σ b) {i : Nat} (e : ρ[i]? = some (.ow xs)) : ∃ B', Cur Y bp bq B0 H0 B' H (ρ.set i (.im (.lst xs))) σ b := by
  obtain ⟨p, vs, h1, h2, h3, h4, h5, h6⟩ := c.r.ow i xs e
  have h0 := c.nw i xs p e h1
  have hl : i < ρ.length := (List.getElem?_eq_some_iff.mp e).1
  have hB : Same B (L2.upd B p (.lst vs)) := same_upd h3
  refine ⟨L2.upd B p (.lst vs), ⟨?_, by rw [upd_ne h4.symm]; exact c.g.b1, by rw [upd_ne h5.symm]; exact c.g.b2, c.g.h1, c.g.h2⟩, ⟨by rw [List.length_set]; exact c.r.len, fun j d h => ?_, fun j zs h => ?_, fun j l zs zs' q hne f1 f2 f3 f4 => ?_⟩, ⟨c.x.bs.trans hB, fun a n1 n2 => ?_, c.x.kp⟩, fun j zs q f1 f2 => ?_⟩
  · intro a o ha
    by_cases z : a = p
    · subst z; rw [upd_same] at ha; rw [h2]; exact ha
    · rw [upd_ne z] at ha; exact c.g.sub a o ha
  · by_cases hj : i = j
    · subst hj
      rw [List.getElem?_set_self hl] at h; cases h
      refine ⟨.ref p, h1, ?_⟩
      simp only [Rep]
      exact ⟨p, vs, rfl, upd_same, RepL.mono hB _ _ h6⟩
    · rw [List.getElem?_set_ne hj] at h
      obtain ⟨v, g1, g2⟩ := c.r.im j d h
      exact ⟨v, g1, Rep.mono hB _ _ g2⟩
  · by_cases hj : i = j
    · subst hj
      rw [List.getElem?_set_self hl] at h; cases h
    · rw [List.getElem?_set_ne hj] at h
      obtain ⟨q, us, g1, g2, g3, g4, g5, g6⟩ := c.r.ow j zs h
      exact ⟨q, us, g1, g2, by rw [upd_ne fun z => by rw [z] at g1; exact c.r.dj i j xs zs p hj e h h1 g1]; exact g3, g4, g5, RepL.mono hB _ _ g6⟩
  · by_cases hj : i = j
    · subst hj
      rw [List.getElem?_set_self hl] at f1; cases f1
    · rw [List.getElem?_set_ne hj] at f1
      by_cases hl2 : i = l
      · subst hl2
        rw [List.getElem?_set_self hl] at f2; cases f2
      · rw [List.getElem?_set_ne hl2] at f2
        exact c.r.dj j l zs zs' q hne f1 f2 f3 f4
  · by_cases z : a = p
    · rw [z]; exact h0
    · rw [upd_ne z] at n1; exact c.x.fr a n1 n2
  · by_cases hj : i = j
    · subst hj
      rw [List.getElem?_set_self hl] at f1; cases f1
    · rw [List.getElem?_set_ne hj] at f1
      exact c.nw j zs q f1 f2
end
end PL

set_option autoImplicit false
set_option linter.all false
set_option maxRecDepth 100000
set_option maxHeartbeats 4000000
/-! PL12: the statements' soundness. -/
namespace PL
open PySem PySem.Spec PyProof.Rows L2
section
variable {β : Type} {Y : Sys β} {k : Nat} {N : List PySem.Str} {sc : Scope} {X : Cx} {md : Md}
def FnT (X : Cx) : Prop := ∀ x, X.fn x = true
def Calls (Y : Sys β) (k : Nat) : Prop := ∀ x n, Y.ar x = some n → Callee Y k x n
theorem lc_shape {e : E} {md : Md} {elt : Expr} {gs : List Comprehension} {scope : Scope} {pos : Pos} (h : chkE Y.ar Y.fr N e md sc (.ListComp elt gs scope pos) = true) : ∃ e' t ik es cs own, e = .comp e' t ik es cs own := by
  cases e <;> first | exact ⟨_, _, _, _, _, _, rfl⟩ | (simp [chkE] at h; done) | skip
theorem sw_false {e : E} {md : Md} {v : Expr} {tg : Option Expr} {l : Nat} {env : PySem.Env} (h : chkE Y.ar Y.fr N e md sc v = true) (hv : ∀ a b c d, v ≠ .ListComp a b c d) : swapsWith v tg l env = pure false := by
  cases v with
  | ListComp a b c d => exact absurd rfl (hv a b c d)
  | SetComp a b c d => cases e <;> simp [chkE] at h
  | DictComp a b c d e' => cases e <;> simp [chkE] at h
  | _ => rfl
/-- name = value -/
theorem set_ok (O : Y.Ok) (F : Calls Y k) (C : CxOk Y k N sc X) (hf : FnT X) {i : Nat} {y : PySem.Str} {py pos : Pos} {e : E} {v : Expr} (h : chkE Y.ar Y.fr N e md sc v = true) (hi : N[i]? = some y) (hy : locB sc y = true) :
    PS X (.Assign [.Name y py] v pos) (tAsg (lE Y k md e) (gName i)) := by
  have hpe := (snd O F e md sc v h X C).1
  have hloc : L2.Loc X.env.scope y := by rw [C.xsc]; exact loc_of hy
  have hN : X.N.Nodup := by rw [C.xN]; exact C.nd
  have hi' : X.N[i]? = some y := by rw [C.xN]; exact hi
  by_cases hv : ∃ a b c d, v = .ListComp a b c d
  · obtain ⟨elt, gs, scope, pos', rfl⟩ := hv
    obtain ⟨e', t, ik, es, cs, own, rfl⟩ := lc_shape h
    obtain ⟨elt', tg, it, ifs, scope', pos'', ev, P⟩ := comp_parts O (snd O F e') (sndL O F es) (sndL O F cs) h C
    cases ev
    have hsw : ∃ t : Bool, swapsWith (.ListComp elt [⟨tg, it, ifs, 0⟩] scope pos') (some (.Name y py)) pos.line X.env = pure t ∧ (t = true → X.env.kindOf y = some .local) := by
      refine ⟨X.env.blockKind == .function && X.env.kindOf y == some .local && py.line == (Expr.ListComp elt [⟨tg, it, ifs, 0⟩] scope pos').pos.line && !(scope.names.any fun (n, k) => n == y && (k == .local || k == .cell)), rfl, fun h => ?_⟩
      simp only [Bool.and_eq_true] at h
      have h1 := h.1.1.2
      cases q : X.env.kindOf y with
      | none => rw [q] at h1; cases h1
      | some kk => rw [q] at h1; cases kk <;> first | rfl | cases h1
    obtain ⟨t', hsw, hl⟩ := hsw
    cases t' with
    | false => exact ps_set hN hi' hloc hpe hsw (.inl (hf y))
    | true =>
      refine PS.imp (ps_setLc (own := ownS N own) (wi := lI Y k .bor ik es) (g := lG Y t) (tt := lC Y k cs) (te := lE Y k .val e') C.calm hN hi' (hl rfl) hsw P.hit P.ok P.hg P.ht P.he P.hs) fun D σ H q => ?_
      have q : lE Y k md (.comp e' t ik es cs own) σ H (fun x H1 => gName i x σ H1 D.nx) := q
      have q2 := comp_rd P.sub σ H _ q
      show tLc (lI Y k .bor ik es) (lG Y t) (lC Y k cs) (lE Y k .val e') ((ownS N own).map (·.2)) σ H (fun x H1 => gName i x σ H1 D.nx)
      rw [ownS_snd]
      exact q2
  · exact ps_set hN hi' hloc hpe (sw_false h fun a b c d z => hv ⟨a, b, c, d, z⟩) (.inl (hf y))
/-- what a target leaves of own lists -/
theorem set_ow {ρ : Env} {i j : Nat} {d : D} {xs : List D} (h : (ρ.set i (.im d))[j]? = some (.ow xs)) : j ≠ i ∧ ρ[j]? = some (.ow xs) := by
  by_cases hj : i = j
  · subst hj
    have hl : i < ρ.length := by
      have := (List.getElem?_eq_some_iff.mp h).1
      rwa [List.length_set] at this
    rw [List.getElem?_set_self hl] at h; cases h
  · rw [List.getElem?_set_ne hj] at h
    exact ⟨Ne.symm hj, h⟩
mutual
theorem bind_ow : ∀ (t : Tg) (d : D) (ρ ρ' : Env) (j : Nat) (xs : List D), bindT t d ρ = some ρ' → ρ'[j]? = some (.ow xs) → j ∉ slotsT t ∧ ρ[j]? = some (.ow xs)
  | .nm i, d, ρ, ρ', j, xs, h, e => by
    simp only [bindT, Option.some.injEq] at h; subst h
    have := set_ow e
    exact ⟨by simp [slotsT, this.1], this.2⟩
  | .tu ts, d, ρ, ρ', j, xs, h, e => by
    cases d with
    | tup ds =>
      simp only [bindT] at h
      simpa only [slotsT] using binds_ow ts ds ρ ρ' j xs h e
    | _ => simp [bindT] at h
theorem binds_ow : ∀ (ts : List Tg) (ds : List D) (ρ ρ' : Env) (j : Nat) (xs : List D), bindTs ts ds ρ = some ρ' → ρ'[j]? = some (.ow xs) → j ∉ slotsTs ts ∧ ρ[j]? = some (.ow xs)
  | [], [], ρ, ρ', j, xs, h, e => by
    simp only [bindTs, Option.some.injEq] at h; subst h
    exact ⟨by simp [slotsTs], e⟩
  | [], _ :: _, _, _, _, _, h, _ => by simp [bindTs] at h
  | _ :: _, [], _, _, _, _, h, _ => by simp [bindTs] at h
  | t :: ts, d :: ds, ρ, ρ', j, xs, h, e => by
    simp only [bindTs, Option.bind_eq_some_iff] at h
    obtain ⟨ρ1, h1, h2⟩ := h
    have a := binds_ow ts ds ρ1 ρ' j xs h2 e
    have c := bind_ow t d ρ ρ1 j xs h1 a.2
    exact ⟨by simp only [slotsTs, List.mem_append, not_or]; exact ⟨c.1, a.1⟩, c.2⟩
end
theorem Cur.tg {bp bq : Addr} {B0 H0 B H : Hp} {ρ ρ' : Env} {σ : L2.St} {b : β} {t : Tg} {d : D} {v : V} {Q : L2.St → Hp → Prop} (c : Cur Y bp bq B0 H0 B H ρ σ b) (hr : Rep Y.K Y.mg bp B d v) (e : bindT t d ρ = some ρ')
    (q : ∀ σ', Cur Y bp bq B0 H0 B H ρ' σ' b → Q σ' H) : lG Y t v σ H Q :=
  ⟨bp, bq, B, b, ρ, d, ρ', c.g, c.r, hr, e, fun σ' r' l' s' => q σ' ⟨c.g, r', c.x, fun i xs p e1 e2 => by
    have h := bind_ow t d ρ ρ' i xs e e1
    rw [s' i h.1] at e2
    exact c.nw i xs p h.2 e2⟩⟩
/-- an own list's new place is not another's -/
theorem Cur.fresh {bp bq : Addr} {B0 H0 B H Hb : Hp} {ρ : Env} {σ : L2.St} {b : β} (c : Cur Y bp bq B0 H0 B H ρ σ b) {p : Addr} (h : H p = none) : ∀ (j : Nat) ys q, ρ[j]? = some (.ow ys) → σ[j]? = some (some (.ref q)) → q ≠ p := fun j ys q e1 e2 z => by
  obtain ⟨p', vs, h1, h2, _⟩ := c.r.ow j ys e1
  rw [e2] at h1; cases h1
  rw [z, h] at h2; cases h2
section
variable (O : Y.Ok) (F : Calls Y k) (C : CxOk Y k N sc X) (hf : FnT X)
theorem s_asgT {t : Tg} {e : E} {ts : List Expr} {j : Nat} {p pos : Pos} {v : Expr} (O : Y.Ok) (F : Calls Y k) (C : CxOk Y k N sc X) (hf : FnT X) (ht : chkT N fb1 t sc (.Tuple ts j p) = true) (hv : chkE Y.ar Y.fr N e .val sc v = true) (hs : (match isTupX v with | some vs => noSw sc ts vs | none => true) = true) :
    PS X (.Assign [.Tuple ts j p] v pos) (lS Y (exY Y k (.asg t e))) := by
  have hpe := (snd O F e .val sc v hv X C).1
  have hg := g_tg C (fun x _ => .inl (hf x)) t _ ht
  have hsw : swapsWithSole [.Tuple ts j p] v pos.line X.env = pure false := by
    show swapsWith v (some (.Tuple ts j p)) pos.line X.env = pure false
    cases v with
    | SetComp a b c d => rfl
    | DictComp a b c d e' => rfl
    | _ => rfl
  have hst : swappedStores [.Tuple ts j p] v X.env = pure none := by
    cases v with
    | Tuple vs k2 p2 => exact sw_none C.xsc hs
    | _ => rfl
  refine PS.imp (ps_asg hpe hg hsw hst (by rw [asg1 (chkT_star ht)]; rfl)) fun D σ H q => ?_
  obtain ⟨bp, bq, B0, H0, B, ρ, b, fl, ρ', b', c, e0, w⟩ := q
  simp only [exY, ex] at e0
  obtain ⟨d, b1, e1, e2⟩ := bnd_ok e0
  obtain ⟨ρ1, b2, e3, e4⟩ := bnd_ok e2
  obtain ⟨f3, rfl⟩ := lft_ok e3
  obtain ⟨rfl, rfl, rfl⟩ := nxt_ok e4
  exact c.ev e1 fun B1 H1 v c1 r1 _ => c1.tg r1 f3 fun σ' c2 => w σ' B1 H1 c2
theorem s_asgN {i : Nat} {e : E} {y : PySem.Str} {py pos : Pos} {v : Expr} (O : Y.Ok) (F : Calls Y k) (C : CxOk Y k N sc X) (hf : FnT X) (hi : N[i]? = some y) (hy : locB sc y = true) (hv : chkE Y.ar Y.fr N e .val sc v = true) :
    PS X (.Assign [.Name y py] v pos) (lS Y (exY Y k (.asg (.nm i) e))) := by
  refine PS.imp (set_ok O F C hf hv hi hy) fun D σ H q => ?_
  obtain ⟨bp, bq, B0, H0, B, ρ, b, fl, ρ', b', c, e0, w⟩ := q
  simp only [exY, ex] at e0
  obtain ⟨d, b1, e1, e2⟩ := bnd_ok e0
  obtain ⟨ρ1, b2, e3, e4⟩ := bnd_ok e2
  obtain ⟨f3, rfl⟩ := lft_ok e3
  obtain ⟨rfl, rfl, rfl⟩ := nxt_ok e4
  simp only [bindT, Option.some.injEq] at f3; subst f3
  exact c.ev e1 fun B1 H1 v c1 r1 _ => w _ B1 H1 (c1.set r1 i)
theorem asL_lst {d : D} {xs : List D} (h : asL d = some xs) : d = .lst xs := by
  cases d <;> simp [asL] at h
  rw [h]
theorem s_own {i : Nat} {e : E} {y : PySem.Str} {py pos : Pos} {v : Expr} (O : Y.Ok) (F : Calls Y k) (C : CxOk Y k N sc X) (hf : FnT X) (hi : N[i]? = some y) (hy : locB sc y = true) (hv : chkE Y.ar Y.fr N e .own sc v = true) :
    PS X (.Assign [.Name y py] v pos) (lS Y (exY Y k (.own i e))) := by
  refine PS.imp (set_ok O F C hf hv hi hy) fun D σ H q => ?_
  obtain ⟨bp, bq, B0, H0, B, ρ, b, fl, ρ', b', c, e0, w⟩ := q
  simp only [exY, ex] at e0
  obtain ⟨d, b1, e1, e2⟩ := bnd_ok e0
  obtain ⟨xs, b2, e3, e4⟩ := bnd_ok e2
  obtain ⟨f3, rfl⟩ := lft_ok e3
  obtain ⟨rfl, rfl, rfl⟩ := nxt_ok e4
  have f3 := asL_lst f3
  subst f3
  refine ⟨bp, bq, B, ρ, b, _, _, c.g, c.r, e1, fun B1 H1 v x1 g1 r1 => ?_⟩
  obtain ⟨p, vs, rfl, h1, h2, h3, h4⟩ := r1 xs rfl
  have n1 : p ≠ bp := fun z => by rw [z, c.g.h1] at h1; cases h1
  have n2 : p ≠ bq := fun z => by rw [z, c.g.h2] at h1; cases h1
  exact w _ B1 H1 ((c.ext x1 g1).own i h2 h3 (c.x.back c.g h1) n1 n2 h4 fun j ys q _ f1 f2 => c.fresh (Hb := H) h1 j ys q f1 f2)
end
/-! ### lists changed in place -/
theorem nmB_var {i : Nat} {x : PySem.Str} {pos : Pos} (C : CxOk Y k N sc X) (h : nmB N sc i x = true) : PE X (.Name x pos) (tVar i) := by
  simp only [nmB, Bool.and_eq_true, decide_eq_true_eq] at h
  exact pe_var (i := i) (by rw [C.xN]; exact h.1) (by rw [C.xsc]; exact vis_of h.2.1) (nm_dbg h.2.2).1 (nm_dbg h.2.2).2.1
theorem getO_ok {ρ : Env} {i : Nat} {b b' : β} {xs : List D} (h : getO ρ i b = .ok xs b') : ρ[i]? = some (.ow xs) ∧ b' = b := by
  unfold getO at h
  cases q : ρ[i]? with
  | none => rw [q] at h; exact (stk_ok h).elim
  | some c =>
    rw [q] at h
    cases c with
    | ow ys => obtain ⟨rfl, rfl⟩ := ret_ok h; exact ⟨rfl, rfl⟩
    | un => exact (stk_ok h).elim
    | im d => exact (stk_ok h).elim
/-- what an own slot holds -/
theorem Cur.at {bp bq : Addr} {B0 H0 B H : Hp} {ρ : Env} {σ : L2.St} {b : β} {i : Nat} {xs : List D} (c : Cur Y bp bq B0 H0 B H ρ σ b) (e : ρ[i]? = some (.ow xs)) : ∃ p vs, σ[i]? = some (some (.ref p)) ∧ H p = some (.lst vs) ∧ RepL Y.K Y.mg bp B xs vs := by
  obtain ⟨p, vs, h1, h2, _, _, _, h6⟩ := c.r.ow i xs e
  exact ⟨p, vs, h1, h2, h6⟩
theorem Cur.stay {bp bq : Addr} {B0 H0 B H B1 H1 : Hp} {ρ : Env} {σ : L2.St} {b b1 : β} {p : Addr} {i : Nat} {xs : List D} (c : Cur Y bp bq B0 H0 B H ρ σ b) (c1 : Cur Y bp bq B0 H0 B1 H1 ρ σ b1) (e : ρ[i]? = some (.ow xs)) (e2 : σ[i]? = some (some (.ref p))) : ∃ vs, H1 p = some (.lst vs) ∧ RepL Y.K Y.mg bp B1 xs vs := by
  obtain ⟨p', vs, h1, h2, h6⟩ := c1.at e
  rw [e2] at h1; cases h1
  exact ⟨vs, h2, h6⟩
theorem bm_name {m : String} {i : Nat} {f : Expr} {cp : Pos} (h : mB N sc i m f cp = true) : ∃ x p p2, f = .Attribute (.Name x p) (sx m) p2 ∧ nmB N sc i x = true ∧ (p2.endLine == cp.line) = true := by
  unfold mB at h
  split at h
  · simp only [Bool.and_eq_true, decide_eq_true_eq] at h
    obtain ⟨h1, rfl, h2⟩ := h
    exact ⟨_, _, _, rfl, h1, h2⟩
  · cases h
theorem listTy {K : PySem.W.Frag} {H : Hp} {p : Addr} {vs : List V} (h : H p = some (.lst vs)) : tyV K "list" (.ref p) H := .inl ⟨rfl, _, SqL.of h⟩
theorem s_app {i : Nat} {e : E} {f v : Expr} {p pos : Pos} (O : Y.Ok) (F : Calls Y k) (C : CxOk Y k N sc X) (hm : mB N sc i "append" f p = true) (hv : chkE Y.ar Y.fr N e .val sc v = true) :
    PS X (.Expr (.Call f [v] [] p) pos) (lS Y (exY Y k (.app i e))) := by
  obtain ⟨x, px, p2, rfl, hn, hl⟩ := bm_name hm
  have hpe := (snd O F e .val sc v hv X C).1
  have st := notStar _ _ _ hv
  refine PS.imp (ps_expr (pe_bm (T := "list") (id := "list.append") PySem.F.plainAttrs_list PySem.F.slot_list_append PySem.F.type_list_append mt_append (nmB_var C hn) (pa_cons hpe pa_nil (star1 st)) rfl (by rw [star1 st]; rfl) hl (star1 st) (by rfl)) (by rfl)) fun D σ H q => ?_
  obtain ⟨bp, bq, B0, H0, B, ρ, b, fl, ρ', b', c, e0, w⟩ := q
  simp only [exY, ex] at e0
  obtain ⟨xs, b1, e1, e2⟩ := bnd_ok e0
  obtain ⟨g1, rfl⟩ := getO_ok e1
  obtain ⟨d, b2, e3, e4⟩ := bnd_ok e2
  split at e4
  · rename_i hz
    obtain ⟨rfl, rfl, rfl⟩ := nxt_ok e4
    obtain ⟨l, vs, h1, h2, h3⟩ := c.at g1
    refine ⟨_, h1, listTy h2, ?_⟩
    refine c.ev e3 fun B1 H1 y c1 r1 x1 => ?_
    obtain ⟨vs1, h4, h5⟩ := c.stay c1 g1 h1
    have hl := h5.length
    refine ⟨l, vs1, y, rfl, rfl, h4, by have := lim_le; omega, ?_⟩
    exact w σ B1 _ (c1.upd g1 h1 (h5.append (RepL.cons r1 RepL.nil)))
  · exact (stk_ok e4).elim
theorem s_ins {i : Nat} {k1 e : E} {f z v : Expr} {p pos : Pos} (O : Y.Ok) (F : Calls Y k) (C : CxOk Y k N sc X) (hm : mB N sc i "insert" f p = true) (hz : chkE Y.ar Y.fr N k1 .bor sc z = true) (hv : chkE Y.ar Y.fr N e .val sc v = true) :
    PS X (.Expr (.Call f [z, v] [] p) pos) (lS Y (exY Y k (.ins i k1 e))) := by
  obtain ⟨x, px, p2, rfl, hn, hl⟩ := bm_name hm
  have hpe := (snd O F e .val sc v hv X C).1
  have hpz := (snd O F k1 .bor sc z hz X C).1
  have st := notStar _ _ _ hv
  have sz := notStar _ _ _ hz
  refine PS.imp (ps_expr (pe_bm (T := "list") (id := "list.insert") PySem.F.plainAttrs_list PySem.F.slot_list_insert PySem.F.type_list_insert mt_insert (nmB_var C hn) (pa_cons hpz (pa_cons hpe pa_nil (star1 st)) (star1 sz)) rfl (by rw [star1 sz, star1 st]; rfl) hl (star1 sz) (by rw [star1 st]; rfl)) (by rfl)) fun D σ H q => ?_
  obtain ⟨bp, bq, B0, H0, B, ρ, b, fl, ρ', b', c, e0, w⟩ := q
  simp only [exY, ex] at e0
  obtain ⟨xs, b1, e1, e2⟩ := bnd_ok e0
  obtain ⟨g1, rfl⟩ := getO_ok e1
  obtain ⟨dz, b2, e3, e4⟩ := bnd_ok e2
  obtain ⟨kk, b3, e5, e6⟩ := bnd_ok e4
  obtain ⟨f5, hb5⟩ := lft_ok e5
  subst hb5
  obtain ⟨d, b4, e7, e8⟩ := bnd_ok e6
  cases dz with
  | int kk' =>
    simp only [toI, Option.some.injEq] at f5; subst f5
    split at e8
    · rename_i hz
      obtain ⟨rfl, rfl, rfl⟩ := nxt_ok e8
      obtain ⟨l, vs, h1, h2, h3⟩ := c.at g1
      refine ⟨_, h1, listTy h2, ?_⟩
      refine c.ev e3 fun B1 H1 y1 c1 r1 x1 => ?_
      have r1 : RepT Y.K Y.mg bp B1 H1 bq (.int kk') y1 := r1
      rw [r1.int]
      refine c1.ev e7 fun B2 H2 y c2 r2 x2 => ?_
      obtain ⟨vs1, h4, h5⟩ := c.stay c2 g1 h1
      have hl := h5.length
      refine ⟨l, vs1, kk', y, rfl, rfl, h4, by have := lim_le; omega, by omega, by omega, ?_⟩
      exact w σ B2 _ (c2.upd g1 h1 (((h5.take _).append (RepL.cons r2 RepL.nil)).append (h5.drop _)))
    · exact (stk_ok e8).elim
  | _ => simp [toI] at f5
theorem s_ext {i : Nat} {e : E} {f v : Expr} {p pos : Pos} (O : Y.Ok) (F : Calls Y k) (C : CxOk Y k N sc X) (hm : mB N sc i "extend" f p = true) (hv : chkE Y.ar Y.fr N e .bor sc v = true) :
    PS X (.Expr (.Call f [v] [] p) pos) (lS Y (exY Y k (.ext i e))) := by
  obtain ⟨x, px, p2, rfl, hn, hl⟩ := bm_name hm
  have hpe := (snd O F e .bor sc v hv X C).1
  have st := notStar _ _ _ hv
  refine PS.imp (ps_expr (pe_bm (T := "list") (id := "list.extend") PySem.F.plainAttrs_list PySem.F.slot_list_extend PySem.F.type_list_extend mt_extend (nmB_var C hn) (pa_cons hpe pa_nil (star1 st)) rfl (by rw [star1 st]; rfl) hl (star1 st) (by rfl)) (by rfl)) fun D σ H q => ?_
  obtain ⟨bp, bq, B0, H0, B, ρ, b, fl, ρ', b', c, e0, w⟩ := q
  simp only [exY, ex] at e0
  obtain ⟨xs, b1, e1, e2⟩ := bnd_ok e0
  obtain ⟨g1, rfl⟩ := getO_ok e1
  obtain ⟨d, b2, e3, e4⟩ := bnd_ok e2
  obtain ⟨ys, b3, e5, e6⟩ := bnd_ok e4
  obtain ⟨f5, hb5⟩ := lft_ok e5
  subst hb5
  have f5 := asL_lst f5
  subst f5
  split at e6
  · rename_i hz
    obtain ⟨rfl, rfl, rfl⟩ := nxt_ok e6
    obtain ⟨l, vs, h1, h2, h3⟩ := c.at g1
    refine ⟨_, h1, listTy h2, ?_⟩
    refine c.ev e3 fun B1 H1 y c1 r1 x1 => ?_
    have r1 : RepT Y.K Y.mg bp B1 H1 bq (.lst ys) y := r1
    obtain ⟨a, ws, rfl, h6, h7⟩ := r1.lst c1.g.sub
    obtain ⟨vs1, h4, h5⟩ := c.stay c1 g1 h1
    have hl := h5.length
    have hl2 := h7.length
    refine ⟨l, a, vs1, ws, rfl, rfl, h4, h6, by have := lim_le; omega, ?_⟩
    exact w σ B1 _ (c1.upd g1 h1 (h5.append h7))
  · exact (stk_ok e6).elim
theorem getV_ok {ρ : Env} {i : Nat} {b b' : β} {d : D} (h : getV ρ i b = .ok d b') : ρ[i]? = some (.im d) ∧ b' = b := by
  unfold getV at h
  cases q : ρ[i]? with
  | none => rw [q] at h; exact (stk_ok h).elim
  | some c =>
    rw [q] at h
    cases c with
    | im ys => obtain ⟨rfl, rfl⟩ := ret_ok h; exact ⟨rfl, rfl⟩
    | un => exact (stk_ok h).elim
    | ow d => exact (stk_ok h).elim
theorem s_aug {i : Nat} {o : Bop} {e : E} {y : PySem.Str} {py pos : Pos} {p : Operator} {v : Expr} (O : Y.Ok) (F : Calls Y k) (C : CxOk Y k N sc X) (hf : FnT X) (ho : opB o p = true) (hi : N[i]? = some y) (hy : locB sc y = true) (hv : chkE Y.ar Y.fr N e .bor sc v = true) :
    PS X (.AugAssign (.Name y py) p v pos) (lS Y (exY Y k (.aug i o e))) := by
  have hpe := (snd O F e .bor sc v hv X C).1
  have hloc : L2.Loc X.env.scope y := by rw [C.xsc]; exact loc_of hy
  have hN : X.N.Nodup := by rw [C.xN]; exact C.nd
  have hi' : X.N[i]? = some y := by rw [C.xN]; exact hi
  by_cases ha : o = .add ∨ o = .sub
  · rw [opB_eq ho]
    have base : ∀ (f : Int → Int → Int), (∀ x y, bop o (.int x) (.int y) = some (.int (f x y))) → OpR X (inplaceOp (pyB o)) (rI0 fun x y => .int (f x y)) → PS X (.AugAssign (.Name y py) (pyB o) v pos) (lS Y (exY Y k (.aug i o e))) := fun f hfo ho => by
      refine PS.imp (ps_aug hN hi' hloc hpe (ti := rI0 fun x y => .int (f x y)) ho (.inl (hf y))) fun D σ H q => ?_
      obtain ⟨bp, bq, B0, H0, B, ρ, b, fl, ρ', b', c, e0, w⟩ := q
      simp only [exY, ex] at e0
      obtain ⟨d1, b1, e1, e2⟩ := bnd_ok e0
      obtain ⟨g1, rfl⟩ := getV_ok e1
      obtain ⟨d2, b2, e3, e4⟩ := bnd_ok e2
      obtain ⟨d3, b3, e5, e6⟩ := bnd_ok e4
      obtain ⟨f5, hb5⟩ := lft_ok e5
      subst hb5
      obtain ⟨rfl, rfl, rfl⟩ := nxt_ok e6
      rw [if_pos ha] at f5
      obtain ⟨v1, h1, r1⟩ := c.r.im i d1 g1
      refine ⟨v1, h1, c.ev e3 fun B1 H1 y1 c1 r2 x1 => ?_⟩
      have r2 : RepT Y.K Y.mg bp B1 H1 bq d2 y1 := r2
      cases d1 with
      | int n1 =>
        cases d2 with
        | int n2 =>
          simp only [toI, Option.bind_some, hfo, Option.some.injEq] at f5
          subst f5
          simp only [Rep] at r1
          exact ⟨n1, n2, r1, r2.int, w _ B1 H1 (c1.set (d := .int (f n1 n2)) (v := .int (f n1 n2)) (by simp only [Rep]) i)⟩
        | _ => simp [toI] at f5
      | _ => simp [toI] at f5
    rcases ha with rfl | rfl
    · exact base _ (fun _ _ => rfl) iop_add
    · exact base _ (fun _ _ => rfl) iop_sub
  · refine PS.imp ps_never fun D σ H q => ?_
    obtain ⟨bp, bq, B0, H0, B, ρ, b, fl, ρ', b', c, e0, w⟩ := q
    simp only [exY, ex] at e0
    obtain ⟨d1, b1, e1, e2⟩ := bnd_ok e0
    obtain ⟨d2, b2, e3, e4⟩ := bnd_ok e2
    obtain ⟨d3, b3, e5, e6⟩ := bnd_ok e4
    obtain ⟨f5, hb5⟩ := lft_ok e5
    rw [if_neg ha] at f5
    simp at f5
theorem s_agl {i : Nat} {e : E} {y : PySem.Str} {py pos : Pos} {v : Expr} (O : Y.Ok) (F : Calls Y k) (C : CxOk Y k N sc X) (hf : FnT X) (hi : N[i]? = some y) (hy : locB sc y = true) (hv : chkE Y.ar Y.fr N e .bor sc v = true) :
    PS X (.AugAssign (.Name y py) .Add v pos) (lS Y (exY Y k (.agl i e))) := by
  have hpe := (snd O F e .bor sc v hv X C).1
  have hloc : L2.Loc X.env.scope y := by rw [C.xsc]; exact loc_of hy
  have hN : X.N.Nodup := by rw [C.xN]; exact C.nd
  have hi' : X.N[i]? = some y := by rw [C.xN]; exact hi
  refine PS.imp (ps_aug hN hi' hloc hpe (ti := rExt2) iop_ext (.inl (hf y))) fun D σ H q => ?_
  obtain ⟨bp, bq, B0, H0, B, ρ, b, fl, ρ', b', c, e0, w⟩ := q
  simp only [exY, ex] at e0
  obtain ⟨xs, b1, e1, e2⟩ := bnd_ok e0
  obtain ⟨g1, rfl⟩ := getO_ok e1
  obtain ⟨d, b2, e3, e4⟩ := bnd_ok e2
  obtain ⟨ys, b3, e5, e6⟩ := bnd_ok e4
  obtain ⟨f5, hb5⟩ := lft_ok e5
  subst hb5
  have f5 := asL_lst f5
  subst f5
  split at e6
  · rename_i hz
    obtain ⟨rfl, rfl, rfl⟩ := nxt_ok e6
    obtain ⟨l, vs, h1, h2, h3⟩ := c.at g1
    refine ⟨_, h1, ?_⟩
    refine c.ev e3 fun B1 H1 y c1 r1 x1 => ?_
    have r1 : RepT Y.K Y.mg bp B1 H1 bq (.lst ys) y := r1
    obtain ⟨a, ws, rfl, h6, h7⟩ := r1.lst c1.g.sub
    obtain ⟨vs1, h4, h5⟩ := c.stay c1 g1 h1
    have hl := h5.length
    have hl2 := h7.length
    refine ⟨l, a, vs1, ws, rfl, rfl, h4, h6, by have := lim_le; omega, ?_⟩
    have hs : σ.set i (some (.ref l)) = σ := by
      apply List.ext_getElem?
      intro j
      by_cases hj : i = j
      · subst hj
        rw [List.getElem?_set_self (List.getElem?_eq_some_iff.mp h1).1, h1]
      · rw [List.getElem?_set_ne hj]
    show D.nx (σ.set i (some (.ref l))) _
    rw [hs]
    exact w σ B1 _ (c1.upd g1 h1 (h5.append h7))
  · exact (stk_ok e6).elim
theorem s_pop {i : Nat} {t : Tg} {tg f : Expr} {p pos : Pos} (O : Y.Ok) (F : Calls Y k) (C : CxOk Y k N sc X) (hf : FnT X) (hm : mB N sc i "pop" f p = true) (ht : chkT N fb1 t sc tg = true) :
    PS X (.Assign [tg] (.Call f [] [] p) pos) (lS Y (exY Y k (.pop t i))) := by
  obtain ⟨x, px, p2, rfl, hn, hl⟩ := bm_name hm
  have hg := g_tg C (fun x _ => .inl (hf x)) t _ ht
  refine PS.imp (ps_asg (pe_bm0 (T := "list") (id := "list.pop") PySem.F.plainAttrs_list PySem.F.slot_list_pop PySem.F.type_list_pop mt_pop (nmB_var C hn) rfl hl) hg (by cases tg <;> rfl) (by cases tg <;> rfl) (by rw [asg1 (chkT_star ht)]; rfl)) fun D σ H q => ?_
  obtain ⟨bp, bq, B0, H0, B, ρ, b, fl, ρ', b', c, e0, w⟩ := q
  simp only [exY, ex] at e0
  obtain ⟨xs, b1, e1, e2⟩ := bnd_ok e0
  obtain ⟨g1, rfl⟩ := getO_ok e1
  cases hx : xs.getLast? with
  | none => rw [hx] at e2; exact (stk_ok e2).elim
  | some v =>
    rw [hx] at e2
    obtain ⟨ρ1, b2, e3, e4⟩ := bnd_ok e2
    obtain ⟨f3, hb3⟩ := lft_ok e3
    subst hb3
    obtain ⟨rfl, rfl, rfl⟩ := nxt_ok e4
    obtain ⟨l, vs, h1, h2, h3⟩ := c.at g1
    rw [List.getLast?_eq_getElem?] at hx
    obtain ⟨u, h4, h5⟩ := h3.get hx
    rw [h3.length] at h4
    refine ⟨_, h1, listTy h2, l, vs, u, rfl, rfl, h2, h4, ?_⟩
    exact (c.upd g1 h1 h3.dropLast).tg h5 f3 fun σ' c' => w σ' B _ c'
theorem setIx_at {K : PySem.W.Frag} {mg : PySem.Str → Option Value} {bp : Addr} {B : Hp} {xs ys : List D} {vs : List V} {z d : D} {v : V} (r : RepL K mg bp B xs vs) (h : setIx xs z d = some ys) (hr : Rep K mg bp B d v) :
    ∃ kk j, z = .int kk ∧ ixN vs.length kk = some j ∧ RepL K mg bp B ys (vs.set j v) := by
  have hl := r.length
  cases z with
  | int kk =>
    simp only [setIx] at h
    unfold ixN
    by_cases h0 : 0 ≤ kk
    · rw [if_pos h0] at h
      split at h
      · rename_i h1
        simp only [Option.some.injEq] at h; subst h
        exact ⟨kk, kk.toNat, rfl, by rw [if_pos h0, if_pos (by omega)], RepL.set hr _ r⟩
      · cases h
    · rw [if_neg h0] at h
      split at h
      · rename_i h1
        simp only [Option.some.injEq] at h; subst h
        exact ⟨kk, (kk + xs.length).toNat, rfl, by rw [if_neg h0, if_pos (by omega), hl], RepL.set hr _ r⟩
      · cases h
  | _ => simp [setIx] at h
theorem s_sto {i : Nat} {k1 e : E} {y : PySem.Str} {py p2 pos : Pos} {z v : Expr} (O : Y.Ok) (F : Calls Y k) (C : CxOk Y k N sc X) (hn : nmB N sc i y = true) (hz : chkE Y.ar Y.fr N k1 .bor sc z = true) (hv : chkE Y.ar Y.fr N e .val sc v = true) :
    PS X (.Assign [.Subscript (.Name y py) z p2] v pos) (lS Y (exY Y k (.sto i k1 e))) := by
  have hpe := (snd O F e .val sc v hv X C).1
  have hpz := (snd O F k1 .bor sc z hz X C).1
  have hps := plain_of (notSet hz).2
  refine PS.imp (ps_asg hpe (pg_sub (nmB_var C hn) hpz set_list (by intro v; cases z <;> first | rfl | exact absurd rfl ((notSet hz).2 _ _ _ _))) (by cases v <;> rfl) (by cases v <;> rfl) rfl) fun D σ H q => ?_
  obtain ⟨bp, bq, B0, H0, B, ρ, b, fl, ρ', b', c, e0, w⟩ := q
  simp only [exY, ex] at e0
  obtain ⟨d, b1, e1, e2⟩ := bnd_ok e0
  obtain ⟨xs, b2, e3, e4⟩ := bnd_ok e2
  obtain ⟨g1, hb2⟩ := getO_ok e3
  subst hb2
  obtain ⟨dz, b3, e5, e6⟩ := bnd_ok e4
  obtain ⟨ys, b4, e7, e8⟩ := bnd_ok e6
  obtain ⟨f7, hb7⟩ := lft_ok e7
  subst hb7
  obtain ⟨rfl, rfl, rfl⟩ := nxt_ok e8
  refine c.ev e1 fun B1 H1 u c1 r1 x1 => ?_
  obtain ⟨l, vs, h1, h2, h3⟩ := c1.at g1
  refine ⟨_, h1, c1.ev e5 fun B2 H2 u2 c2 r2 x2 => ?_⟩
  obtain ⟨vs2, h4, h5⟩ := c1.stay c2 g1 h1
  have r2 : RepT Y.K Y.mg bp B2 H2 bq dz u2 := r2
  obtain ⟨kk, j, rfl, h6, h7⟩ := setIx_at h5 f7 (Rep.mono x2.bs _ _ r1)
  exact ⟨l, vs2, kk, j, rfl, r2.int, h4, h6, w σ B2 _ (c2.upd g1 h1 h7)⟩
end
end PL

set_option autoImplicit false
set_option linter.all false
set_option maxRecDepth 100000
set_option maxHeartbeats 4000000
/-! PL13: stores of two and three, the blocks, the join. -/
namespace PL
open PySem PySem.Spec PyProof.Rows L2
section
variable {β : Type} {Y : Sys β} {k : Nat} {N : List PySem.Str} {sc : Scope} {X : Cx} {md : Md}
/-- an expression's value, on the way: told from here -/
theorem Cur.ev2 {bp bq : Addr} {B0 H0 B H : Hp} {ρ : Env} {σ : L2.St} {b : β} {md : Md} {e : E} {d : D} {b1 : β} {Q : VK} (c : Cur Y bp bq B0 H0 B H ρ σ b) (h : evY Y k e ρ b = .ok d b1)
    (q : ∀ B1 H1 v, Cur Y bp bq B0 H0 B1 H1 ρ σ b1 → RepM Y.K Y.mg bp bq md H B1 H1 d v → Ext bp bq B B1 H H1 → Good Y bp bq B1 H1 b1 → Q v H1) : lE Y k md e σ H Q :=
  ⟨bp, bq, B, ρ, b, d, b1, c.g, c.r, h, fun B1 H1 v x g r => q B1 H1 v (c.ext x g) r x g⟩
theorem Cur.put {bp bq : Addr} {B0 H0 Bs Hs B H : Hp} {ρ : Env} {σ : L2.St} {bs b : β} {o : Bool} {d : D} {v : V} {cell : Cell} (cs : Cur Y bp bq B0 H0 Bs Hs ρ σ bs) (x : Ext bp bq Bs B Hs H) (g : Good Y bp bq B H b)
    (r : RepM Y.K Y.mg bp bq (mdO o) Hs B H d v) (hc : cellOf o d = some cell) (i : Nat) : Cur Y bp bq B0 H0 B H (ρ.set i cell) (σ.set i (some v)) b := by
  cases o with
  | false =>
    simp only [cellOf, Bool.false_eq_true, if_false, Option.some.injEq] at hc
    subst hc
    exact (cs.ext x g).set (show Rep Y.K Y.mg bp B d v from r) i
  | true =>
    simp only [cellOf, if_true, Option.map_eq_some_iff] at hc
    obtain ⟨xs, h1, rfl⟩ := hc
    have h1 := asL_lst h1
    subst h1
    obtain ⟨p, vs, rfl, h1, h2, h3, h4⟩ := (show RepM Y.K Y.mg bp bq .own Hs B H (.lst xs) v from r) xs rfl
    have n1 : p ≠ bp := fun z => by rw [z, cs.g.h1] at h1; cases h1
    have n2 : p ≠ bq := fun z => by rw [z, cs.g.h2] at h1; cases h1
    exact (cs.ext x g).own i h2 h3 (cs.x.back cs.g h1) n1 n2 h4 fun j ys q _ f1 f2 => cs.fresh (Hb := Hs) h1 j ys q f1 f2
theorem mdO_star {o : Bool} {e : E} {v : Expr} (h : chkE Y.ar Y.fr N e (mdO o) sc v = true) : strT v = false := notStar _ _ _ h
theorem s_par {i j : Nat} {oi oj : Bool} {a b : E} {x y : PySem.Str} {px py pt pos p2 : Pos} {kt k2 : Nat} {v w : Expr} (O : Y.Ok) (F : Calls Y k) (C : CxOk Y k N sc X) (hi : N[i]? = some x) (hj : N[j]? = some y) (hij : i ≠ j) (hx : loclB sc x = true) (hy : loclB sc y = true)
    (hs : yesSw sc [.Name x px, .Name y py] [v, w] = true) (ha : chkE Y.ar Y.fr N a (mdO oi) sc v = true) (hb : chkE Y.ar Y.fr N b (mdO oj) sc w = true) :
    PS X (.Assign [.Tuple [.Name x px, .Name y py] kt pt] (.Tuple [v, w] k2 p2) pos) (lS Y (exY Y k (.par i j oi oj a b))) := by
  have pa := (snd O F a _ sc v ha X C).1
  have pb := (snd O F b _ sc w hb X C).1
  have nxy : x ≠ y := fun z => by
    subst z
    have := C.nd
    exact hij ((List.getElem?_inj (List.getElem?_eq_some_iff.mp hi).1 this).mp (hi.trans hj.symm))
  refine PS.imp (ps_par C.calm (by rw [C.xN]; exact C.nd) (by rw [C.xN]; exact hi) (by rw [C.xN]; exact hj) hij (by rw [C.xsc]; exact locl_look hx) (by rw [C.xsc]; exact locl_look hy) (pa_cons pa (pa_cons pb pa_nil (star1 (mdO_star hb))) (star1 (mdO_star ha))) (sw_two C.xsc C.kind nxy hs) rfl) fun D σ H q => ?_
  obtain ⟨bp, bq, B0, H0, B, ρ, b0, fl, ρ', b', c, e0, wk⟩ := q
  simp only [exY, ex] at e0
  obtain ⟨d1, b1, e1, e2⟩ := bnd_ok e0
  obtain ⟨d2, b2, e3, e4⟩ := bnd_ok e2
  obtain ⟨c1, b3, e5, e6⟩ := bnd_ok e4
  obtain ⟨f5, hb5⟩ := lft_ok e5
  subst hb5
  obtain ⟨c2, b4, e7, e8⟩ := bnd_ok e6
  obtain ⟨f7, hb7⟩ := lft_ok e7
  subst hb7
  obtain ⟨rfl, rfl, rfl⟩ := nxt_ok e8
  refine c.ev2 e1 fun B1 H1 u1 k1 r1 x1 g1 => ?_
  refine k1.ev2 e3 fun B2 H2 u2 k2 r2 x2 g2 => ?_
  refine ⟨u1, u2, rfl, ?_⟩
  exact wk _ B2 H2 ((c.put x1 g1 r1 f5 i).put x2 g2 r2 f7 j)
theorem s_par3 {i j l : Nat} {oi oj ol : Bool} {a b e : E} {x y z : PySem.Str} {px py pz pt pos p2 : Pos} {kt k2 : Nat} {u v w : Expr} (O : Y.Ok) (F : Calls Y k) (C : CxOk Y k N sc X) (hi : N[i]? = some x) (hj : N[j]? = some y) (hl : N[l]? = some z) (hij : i ≠ j) (hil : i ≠ l) (hjl : j ≠ l)
    (hx : loclB sc x = true) (hy : loclB sc y = true) (hz : loclB sc z = true)
    (hs : yesSw sc [.Name x px, .Name y py, .Name z pz] [u, v, w] = true) (ha : chkE Y.ar Y.fr N a (mdO oi) sc u = true) (hb : chkE Y.ar Y.fr N b (mdO oj) sc v = true) (he : chkE Y.ar Y.fr N e (mdO ol) sc w = true) :
    PS X (.Assign [.Tuple [.Name x px, .Name y py, .Name z pz] kt pt] (.Tuple [u, v, w] k2 p2) pos) (lS Y (exY Y k (.par3 i j l oi oj ol a b e))) := by
  have pa := (snd O F a _ sc u ha X C).1
  have pb := (snd O F b _ sc v hb X C).1
  have pe := (snd O F e _ sc w he X C).1
  have ne : ∀ {i j : Nat} {x y : PySem.Str}, N[i]? = some x → N[j]? = some y → i ≠ j → x ≠ y := fun {i j x y} hi hj hij z => by
    subst z
    have := C.nd
    exact hij ((List.getElem?_inj (List.getElem?_eq_some_iff.mp hi).1 this).mp (hi.trans hj.symm))
  refine PS.imp (ps_par3 C.calm (by rw [C.xN]; exact C.nd) (by rw [C.xN]; exact hi) (by rw [C.xN]; exact hj) (by rw [C.xN]; exact hl) hij hil hjl (by rw [C.xsc]; exact locl_look hx) (by rw [C.xsc]; exact locl_look hy) (by rw [C.xsc]; exact locl_look hz) (pa_cons pa (pa_cons pb (pa_cons pe pa_nil (star1 (mdO_star he))) (star1 (mdO_star hb))) (star1 (mdO_star ha))) (sw_three C.xsc C.kind (ne hi hj hij) (ne hi hl hil) (ne hj hl hjl) hs) rfl) fun D σ H q => ?_
  obtain ⟨bp, bq, B0, H0, B, ρ, b0, fl, ρ', b', c, e0, wk⟩ := q
  simp only [exY, ex] at e0
  obtain ⟨d1, b1, e1, e2⟩ := bnd_ok e0
  obtain ⟨d2, b2, e3, e4⟩ := bnd_ok e2
  obtain ⟨d3, b3, e5, e6⟩ := bnd_ok e4
  obtain ⟨c1, b4, e7, e8⟩ := bnd_ok e6
  obtain ⟨f7, hb7⟩ := lft_ok e7
  subst hb7
  obtain ⟨c2, b5, e9, e10⟩ := bnd_ok e8
  obtain ⟨f9, hb9⟩ := lft_ok e9
  subst hb9
  obtain ⟨c3, b6, e11, e12⟩ := bnd_ok e10
  obtain ⟨f11, hb11⟩ := lft_ok e11
  subst hb11
  obtain ⟨rfl, rfl, rfl⟩ := nxt_ok e12
  refine c.ev2 e1 fun B1 H1 u1 k1 r1 x1 g1 => ?_
  refine k1.ev2 e3 fun B2 H2 u2 k2 r2 x2 g2 => ?_
  refine k2.ev2 e5 fun B3 H3 u3 k3 r3 x3 g3 => ?_
  refine ⟨u1, u2, u3, rfl, ?_⟩
  exact wk _ B3 H3 (((c.put x1 g1 r1 f7 i).put x2 g2 r2 f9 j).put x3 g3 r3 f11 l)
theorem s_parT {i j : Nat} {oi oj : Bool} {a b : E} {x y : PySem.Str} {px py pt pos p2 : Pos} {kt k2 : Nat} {v w : Expr} (O : Y.Ok) (F : Calls Y k) (C : CxOk Y k N sc X) (hf : FnT X) (hi : N[i]? = some x) (hj : N[j]? = some y) (hij : i ≠ j) (hx : locB sc x = true) (hy : locB sc y = true)
    (hs : noSw sc [.Name x px, .Name y py] [v, w] = true) (ha : chkE Y.ar Y.fr N a (mdO oi) sc v = true) (hb : chkE Y.ar Y.fr N b (mdO oj) sc w = true) :
    PS X (.Assign [.Tuple [.Name x px, .Name y py] kt pt] (.Tuple [v, w] k2 p2) pos) (lS Y (exY Y k (.par i j oi oj a b))) := by
  have pa := (snd O F a _ sc v ha X C).1
  have pb := (snd O F b _ sc w hb X C).1
  have hN : X.N.Nodup := by rw [C.xN]; exact C.nd
  refine PS.imp (ps_asg (pe_tup (pa_cons pa (pa_cons pb pa_nil (star1 (mdO_star hb))) (star1 (mdO_star ha))))
    (pg_tup (n := 2) C.calm (pgs_cons (pg_name (i := i) hN (by rw [C.xN]; exact hi) (by rw [C.xsc]; exact loc_of hx) (.inl (hf x))) (pgs_cons (pg_name (i := j) hN (by rw [C.xN]; exact hj) (by rw [C.xsc]; exact loc_of hy) (.inl (hf y))) pgs_nil rfl) rfl) rfl rfl) rfl (sw_none C.xsc hs) rfl) fun D σ H q => ?_
  obtain ⟨bp, bq, B0, H0, B, ρ, b0, fl, ρ', b', c, e0, wk⟩ := q
  simp only [exY, ex] at e0
  obtain ⟨d1, b1, e1, e2⟩ := bnd_ok e0
  obtain ⟨d2, b2, e3, e4⟩ := bnd_ok e2
  obtain ⟨c1, b3, e5, e6⟩ := bnd_ok e4
  obtain ⟨f5, hb5⟩ := lft_ok e5
  subst hb5
  obtain ⟨c2, b4, e7, e8⟩ := bnd_ok e6
  obtain ⟨f7, hb7⟩ := lft_ok e7
  subst hb7
  obtain ⟨rfl, rfl, rfl⟩ := nxt_ok e8
  refine c.ev2 e1 fun B1 H1 u1 k1 r1 x1 g1 => ?_
  refine k1.ev2 e3 fun B2 H2 u2 k2 r2 x2 g2 => ?_
  refine ⟨by show 2 ≤ sizeLine; have := lim_le; unfold lim at this; omega, fun p hp => ?_⟩
  have x0 := Ex0.own (B := B2) (o := .tup [u1, u2]) g2.sub hp
  refine ⟨p, [u1, u2], rfl, .inl (.inl upd_same), rfl, ?_⟩
  refine ⟨u1, [u2], rfl, u2, [], rfl, rfl, ?_⟩
  exact wk _ B2 _ (((c.put x1 g1 r1 f5 i).put x2 g2 r2 f7 j).ext x0.ext (x0.good g2))
theorem s_par3T {i j l : Nat} {oi oj ol : Bool} {a b e : E} {x y z : PySem.Str} {px py pz pt pos p2 : Pos} {kt k2 : Nat} {u v w : Expr} (O : Y.Ok) (F : Calls Y k) (C : CxOk Y k N sc X) (hf : FnT X) (hi : N[i]? = some x) (hj : N[j]? = some y) (hl : N[l]? = some z) (hij : i ≠ j) (hil : i ≠ l) (hjl : j ≠ l)
    (hx : locB sc x = true) (hy : locB sc y = true) (hz : locB sc z = true)
    (hs : noSw sc [.Name x px, .Name y py, .Name z pz] [u, v, w] = true) (ha : chkE Y.ar Y.fr N a (mdO oi) sc u = true) (hb : chkE Y.ar Y.fr N b (mdO oj) sc v = true) (he : chkE Y.ar Y.fr N e (mdO ol) sc w = true) :
    PS X (.Assign [.Tuple [.Name x px, .Name y py, .Name z pz] kt pt] (.Tuple [u, v, w] k2 p2) pos) (lS Y (exY Y k (.par3 i j l oi oj ol a b e))) := by
  have pa := (snd O F a _ sc u ha X C).1
  have pb := (snd O F b _ sc v hb X C).1
  have pe := (snd O F e _ sc w he X C).1
  have hN : X.N.Nodup := by rw [C.xN]; exact C.nd
  refine PS.imp (ps_asg (pe_tup (pa_cons pa (pa_cons pb (pa_cons pe pa_nil (star1 (mdO_star he))) (star1 (mdO_star hb))) (star1 (mdO_star ha))))
    (pg_tup (n := 3) C.calm (pgs_cons (pg_name (i := i) hN (by rw [C.xN]; exact hi) (by rw [C.xsc]; exact loc_of hx) (.inl (hf x))) (pgs_cons (pg_name (i := j) hN (by rw [C.xN]; exact hj) (by rw [C.xsc]; exact loc_of hy) (.inl (hf y)))
      (pgs_cons (pg_name (i := l) hN (by rw [C.xN]; exact hl) (by rw [C.xsc]; exact loc_of hz) (.inl (hf z))) pgs_nil rfl) rfl) rfl) rfl rfl) rfl (sw_none C.xsc hs) rfl) fun D σ H q => ?_
  obtain ⟨bp, bq, B0, H0, B, ρ, b0, fl, ρ', b', c, e0, wk⟩ := q
  simp only [exY, ex] at e0
  obtain ⟨d1, b1, e1, e2⟩ := bnd_ok e0
  obtain ⟨d2, b2, e3, e4⟩ := bnd_ok e2
  obtain ⟨d3, b3, e5, e6⟩ := bnd_ok e4
  obtain ⟨c1, b4, e7, e8⟩ := bnd_ok e6
  obtain ⟨f7, hb7⟩ := lft_ok e7
  subst hb7
  obtain ⟨c2, b5, e9, e10⟩ := bnd_ok e8
  obtain ⟨f9, hb9⟩ := lft_ok e9
  subst hb9
  obtain ⟨c3, b6, e11, e12⟩ := bnd_ok e10
  obtain ⟨f11, hb11⟩ := lft_ok e11
  subst hb11
  obtain ⟨rfl, rfl, rfl⟩ := nxt_ok e12
  refine c.ev2 e1 fun B1 H1 u1 k1 r1 x1 g1 => ?_
  refine k1.ev2 e3 fun B2 H2 u2 k2 r2 x2 g2 => ?_
  refine k2.ev2 e5 fun B3 H3 u3 k3 r3 x3 g3 => ?_
  refine ⟨by show 3 ≤ sizeLine; have := lim_le; unfold lim at this; omega, fun p hp => ?_⟩
  have x0 := Ex0.own (B := B3) (o := .tup [u1, u2, u3]) g3.sub hp
  refine ⟨p, [u1, u2, u3], rfl, .inl (.inl upd_same), rfl, ?_⟩
  refine ⟨u1, [u2, u3], rfl, u2, [u3], rfl, u3, [], rfl, rfl, ?_⟩
  exact wk _ B3 _ ((((c.put x1 g1 r1 f7 i).put x2 g2 r2 f9 j).put x3 g3 r3 f11 l).ext x0.ext (x0.good g3))
theorem s_sto2 {i j : Nat} {k1 l1 a b : E} {y y2 : PySem.Str} {py py2 ps ps2 pt pos p2 : Pos} {kt k2 : Nat} {z z2 v w : Expr} (O : Y.Ok) (F : Calls Y k) (C : CxOk Y k N sc X) (hn : nmB N sc i y = true) (hn2 : nmB N sc j y2 = true)
    (hz : chkE Y.ar Y.fr N k1 .bor sc z = true) (hz2 : chkE Y.ar Y.fr N l1 .bor sc z2 = true) (ha : chkE Y.ar Y.fr N a .val sc v = true) (hb : chkE Y.ar Y.fr N b .val sc w = true) :
    PS X (.Assign [.Tuple [.Subscript (.Name y py) z ps, .Subscript (.Name y2 py2) z2 ps2] kt pt] (.Tuple [v, w] k2 p2) pos) (lS Y (exY Y k (.sto2 i j k1 l1 a b))) := by
  have pa := (snd O F a .val sc v ha X C).1
  have pb := (snd O F b .val sc w hb X C).1
  have pz := (snd O F k1 .bor sc z hz X C).1
  have pz2 := (snd O F l1 .bor sc z2 hz2 X C).1
  have hsub : ∀ {e : E} {z : Expr} {y : PySem.Str} {p p' : Pos}, chkE Y.ar Y.fr N e .bor sc z = true → ∀ v, assign (.Subscript (.Name y p) z p') X.env v = (do
      let ov ← holding [v] (eval (.Name y p) X.env)
      let iv ← holding [v, ov] (eval z X.env)
      standAt p'
      holding [v, ov, iv] (setItem ov iv v)
      release [v, ov, iv] []) := by
    intro e z y p p' hz v
    cases z <;> first | rfl | exact absurd rfl ((notSet hz).2 _ _ _ _)
  refine PS.imp (ps_asg (pe_tup (pa_cons pa (pa_cons pb pa_nil (star1 (notStar _ _ _ hb))) (star1 (notStar _ _ _ ha))))
    (pg_tup (n := 2) C.calm (pgs_cons (pg_sub (nmB_var C hn) pz set_list (hsub hz)) (pgs_cons (pg_sub (nmB_var C hn2) pz2 set_list (hsub hz2)) pgs_nil rfl) rfl) rfl rfl) rfl (sw_none C.xsc (by simp [noSw, locLn])) rfl) fun D σ H q => ?_
  obtain ⟨bp, bq, B0, H0, B, ρ, b0, fl, ρ', b', c, e0, wk⟩ := q
  simp only [exY, ex] at e0
  obtain ⟨d1, b1, e1, e2⟩ := bnd_ok e0
  obtain ⟨d2, b2, e3, e4⟩ := bnd_ok e2
  obtain ⟨xs, b3, e5, e6⟩ := bnd_ok e4
  obtain ⟨o5, hb5⟩ := getO_ok e5
  subst hb5
  obtain ⟨dz, b4, e7, e8⟩ := bnd_ok e6
  obtain ⟨ys, b5, e9, e10⟩ := bnd_ok e8
  obtain ⟨f9, hb9⟩ := lft_ok e9
  subst hb9
  obtain ⟨xs', b6, e11, e12⟩ := bnd_ok e10
  obtain ⟨o11, hb11⟩ := getO_ok e11
  subst hb11
  obtain ⟨dz', b7, e13, e14⟩ := bnd_ok e12
  obtain ⟨ys', b8, e15, e16⟩ := bnd_ok e14
  obtain ⟨f15, hb15⟩ := lft_ok e15
  subst hb15
  obtain ⟨rfl, rfl, rfl⟩ := nxt_ok e16
  refine c.ev2 e1 fun B1 H1 u1 k1 r1 x1 g1 => ?_
  refine k1.ev2 e3 fun B2 H2 u2 k2 r2 x2 g2 => ?_
  refine ⟨by show 2 ≤ sizeLine; have := lim_le; unfold lim at this; omega, fun p hp => ?_⟩
  have x0 := Ex0.new (B := B2) (o := .tup [u1, u2]) g2.sub hp
  have k3 := k2.ext x0.ext (x0.good g2)
  refine ⟨p, [u1, u2], rfl, .inl (.inl upd_same), rfl, ?_⟩
  refine ⟨u1, [u2], rfl, ?_⟩
  obtain ⟨l, vs, h1, h2, h3⟩ := k3.at o5
  refine ⟨_, h1, k3.ev e7 fun B4 H4 w4 k4 r4 x4 => ?_⟩
  have r4 : RepT Y.K Y.mg bp B4 H4 bq dz w4 := r4
  obtain ⟨vs4, h4, h5⟩ := k3.stay k4 o5 h1
  obtain ⟨kk, jj, rfl, h6, h7⟩ := setIx_at h5 f9 (Rep.mono ((x2.bs.trans x0.bs).trans x4.bs) _ _ r1)
  refine ⟨l, vs4, kk, jj, rfl, r4.int, h4, h6, ?_⟩
  have k5 := k4.upd o5 h1 h7
  refine ⟨u2, [], rfl, ?_⟩
  obtain ⟨l', vs', h1', h2', h3'⟩ := k5.at o11
  refine ⟨_, h1', k5.ev e13 fun B6 H6 w6 k6 r6 x6 => ?_⟩
  have r6 : RepT Y.K Y.mg bp B6 H6 bq dz' w6 := r6
  obtain ⟨vs6, h4', h5'⟩ := k5.stay k6 o11 h1'
  obtain ⟨kk', jj', rfl, h6', h7'⟩ := setIx_at h5' f15 (Rep.mono ((x0.bs.trans x4.bs).trans x6.bs) _ _ r2)
  refine ⟨l', vs6, kk', jj', rfl, r6.int, h4', h6', rfl, ?_⟩
  exact wk σ B6 _ (k6.upd o11 h1' h7')
/-- what a for walks -/
theorem pi_of {t : Tg} {ik : Ik} {es : List E} {tg it : Expr} (O : Y.Ok) (F : Calls Y k) (C : CxOk Y k N sc X) (h2 : chkT N fb1 t sc tg = true) (h5 : chkI Y.ar Y.fr N ik (isTup t) es .val sc it = true) :
    PI X tg it (lI Y k .val ik es) ∧ ∀ x, foldedSetIterable it X.env x = pure x := by
  have hes : ∀ xs, chkL Y.ar Y.fr N es .val sc xs = true → AllOk Y k X .val es xs := fun xs h => sndL O F es .val sc xs h X C
  have htup : isTup t = true → ∃ ts j p, tg = .Tuple ts j p := fun ht => by
    cases t with
    | nm i => cases ht
    | tu ts => cases tg <;> first | (simp [chkT] at h2; done) | exact ⟨_, _, _, rfl⟩
  have hns : ∀ es' j p, it ≠ .Set es' j p := by
    intro es' j p z
    subst z
    cases ik <;> first | (simp [chkI] at h5; done) | skip
    cases es with
    | nil => simp [chkI, chkL] at h5
    | cons a as =>
      simp only [chkI, chkL, Bool.and_eq_true] at h5
      exact (notSet h5.1).1 _ _ _ rfl
  refine ⟨?_, fun v => by cases it <;> first | rfl | exact absurd rfl (hns _ _ _)⟩
  unfold chkI at h5
  split at h5
  · have hA := hes _ h5
    refine i_ok O C (by decide) (tup := isTup t) hA htup (.inl ⟨rfl, rfl, fun e' e1 => ?_⟩)
    subst e1
    cases hA with
    | cons h1 t1 s1 hs => exact h1
  · rename_i f p xs pos'
    simp only [Bool.and_eq_true] at h5
    exact i_ok O C (by decide) (tup := isTup t) (hes _ h5.2) htup (.inr ⟨by decide, fun z => (by rcases z with z | z <;> cases z), f, p, pos', rfl, h5.1⟩)
  · rename_i f p xs pos'
    simp only [Bool.and_eq_true] at h5
    exact i_ok O C (by decide) (tup := isTup t) (hes _ h5.2.2) htup (.inr ⟨by decide, fun _ => h5.2.1, f, p, pos', rfl, h5.1⟩)
  · rename_i f p xs pos'
    simp only [Bool.and_eq_true] at h5
    exact i_ok O C (by decide) (tup := isTup t) (hes _ h5.2.2) htup (.inr ⟨by decide, fun _ => h5.2.1, f, p, pos', rfl, h5.1⟩)
  · rename_i f p xs pos'
    simp only [Bool.and_eq_true] at h5
    exact i_ok O C (by decide) (tup := isTup t) (hes _ h5.2) htup (.inr ⟨by decide, fun z => (by rcases z with z | z <;> cases z), f, p, pos', rfl, h5.1⟩)
  · cases h5
theorem pass_own (C : CxOk Y k N sc X) : PassesOwn (model X.prog X.w) X.A X.env X.xe := by
  rw [C.xe]; exact PassesOwn.never
theorem lT_cur {bp bq : Addr} {B0 H0 B H : Hp} {ρ : Env} {σ : L2.St} {b b1 : β} {e : E} {t : Bool} {Q : Bool → Hp → Prop} (c : Cur Y bp bq B0 H0 B H ρ σ b) (h : tst Y.pr.gl (PL.call Y.pr k) e ρ b = .ok t b1)
    (q : ∀ B1 H1, Cur Y bp bq B0 H0 B1 H1 ρ σ b1 → Q t H1) : lT Y (tstY Y k e) σ H Q := c.tst h q
theorem s_whl {c : E} {a : List S} {t : Expr} {y : List Stmt} {pos : Pos} (C : CxOk Y k N sc X) (hc : PT X t (lT Y (tstY Y k c))) (ha : PSs X y (lS Y (exsY Y k a))) : PS X (.While t y [] pos) (lS Y (exY Y k (.whl c a))) := by
  refine PS.imp (ps_while (pass_own C) hc ha) fun D σ H q => ?_
  obtain ⟨bp, bq, B0, H0, B, ρ, b0, fl, ρ', b', cu, e0, wk⟩ := q
  simp only [exY, ex] at e0
  have hn : ∃ n, whlN (tst Y.pr.gl (PL.call Y.pr k) c) (exs Y.pr.gl (PL.call Y.pr k) a) n ρ b0 = .ok (fl, ρ') b' := by
    unfold whlM at e0
    split at e0
    · exact ⟨_, e0⟩
    · cases e0
  refine ⟨fun m σ1 H1 => ∃ B1 ρ1 b1, Cur Y bp bq B0 H0 B1 H1 ρ1 σ1 b1 ∧ whlN (tst Y.pr.gl (PL.call Y.pr k) c) (exs Y.pr.gl (PL.call Y.pr k) a) m ρ1 b1 = .ok (fl, ρ') b', ?_, ?_⟩
  · obtain ⟨n, hn⟩ := hn
    exact ⟨n, B, ρ, b0, cu, hn⟩
  · rintro m σ1 H1 ⟨B1, ρ1, b1, c1, e1⟩
    cases m with
    | zero => exact (stk_ok e1).elim
    | succ m =>
      simp only [whlN] at e1
      obtain ⟨tb, b2, e2, e3⟩ := bnd_ok e1
      refine c1.tst e2 fun B2 H2 c2 => ?_
      cases tb with
      | false =>
        rw [if_neg (by decide)]
        rw [if_neg (by decide)] at e3
        have h : R.ok (Fl.nx, ρ1) b2 = R.ok (fl, ρ') b' := e3
        cases h
        exact wk σ1 B2 H2 c2
      | true =>
        rw [if_pos rfl]
        rw [if_pos rfl] at e3
        obtain ⟨⟨f1, ρ2⟩, b3, e4, e5⟩ := bnd_ok e3
        refine ⟨fun σ' H' => ∃ m', m' < m + 1 ∧ ∃ B1 ρ1 b1, Cur Y bp bq B0 H0 B1 H' ρ1 σ' b1 ∧ whlN (tst Y.pr.gl (PL.call Y.pr k) c) (exs Y.pr.gl (PL.call Y.pr k) a) m' ρ1 b1 = .ok (fl, ρ') b', fun σ' H' z => z, ?_⟩
        refine ⟨bp, bq, B0, H0, B2, ρ1, b2, f1, ρ2, b3, c2, e4, fun σ3 B3 H3 c3 => ?_⟩
        cases f1 with
        | nx => exact ⟨m, by omega, B3, ρ2, b3, c3, e5⟩
        | ct => exact ⟨m, by omega, B3, ρ2, b3, c3, e5⟩
        | bk =>
          have h : R.ok (Fl.nx, ρ2) b3 = R.ok (fl, ρ') b' := e5
          cases h
          exact wk σ3 B3 H3 c3
        | rt d =>
          have h : R.ok (Fl.rt d, ρ2) b3 = R.ok (fl, ρ') b' := e5
          cases h
          exact wk σ3 B3 H3 c3
theorem Cur.from {bp bq : Addr} {B0 H0 B H : Hp} {ρ : Env} {σ : L2.St} {b : β} (c : Cur Y bp bq B0 H0 B H ρ σ b) : Cur Y bp bq B H0 B H ρ σ b :=
  ⟨c.g, c.r, ⟨Same.refl _, fun a h1 h2 => absurd h2 h1, c.x.kp⟩, c.nw⟩
theorem Cur.back {bp bq : Addr} {B0 H0 B1 H1 B H : Hp} {ρ : Env} {σ : L2.St} {b : β} (x : Ext bp bq B0 B1 H0 H1) (c : Cur Y bp bq B1 H0 B H ρ σ b) : Cur Y bp bq B0 H0 B H ρ σ b :=
  ⟨c.g, c.r, ⟨x.bs.trans c.x.bs, fun a h1 h2 => by
    cases q : B1 a with
    | none => exact c.x.fr a h1 q
    | some o => exact x.fr a (by rw [q]; exact Option.some_ne_none _) h2, c.x.kp⟩, c.nw⟩
theorem s_fr {t : Tg} {ik : Ik} {es : List E} {a : List S} {tg it : Expr} {y : List Stmt} {pos : Pos} (O : Y.Ok) (F : Calls Y k) (C : CxOk Y k N sc X) (hf : FnT X) (ht : chkT N fb1 t sc tg = true) (hi : chkI Y.ar Y.fr N ik (isTup t) es .val sc it = true) (ha : PSs X y (lS Y (exsY Y k a))) :
    PS X (.For tg it y [] pos) (lS Y (exY Y k (.fr t ik es a))) := by
  obtain ⟨hpi, hset⟩ := pi_of O F C ht hi
  have hg := g_tg C (fun x _ => .inl (hf x)) t _ ht
  refine PS.imp (ps_for (pass_own C) C.calm hpi hg ha hset) fun D σ H q => ?_
  obtain ⟨bp, bq, B0, H0, B, ρ, b0, fl, ρ', b', cu, e0, wk⟩ := q
  simp only [exY, ex] at e0
  obtain ⟨ds, b1, e1, e2⟩ := bnd_ok e0
  obtain ⟨xs, b2, e3, e4⟩ := bnd_ok e2
  obtain ⟨f3, hb3⟩ := lft_ok e3
  subst hb3
  refine ⟨bp, bq, B, ρ, b0, ds, _, xs, cu.g, cu.r, e1, f3, fun B1 H1 J x1 g1 wlk => ?_⟩
  let G : PL.D → Env → M β (Fl × Env) := fun d ρ' => bnd (lft (bindT t d ρ')) fun ρ'' => exs Y.pr.gl (PL.call Y.pr k) a ρ''
  have e4 : forM G xs ρ b2 = .ok (fl, ρ') b' := e4
  have cu1 := cu.ext x1 g1
  refine for_it wlk (fun i σ2 H2 => ∃ B2 ρ2 b3, Cur Y bp bq B1 H0 B2 H2 ρ2 σ2 b3 ∧ forM G (xs.drop i) ρ2 b3 = .ok (fl, ρ') b') ?_ ?_ ?_ ?_
  · exact ⟨B1, ρ, b2, cu1.from, by rw [List.drop_zero]; exact e4⟩
  · rintro i σ2 H2 hi ⟨B2, ρ2, b3, c2, _⟩
    exact ⟨c2.x.bs.trans c2.g.sub, .inl rfl⟩
  · rintro i v σ2 H2 H3 hi ⟨B2, ρ2, b3, c2, e5⟩ ⟨d, hd, hy⟩
    have ed : xs.drop i = d :: xs.drop (i + 1) := by
      rw [List.drop_eq_getElem_cons hi]
      rw [List.getElem?_eq_getElem hi] at hd
      rw [Option.some.inj hd]
    rw [ed] at e5
    simp only [forM] at e5
    obtain ⟨⟨f1, ρ4⟩, b4, e6, e7⟩ := bnd_ok e5
    obtain ⟨ρ5, b5, e8, e9⟩ := bnd_ok (show G d ρ2 b3 = _ from e6)
    obtain ⟨f8, hb8⟩ := lft_ok e8
    rw [hb8] at e9
    have key : ∃ B3, Cur Y bp bq B1 H0 B3 H3 ρ2 σ2 b3 ∧ Rep Y.K Y.mg bp B3 d v := by
      rcases hy with ⟨rfl, rv⟩ | ⟨T, us, ds', rfl, hT, rfl, rfl, rus⟩
      · exact ⟨B2, c2, Rep.mono c2.x.bs _ _ rv⟩
      · have x0 := Ex0.new (B := B2) (o := .tup us) c2.g.sub hT
        refine ⟨_, c2.ext x0.ext (x0.good c2.g), ?_⟩
        simp only [Rep]
        exact ⟨T, us, rfl, .inl (.inl upd_same), RepL.mono (c2.x.bs.trans x0.bs) _ _ rus⟩
    obtain ⟨B3, c3, rv⟩ := key
    refine c3.tg rv f8 fun σ4 c4 => ?_
    refine ⟨bp, bq, B1, H0, B3, ρ5, _, f1, ρ4, b4, c4, e9, fun σ6 B6 H6 c6 => ?_⟩
    cases f1 with
    | nx => exact ⟨B6, ρ4, b4, c6, e7⟩
    | ct => exact ⟨B6, ρ4, b4, c6, e7⟩
    | bk =>
      have h : R.ok (Fl.nx, ρ4) b4 = R.ok (fl, ρ') b' := e7
      cases h
      exact wk σ6 B6 H6 (Cur.back cu1.x c6)
    | rt d =>
      have h : R.ok (Fl.rt d, ρ4) b4 = R.ok (fl, ρ') b' := e7
      cases h
      exact wk σ6 B6 H6 (Cur.back cu1.x c6)
  · rintro σ2 H2 ⟨B2, ρ2, b3, c2, e5⟩
    rw [List.drop_length] at e5
    have h : R.ok (Fl.nx, ρ2) b3 = R.ok (fl, ρ') b' := e5
    cases h
    exact wk σ2 B2 H2 (Cur.back cu1.x c2)
/-! ### the join -/
theorem s_end {s : S} {D : Ends} {σ : L2.St} {H : Hp} {fl0 : Fl} (hs : ∀ ρ (b : β), exY Y k s ρ b = .ok (fl0, ρ) b) (q : lS Y (exY Y k s) D σ H) : ∃ bp bq B0 H0 B ρ b, Cur Y bp bq B0 H0 B H ρ σ b ∧ EndOk Y bp D fl0 σ B H := by
  obtain ⟨bp, bq, B0, H0, B, ρ, b0, fl, ρ', b', cu, e0, wk⟩ := q
  rw [hs] at e0
  cases e0
  exact ⟨_, _, _, _, B, _, _, cu, wk σ B H cu⟩
theorem frz_ok {i : Nat} {ρ ρ1 : Env} {b b1 : β} {f1 : Fl} (h : exY Y k (.frz i) ρ b = .ok (f1, ρ1) b1) : f1 = .nx ∧ b1 = b ∧ ((∃ ys, ρ[i]? = some (.ow ys) ∧ ρ1 = ρ.set i (.im (.lst ys))) ∨ ρ1 = ρ) := by
  simp only [exY, ex] at h
  cases q : ρ[i]? with
  | none =>
    rw [q] at h
    obtain ⟨rfl, rfl, rfl⟩ := nxt_ok h
    exact ⟨rfl, rfl, .inr rfl⟩
  | some c =>
    rw [q] at h
    cases c with
    | ow ys =>
      obtain ⟨rfl, rfl, rfl⟩ := nxt_ok h
      exact ⟨rfl, rfl, .inl ⟨ys, rfl, rfl⟩⟩
    | im d =>
      obtain ⟨rfl, rfl, rfl⟩ := nxt_ok h
      exact ⟨rfl, rfl, .inr rfl⟩
    | un =>
      obtain ⟨rfl, rfl, rfl⟩ := nxt_ok h
      exact ⟨rfl, rfl, .inr rfl⟩
mutual
theorem sndS (O : Y.Ok) (F : Calls Y k) (C : CxOk Y k N sc X) (hf : FnT X) : ∀ (s : S) (x : Stmt), chkS Y.ar Y.fr N s sc x = true → PS X x (lS Y (exY Y k s))
  | .asg t e, x, h => by
    unfold chkS at h
    split at h
    case h_2 => cases h
    rename_i tg v pos
    simp only [Bool.and_eq_true] at h
    obtain ⟨h1, h2, h3⟩ := h
    cases t with
    | nm i =>
      cases tg with
      | Name y py =>
        simp only [chkT, Bool.and_eq_true, decide_eq_true_eq] at h1
        exact s_asgN O F C hf h1.1 h1.2.1 h2
      | _ => simp [chkT] at h1
    | tu ts =>
      cases tg with
      | Tuple xs j p => exact s_asgT O F C hf h1 h2 h3
      | _ => simp [chkT] at h1
  | .own i e, x, h => by
    unfold chkS at h
    split at h
    case h_2 => cases h
    simp only [Bool.and_eq_true, decide_eq_true_eq] at h
    exact s_own O F C hf h.1 h.2.1 h.2.2
  | .par i j oi oj a b, x, h => by
    unfold chkS at h
    split at h
    case h_2 => cases h
    simp only [Bool.and_eq_true, Bool.or_eq_true, decide_eq_true_eq] at h
    obtain ⟨h1, h2, h3, h4, h7, h8⟩ := h
    rcases h4 with ⟨h4, h5, h6⟩ | ⟨h4, h5, h6⟩
    · exact s_par O F C h1 h2 h3 h4 h5 h6 h7 h8
    · exact s_parT O F C hf h1 h2 h3 h4 h5 h6 h7 h8
  | .par3 i j l oi oj ol a b c, x, h => by
    unfold chkS at h
    split at h
    case h_2 => cases h
    simp only [Bool.and_eq_true, Bool.or_eq_true, decide_eq_true_eq] at h
    obtain ⟨h1, h2, h3, h4, h5, h6, h7, h11, h12, h13⟩ := h
    rcases h7 with ⟨h7, h8, h9, h10⟩ | ⟨h7, h8, h9, h10⟩
    · exact s_par3 O F C h1 h2 h3 h4 h5 h6 h7 h8 h9 h10 h11 h12 h13
    · exact s_par3T O F C hf h1 h2 h3 h4 h5 h6 h7 h8 h9 h10 h11 h12 h13
  | .sto i k1 e, x, h => by
    unfold chkS at h
    split at h
    case h_2 => cases h
    simp only [Bool.and_eq_true] at h
    exact s_sto O F C h.1 h.2.1 h.2.2
  | .sto2 i j k1 l a b, x, h => by
    unfold chkS at h
    split at h
    case h_2 => cases h
    simp only [Bool.and_eq_true] at h
    exact s_sto2 O F C h.1 h.2.1 h.2.2.1 h.2.2.2.1 h.2.2.2.2.1 h.2.2.2.2.2
  | .app i e, x, h => by
    unfold chkS at h
    split at h
    case h_2 => cases h
    simp only [Bool.and_eq_true] at h
    exact s_app O F C h.1 h.2
  | .ins i k1 e, x, h => by
    unfold chkS at h
    split at h
    case h_2 => cases h
    simp only [Bool.and_eq_true] at h
    exact s_ins O F C h.1 h.2.1 h.2.2
  | .ext i e, x, h => by
    unfold chkS at h
    split at h
    case h_2 => cases h
    simp only [Bool.and_eq_true] at h
    exact s_ext O F C h.1 h.2
  | .aug i o e, x, h => by
    unfold chkS at h
    split at h
    case h_2 => cases h
    simp only [Bool.and_eq_true, decide_eq_true_eq] at h
    exact s_aug O F C hf h.1 h.2.1 h.2.2.1 h.2.2.2
  | .agl i e, x, h => by
    unfold chkS at h
    split at h
    case h_2 => cases h
    simp only [Bool.and_eq_true, decide_eq_true_eq] at h
    exact s_agl O F C hf h.1 h.2.1 h.2.2
  | .pop t i, x, h => by
    unfold chkS at h
    split at h
    case h_2 => cases h
    simp only [Bool.and_eq_true] at h
    exact s_pop O F C hf h.1 h.2
  | .frz i, x, h => by simp [chkS] at h
  | .iff c a b, x, h => by
    unfold chkS at h
    split at h
    case h_2 => cases h
    simp only [Bool.and_eq_true] at h
    obtain ⟨h1, h2, h3⟩ := h
    refine PS.imp (ps_if ((snd O F c .bor sc _ h1 X C).2 rfl) (sndSs O F C hf a _ h2) (sndSs O F C hf b _ h3)) fun D σ H q => ?_
    obtain ⟨bp, bq, B0, H0, B, ρ, b0, fl, ρ', b', cu, e0, wk⟩ := q
    simp only [exY, ex] at e0
    obtain ⟨tb, b1, e1, e2⟩ := bnd_ok e0
    refine cu.tst e1 fun B1 H1 c1 => ?_
    cases tb with
    | true =>
      rw [if_pos rfl] at e2
      exact L2.iteT ⟨bp, bq, B0, H0, B1, ρ, b1, fl, ρ', b', c1, e2, wk⟩
    | false =>
      rw [if_neg (by decide)] at e2
      exact L2.iteF ⟨bp, bq, B0, H0, B1, ρ, b1, fl, ρ', b', c1, e2, wk⟩
  | .whl c a, x, h => by
    unfold chkS at h
    split at h
    case h_2 => cases h
    simp only [Bool.and_eq_true] at h
    exact s_whl C ((snd O F c .bor sc _ h.1 X C).2 rfl) (sndSs O F C hf a _ h.2)
  | .fr t ik es a, x, h => by
    unfold chkS at h
    split at h
    case h_2 => cases h
    simp only [Bool.and_eq_true] at h
    exact s_fr O F C hf h.1 h.2.1 (sndSs O F C hf a _ h.2.2)
  | .ret e, x, h => by
    unfold chkS at h
    split at h
    case h_2 => cases h
    refine PS.imp (ps_ret (snd O F e .val sc _ h X C).1) fun D σ H q => ?_
    obtain ⟨bp, bq, B0, H0, B, ρ, b0, fl, ρ', b', cu, e0, wk⟩ := q
    simp only [exY, ex] at e0
    obtain ⟨d, b1, e1, e2⟩ := bnd_ok e0
    have h : R.ok (Fl.rt d, ρ) b1 = R.ok (fl, ρ') b' := e2
    cases h
    exact cu.ev e1 fun B1 H1 v c1 r1 _ => wk σ B1 H1 c1 v r1
  | .retN, x, h => by
    unfold chkS at h
    split at h
    case h_2 => cases h
    refine PS.imp ps_retN fun D σ H q => ?_
    obtain ⟨bp, bq, B0, H0, B, ρ, b, cu, wk⟩ := s_end (fl0 := .rt .non) (fun _ _ => rfl) q
    exact wk .non (by simp only [Rep])
  | .brk, x, h => by
    unfold chkS at h
    split at h
    case h_2 => cases h
    refine PS.imp ps_break fun D σ H q => ?_
    obtain ⟨bp, bq, B0, H0, B, ρ, b, cu, wk⟩ := s_end (fl0 := .bk) (fun _ _ => rfl) q
    exact wk
  | .cnt, x, h => by
    unfold chkS at h
    split at h
    case h_2 => cases h
    refine PS.imp ps_continue fun D σ H q => ?_
    obtain ⟨bp, bq, B0, H0, B, ρ, b, cu, wk⟩ := s_end (fl0 := .ct) (fun _ _ => rfl) q
    exact wk
  | .pas, x, h => by
    unfold chkS at h
    split at h
    case h_2 => cases h
    refine PS.imp ps_pass fun D σ H q => ?_
    obtain ⟨bp, bq, B0, H0, B, ρ, b, cu, wk⟩ := s_end (fl0 := .nx) (fun _ _ => rfl) q
    exact wk
  | .bad, x, h => by
    refine PS.imp ps_never fun D σ H q => ?_
    obtain ⟨bp, bq, B0, H0, B, ρ, b0, fl, ρ', b', cu, e0, wk⟩ := q
    exact (stk_ok (show stk b0 = _ from e0)).elim
theorem sndSs (O : Y.Ok) (F : Calls Y k) (C : CxOk Y k N sc X) (hf : FnT X) : ∀ (s : List S) (x : List Stmt), chkSs Y.ar Y.fr N s sc x = true → PSs X x (lS Y (exsY Y k s))
  | [], x, h => by
    unfold chkSs at h
    split at h
    case h_2 => cases h
    refine PSs.imp pss_nil fun D σ H q => ?_
    obtain ⟨bp, bq, B0, H0, B, ρ, b0, fl, ρ', b', cu, e0, wk⟩ := q
    obtain ⟨rfl, rfl, rfl⟩ := nxt_ok e0
    exact wk σ B H cu
  | s :: r, xs, h => by
    by_cases hz : ∃ i, s = .frz i
    · obtain ⟨i, rfl⟩ := hz
      refine PSs.imp (sndSs O F C hf r xs (by simpa only [chkSs] using h)) fun D σ H q => ?_
      obtain ⟨bp, bq, B0, H0, B, ρ, b0, fl, ρ', b', cu, e0, wk⟩ := q
      simp only [exsY, exs] at e0
      obtain ⟨⟨f1, ρ1⟩, b1, e1, e2⟩ := bnd_ok e0
      obtain ⟨rfl, hb, hy | hy⟩ := frz_ok e1
      · obtain ⟨ys, hy, rfl⟩ := hy
        subst hb
        obtain ⟨B', c'⟩ := cu.frz hy
        exact ⟨bp, bq, B0, H0, B', _, _, fl, ρ', b', c', e2, wk⟩
      · subst hy hb
        exact ⟨bp, bq, B0, H0, B, _, _, fl, ρ', b', cu, e2, wk⟩
    · have h' : ∃ x ys, xs = x :: ys ∧ chkS Y.ar Y.fr N s sc x = true ∧ chkSs Y.ar Y.fr N r sc ys = true := by
        cases xs with
        | nil => cases s <;> first | (simp [chkSs] at h; done) | exact absurd ⟨_, rfl⟩ hz
        | cons x ys =>
          refine ⟨x, ys, rfl, ?_⟩
          cases s <;> first | (simpa [chkSs] using h) | exact absurd ⟨_, rfl⟩ hz
      obtain ⟨x, ys, rfl, h1, h2⟩ := h'
      refine PSs.imp (pss_cons (sndS O F C hf s x h1) (sndSs O F C hf r ys h2)) fun D σ H q => ?_
      obtain ⟨bp, bq, B0, H0, B, ρ, b0, fl, ρ', b', cu, e0, wk⟩ := q
      simp only [exsY, exs] at e0
      obtain ⟨⟨f1, ρ1⟩, b1, e1, e2⟩ := bnd_ok e0
      refine ⟨bp, bq, B0, H0, B, ρ, b0, f1, ρ1, b1, cu, e1, fun σ2 B2 H2 c2 => ?_⟩
      cases f1 with
      | nx => exact ⟨bp, bq, B0, H0, B2, ρ1, b1, fl, ρ', b', c2, e2, wk⟩
      | bk =>
        have h : R.ok (Fl.bk, ρ1) b1 = R.ok (fl, ρ') b' := e2
        cases h
        exact wk σ2 B2 H2 c2
      | ct =>
        have h : R.ok (Fl.ct, ρ1) b1 = R.ok (fl, ρ') b' := e2
        cases h
        exact wk σ2 B2 H2 c2
      | rt d =>
        have h : R.ok (Fl.rt d, ρ1) b1 = R.ok (fl, ρ') b' := e2
        cases h
        exact wk σ2 B2 H2 c2
end
end
end PL

set_option autoImplicit false
set_option linter.all false
set_option maxRecDepth 100000
set_option maxHeartbeats 4000000
/-! PL14: functions keep what their terms mean. -/
namespace PL
open PySem PySem.Spec PyProof.Rows L2
section
variable {β : Type} {Y : Sys β}
/-- what the head tells of a def, and the check of its term -/
def FnFact (Y : Sys β) (x : String) (f : Fn) : Prop := ∃ a fd args body scope, Y.mg (sx x) = some (.ref a) ∧ FunD Y.K (sx x) (sx x) args body scope [] [] a fd ∧
  C8.scC (f.names.map sx) ((f.names.take f.np).map sx) scope = true ∧ chkSs Y.ar Y.fr (f.names.map sx) f.body scope body = true ∧ Binds Y.K fd ((f.names.take f.np).map sx) [] ∧ f.np ≤ f.names.length
def PrimFact (Y : Sys β) (x : String) (n : Nat) : Prop := ∃ a fd ps, Y.mg (sx x) = some (.ref a) ∧ PySem.W.keepIn Y.K (.ref a) = true ∧ Binds Y.K fd ps [] ∧ ps.length = n ∧
  ∀ k, 3 ≤ k → FnOk Y.P Y.w Y.K Y.mg Y.base CX0 (k + 1) a fd ps (spC Y (k + 1) x n)
def FnsOk (Y : Sys β) : Prop := ∀ x n, Y.ar x = some n → ((∃ p, Y.pr.prim x = some p) ∧ PrimFact Y x n) ∨ (Y.pr.prim x = none ∧ ∃ f, Y.pr.fns x = some f ∧ f.np = n ∧ FnFact Y x f)
theorem call_zero {x : String} {n : Nat} {vs : List V} {H : Hp} {Q : VK} {E : XK} (h : spC Y 0 x n vs H Q E) : False := by
  obtain ⟨_, bp, bq, B, ds, b, d, b', _, _, e, _⟩ := h
  exact stk_ok e
theorem fn_none {k : Nat} {a : Addr} {fd : FuncData} {ps : List PySem.Str} {sp : Sp} (h : ∀ vs H Q E, ¬ sp vs H Q E) : FnOk Y.P Y.w Y.K Y.mg Y.base CX0 k a fd ps sp :=
  ⟨fun vs H Q E z => absurd z (h vs H Q E), fun A outer s H args us vs Q E hr he hb hv hs => absurd hs (h vs H Q E)⟩
theorem start_rep {bp bq : Addr} {B H : Hp} {ds : List D} {vs : List V} (r : RepL Y.K Y.mg bp B ds vs) (N : List PySem.Str) (m : Nat) (hm : m = N.length - vs.length) :
    RepE Y bp bq B H (ds.map Cell.im ++ List.replicate m Cell.un) (L2.start N vs) := by
  have hl := r.length
  have key : ∀ (i : Nat) c, (ds.map Cell.im ++ List.replicate m Cell.un)[i]? = some c → (∃ d, ds[i]? = some d ∧ c = .im d) ∨ c = .un := by
    intro i c e
    by_cases hi : i < ds.length
    · rw [List.getElem?_append_left (by rw [List.length_map]; exact hi), List.getElem?_map, List.getElem?_eq_getElem hi] at e
      simp only [Option.map_some, Option.some.injEq] at e
      exact .inl ⟨_, List.getElem?_eq_getElem hi, e.symm⟩
    · rw [List.getElem?_append_right (by rw [List.length_map]; omega)] at e
      have := List.mem_replicate.mp (List.mem_of_getElem? e)
      exact .inr this.2
  refine ⟨?_, fun i d e => ?_, fun i xs e => ?_, fun i j xs ys p _ e => ?_⟩
  · unfold L2.start
    simp only [List.length_append, List.length_map, List.length_replicate]
    omega
  · rcases key i _ e with ⟨d', h1, h2⟩ | h2
    · cases h2
      obtain ⟨v, h3, h4⟩ := r.get h1
      refine ⟨v, ?_, h4⟩
      unfold L2.start
      have hi : i < vs.length := (List.getElem?_eq_some_iff.mp h3).1
      rw [List.getElem?_append_left (by rw [List.length_map]; exact hi), List.getElem?_map, h3]; rfl
    · cases h2
  · rcases key i _ e with ⟨d', h1, h2⟩ | h2
    · cases h2
    · cases h2
  · rcases key i _ e with ⟨d', h1, h2⟩ | h2
    · cases h2
    · cases h2
theorem fn_step (O : Y.Ok) {k : Nat} (F : Calls Y k) {x : String} {f : Fn} (hp : Y.pr.prim x = none) (hf : Y.pr.fns x = some f) (h : FnFact Y x f) : Callee Y (k + 1) x f.np := by
  obtain ⟨a, fd, args, body, scope, h1, h2, h3, h4, h5, h6⟩ := h
  have S := C8.fnScope_by h3
  have hlen : ((f.names.take f.np).map sx).length = f.np := by rw [List.length_map, List.length_take]; omega
  refine ⟨a, fd, _, h1, h2.kp, h5, hlen, ?_⟩
  refine h2.ok S (fun vs H Q E z => z.1.trans hlen.symm) fun cdv A outer s H vs Q E hr hsp => ?_
  refine ⟨lS Y (exsY Y k f.body), PSs.nox ?_, ?_⟩
  · refine sndSs O F (N := f.names.map sx) (sc := scope) ⟨rfl, rfl, rfl, rfl, rfl, rfl, rfl, S.nd, rfl, S.kind, hr, rfl⟩ (fun _ => rfl) f.body body h4
  · obtain ⟨hv, bp, bq, B, ds, b, d, b', g, r, e, w⟩ := hsp
    have hd : ds.length = f.np := r.length.trans hv
    simp only [PL.call, hp, hf, if_pos hd, endF] at e
    obtain ⟨⟨fl, ρ'⟩, b1, e1, e2⟩ := bnd_ok e
    have hm : f.names.length - f.np = (f.names.map sx).length - vs.length := by rw [List.length_map, hv]
    refine ⟨bp, bq, B, H, B, _, b, fl, ρ', b1, ⟨g, start_rep r _ _ hm, Ext.refl, fun i xs p e1 _ => ?_⟩, e1, fun σ2 B2 H2 c2 => ?_⟩
    · have := (start_rep (bq := bq) (H := H) r _ _ hm).ow i xs e1
      exfalso
      have hi := e1
      by_cases hi2 : i < ds.length
      · rw [List.getElem?_append_left (by rw [List.length_map]; exact hi2), List.getElem?_map, List.getElem?_eq_getElem hi2] at hi
        cases hi
      · rw [List.getElem?_append_right (by rw [List.length_map]; omega)] at hi
        have := (List.mem_replicate.mp (List.mem_of_getElem? hi)).2
        cases this
    · cases fl with
      | nx =>
        obtain ⟨rfl, rfl⟩ := ret_ok e2
        exact w B2 H2 .non c2.x c2.g (by simp only [Rep])
      | rt d' =>
        obtain ⟨rfl, rfl⟩ := ret_ok e2
        exact fun v hv => w B2 H2 v c2.x c2.g hv
      | bk => exact (stk_ok e2).elim
      | ct => exact (stk_ok e2).elim
theorem callees (O : Y.Ok) (HF : FnsOk Y) : ∀ k, Calls Y k
  | 0 => fun x n hx => by
    rcases HF x n hx with ⟨_, a, fd, ps, h1, h2, h3, h4, _⟩ | ⟨_, f, _, rfl, a, fd, args, body, scope, h1, h2, h3, h4, h5, h6⟩
    · exact ⟨a, fd, ps, h1, h2, h3, h4, fn_none (k := 0) fun vs H Q E z => call_zero z⟩
    · exact ⟨a, fd, _, h1, h2.kp, h5, by rw [List.length_map, List.length_take]; omega, fn_none (k := 0) fun vs H Q E z => call_zero z⟩
  | k + 1 => fun x n hx => by
    rcases HF x n hx with ⟨⟨p, hp⟩, a, fd, ps, h1, h2, h3, h4, h5⟩ | ⟨hp, f, hf, rfl, h⟩
    · refine ⟨a, fd, ps, h1, h2, h3, h4, ?_⟩
      by_cases hk : 3 ≤ k
      · exact h5 k hk
      · refine fn_none (k := k + 1) fun vs H Q E z => ?_
        obtain ⟨_, bp, bq, B, ds, b, d, b', _, _, e, _⟩ := z
        simp only [PL.call, hp, if_neg hk] at e
        exact stk_ok e
    · exact fn_step O (callees O HF k) hp hf h
end
end PL

set_option autoImplicit false
set_option linter.all false
set_option maxRecDepth 100000
set_option maxHeartbeats 4000000
/-! PL15: the tape of the laws that draw by _law_take. -/
namespace PL
open PySem PySem.Spec PyProof.Rows L2
structure Tp where
  cells : List Int
  pos : Nat
  rest : Int
  seed : Int
def mixI (n : Int) : Int :=
  let a := (n * 6364136223846793005 + 1442695040888963407) % 18446744073709551616
  (a * a / 4294967296 + a * 69621) % 18446744073709551557
def zig (c : Int) : Int := if 0 ≤ c then 2 * c else -2 * c - 1
def tpMore (t : Tp) : Tp := match t.cells[t.pos]? with
  | some c => ⟨t.cells, t.pos + 1, if 10 ^ 18 ≤ zig c then zig c else mixI (mixI (zig c) + ((t.pos : Int) + 1)), mixI (t.seed + zig c)⟩
  | none => ⟨t.cells, t.pos, mixI (t.seed + 1), mixI (t.seed + 1)⟩
def tpLoad (t : Tp) (m : Int) : Tp := if t.rest < m then tpMore t else t
def tpTake (t : Tp) (m : Int) : Int × Tp := ((tpLoad t m).rest % m, ⟨(tpLoad t m).cells, (tpLoad t m).pos, (tpLoad t m).rest / m, (tpLoad t m).seed⟩)
def tpOut (bq : Addr) (t : Tp) : List V := [.ref bq, .int t.pos, .int t.rest, .int t.seed]
def tpBo (bq : Addr) (t : Tp) : HO × HO := (.lst (tpOut bq t), .lst (t.cells.map V.int))
theorem tpTake_bd (t : Tp) {m : Int} (h : 0 < m) : 0 ≤ (tpTake t m).1 ∧ (tpTake t m).1 < m := ⟨Int.emod_nonneg _ (by omega), Int.emod_lt_of_pos _ h⟩
def spMix : Sp := fun vs H Q _ => ∃ n, vs = [.int n] ∧ Q (.int (mixI n)) H
def spTake : Sp := fun vs H Q _ => ∃ bp bq t m, vs = [.ref bp, .int m] ∧ H bp = some (.lst (tpOut bq t)) ∧ H bq = some (.lst (t.cells.map V.int)) ∧ bp ≠ bq ∧ (0 < m ∧ m < 1000000000) ∧
  Q (.int (tpTake t m).1) (upd H bp (.lst (tpOut bq (tpTake t m).2)))
def spTape (K : PySem.W.Frag) : Sp := fun vs H Q _ => ∃ a ns, vs = [.ref a] ∧ SqL K H a (ns.map V.int) ∧ ns.length ≤ 80 ∧
  ∀ bp bq H', H' bp = some (.lst (tpOut bq ⟨ns, 0, 0, 1 + ns.length⟩)) → H' bq = some (.lst (ns.map V.int)) → bp ≠ bq → Q (.ref bp) H'
theorem mix_ok (n : Int) : 0 ≤ (n * 6364136223846793005 + 1442695040888963407) % 18446744073709551616 ∧ (n * 6364136223846793005 + 1442695040888963407) % 18446744073709551616 < 18446744073709551616 :=
  ⟨Int.emod_nonneg _ (by decide), Int.emod_lt_of_pos _ (by decide)⟩
section
variable {K : PySem.W.Frag} {σ : L2.St} {H : Hp} {bp : Addr} {xs : List V}
theorem rd_at {i : Nat} {j : Int} {n : Nat} {v : V} {Q : VK} (h1 : σ[i]? = some (some (.ref bp))) (h2 : H bp = some (.lst xs)) (h3 : ixN xs.length j = some n) (h4 : xs[n]? = some v) (q : Q v H) : tOp (rIxL K) (tVar i) (tC (.int j)) σ H Q :=
  ⟨_, h1, _, _, _, _, rfl, rfl, SqL.of h2, by unfold atI; rw [h3]; exact h4, q⟩
theorem wr_at {i : Nat} {j : Int} {n : Nat} {v : V} {Q : L2.St → Hp → Prop} (h1 : σ[i]? = some (some (.ref bp))) (h2 : H bp = some (.lst xs)) (h3 : ixN xs.length j = some n) (q : Q σ (L2.upd H bp (.lst (xs.set n v)))) : gSub (tVar i) (tC (.int j)) rSetL v σ H Q :=
  ⟨_, h1, _, _, _, _, rfl, rfl, h2, h3, q⟩
end
theorem iteD {c A B : Prop} [Decidable c] (hc : c) (h : A) : if decide c = true then A else B := by rw [decide_eq_true hc]; exact L2.iteT h
theorem iteN {c A B : Prop} [Decidable c] (hc : ¬ c) (h : B) : if decide c = true then A else B := by rw [decide_eq_false hc]; exact L2.iteF h
section
variable (K : PySem.W.Frag)
abbrev rlt : R2 := rI0 fun i j => .bl (decide (i < j))
abbrev rge : R2 := rI0 fun i j => .bl (decide (j ≤ i))
abbrev radd : R2 := rI0 fun i j => .int (i + j)
abbrev rsub : R2 := rI0 fun i j => .int (i - j)
abbrev rmul : R2 := rI CMul fun i j => .int (i * j)
abbrev rmod : R2 := rI (fun _ j => 0 < j) fun i j => .int (i % j)
abbrev rdiv : R2 := rI CDivW fun i j => .int (i / j)
abbrev rpow : R2 := rI CPow fun i j => .int (i ^ j.toNat)
abbrev tI (j : Int) : TE := tOp (rIxL K) (tVar 0) (tC (.int j))
abbrev tInt (t : TE) : TE := tCB (fun xs H Q => (∃ i, xs = [.int i] ∧ Q (.int i) H) ∨ ∃ k, xs = [.bl k] ∧ Q (.int (if k then 1 else 0)) H) (tCons t tNil)
abbrev tLen1 (t : TE) : TE := tCB (fun xs H Q => ∃ p ys, xs = [.ref p] ∧ (SqL K H p ys ∨ SqT K H p ys) ∧ Q (.int ys.length) H) (tCons t tNil)
abbrev tMix (t : TE) : TE := tCall spMix [] E0 (tCons t tNil)
abbrev gI (j : Int) : TG := gSub (tVar 0) (tC (.int j)) rSetL
abbrev ni (i : Int) : TE := tC (.int i)
def t_load : TS := tIfS (tTest (tOp rlt (tI K 1) (tLen1 K (tI K 0))))
  (tSeq (tAsg (tOp (rIxL K) (tI K 0) (tI K 1)) (gName 2))
  (tSeq (tAsg (tIf (tTest (tOp rge (tVar 2) (ni 0))) (tOp rmul (ni 2) (tVar 2)) (tOp rsub (tOp rmul (tUn (rU fun i => .int (-i)) (ni 2)) (tVar 2)) (ni 1))) (gName 2))
  (tSeq (tAsg (tOp radd (tI K 1) (ni 1)) (gI 1))
  (tSeq (tAsg (tMix (tOp radd (tI K 3) (tVar 2))) (gI 3))
    (tAsg (tIf (tTest (tOp rge (tVar 2) (tOp rpow (ni 10) (ni 18)))) (tVar 2) (tMix (tOp radd (tMix (tVar 2)) (tI K 1)))) (gI 2))))))
  (tSeq (tAsg (tMix (tOp radd (tI K 3) (ni 1))) (gI 3)) (tAsg (tI K 3) (gI 2)))
def t_out : TS := tSeq (tAsg (tOp rmod (tInt (tI K 2)) (tVar 1)) (gName 3)) (tSeq (tAsg (tOp rdiv (tI K 2) (tVar 1)) (gI 2)) (tRet (tVar 3)))
def t_take : TS := tSeq (tIfS (tTest (tOp rlt (tI K 2) (tVar 1))) (t_load K) tNext) (t_out K)
variable {K}
theorem r0 {bp : Addr} {a b c d v : V} {j : Int} {r : List (Option V)} {H : Hp} {Q : VK} {n : Nat} (h : H bp = some (.lst [a, b, c, d])) (hn : ixN 4 j = some n) (hv : [a, b, c, d][n]? = some v) (q : Q v H) : tI K j (some (.ref bp) :: r) H Q := rd_at rfl h hn hv q
theorem w0 {bp : Addr} {a b c d v : V} {j : Int} {r : List (Option V)} {H : Hp} {Q : L2.St → Hp → Prop} {n : Nat} (h : H bp = some (.lst [a, b, c, d])) (hn : ixN 4 j = some n) (q : Q (some (.ref bp) :: r) (L2.upd H bp (.lst ([a, b, c, d].set n v)))) : gI j v (some (.ref bp) :: r) H Q := wr_at rfl h hn q
theorem pure_out {bp bq : Addr} {u : Tp} {m : Int} {c d : Option V} {H : Hp} {Q : VK} (h : H bp = some (.lst (tpOut bq u))) (hm : 0 < m ∧ m < 1000000000)
    (q : Q (.int (u.rest % m)) (L2.upd H bp (.lst (tpOut bq ⟨u.cells, u.pos, u.rest / m, u.seed⟩)))) : t_out K { nx := fun _ H' => Q .non H', rt := Q } [some (.ref bp), some (.int m), c, d] H := by
  refine r0 h rfl rfl (.inl ⟨_, rfl, _, rfl, _, _, rfl, rfl, hm.1, ?_⟩)
  refine r0 h rfl rfl ⟨_, rfl, _, _, rfl, rfl, wide_div (b := 30) hm.1 (by omega) (by decide) (by decide), ?_⟩
  exact w0 h rfl ⟨_, rfl, q⟩
theorem pure_load {bp bq : Addr} {t : Tp} {m : V} {H : Hp} {D : Ends} (h1 : H bp = some (.lst (tpOut bq t))) (h2 : H bq = some (.lst (t.cells.map V.int))) (hne : bp ≠ bq)
    (q : ∀ c, D.nx [some (.ref bp), some m, c, none] (L2.upd H bp (.lst (tpOut bq (tpMore t))))) : t_load K D [some (.ref bp), some m, none, none] H := by
  have hnb : bq ≠ bp := Ne.symm hne
  refine r0 h1 rfl rfl ?_
  refine r0 h1 rfl rfl ⟨bq, t.cells.map V.int, rfl, .inl (SqL.of h2), ?_⟩
  refine ⟨_, _, rfl, rfl, _, rfl, ?_⟩
  rw [List.length_map]
  by_cases hp : t.pos < t.cells.length
  · have hg : t.cells[t.pos]? = some t.cells[t.pos] := List.getElem?_eq_getElem hp
    generalize t.cells[t.pos] = c at hg
    have em : tpMore t = ⟨t.cells, t.pos + 1, if 10 ^ 18 ≤ zig c then zig c else mixI (mixI (zig c) + ((t.pos : Int) + 1)), mixI (t.seed + zig c)⟩ := by unfold tpMore; rw [hg]
    rw [em] at q
    refine iteD (by omega) ?_
    refine r0 h1 rfl rfl (r0 h1 rfl rfl ⟨bq, _, _, .int c, rfl, rfl, SqL.of h2, ?_, ?_⟩)
    · unfold atI ixN
      rw [if_pos (by omega), List.length_map, if_pos (by omega)]
      show (t.cells.map V.int)[(t.pos : Int).toNat]? = _
      rw [Int.toNat_natCast, List.getElem?_map, hg]; rfl
    have hz : ∀ (Q' : VK) (σ : L2.St) (H' : Hp), σ[2]? = some (some (.int c)) → Q' (.int (zig c)) H' → tIf (tTest (tOp rge (tVar 2) (ni 0))) (tOp rmul (ni 2) (tVar 2)) (tOp rsub (tOp rmul (tUn (rU fun i => .int (-i)) (ni 2)) (tVar 2)) (ni 1)) σ H' Q' := fun Q' σ H' hs hq => by
      refine ⟨_, hs, _, _, rfl, rfl, _, rfl, ?_⟩
      unfold zig at hq
      by_cases hc : 0 ≤ c
      · rw [if_pos hc] at hq
        refine iteD hc ⟨_, hs, _, _, rfl, rfl, .inl ⟨by omega, by omega⟩, hq⟩
      · rw [if_neg hc] at hq
        refine iteN hc ⟨_, rfl, _, hs, _, _, rfl, rfl, .inl ⟨by omega, by omega⟩, _, _, rfl, rfl, hq⟩
    refine hz _ _ _ rfl ?_
    refine r0 h1 rfl rfl ⟨_, _, rfl, rfl, w0 h1 rfl ?_⟩
    have k1 : (upd H bp (.lst [.ref bq, .int ((t.pos : Int) + 1), .int t.rest, .int t.seed])) bp = some (.lst [.ref bq, .int ((t.pos : Int) + 1), .int t.rest, .int t.seed]) := upd_same
    refine r0 k1 rfl rfl ⟨_, rfl, _, _, rfl, rfl, _, rfl, w0 k1 rfl ?_⟩
    rw [upd_upd]
    have k2 : (upd H bp (.lst [.ref bq, .int ((t.pos : Int) + 1), .int t.rest, .int (mixI (t.seed + zig c))])) bp = some (.lst [.ref bq, .int ((t.pos : Int) + 1), .int t.rest, .int (mixI (t.seed + zig c))]) := upd_same
    have fin : ∀ x : Int, x = (if 10 ^ 18 ≤ zig c then zig c else mixI (mixI (zig c) + ((t.pos : Int) + 1))) →
        gI 2 (.int x) [some (.ref bp), some m, some (.int (zig c)), none] (upd H bp (.lst [.ref bq, .int ((t.pos : Int) + 1), .int t.rest, .int (mixI (t.seed + zig c))])) D.nx := fun x hx => by
      refine w0 k2 rfl ?_
      rw [upd_upd, hx]
      exact q _
    refine ⟨_, rfl, _, _, rfl, rfl, ⟨by decide, by decide, by decide⟩, _, _, rfl, rfl, _, rfl, ?_⟩
    by_cases hx : (10 : Int) ^ 18 ≤ zig c
    · refine iteD hx ⟨_, rfl, fin _ (by rw [if_pos hx])⟩
    · refine iteN hx ⟨_, rfl, _, rfl, r0 k2 rfl rfl ⟨_, _, rfl, rfl, _, rfl, fin _ (by rw [if_neg hx])⟩⟩
  · have hg : t.cells[t.pos]? = none := List.getElem?_eq_none (by omega)
    have em : tpMore t = ⟨t.cells, t.pos, mixI (t.seed + 1), mixI (t.seed + 1)⟩ := by unfold tpMore; rw [hg]
    rw [em] at q
    refine iteN (by omega) ?_
    refine r0 h1 rfl rfl ⟨_, _, rfl, rfl, _, rfl, w0 h1 rfl ?_⟩
    have k1 : (upd H bp (.lst [.ref bq, .int t.pos, .int t.rest, .int (mixI (t.seed + 1))])) bp = some (.lst [.ref bq, .int t.pos, .int t.rest, .int (mixI (t.seed + 1))]) := upd_same
    refine r0 k1 rfl rfl (w0 k1 rfl ?_)
    rw [upd_upd]
    exact q none
theorem pure_take {vs : List V} {H : Hp} {Q : VK} {E : XK} (h : spTake vs H Q E) : t_take K { nx := fun _ H' => Q .non H', rt := Q } (L2.start ["tape", "many", "cell", "digit"] vs) H := by
  obtain ⟨bp, bq, t, m, rfl, h1, h2, hne, hm, q⟩ := h
  refine r0 h1 rfl rfl ⟨_, rfl, _, _, rfl, rfl, _, rfl, ?_⟩
  by_cases hr : t.rest < m
  · have el : tpLoad t m = tpMore t := by unfold tpLoad; rw [if_pos hr]
    unfold tpTake at q
    rw [el] at q
    refine iteD hr (pure_load h1 h2 hne fun c => pure_out upd_same hm ?_)
    rw [upd_upd]
    exact q
  · have el : tpLoad t m = t := by unfold tpLoad; rw [if_neg hr]
    unfold tpTake at q
    rw [el] at q
    exact iteN hr (pure_out h1 hm q)
end
/-! ### the primitive -/
def takeR (m : Int) : M Tp D := fun b => .ok (.int (tpTake b m).1) (tpTake b m).2
def takeP : List D → M Tp D
  | [.box, .int m] => if 0 < m ∧ m < 1000000000 then takeR m else stk
  | _ => stk
theorem rep_box {K : PySem.W.Frag} {mg : PySem.Str → Option Value} {bp : Addr} {B : Hp} {v : V} (h : Rep K mg bp B .box v) : v = .ref bp := by simpa only [Rep] using h
theorem rep_int {K : PySem.W.Frag} {mg : PySem.Str → Option Value} {bp : Addr} {B : Hp} {v : V} {i : Int} (h : Rep K mg bp B (.int i) v) : v = .int i := by simpa only [Rep] using h
/-- the box is written -/
theorem Good.box {β : Type} {Y : Sys β} {bp bq : Addr} {B H : Hp} {b b' : β} (g : Good Y bp bq B H b) {o : HO} (hne : bp ≠ bq) (h1 : (Y.bo bq b').1 = o) (h2 : (Y.bo bq b').2 = (Y.bo bq b).2) :
    Ext bp bq B B H (L2.upd H bp o) ∧ Good Y bp bq B (L2.upd H bp o) b' :=
  ⟨⟨Same.refl _, fun a h k => absurd k h, fun a n1 _ _ => upd_ne n1⟩, ⟨fun a o' ha => by rw [upd_ne fun z => by rw [z, g.b1] at ha; cases ha]; exact g.sub a o' ha, g.b1, g.b2, by rw [upd_same, h1], by rw [upd_ne (Ne.symm hne), h2]; exact g.h2⟩⟩
theorem prim_take {Y : Sys Tp} (hb : Y.bo = tpBo) (hp : Y.pr.prim "_law_take" = some takeP) {k : Nat} (hk : 3 ≤ k) {vs : List V} {H : Hp} {Q : VK} {E : XK} (h : spC Y (k + 1) "_law_take" 2 vs H Q E) : spTake vs H Q E := by
  obtain ⟨hl, bp, bq, B, ds, b, d, b', g, r, e, w⟩ := h
  simp only [PL.call, hp, if_pos hk] at e
  unfold takeP at e
  split at e
  · rename_i m
    obtain ⟨v1, r1, rfl, h1, h2⟩ := r.inv
    obtain ⟨v2, r2, rfl, h3, h4⟩ := h2.inv
    obtain rfl := h4.nil_inv
    by_cases hm : 0 < m ∧ m < 1000000000
    · rw [if_pos hm] at e
      have e : R.ok (D.int (tpTake b m).1) (tpTake b m).2 = R.ok d b' := e
      cases e
      have g1 := g.h1
      have g2 := g.h2
      rw [hb] at g1 g2
      have hne : bp ≠ bq := fun z => by
        rw [z, g2] at g1
        have h : (b.cells.map V.int) = tpOut bq b := by simpa [tpBo] using g1
        cases hc : b.cells with
        | nil => rw [hc] at h; cases h
        | cons c cs => rw [hc] at h; cases h
      obtain ⟨x2, g3⟩ := g.box (b' := (tpTake b m).2) (o := .lst (tpOut bq (tpTake b m).2)) hne (by rw [hb]; rfl) (by
        rw [hb]
        show HO.lst ((tpTake b m).2.cells.map V.int) = HO.lst (b.cells.map V.int)
        have : (tpTake b m).2.cells = b.cells := by
          unfold tpTake tpLoad
          split
          · unfold tpMore
            split <;> rfl
          · rfl
        rw [this])
      refine ⟨bp, bq, b, m, by rw [rep_box h1, rep_int h3], g1, g2, hne, hm, w B _ _ x2 g3 (by simp only [Rep])⟩
    · rw [if_neg hm] at e
      exact (stk_ok e).elim
  · exact (stk_ok e).elim
end PL

set_option autoImplicit false
set_option linter.all false
set_option maxRecDepth 100000
set_option maxHeartbeats 4000000
/-! PL16: the law's def. -/
namespace PL
open PySem PySem.Spec PyProof.Rows L2
def spLaw (K : PySem.W.Frag) : Sp := fun vs H Q _ => ∃ (a : Addr) (ns : List Int), vs = [.ref a] ∧ ns.length ≤ 63 ∧ SqL K H a (ns.map V.int) ∧ ∀ H', Q (.bl true) H'
theorem law_fn {β : Type} {Y : Sys β} (O : Y.Ok) (HF : FnsOk Y) {k : Nat} {fT fa : Addr} {fdT fd : FuncData} {spT : Sp} (GT : FnOk Y.P Y.w Y.K Y.mg Y.base CX0 1 fT fdT ["script"] spT) {tf tn : String} (gT : Y.mg (sx tf) = some (.ref fT)) (kT : PySem.W.keepIn Y.K (.ref fT) = true) (bT : Binds Y.K fdT ["script"] [])
    (hT : ∀ (a : Addr) (ns : List Int) (H : Hp) (Q : VK) (E : XK), SqL Y.K H a (ns.map V.int) → ns.length ≤ 63 → (∀ bp bq b H', H' bp = some (Y.bo bq b).1 → H' bq = some (Y.bo bq b).2 → Q (.ref bp) H') → spT [.ref a] H Q E)
    {fl : Fn} {ms : List String} {p1 p2 p3 p4 p5 : Pos} {args : Arguments} {rest : List Stmt} {scope : Scope}
    (FL : FunD Y.K "law" "law" args (.Assign [.Name (sx tn) p1] (.Call (.Name (sx tf) p2) [.Name "script" p3] [] p4) p5 :: rest) scope [] [] fa fd) (hn : fl.names = "script" :: tn :: ms) (hsc : C8.scC (fl.names.map sx) ["script"] scope = true)
    (hc : chkSs Y.ar Y.fr (fl.names.map sx) fl.body scope rest = true) (h1 : locB scope (sx tn) = true) (h2 : visB scope (sx "script") = true) (h3 : glbB scope (sx tf) = true) (h4 : (sx tf == ("__debug__" : PySem.Str)) = false)
    (Hm : ∀ b, ∃ ρ' b', exs Y.pr.gl (PL.call Y.pr (k + 1)) fl.body (.un :: .im .box :: List.replicate ms.length .un) b = .ok (.rt (.bl true), ρ') b') : FnOk Y.P Y.w Y.K Y.mg Y.base CX0 (k + 2) fa fd ["script"] (spLaw Y.K) := by
  have S := C8.fnScope_by hsc
  refine FL.ok S (fun vs H Q E ⟨a, ns, z, _⟩ => by rw [z]; rfl) fun cdv A outer s H vs Q E hr hsp => ?_
  refine ⟨_, PSs.nox (pss_cons (ps_set (i := 1) S.nd ?_ (loc_of h1) (pe_call GT (hr.mono (by omega)) (gl_of (Y := Y) (k := k + 1) (N := fl.names.map sx) ?_ h3) gT kT bT .nil pass0 (pa_cons (pe_var (i := 0) ?_ (vis_of h2) (by decide +kernel) (by decide +kernel)) pa_nil (by rfl)) h4 (by rfl) (by rfl)) (by rfl) (.inl rfl)) (sndSs O (callees O HF (k + 1)) (N := fl.names.map sx) (sc := scope) ?_ (fun _ => rfl) fl.body rest hc)), ?_⟩
  · show (fl.names.map sx)[1]? = _
    rw [hn]; rfl
  · exact ⟨rfl, rfl, rfl, rfl, rfl, rfl, rfl, S.nd, rfl, S.kind, hr, rfl⟩
  · show (fl.names.map sx)[0]? = _
    rw [hn]; rfl
  · exact ⟨rfl, rfl, rfl, rfl, rfl, rfl, rfl, S.nd, rfl, S.kind, hr, rfl⟩
  · obtain ⟨a, ns, rfl, hl, hS, q⟩ := hsp
    refine ⟨_, rfl, ?_⟩
    refine hT a ns H _ _ hS hl fun bp bq b H' e1 e2 => ?_
    obtain ⟨ρ', b', em⟩ := Hm b
    refine ⟨bp, bq, fun _ => none, H', fun _ => none, _, b, _, ρ', b', ⟨⟨fun a o h => (by cases h), rfl, rfl, e1, e2⟩, ?_, Ext.refl, ?_⟩, em, fun σ' B' H'' c => ?_⟩
    · have hs : (L2.start (fl.names.map sx) [V.ref a]).set 1 (some (.ref bp)) = some (.ref a) :: some (.ref bp) :: List.replicate ms.length none := by
        rw [hn]
        simp [L2.start, List.replicate_succ]
      show RepE Y bp bq _ H' _ ((L2.start (fl.names.map sx) [V.ref a]).set 1 (some (.ref bp)))
      rw [hs]
      have key : ∀ (i : Nat) c, (Cell.un :: Cell.im .box :: List.replicate ms.length Cell.un)[i]? = some c → (i = 1 ∧ c = .im .box) ∨ c = .un := by
        intro i c e
        match i, e with
        | 0, e => exact .inr (Option.some.inj e).symm
        | 1, e => exact .inl ⟨rfl, (Option.some.inj e).symm⟩
        | i + 2, e =>
          have e : (List.replicate ms.length Cell.un)[i]? = some c := by simpa using e
          exact .inr (List.mem_replicate.mp (List.mem_of_getElem? e)).2
      refine ⟨by simp, fun i d e => ?_, fun i xs e => ?_, fun i j xs ys p _ e => ?_⟩
      · rcases key i _ e with ⟨rfl, h⟩ | h
        · cases h
          exact ⟨_, rfl, by simp only [Rep]⟩
        · cases h
      · rcases key i _ e with ⟨rfl, h⟩ | h <;> cases h
      · rcases key i _ e with ⟨rfl, h⟩ | h <;> cases h
    · intro i xs p e
      match i, e with
      | 0, e => cases e
      | 1, e => cases e
      | i + 2, e =>
        have e : (List.replicate ms.length Cell.un)[i]? = some (.ow xs) := by simpa using e
        have := (List.mem_replicate.mp (List.mem_of_getElem? e)).2
        cases this
    · intro v hv
      have : v = .bl true := by simpa only [Rep] using hv
      rw [this]
      exact q H''
end PL
namespace PL
open PySem PySem.Spec PyProof.Rows L2
theorem lookup_mem {α : Type} {x : String} {a : α} : ∀ {l : List (String × α)}, l.lookup x = some a → (x, a) ∈ l
  | [], h => by cases h
  | (y, b) :: l, h => by
    rw [List.lookup_cons] at h
    cases q : x == y with
    | true =>
      rw [q] at h
      have e : x = y := eq_of_beq q
      subst e
      simp only [Option.some.injEq] at h
      subst h
      exact List.mem_cons_self
    | false =>
      rw [q] at h
      exact List.mem_cons_of_mem _ (lookup_mem h)
section
variable {K : PySem.W.Frag} {mg : PySem.Str → Option Value} {x : PySem.Str}
theorem gl_int {i : Int} (h : ∃ t, mg x = some (.int i t)) : ∃ v u, mg x = some u ∧ RelV v u ∧ ∀ bp B, Rep K mg bp B (.int i) v := by
  obtain ⟨t, h⟩ := h
  exact ⟨.int i, _, h, ⟨t, rfl⟩, fun bp B => by simp only [Rep]⟩
theorem gl_str {i : PySem.Str} (h : ∃ t, mg x = some (.str i t)) : ∃ v u, mg x = some u ∧ RelV v u ∧ ∀ bp B, Rep K mg bp B (.str i) v := by
  obtain ⟨t, h⟩ := h
  exact ⟨.str i, _, h, ⟨t, rfl⟩, fun bp B => by simp only [Rep]⟩
theorem gl_tup {a : Addr} {ds : List D} {vs : List V} (h : mg x = some (.ref a)) (s : ∀ H, SqT K H a vs) (r : ∀ bp B, RepL K mg bp B ds vs) : ∃ v u, mg x = some u ∧ RelV v u ∧ ∀ bp B, Rep K mg bp B (.tup ds) v :=
  ⟨.ref a, _, h, rfl, fun bp B => by simp only [Rep]; exact ⟨a, vs, rfl, s B, r bp B⟩⟩
end
end PL

set_option autoImplicit false
set_option linter.all false
set_option maxRecDepth 100000
set_option maxHeartbeats 2000000
/-! M1: running the small language. -/
namespace PL
section
variable {β α γ : Type}
def Run (m : M β α) (b : β) (Q : α → β → Prop) : Prop := ∃ a b', m b = .ok a b' ∧ Q a b'
theorem run_ret {a : α} {b : β} {Q : α → β → Prop} : Run (ret a) b Q ↔ Q a b := by
  constructor
  · rintro ⟨a', b', e, q⟩; cases e; exact q
  · intro q; exact ⟨a, b, rfl, q⟩
theorem run_stk {b : β} {Q : α → β → Prop} : Run (stk : M β α) b Q ↔ False := by
  constructor
  · rintro ⟨a', b', e, q⟩; cases e
  · intro q; exact q.elim
theorem run_bnd {m : M β α} {f : α → M β γ} {b : β} {Q : γ → β → Prop} : Run (bnd m f) b Q ↔ Run m b (fun a b' => Run (f a) b' Q) := by
  constructor
  · rintro ⟨c, b', e, q⟩
    unfold bnd at e
    cases h : m b with
    | ok a b1 => rw [h] at e; exact ⟨a, b1, h, c, b', e, q⟩
    | exc _ _ _ => rw [h] at e; cases e
    | stuck => rw [h] at e; cases e
  · rintro ⟨a, b1, h, c, b', e, q⟩
    exact ⟨c, b', by unfold bnd; rw [h]; exact e, q⟩
theorem run_lft {o : Option α} {b : β} {Q : α → β → Prop} : Run (lft o) b Q ↔ ∃ a, o = some a ∧ Q a b := by
  cases o with
  | none =>
    constructor
    · rintro ⟨a', b', e, q⟩; cases e
    · rintro ⟨a, e, _⟩; cases e
  | some a =>
    constructor
    · rintro ⟨a', b', e, q⟩; cases e; exact ⟨_, rfl, q⟩
    · rintro ⟨a', e, q⟩; cases e; exact ⟨_, _, rfl, q⟩
theorem run_ite {c : Prop} [Decidable c] {m n : M β α} {b : β} {Q : α → β → Prop} : Run (if c then m else n) b Q ↔ if c then Run m b Q else Run n b Q := by
  by_cases h : c <;> simp only [h, if_true, if_false]
theorem Run.mono {m : M β α} {b : β} {Q Q' : α → β → Prop} (h : Run m b Q) (i : ∀ a b', Q a b' → Q' a b') : Run m b Q' := let ⟨a, b', e, q⟩ := h; ⟨a, b', e, i a b' q⟩
theorem eq_ret {m : M β α} {v : α} (h : ∀ b, Run m b (fun a b' => a = v ∧ b' = b)) : m = ret v := by
  funext b
  obtain ⟨a, b', e, rfl, rfl⟩ := h b
  exact e
theorem bnd_eq {m : M β α} {a : α} (h : m = ret a) (f : α → M β γ) : bnd m f = f a := by rw [h]; rfl
/-- what a block does to how it ends -/
def nxts (Q : Fl × Env → β → Prop) (k : Env → M β (Fl × Env)) : Fl × Env → β → Prop := fun x b => match x.1 with
  | .nx => Run (k x.2) b Q
  | .bk => Q (.bk, x.2) b
  | .ct => Q (.ct, x.2) b
  | .rt d => Q (.rt d, x.2) b
variable {gl : String → Option D} {F : String → List D → M β D}
theorem run_exs_nil {ρ : Env} {b : β} {Q : Fl × Env → β → Prop} : Run (exs gl F [] ρ) b Q ↔ Q (.nx, ρ) b := by
  simp only [exs, nxt]; exact run_ret
theorem run_exs_cons {s : S} {r : List S} {ρ : Env} {b : β} {Q : Fl × Env → β → Prop} : Run (exs gl F (s :: r) ρ) b Q ↔ Run (ex gl F s ρ) b (nxts Q (exs gl F r)) := by
  simp only [exs]
  rw [run_bnd]
  constructor
  · intro h
    refine h.mono fun x b' q => ?_
    unfold nxts
    cases hx : x.1 <;> simp only [hx] at q ⊢ <;> first | exact q | exact run_ret.mp q
  · intro h
    refine h.mono fun x b' q => ?_
    unfold nxts at q
    cases hx : x.1 <;> simp only [hx] at q ⊢ <;> first | exact q | exact run_ret.mpr q
theorem exs_ret {s : S} {r : List S} {ρ : Env} {x : Fl × Env} (h : ex gl F s ρ = ret x) : exs gl F (s :: r) ρ = match x.1 with
    | .nx => exs gl F r x.2
    | .bk => ret (.bk, x.2)
    | .ct => ret (.ct, x.2)
    | .rt d => ret (.rt d, x.2) := by
  simp only [exs, h]; rfl
/-! ### loops -/
theorem whlN_more {c : Env → M β Bool} {f : Env → M β (Fl × Env)} : ∀ (n m : Nat) (ρ : Env) (b : β) (x : Fl × Env) (b' : β), whlN c f n ρ b = .ok x b' → whlN c f (n + m) ρ b = .ok x b'
  | 0, m, ρ, b, x, b', h => by cases h
  | n + 1, m, ρ, b, x, b', h => by
    rw [Nat.succ_add]
    simp only [whlN, bnd] at h ⊢
    cases hc : c ρ b with
    | ok t b1 =>
      rw [hc] at h
      simp only at h ⊢
      cases t with
      | false => simpa using h
      | true =>
        simp only [if_true, bnd] at h ⊢
        cases hf : f ρ b1 with
        | ok r b2 =>
          rw [hf] at h
          simp only at h ⊢
          obtain ⟨r1, r2⟩ := r
          cases r1 with
          | nx => exact whlN_more n m _ _ _ _ h
          | ct => exact whlN_more n m _ _ _ _ h
          | bk => exact h
          | rt d => exact h
        | exc _ _ _ => rw [hf] at h; cases h
        | stuck => rw [hf] at h; cases h
    | exc _ _ _ => rw [hc] at h; cases h
    | stuck => rw [hc] at h; cases h
theorem whlN_moreE {c : Env → M β Bool} {f : Env → M β (Fl × Env)} : ∀ (n m : Nat) (ρ : Env) (b : β) (x : String) (p : List D) (b' : β), whlN c f n ρ b = .exc x p b' → whlN c f (n + m) ρ b = .exc x p b'
  | 0, m, ρ, b, x, p, b', h => by cases h
  | n + 1, m, ρ, b, x, p, b', h => by
    rw [Nat.succ_add]
    simp only [whlN, bnd] at h ⊢
    cases hc : c ρ b with
    | ok t b1 =>
      rw [hc] at h
      simp only at h ⊢
      cases t with
      | false => simpa using h
      | true =>
        simp only [if_true, bnd] at h ⊢
        cases hf : f ρ b1 with
        | ok r b2 =>
          rw [hf] at h
          simp only at h ⊢
          obtain ⟨r1, r2⟩ := r
          cases r1 with
          | nx => exact whlN_moreE n m _ _ _ _ _ h
          | ct => exact whlN_moreE n m _ _ _ _ _ h
          | bk => exact h
          | rt d => exact h
        | exc _ _ _ => rw [hf] at h; simpa using h
        | stuck => rw [hf] at h; cases h
    | exc _ _ _ => rw [hc] at h; simpa using h
    | stuck => rw [hc] at h; cases h
theorem whlM_of {c : Env → M β Bool} {f : Env → M β (Fl × Env)} {n : Nat} {ρ : Env} {b b' : β} {x : Fl × Env} (h : whlN c f n ρ b = .ok x b') : whlM c f ρ b = .ok x b' := by
  have he : ∃ n, whlN c f n ρ b ≠ .stuck := ⟨n, by rw [h]; exact fun z => by cases z⟩
  unfold whlM
  rw [dif_pos he]
  have hs := he.choose_spec
  generalize he.choose = m at hs
  have h1 := whlN_more n m ρ b x b' h
  cases hm : whlN c f m ρ b with
  | ok y b2 =>
    have h2 := whlN_more m n ρ b y b2 hm
    rw [Nat.add_comm, h1] at h2
    exact h2.symm
  | exc y p b2 =>
    have h2 := whlN_moreE m n ρ b y p b2 hm
    rw [Nat.add_comm, h1] at h2
    cases h2
  | stuck => exact absurd hm hs
/-- how a turn goes on -/
def turn (N : Env → β → Prop) (Q : Fl × Env → β → Prop) : Fl × Env → β → Prop := fun x b => match x.1 with
  | .nx => N x.2 b
  | .ct => N x.2 b
  | .bk => Q (.nx, x.2) b
  | .rt d => Q (.rt d, x.2) b
theorem run_whl {c : Env → M β Bool} {f : Env → M β (Fl × Env)} {Q : Fl × Env → β → Prop} (I : Nat → Env → β → Prop)
    (hs : ∀ n ρ b, I n ρ b → Run (c ρ) b (fun t b' => if t = true then Run (f ρ) b' (turn (fun ρ' b'' => ∃ m, m < n ∧ I m ρ' b'') Q) else Q (.nx, ρ) b')) {n : Nat} {ρ : Env} {b : β} (h0 : I n ρ b) : Run (whlM c f ρ) b Q := by
  have key : ∀ n ρ b, I n ρ b → ∃ k x b', whlN c f k ρ b = .ok x b' ∧ Q x b' := by
    intro n
    induction n using Nat.strongRecOn with
    | _ n ih =>
      intro ρ b h
      obtain ⟨t, b1, e1, h1⟩ := hs n ρ b h
      cases t with
      | false => exact ⟨1, _, _, by simp only [whlN, bnd, e1]; rfl, h1⟩
      | true =>
        simp only [if_true] at h1
        obtain ⟨⟨r1, r2⟩, b2, e2, h2⟩ := h1
        cases r1 with
        | nx =>
          obtain ⟨m, hm, h3⟩ := h2
          obtain ⟨k, x, b', e3, q⟩ := ih m hm _ _ h3
          exact ⟨k + 1, x, b', by simp only [whlN, bnd, e1, e2, if_true]; exact e3, q⟩
        | ct =>
          obtain ⟨m, hm, h3⟩ := h2
          obtain ⟨k, x, b', e3, q⟩ := ih m hm _ _ h3
          exact ⟨k + 1, x, b', by simp only [whlN, bnd, e1, e2, if_true]; exact e3, q⟩
        | bk => exact ⟨1, _, _, by simp only [whlN, bnd, e1, e2, if_true]; rfl, h2⟩
        | rt d => exact ⟨1, _, _, by simp only [whlN, bnd, e1, e2, if_true]; rfl, h2⟩
  obtain ⟨k, x, b', e, q⟩ := key n ρ b h0
  exact ⟨x, b', whlM_of e, q⟩
theorem run_for {f : D → Env → M β (Fl × Env)} {Q : Fl × Env → β → Prop} (I : Nat → Env → β → Prop) {xs : List D}
    (hs : ∀ i d ρ b, xs[i]? = some d → I i ρ b → Run (f d ρ) b (turn (I (i + 1)) Q)) (hd : ∀ ρ b, I xs.length ρ b → Q (.nx, ρ) b) {ρ : Env} {b : β} (h0 : I 0 ρ b) : Run (forM f xs ρ) b Q := by
  induction xs generalizing I ρ b with
  | nil => exact ⟨_, _, rfl, hd _ _ h0⟩
  | cons x xs ih =>
    simp only [forM]
    rw [run_bnd]
    refine (hs 0 x ρ b rfl h0).mono fun r b' q => ?_
    obtain ⟨r1, r2⟩ := r
    cases r1 with
    | nx => exact ih (fun i => I (i + 1)) (fun i d ρ b e h => hs (i + 1) d ρ b (by simpa using e) h) (fun ρ b h => hd ρ b (by simpa using h)) q
    | ct => exact ih (fun i => I (i + 1)) (fun i d ρ b e h => hs (i + 1) d ρ b (by simpa using e) h) (fun ρ b h => hd ρ b (by simpa using h)) q
    | bk => exact run_ret.mpr q
    | rt d => exact run_ret.mpr q
theorem compM_ret {f : D → M β (Option D)} {g : D → Option D} : ∀ {xs : List D}, (∀ x ∈ xs, f x = ret (g x)) → compM f xs = ret (xs.filterMap g)
  | [], _ => rfl
  | x :: xs, h => by
    simp only [compM]
    rw [h x List.mem_cons_self, compM_ret fun y hy => h y (List.mem_cons_of_mem _ hy)]
    cases hg : g x with
    | none => rw [List.filterMap_cons_none hg]; rfl
    | some v => rw [List.filterMap_cons_some hg]; rfl
theorem compM_map {f : D → M β (Option D)} {g : D → D} {xs : List D} (h : ∀ x ∈ xs, f x = ret (some (g x))) : compM f xs = ret (xs.map g) := by
  rw [compM_ret (g := fun x => some (g x)) h, List.filterMap_eq_map']
theorem run_comp {f : D → M β (Option D)} (J : Nat → List D → β → Prop) {xs : List D} {Q : List D → β → Prop}
    (hs : ∀ i d acc b, xs[i]? = some d → J i acc b → Run (f d) b (fun o b' => J (i + 1) (match o with
      | some v => acc ++ [v]
      | none => acc) b')) (hd : ∀ acc b, J xs.length acc b → Q acc b) {b : β} (h0 : J 0 [] b) : Run (compM f xs) b Q := by
  have key : ∀ (xs : List D) (J : Nat → List D → β → Prop) (acc : List D) (b : β), (∀ i d acc b, xs[i]? = some d → J i acc b → Run (f d) b (fun o b' => J (i + 1) (match o with
      | some v => acc ++ [v]
      | none => acc) b')) → J 0 acc b → Run (compM f xs) b (fun r b' => J xs.length (acc ++ r) b') := by
    intro xs
    induction xs with
    | nil => intro J acc b hs h; exact ⟨[], b, rfl, by simpa using h⟩
    | cons x xs ih =>
      intro J acc b hs h
      simp only [compM]
      rw [run_bnd]
      refine (hs 0 x acc b rfl h).mono fun o b' q => ?_
      rw [run_bnd]
      refine (ih (fun i => J (i + 1)) _ b' (fun i d acc b e h => hs (i + 1) d acc b (by simpa using e) h) q).mono fun r b'' q' => ?_
      rw [run_ret]
      cases o with
      | none => simpa using q'
      | some v => simpa using q'
  exact (key xs J [] b hs h0).mono fun r b' q => hd r b' (by simpa using q)
/-! ### calls -/
variable {P : Prog β}
theorem call_fn {x : String} {f : Fn} {args : List D} {k : Nat} (h1 : P.prim x = none) (h2 : P.fns x = some f) (h3 : args.length = f.np) :
    call P (k + 1) x args = endF (exs P.gl (call P k) f.body (args.map Cell.im ++ List.replicate (f.names.length - f.np) Cell.un)) := by
  simp only [call, h1, h2, if_pos h3]
theorem run_endF {m : M β (Fl × Env)} {b : β} {Q : D → β → Prop} : Run (endF m) b Q ↔ Run m b (fun r b' => match r.1 with
    | .rt d => Q d b'
    | .nx => Q .non b'
    | _ => False) := by
  unfold endF
  rw [run_bnd]
  constructor
  · intro h
    refine h.mono fun r b' q => ?_
    cases hr : r.1 <;> simp only [hr] at q ⊢ <;> first | exact run_ret.mp q | exact run_stk.mp q
  · intro h
    refine h.mono fun r b' q => ?_
    cases hr : r.1 <;> simp only [hr] at q ⊢ <;> first | exact run_ret.mpr q | exact q.elim
theorem ex_iff {c : E} {a b : List S} {ρ : Env} {t : Bool} (h : tst gl F c ρ = ret t) : ex gl F (.iff c a b) ρ = if t = true then exs gl F a ρ else exs gl F b ρ := by
  simp only [ex, h]; rfl
theorem exs_iff {c : E} {a b r : List S} {ρ : Env} {t : Bool} (h : tst gl F c ρ = ret t) : exs gl F (.iff c a b :: r) ρ = bnd (if t = true then exs gl F a ρ else exs gl F b ρ) (fun x => match x.1 with
    | .nx => exs gl F r x.2
    | .bk => ret (.bk, x.2)
    | .ct => ret (.ct, x.2)
    | .rt d => ret (.rt d, x.2)) := by
  simp only [exs, ex_iff h] <;> rfl
theorem exs_T {c : E} {a b r : List S} {ρ : Env} {d : D} {ρ' : Env} (h : tst gl F c ρ = ret true) (h2 : exs gl F a ρ = ret (.rt d, ρ')) : exs gl F (.iff c a b :: r) ρ = ret (.rt d, ρ') := by
  rw [exs_iff h, if_pos rfl, h2]; rfl
theorem exs_F {c : E} {a r : List S} {ρ : Env} (h : tst gl F c ρ = ret false) : exs gl F (.iff c a [] :: r) ρ = exs gl F r ρ := by
  rw [exs_iff h, if_neg (by decide)]; rfl
theorem exs_Tn {c : E} {a b r : List S} {ρ ρ' : Env} (h : tst gl F c ρ = ret true) (h2 : exs gl F a ρ = ret (.nx, ρ')) : exs gl F (.iff c a b :: r) ρ = exs gl F r ρ' := by
  rw [exs_iff h, if_pos rfl, h2]; rfl
theorem exs_Fn {c : E} {a b r : List S} {ρ ρ' : Env} (h : tst gl F c ρ = ret false) (h2 : exs gl F b ρ = ret (.nx, ρ')) : exs gl F (.iff c a b :: r) ρ = exs gl F r ρ' := by
  rw [exs_iff h, if_neg (by decide), h2]; rfl
theorem exs_Fr {c : E} {a b r : List S} {ρ ρ' : Env} {d : D} (h : tst gl F c ρ = ret false) (h2 : exs gl F b ρ = ret (.rt d, ρ')) : exs gl F (.iff c a b :: r) ρ = ret (.rt d, ρ') := by
  rw [exs_iff h, if_neg (by decide), h2]; rfl
theorem exs_rt {e : E} {r : List S} {ρ : Env} {d : D} (h : ev gl F e ρ = ret d) : exs gl F (.ret e :: r) ρ = ret (.rt d, ρ) := by
  simp only [exs, ex, h]; rfl
theorem exs_asg {i : Nat} {e : E} {r : List S} {ρ : Env} {d : D} (h : ev gl F e ρ = ret d) : exs gl F (.asg (.nm i) e :: r) ρ = exs gl F r (ρ.set i (.im d)) := by
  simp only [exs, ex, h]; rfl
theorem endF_rt {m : M β (Fl × Env)} {d : D} {ρ : Env} (h : m = ret (.rt d, ρ)) : endF m = ret d := by rw [h]; rfl
end
/-! ### the rules of reckoning, for simp -/
section
variable {β : Type} {gl : String → Option D} {F : String → List D → M β D} {ρ : Env}
@[simp] theorem getV_zero {d : D} : (getV (.im d :: ρ) 0 : M β D) = ret d := rfl
@[simp] theorem getV_succ {c : Cell} {n : Nat} : (getV (c :: ρ) (n + 1) : M β D) = getV ρ n := rfl
@[simp] theorem getB_zero {d : D} : (getB (.im d :: ρ) 0 : M β D) = ret d := rfl
@[simp] theorem getB_ow {d : List D} : (getB (.ow d :: ρ) 0 : M β D) = ret (.lst d) := rfl
@[simp] theorem getB_succ {c : Cell} {n : Nat} : (getB (c :: ρ) (n + 1) : M β D) = getB ρ n := rfl
@[simp] theorem getO_zero {d : List D} : (getO (.ow d :: ρ) 0 : M β (List D)) = ret d := rfl
@[simp] theorem getO_succ {c : Cell} {n : Nat} : (getO (c :: ρ) (n + 1) : M β (List D)) = getO ρ n := rfl
@[simp] theorem ev_var {i : Nat} : ev gl F (.var i) ρ = getV ρ i := by simp only [ev]
@[simp] theorem ev_bvar {i : Nat} : ev gl F (.bvar i) ρ = getB ρ i := by simp only [ev]
@[simp] theorem ev_glob {x : String} : ev gl F (.glob x) ρ = lft (gl x) := by simp only [ev]
@[simp] theorem ev_lit {d : D} : ev gl F (.lit d) ρ = ret d := by simp only [ev]
@[simp] theorem ev_bin {o : Bop} {a b : E} : ev gl F (.bin o a b) ρ = bnd (ev gl F a ρ) fun x => bnd (ev gl F b ρ) fun y => lft (bop o x y) := by simp only [ev]
@[simp] theorem ev_neg {a : E} : ev gl F (.neg a) ρ = bnd (ev gl F a ρ) fun x => bnd (lft (toI x)) fun i => ret (.int (-i)) := by simp only [ev]
@[simp] theorem ev_no {a : E} : ev gl F (.no a) ρ = bnd (ev gl F a ρ) fun x => bnd (lft (truth x)) fun t => ret (.bl (!t)) := by simp only [ev]
@[simp] theorem ev_and {es : List E} : ev gl F (.and es) ρ = evA gl F es ρ := by simp only [ev]
@[simp] theorem ev_or {es : List E} : ev gl F (.or es) ρ = evO gl F es ρ := by simp only [ev]
@[simp] theorem ev_cmp {o : Cop} {a b : E} : ev gl F (.cmp o a b) ρ = bnd (ev gl F a ρ) fun x => bnd (ev gl F b ρ) fun y => bnd (lft (cop o x y)) fun t => ret (.bl t) := by simp only [ev]
@[simp] theorem ev_chn {o p : Cop} {a b c : E} : ev gl F (.chn o p a b c) ρ = bnd (ev gl F a ρ) fun x => bnd (ev gl F b ρ) fun y => bnd (lft (cop o x y)) fun t =>
      if t = true then bnd (ev gl F c ρ) fun z => bnd (lft (cop p y z)) fun u => ret (.bl u) else ret (.bl false) := by simp only [ev]
@[simp] theorem ev_isi {a : E} {t : Ty} : ev gl F (.isi a t) ρ = bnd (ev gl F a ρ) fun x => bnd (lft (isi x t)) fun t => ret (.bl t) := by simp only [ev]
@[simp] theorem ev_ite {c a b : E} : ev gl F (.ite c a b) ρ = bnd (ev gl F c ρ) fun x => bnd (lft (truth x)) fun t => if t = true then ev gl F a ρ else ev gl F b ρ := by simp only [ev]
@[simp] theorem ev_idx {a i : E} : ev gl F (.idx a i) ρ = bnd (ev gl F a ρ) fun x => bnd (ev gl F i ρ) fun y => lft (idx x y) := by simp only [ev]
@[simp] theorem ev_sl1 {a lo : E} : ev gl F (.sl1 a lo) ρ = bnd (ev gl F a ρ) fun x => bnd (ev gl F lo ρ) fun l => bnd (lft (toI l)) fun l => lft (sli (some l) none x) := by simp only [ev]
@[simp] theorem ev_sl2 {a hi : E} : ev gl F (.sl2 a hi) ρ = bnd (ev gl F a ρ) fun x => bnd (ev gl F hi ρ) fun u => bnd (lft (toI u)) fun u => lft (sli none (some u) x) := by simp only [ev]
@[simp] theorem ev_sl3 {a lo hi : E} : ev gl F (.sl3 a lo hi) ρ = bnd (ev gl F a ρ) fun x => bnd (ev gl F lo ρ) fun l => bnd (lft (toI l)) fun l => bnd (ev gl F hi ρ) fun u => bnd (lft (toI u)) fun u => lft (sli (some l) (some u) x) := by simp only [ev]
@[simp] theorem ev_rev {a : E} : ev gl F (.rev a) ρ = bnd (ev gl F a ρ) fun x => lft (revD x) := by simp only [ev]
@[simp] theorem ev_tup {es : List E} : ev gl F (.tup es) ρ = bnd (evL gl F es ρ) fun ds => if ds.length ≤ lim then ret (.tup ds) else stk := by simp only [ev]
@[simp] theorem ev_lst {es : List E} : ev gl F (.lst es) ρ = bnd (evL gl F es ρ) fun ds => if ds.length ≤ lim then ret (.lst ds) else stk := by simp only [ev]
@[simp] theorem ev_bi {f : Bi} {es : List E} : ev gl F (.bi f es) ρ = bnd (evL gl F es ρ) fun ds => lft (bfn f ds) := by simp only [ev]
@[simp] theorem ev_call {f : String} {es : List E} : ev gl F (.call f es) ρ = bnd (evL gl F es ρ) fun ds => F f ds := by simp only [ev]
theorem ev_comp {e : E} {t : Tg} {k : Ik} {es cs : List E} {own : List Nat} : ev gl F (.comp e t k es cs own) ρ = bnd (evL gl F es ρ) fun ds => bnd (lft (iter k ds)) fun xs => if xs.length ≤ lim then bnd (compM (fun d => bnd (lft (bindT t d (wipeE ρ own))) fun ρ' =>
      bnd (evC gl F cs ρ') fun b => if b = true then bnd (ev gl F e ρ') fun v => ret (some v) else ret none) xs) fun vs => ret (.lst vs) else stk := by simp only [ev]
@[simp] theorem evL_nil : evL gl F [] ρ = ret [] := by simp only [evL]
@[simp] theorem evL_cons {e : E} {es : List E} : evL gl F (e :: es) ρ = bnd (ev gl F e ρ) fun d => bnd (evL gl F es ρ) fun ds => ret (d :: ds) := by simp only [evL]
@[simp] theorem evA_one {e : E} : evA gl F [e] ρ = ev gl F e ρ := by simp only [evA]
@[simp] theorem evA_cons {e e2 : E} {es : List E} : evA gl F (e :: e2 :: es) ρ = bnd (ev gl F e ρ) fun d => bnd (lft (truth d)) fun t => if t = true then evA gl F (e2 :: es) ρ else ret d := by simp only [evA]
@[simp] theorem evO_one {e : E} : evO gl F [e] ρ = ev gl F e ρ := by simp only [evO]
@[simp] theorem evO_cons {e e2 : E} {es : List E} : evO gl F (e :: e2 :: es) ρ = bnd (ev gl F e ρ) fun d => bnd (lft (truth d)) fun t => if t = true then ret d else evO gl F (e2 :: es) ρ := by simp only [evO]
@[simp] theorem evC_nil : evC gl F [] ρ = ret true := by simp only [evC]
@[simp] theorem evC_cons {e : E} {es : List E} : evC gl F (e :: es) ρ = bnd (ev gl F e ρ) fun d => bnd (lft (truth d)) fun t => if t = true then evC gl F es ρ else ret false := by simp only [evC]
@[simp] theorem cop_eqI {i j : Int} : cop .eq (.int i) (.int j) = some (decide (i = j)) := by
  have h : pln 60 (.int i) = true := by simp only [pln]
  have h2 : pln 60 (.int j) = true := by simp only [pln]
  simp only [cop, h, h2, deq]
  rfl
@[simp] theorem cop_neI {i j : Int} : cop .ne (.int i) (.int j) = some (!decide (i = j)) := by
  have h : pln 60 (.int i) = true := by simp only [pln]
  have h2 : pln 60 (.int j) = true := by simp only [pln]
  simp only [cop, h, h2, deq]
  rfl
@[simp] theorem cop_lt {i j : Int} : cop .lt (.int i) (.int j) = some (decide (i < j)) := rfl
@[simp] theorem cop_le {i j : Int} : cop .le (.int i) (.int j) = some (decide (i ≤ j)) := rfl
@[simp] theorem cop_gt {i j : Int} : cop .gt (.int i) (.int j) = some (decide (j < i)) := rfl
@[simp] theorem cop_ge {i j : Int} : cop .ge (.int i) (.int j) = some (decide (j ≤ i)) := rfl
@[simp] theorem cop_is {d e : D} : cop .iss d e = isSame d e := rfl
@[simp] theorem cop_isnot {d e : D} : cop .isnot d e = (isSame d e).map (!·) := rfl
@[simp] theorem bop_addI {i j : Int} : bop .add (.int i) (.int j) = some (.int (i + j)) := rfl
@[simp] theorem bop_subI {i j : Int} : bop .sub (.int i) (.int j) = some (.int (i - j)) := rfl
@[simp] theorem truth_bl {b : Bool} : truth (.bl b) = some b := rfl
@[simp] theorem truth_int {i : Int} : truth (.int i) = some (i != 0) := rfl
@[simp] theorem truth_non : truth .non = some false := rfl
@[simp] theorem truth_tup {xs : List D} : truth (.tup xs) = some (!xs.isEmpty) := rfl
@[simp] theorem truth_lst {xs : List D} : truth (.lst xs) = some (!xs.isEmpty) := rfl
@[simp] theorem toI_int {i : Int} : toI (.int i) = some i := rfl
@[simp] theorem ix_tup0 {d : D} {xs : List D} : idx (.tup (d :: xs)) (.int 0) = some d := rfl
@[simp] theorem ix_tup1 {d e : D} {xs : List D} : idx (.tup (d :: e :: xs)) (.int 1) = some e := rfl
@[simp] theorem ix_tup2 {d e f : D} {xs : List D} : idx (.tup (d :: e :: f :: xs)) (.int 2) = some f := rfl
@[simp] theorem tst_eq {e : E} : tst gl F e ρ = bnd (ev gl F e ρ) fun x => lft (truth x) := rfl
end
end PL

set_option autoImplicit false
set_option linter.all false
set_option maxRecDepth 100000
set_option maxHeartbeats 2000000
set_option exponentiation.threshold 20000
/-! M2: rational numbers as the program has them. -/
namespace PL
/-- a rational number -/
def Rt (q : Rat) : D := .tup [.int q.num, .int q.den]
/-- small enough for every step -/
def Sz (q : Rat) : Prop := q.num.natAbs < 2 ^ 4000 ∧ q.den < 2 ^ 4000
theorem log_lt {n k : Nat} (h : n < 2 ^ (k + 1)) : n.log2 ≤ k := by
  by_cases h0 : n = 0
  · subst h0; simp
  · have := (Nat.log2_lt h0).mpr h
    omega
theorem mul_ok {i j : Int} {a b : Nat} (h1 : i.natAbs < 2 ^ (a + 1)) (h2 : j.natAbs < 2 ^ (b + 1)) (h : a + b < 1000000) : mulOk i j = true := by
  have := log_lt h1
  have := log_lt h2
  simp only [mulOk, decide_eq_true_eq]
  omega
theorem div_ok {j : Int} {a : Nat} (h0 : 0 < j) (h1 : j.natAbs < 2 ^ (a + 1)) (h : a < 9000) : divOk j = true := by
  have := log_lt h1
  simp only [divOk, Bool.and_eq_true, decide_eq_true_eq]
  exact ⟨h0, by omega⟩
theorem bop_mul {i j : Int} (h : mulOk i j = true) : bop .mul (.int i) (.int j) = some (.int (i * j)) := by simp only [bop, h, if_true]
theorem bop_div {i j : Int} (h : divOk j = true) : bop .fdiv (.int i) (.int j) = some (.int (i / j)) := by simp only [bop, h, if_true]
theorem rat_div (p q : Int) : (p : Rat) / (q : Rat) = Rat.divInt p q := (Rat.divInt_eq_div p q).symm
theorem natCast_toNat {q : Int} (h : 0 ≤ q) : ((q.toNat : Nat) : Rat) = (q : Rat) := by
  have h1 : ((q.toNat : Nat) : Rat) = ((q.toNat : Int) : Rat) := (Rat.intCast_natCast _).symm
  rw [h1, Int.toNat_of_nonneg h]
/-- in lowest terms -/
theorem rat_of {p q : Int} (h : 0 < q) : Rt ((p : Rat) / (q : Rat)) = .tup [.int (p / (Int.gcd p q : Int)), .int (q / (Int.gcd p q : Int))] := by
  have e : (p : Rat) / (q : Rat) = mkRat p q.toNat := by
    rw [Rat.mkRat_eq_div, natCast_toNat (by omega)]
  have hq : q.toNat ≠ 0 := by omega
  have hg : (Int.gcd p q : Int) = ((p.natAbs.gcd q.toNat : Nat) : Int) := by
    have : q.natAbs = q.toNat := by omega
    rw [← this]; rfl
  unfold Rt
  rw [e, Rat.mkRat_def, dif_neg hq, Rat.normalize_eq]
  simp only [hg]
  congr 3
  have : ((q.toNat / p.natAbs.gcd q.toNat : Nat) : Int) = (q.toNat : Int) / ((p.natAbs.gcd q.toNat : Nat) : Int) := by simp
  rw [this, Int.toNat_of_nonneg (by omega)]
theorem num_den (q : Rat) : (q.num : Rat) / ((q.den : Int) : Rat) = q := by
  rw [rat_div]; exact Rat.num_divInt_den q
theorem den_pos (q : Rat) : (0 : Int) < (q.den : Int) := by have := q.den_pos; omega
theorem den_ne (q : Rat) : ((q.den : Int) : Rat) ≠ 0 := by
  have := den_pos q
  intro h
  have : (q.den : Int) = 0 := by exact_mod_cast h
  omega
theorem fld_add (n d m e : Rat) (h1 : d ≠ 0) (h2 : e ≠ 0) : (n * e + m * d) / (d * e) = n / d + m / e := by grind
theorem fld_sub (n d m e : Rat) (h1 : d ≠ 0) (h2 : e ≠ 0) : (n * e - m * d) / (d * e) = n / d - m / e := by grind
theorem fld_mul (n d m e : Rat) (h1 : d ≠ 0) (h2 : e ≠ 0) : (n * m) / (d * e) = (n / d) * (m / e) := by grind
theorem fld_div (n d m e : Rat) (h1 : d ≠ 0) (h2 : e ≠ 0) (h3 : m ≠ 0) : (n * e) / (d * m) = (n / d) / (m / e) := by grind
theorem add_rat (x y : Rat) : ((x.num * (y.den : Int) + y.num * (x.den : Int) : Int) : Rat) / (((x.den : Int) * (y.den : Int) : Int) : Rat) = x + y := by
  rw [Rat.intCast_add, Rat.intCast_mul, Rat.intCast_mul, Rat.intCast_mul, fld_add _ _ _ _ (den_ne x) (den_ne y), num_den, num_den]
theorem sub_rat (x y : Rat) : ((x.num * (y.den : Int) - y.num * (x.den : Int) : Int) : Rat) / (((x.den : Int) * (y.den : Int) : Int) : Rat) = x - y := by
  rw [Rat.intCast_sub, Rat.intCast_mul, Rat.intCast_mul, Rat.intCast_mul, fld_sub _ _ _ _ (den_ne x) (den_ne y), num_den, num_den]
theorem mul_rat (x y : Rat) : ((x.num * y.num : Int) : Rat) / (((x.den : Int) * (y.den : Int) : Int) : Rat) = x * y := by
  rw [Rat.intCast_mul, Rat.intCast_mul, fld_mul _ _ _ _ (den_ne x) (den_ne y), num_den, num_den]
theorem num_ne {y : Rat} (h : y ≠ 0) : (y.num : Rat) ≠ 0 := by
  intro z
  apply h
  rw [← num_den y, z]
  grind
theorem div_rat (x y : Rat) (h : y ≠ 0) : ((x.num * (y.den : Int) : Int) : Rat) / (((x.den : Int) * y.num : Int) : Rat) = x / y := by
  rw [Rat.intCast_mul, Rat.intCast_mul, fld_div _ _ _ _ (den_ne x) (den_ne y) (num_ne h), num_den, num_den]
/-! ### a function of the program -/
section
variable {β : Type}
def Fnd (P : Prog β) (x : String) (f : Fn) : Prop := P.prim x = none ∧ P.fns x = some f
theorem call_at {P : Prog β} {x : String} {f : Fn} (h : Fnd P x f) {args : List D} {k : Nat} (hk : 1 ≤ k) (h3 : args.length = f.np) :
    call P k x args = endF (exs P.gl (call P (k - 1)) f.body (args.map Cell.im ++ List.replicate (f.names.length - f.np) Cell.un)) := by
  obtain ⟨j, rfl⟩ : ∃ j, k = j + 1 := ⟨k - 1, by omega⟩
  exact call_fn h.1 h.2 h3
/-- a function by its body -/
theorem s_of {P : Prog β} {x : String} {f : Fn} (h : Fnd P x f) {args : List D} {k : Nat} (hk : 1 ≤ k) (h3 : args.length = f.np) {ρ0 ρ1 : Env} {d : D} (h0 : args.map Cell.im ++ List.replicate (f.names.length - f.np) Cell.un = ρ0)
    (hb : exs P.gl (call P (k - 1)) f.body ρ0 = ret (.rt d, ρ1)) : call P k x args = ret d := by
  rw [call_at h hk h3, h0, hb]; rfl
namespace RF
def is_whole : Fn := ⟨["value"], 1,
    [.ret (.and [.isi (.var 0) .int, .no (.isi (.var 0) .bool)])]⟩
def common_divisor : Fn := ⟨["a", "b"], 2,
    [.par 0 1 false false (.bi .abs [.var 0]) (.bi .abs [.var 1]),
    .whl (.var 1)
      [.par 0 1 false false (.var 1) (.bin .mod (.var 0) (.var 1))],
    .ret (.var 0)]⟩
def is_ratio : Fn := ⟨["value"], 1,
    [.iff (.or [.no (.isi (.var 0) .tuple), .cmp .ne (.bi .len [.var 0]) (.lit (.int 2)), .no (.call "is_whole" [.idx (.var 0) (.lit (.int 0))]), .no (.call "is_whole" [.idx (.var 0) (.lit (.int 1))])])
      [.ret (.lit (.bl false))]
      [],
    .ret (.and [.cmp .gt (.idx (.var 0) (.lit (.int 1))) (.lit (.int 0)), .cmp .eq (.call "common_divisor" [.idx (.var 0) (.lit (.int 0)), .idx (.var 0) (.lit (.int 1))]) (.lit (.int 1))])]⟩
def ratio : Fn := ⟨["p", "q", "d"], 2,
    [.iff (.cmp .eq (.var 1) (.lit (.int 0)))
      [.bad]
      [],
    .iff (.cmp .lt (.var 1) (.lit (.int 0)))
      [.par 0 1 false false (.neg (.var 0)) (.neg (.var 1))]
      [],
    .asg (.nm 2) (.call "common_divisor" [.var 0, .var 1]),
    .ret (.tup [.bin .fdiv (.var 0) (.var 2), .bin .fdiv (.var 1) (.var 2)])]⟩
def plus : Fn := ⟨["one", "other"], 2,
    [.ret (.call "ratio" [.bin .add (.bin .mul (.idx (.var 0) (.lit (.int 0))) (.idx (.var 1) (.lit (.int 1)))) (.bin .mul (.idx (.var 1) (.lit (.int 0))) (.idx (.var 0) (.lit (.int 1)))), .bin .mul (.idx (.var 0) (.lit (.int 1))) (.idx (.var 1) (.lit (.int 1)))])]⟩
def minus : Fn := ⟨["one", "other"], 2,
    [.ret (.call "ratio" [.bin .sub (.bin .mul (.idx (.var 0) (.lit (.int 0))) (.idx (.var 1) (.lit (.int 1)))) (.bin .mul (.idx (.var 1) (.lit (.int 0))) (.idx (.var 0) (.lit (.int 1)))), .bin .mul (.idx (.var 0) (.lit (.int 1))) (.idx (.var 1) (.lit (.int 1)))])]⟩
def times : Fn := ⟨["one", "other"], 2,
    [.ret (.call "ratio" [.bin .mul (.idx (.var 0) (.lit (.int 0))) (.idx (.var 1) (.lit (.int 0))), .bin .mul (.idx (.var 0) (.lit (.int 1))) (.idx (.var 1) (.lit (.int 1)))])]⟩
def less : Fn := ⟨["one", "other"], 2,
    [.ret (.cmp .lt (.bin .mul (.idx (.var 0) (.lit (.int 0))) (.idx (.var 1) (.lit (.int 1)))) (.bin .mul (.idx (.var 1) (.lit (.int 0))) (.idx (.var 0) (.lit (.int 1)))))]⟩
end RF
theorem gcd_step (a b : Nat) : Nat.gcd b (a % b) = Nat.gcd a b := by rw [Nat.gcd_comm a b, Nat.gcd_rec b a, Nat.gcd_comm]
theorem abs_nat (a : Int) : (if a < 0 then -a else a) = (a.natAbs : Int) := by split <;> omega
theorem s_gcd {P : Prog β} (h : Fnd P "common_divisor" RF.common_divisor) {k : Nat} (hk : 1 ≤ k) (a b : Int) : call P k "common_divisor" [.int a, .int b] = ret (.int (Int.gcd a b)) := by
  rw [call_at h hk rfl]
  refine eq_ret fun s => ?_
  rw [run_endF]
  simp only [RF.common_divisor, List.map_cons, List.map_nil, List.length_cons, List.length_nil, run_exs_cons, run_exs_nil]
  have e1 : ex P.gl (call P (k - 1)) (.par 0 1 false false (.bi .abs [.var 0]) (.bi .abs [.var 1])) [.im (.int a), .im (.int b)] = ret (.nx, [.im (.int a.natAbs), .im (.int b.natAbs)]) := by
    rw [← abs_nat a, ← abs_nat b]; rfl
  show Run (ex P.gl (call P (k - 1)) (.par 0 1 false false (.bi .abs [.var 0]) (.bi .abs [.var 1])) [.im (.int a), .im (.int b)]) s _
  rw [e1, run_ret]
  simp only [nxts, run_exs_cons]
  simp only [ex]
  refine run_whl (fun n ρ t => ∃ x y : Nat, ρ = [.im (.int x), .im (.int y)] ∧ Nat.gcd x y = Int.gcd a b ∧ n = y ∧ t = s) ?_ (n := b.natAbs) ⟨a.natAbs, b.natAbs, rfl, rfl, rfl, rfl⟩
  rintro n ρ t ⟨x, y, rfl, hg, rfl, rfl⟩
  have e2 : tst P.gl (call P (k - 1)) (.var 1) [.im (.int x), .im (.int n)] = ret ((n : Int) != 0) := rfl
  rw [e2, run_ret]
  by_cases hn : n = 0
  · subst hn
    simp only [Nat.gcd_zero_right] at hg
    subst hg
    exact ⟨_, _, rfl, rfl, rfl⟩
  · have hb : ((n : Int) != 0) = true := by simp [hn]
    rw [if_pos hb, run_exs_cons]
    have e3 : ex P.gl (call P (k - 1)) (.par 0 1 false false (.var 1) (.bin .mod (.var 0) (.var 1))) [.im (.int x), .im (.int n)] = ret (.nx, [.im (.int n), .im (.int ((x : Int) % n))]) := by
      have hp : (0 : Int) < n := by omega
      show bnd (lft (if (0 : Int) < n then some (D.int ((x : Int) % n)) else none)) _ = _
      rw [if_pos hp]; rfl
    rw [e3, run_ret]
    refine run_exs_nil.mpr ?_
    exact ⟨x % n, Nat.mod_lt _ (by omega), n, x % n, by simp, by rw [gcd_step, hg], rfl, rfl⟩
theorem gcd_pos {p q : Int} (h : 0 < q) : 0 < (Int.gcd p q : Int) := by
  have : Int.gcd p q ≠ 0 := fun z => by
    have := (Int.gcd_eq_zero_iff.mp z).2
    omega
  omega
theorem gcd_le {p q : Int} (h : 0 < q) : (Int.gcd p q : Int) ≤ q := Int.le_of_dvd h (Int.gcd_dvd_right _ _)
theorem div_gcd {p q : Int} (h : 0 < q) (hb : q.natAbs < 2 ^ 9000) : divOk (Int.gcd p q) = true := by
  have h1 := gcd_pos (p := p) h
  have h2 := gcd_le (p := p) h
  exact div_ok (a := 8999) h1 (by have : ((Int.gcd p q : Int)).natAbs ≤ q.natAbs := by omega
                                  exact Nat.lt_of_le_of_lt this hb) (by decide)
/-- q above nought -/
theorem s_ratio {P : Prog β} (h : Fnd P "ratio" RF.ratio) (hg : Fnd P "common_divisor" RF.common_divisor) {k : Nat} (hk : 2 ≤ k) {p q : Int} (h0 : 0 < q) (hb : q.natAbs < 2 ^ 9000) :
    call P k "ratio" [.int p, .int q] = ret (Rt ((p : Rat) / (q : Rat))) := by
  rw [rat_of h0]
  have hd := div_gcd (p := p) h0 hb
  have n1 : q ≠ 0 := by omega
  have n2 : ¬ q < 0 := by omega
  refine s_of h (by omega) rfl (ρ0 := [.im (.int p), .im (.int q), .un]) rfl
    ((exs_F (by simp [n1])).trans ((exs_F (by simp [n2])).trans ((exs_asg (d := .int (Int.gcd p q)) (by simp [s_gcd hg (show 1 ≤ k - 1 by omega)])).trans (exs_rt ?_))))
  simp [bop_div hd, lim]
theorem s_ratio_neg {P : Prog β} (h : Fnd P "ratio" RF.ratio) (hg : Fnd P "common_divisor" RF.common_divisor) {k : Nat} (hk : 2 ≤ k) {p q : Int} (h0 : q < 0) (hb : q.natAbs < 2 ^ 9000) :
    call P k "ratio" [.int p, .int q] = ret (Rt ((p : Rat) / (q : Rat))) := by
  have e : (p : Rat) / (q : Rat) = ((-p : Int) : Rat) / ((-q : Int) : Rat) := by
    rw [Rat.intCast_neg, Rat.intCast_neg]; grind
  have h0' : 0 < -q := by omega
  have hb' : (-q).natAbs < 2 ^ 9000 := by rw [Int.natAbs_neg]; exact hb
  rw [e, rat_of h0']
  have hd := div_gcd (p := -p) h0' hb'
  have n1 : q ≠ 0 := by omega
  refine s_of h (by omega) rfl (ρ0 := [.im (.int p), .im (.int q), .un]) rfl
    ((exs_F (by simp [n1])).trans ((exs_Tn (ρ' := [.im (.int (-p)), .im (.int (-q)), .un]) (by simp [h0]) rfl).trans ((exs_asg (d := .int (Int.gcd (-p) (-q))) (by simp only [ev_call, evL_cons, evL_nil, ev_var, getV_zero, getV_succ, bnd_ret, s_gcd hg (show 1 ≤ k - 1 by omega)])).trans (exs_rt ?_))))
  simp only [List.set_cons_succ, List.set_cons_zero, ev_tup, evL_cons, evL_nil, ev_bin, ev_var, getV_zero, getV_succ, bnd_ret, bop_div hd, lft_some]
  rfl
theorem sz_mul {p q : Int} (h1 : p.natAbs < 2 ^ 4000) (h2 : q.natAbs < 2 ^ 4000) : mulOk p q = true := mul_ok (a := 3999) (b := 3999) h1 h2 (by decide)
theorem sz_den {x y : Rat} (h1 : Sz x) (h2 : Sz y) : ((x.den : Int) * (y.den : Int)).natAbs < 2 ^ 9000 := by
  rw [Int.natAbs_mul, Int.natAbs_natCast, Int.natAbs_natCast]
  have := Nat.mul_lt_mul'' h1.2 h2.2
  rw [← Nat.pow_add] at this
  exact Nat.lt_of_lt_of_le this (Nat.pow_le_pow_right (by decide) (by decide))
structure Rats (P : Prog β) : Prop where
  gcd : Fnd P "common_divisor" RF.common_divisor
  ratio : Fnd P "ratio" RF.ratio
  plus : Fnd P "plus" RF.plus
  minus : Fnd P "minus" RF.minus
  times : Fnd P "times" RF.times
  less : Fnd P "less" RF.less
theorem sz_dn {x : Rat} (h : Sz x) : ((x.den : Int)).natAbs < 2 ^ 4000 := h.2
variable {P : Prog β} {k : Nat} {x y : Rat}
theorem s_plus (h : Rats P) (hk : 3 ≤ k) (hx : Sz x) (hy : Sz y) : call P k "plus" [Rt x, Rt y] = ret (Rt (x + y)) := by
  refine s_of h.plus (by omega) rfl (ρ0 := [.im (Rt x), .im (Rt y)]) rfl (exs_rt ?_)
  have m1 := bop_mul (sz_mul hx.1 (sz_dn hy))
  have m2 := bop_mul (sz_mul hy.1 (sz_dn hx))
  have m3 := bop_mul (sz_mul (sz_dn hx) (sz_dn hy))
  have hp : (0 : Int) < (x.den : Int) * (y.den : Int) := Int.mul_pos (den_pos x) (den_pos y)
  have e := s_ratio h.ratio h.gcd (show 2 ≤ k - 1 by omega) (p := x.num * y.den + y.num * x.den) hp (sz_den hx hy)
  rw [add_rat] at e
  simp only [Rt, ev_call, evL_cons, evL_nil, ev_bin, ev_idx, ev_var, ev_lit, getV_zero, getV_succ, bnd_ret, ix_tup0, ix_tup1, lft_some, m1, m2, m3, bop_addI] at e ⊢
  exact e
theorem s_minus (h : Rats P) (hk : 3 ≤ k) (hx : Sz x) (hy : Sz y) : call P k "minus" [Rt x, Rt y] = ret (Rt (x - y)) := by
  refine s_of h.minus (by omega) rfl (ρ0 := [.im (Rt x), .im (Rt y)]) rfl (exs_rt ?_)
  have m1 := bop_mul (sz_mul hx.1 (sz_dn hy))
  have m2 := bop_mul (sz_mul hy.1 (sz_dn hx))
  have m3 := bop_mul (sz_mul (sz_dn hx) (sz_dn hy))
  have hp : (0 : Int) < (x.den : Int) * (y.den : Int) := Int.mul_pos (den_pos x) (den_pos y)
  have e := s_ratio h.ratio h.gcd (show 2 ≤ k - 1 by omega) (p := x.num * y.den - y.num * x.den) hp (sz_den hx hy)
  rw [sub_rat] at e
  simp only [Rt, ev_call, evL_cons, evL_nil, ev_bin, ev_idx, ev_var, ev_lit, getV_zero, getV_succ, bnd_ret, ix_tup0, ix_tup1, lft_some, m1, m2, m3, bop_subI] at e ⊢
  exact e
theorem s_times (h : Rats P) (hk : 3 ≤ k) (hx : Sz x) (hy : Sz y) : call P k "times" [Rt x, Rt y] = ret (Rt (x * y)) := by
  refine s_of h.times (by omega) rfl (ρ0 := [.im (Rt x), .im (Rt y)]) rfl (exs_rt ?_)
  have m1 := bop_mul (sz_mul hx.1 hy.1)
  have m3 := bop_mul (sz_mul (sz_dn hx) (sz_dn hy))
  have hp : (0 : Int) < (x.den : Int) * (y.den : Int) := Int.mul_pos (den_pos x) (den_pos y)
  have e := s_ratio h.ratio h.gcd (show 2 ≤ k - 1 by omega) (p := x.num * y.num) hp (sz_den hx hy)
  rw [mul_rat] at e
  simp only [Rt, ev_call, evL_cons, evL_nil, ev_bin, ev_idx, ev_var, ev_lit, getV_zero, getV_succ, bnd_ret, ix_tup0, ix_tup1, lft_some, m1, m3] at e ⊢
  exact e
theorem s_less (h : Rats P) (hk : 1 ≤ k) (hx : Sz x) (hy : Sz y) : call P k "less" [Rt x, Rt y] = ret (.bl (decide (x < y))) := by
  refine s_of h.less (by omega) rfl (ρ0 := [.im (Rt x), .im (Rt y)]) rfl (exs_rt ?_)
  have m1 := bop_mul (sz_mul hx.1 (sz_dn hy))
  have m2 := bop_mul (sz_mul hy.1 (sz_dn hx))
  simp only [Rt, ev_cmp, ev_bin, ev_idx, ev_var, ev_lit, getV_zero, getV_succ, bnd_ret, ix_tup0, ix_tup1, lft_some, m1, m2, cop_lt, Rat.lt_iff]
end
end PL

set_option autoImplicit false
set_option linter.all false
set_option maxRecDepth 100000
set_option maxHeartbeats 2000000
set_option exponentiation.threshold 20000
/-! M3: the law's own reckoning with ratios. -/
namespace PL
namespace RF
def l_ratio : Fn := ⟨["p", "q", "a", "b"], 2,
    [.iff (.cmp .lt (.var 1) (.lit (.int 0)))
      [.par 0 1 false false (.bin .sub (.lit (.int 0)) (.var 0)) (.bin .sub (.lit (.int 0)) (.var 1))]
      [],
    .par 2 3 false false (.bi .abs [.var 0]) (.var 1),
    .whl (.cmp .gt (.var 3) (.lit (.int 0)))
      [.par 2 3 false false (.var 3) (.bin .sub (.var 2) (.bin .mul (.bin .fdiv (.var 2) (.var 3)) (.var 3)))],
    .ret (.tup [.bin .fdiv (.var 0) (.var 2), .bin .fdiv (.var 1) (.var 2)])]⟩
def l_plus : Fn := ⟨["one", "other"], 2,
    [.ret (.call "_law_ratio" [.bin .add (.bin .mul (.idx (.var 0) (.lit (.int 0))) (.idx (.var 1) (.lit (.int 1)))) (.bin .mul (.idx (.var 1) (.lit (.int 0))) (.idx (.var 0) (.lit (.int 1)))), .bin .mul (.idx (.var 0) (.lit (.int 1))) (.idx (.var 1) (.lit (.int 1)))])]⟩
def l_minus : Fn := ⟨["one", "other"], 2,
    [.ret (.call "_law_ratio" [.bin .sub (.bin .mul (.idx (.var 0) (.lit (.int 0))) (.idx (.var 1) (.lit (.int 1)))) (.bin .mul (.idx (.var 1) (.lit (.int 0))) (.idx (.var 0) (.lit (.int 1)))), .bin .mul (.idx (.var 0) (.lit (.int 1))) (.idx (.var 1) (.lit (.int 1)))])]⟩
def l_times : Fn := ⟨["one", "other"], 2,
    [.ret (.call "_law_ratio" [.bin .mul (.idx (.var 0) (.lit (.int 0))) (.idx (.var 1) (.lit (.int 0))), .bin .mul (.idx (.var 0) (.lit (.int 1))) (.idx (.var 1) (.lit (.int 1)))])]⟩
def l_less : Fn := ⟨["one", "other"], 2,
    [.ret (.cmp .lt (.bin .mul (.idx (.var 0) (.lit (.int 0))) (.idx (.var 1) (.lit (.int 1)))) (.bin .mul (.idx (.var 1) (.lit (.int 0))) (.idx (.var 0) (.lit (.int 1)))))]⟩
end RF
section
variable {β : Type} {P : Prog β} {k : Nat} {x y : Rat}
theorem lt_pow {i : Int} {n m : Nat} (h : i.natAbs < 2 ^ n) (hm : n ≤ m) : i.natAbs < 2 ^ m := Nat.lt_of_lt_of_le h (Nat.pow_le_pow_right (by decide) hm)
theorem gcd_loop {gl : String → Option D} {F : String → List D → M β D} {p q : Int} (h0 : 0 < q) (hp : p.natAbs < 2 ^ 9000) (hq : q.natAbs < 2 ^ 9000) (s : β) {Q : Fl × Env → β → Prop}
    (hQ : Q (.nx, [.im (.int p), .im (.int q), .im (.int (Int.gcd p q)), .im (.int 0)]) s) :
    Run (whlM (tst gl F (.cmp .gt (.var 3) (.lit (.int 0)))) (exs gl F [.par 2 3 false false (.var 3) (.bin .sub (.var 2) (.bin .mul (.bin .fdiv (.var 2) (.var 3)) (.var 3)))]) [.im (.int p), .im (.int q), .im (.int p.natAbs), .im (.int q)]) s Q := by
  refine run_whl (fun n ρ t => ∃ a b : Nat, ρ = [.im (.int p), .im (.int q), .im (.int a), .im (.int b)] ∧ Nat.gcd a b = Int.gcd p q ∧ a < 2 ^ 9000 ∧ b < 2 ^ 9000 ∧ n = b ∧ t = s) ?_ (n := q.natAbs) ⟨p.natAbs, q.natAbs, by rw [Int.natAbs_of_nonneg (Int.le_of_lt h0)], rfl, hp, hq, rfl, rfl⟩
  rintro n ρ t ⟨a, b, rfl, hg, ha, hb, rfl, rfl⟩
  have e2 : tst gl F (.cmp .gt (.var 3) (.lit (.int 0))) [.im (.int p), .im (.int q), .im (.int a), .im (.int n)] = ret (decide ((0 : Int) < n)) := by simp
  rw [e2, run_ret]
  by_cases hn : n = 0
  · subst hn
    simp only [Nat.gcd_zero_right] at hg
    subst hg
    exact hQ
  · have hn0 : (0 : Int) < n := by omega
    rw [if_pos (decide_eq_true hn0), run_exs_cons]
    have d1 := bop_div (i := (a : Int)) (div_ok (a := 8999) hn0 (by simpa using hb) (by decide))
    have m1 : bop .mul (.int ((a : Int) / n)) (.int n) = some (.int ((a : Int) / n * n)) := by
      refine bop_mul (mul_ok (a := 8999) (b := 8999) ?_ (by simpa using hb) (by decide))
      have : ((a : Int) / n) = ((a / n : Nat) : Int) := by simp
      rw [this, Int.natAbs_natCast]
      exact Nat.lt_of_le_of_lt (Nat.div_le_self a n) ha
    have e3 : ex gl F (.par 2 3 false false (.var 3) (.bin .sub (.var 2) (.bin .mul (.bin .fdiv (.var 2) (.var 3)) (.var 3)))) [.im (.int p), .im (.int q), .im (.int a), .im (.int n)] = ret (.nx, [.im (.int p), .im (.int q), .im (.int n), .im (.int ((a : Int) - (a : Int) / n * n))]) := by
      simp only [ex, ev_var, ev_bin, getV_succ, getV_zero, bnd_ret, d1, lft_some, m1, bop_subI, cellOf]
      rfl
    rw [e3, run_ret]
    refine run_exs_nil.mpr ?_
    refine ⟨a % n, Nat.mod_lt _ (by omega), n, a % n, ?_, by rw [gcd_step, hg], hb, Nat.lt_of_lt_of_le (Nat.mod_lt _ (by omega)) (by omega), rfl, rfl⟩
    have : (a : Int) - (a : Int) / n * n = ((a % n : Nat) : Int) := by
      have := Int.mul_ediv_add_emod (a : Int) n
      rw [Int.natCast_emod, Int.mul_comm]
      omega
    rw [this]
theorem s_lratio (h : Fnd P "_law_ratio" RF.l_ratio) (hk : 1 ≤ k) {p q : Int} (h0 : 0 < q) (hp : p.natAbs < 2 ^ 9000) (hq : q.natAbs < 2 ^ 9000) :
    call P k "_law_ratio" [.int p, .int q] = ret (Rt ((p : Rat) / (q : Rat))) := by
  rw [rat_of h0]
  have hd := div_gcd (p := p) h0 hq
  rw [call_at h hk rfl]
  refine eq_ret fun s => run_endF.mpr ?_
  have e1 : ex P.gl (call P (k - 1)) (.iff (.cmp .lt (.var 1) (.lit (.int 0))) [.par 0 1 false false (.bin .sub (.lit (.int 0)) (.var 0)) (.bin .sub (.lit (.int 0)) (.var 1))] []) [.im (.int p), .im (.int q), .un, .un] = ret (.nx, [.im (.int p), .im (.int q), .un, .un]) := by
    have : ¬ q < 0 := by omega
    rw [ex_iff (t := false) (by simp [this])]
    simp only [Bool.false_eq_true, if_false, exs, nxt]
  have e2 : ex P.gl (call P (k - 1)) (.par 2 3 false false (.bi .abs [.var 0]) (.var 1)) [.im (.int p), .im (.int q), .un, .un] = ret (.nx, [.im (.int p), .im (.int q), .im (.int p.natAbs), .im (.int q)]) := by
    rw [← abs_nat p]; rfl
  show Run (exs P.gl (call P (k - 1)) RF.l_ratio.body [.im (.int p), .im (.int q), .un, .un]) s _
  unfold RF.l_ratio
  refine run_exs_cons.mpr ?_
  rw [e1, run_ret]
  refine run_exs_cons.mpr ?_
  rw [e2, run_ret]
  refine run_exs_cons.mpr ?_
  simp only [ex]
  refine gcd_loop h0 hp hq s ?_
  refine run_exs_cons.mpr ?_
  simp only [ex]
  have e3 : ev P.gl (call P (k - 1)) (.tup [.bin .fdiv (.var 0) (.var 2), .bin .fdiv (.var 1) (.var 2)]) [.im (.int p), .im (.int q), .im (.int (Int.gcd p q)), .im (.int 0)] = ret (.tup [.int (p / (Int.gcd p q : Int)), .int (q / (Int.gcd p q : Int))]) := by
    simp [bop_div hd, lim]
  rw [e3, bnd_ret, run_ret]
  exact ⟨rfl, rfl⟩
structure LRats (P : Prog β) : Prop where
  ratio : Fnd P "_law_ratio" RF.l_ratio
  plus : Fnd P "_law_plus" RF.l_plus
  minus : Fnd P "_law_minus" RF.l_minus
  times : Fnd P "_law_times" RF.l_times
  less : Fnd P "_law_less" RF.l_less
theorem mul_lt {p q : Int} (h1 : p.natAbs < 2 ^ 4000) (h2 : q.natAbs < 2 ^ 4000) : (p * q).natAbs < 2 ^ 8000 := by
  rw [Int.natAbs_mul]
  have := Nat.mul_lt_mul'' h1 h2
  rwa [← Nat.pow_add] at this
theorem p_lt {p q : Int} (h1 : p.natAbs < 2 ^ 8000) (h2 : q.natAbs < 2 ^ 8000) : (p + q).natAbs < 2 ^ 9000 ∧ (p - q).natAbs < 2 ^ 9000 ∧ p.natAbs < 2 ^ 9000 := by
  have e : 2 ^ 8000 + 2 ^ 8000 = 2 ^ 8001 := by rw [← Nat.mul_two, ← Nat.pow_succ]
  have h3 : 2 ^ 8001 ≤ 2 ^ 9000 := Nat.pow_le_pow_right (by decide) (by decide)
  generalize 2 ^ 8000 = u at *
  generalize 2 ^ 8001 = v at *
  generalize 2 ^ 9000 = w at *
  omega
theorem s_lplus (h : LRats P) (hk : 2 ≤ k) (hx : Sz x) (hy : Sz y) : call P k "_law_plus" [Rt x, Rt y] = ret (Rt (x + y)) := by
  refine s_of h.plus (by omega) rfl (ρ0 := [.im (Rt x), .im (Rt y)]) rfl (exs_rt ?_)
  have m1 := bop_mul (sz_mul hx.1 (sz_dn hy))
  have m2 := bop_mul (sz_mul hy.1 (sz_dn hx))
  have m3 := bop_mul (sz_mul (sz_dn hx) (sz_dn hy))
  have hp : (0 : Int) < (x.den : Int) * (y.den : Int) := Int.mul_pos (den_pos x) (den_pos y)
  have e := s_lratio h.ratio (show 1 ≤ k - 1 by omega) (p := x.num * y.den + y.num * x.den) hp (p_lt (mul_lt hx.1 (sz_dn hy)) (mul_lt hy.1 (sz_dn hx))).1 (sz_den hx hy)
  rw [add_rat] at e
  simp only [Rt, ev_call, evL_cons, evL_nil, ev_bin, ev_idx, ev_var, ev_lit, getV_zero, getV_succ, bnd_ret, ix_tup0, ix_tup1, lft_some, m1, m2, m3, bop_addI] at e ⊢
  exact e
theorem s_lminus (h : LRats P) (hk : 2 ≤ k) (hx : Sz x) (hy : Sz y) : call P k "_law_minus" [Rt x, Rt y] = ret (Rt (x - y)) := by
  refine s_of h.minus (by omega) rfl (ρ0 := [.im (Rt x), .im (Rt y)]) rfl (exs_rt ?_)
  have m1 := bop_mul (sz_mul hx.1 (sz_dn hy))
  have m2 := bop_mul (sz_mul hy.1 (sz_dn hx))
  have m3 := bop_mul (sz_mul (sz_dn hx) (sz_dn hy))
  have hp : (0 : Int) < (x.den : Int) * (y.den : Int) := Int.mul_pos (den_pos x) (den_pos y)
  have e := s_lratio h.ratio (show 1 ≤ k - 1 by omega) (p := x.num * y.den - y.num * x.den) hp (p_lt (mul_lt hx.1 (sz_dn hy)) (mul_lt hy.1 (sz_dn hx))).2.1 (sz_den hx hy)
  rw [sub_rat] at e
  simp only [Rt, ev_call, evL_cons, evL_nil, ev_bin, ev_idx, ev_var, ev_lit, getV_zero, getV_succ, bnd_ret, ix_tup0, ix_tup1, lft_some, m1, m2, m3, bop_subI] at e ⊢
  exact e
theorem s_ltimes (h : LRats P) (hk : 2 ≤ k) (hx : Sz x) (hy : Sz y) : call P k "_law_times" [Rt x, Rt y] = ret (Rt (x * y)) := by
  refine s_of h.times (by omega) rfl (ρ0 := [.im (Rt x), .im (Rt y)]) rfl (exs_rt ?_)
  have m1 := bop_mul (sz_mul hx.1 hy.1)
  have m3 := bop_mul (sz_mul (sz_dn hx) (sz_dn hy))
  have hp : (0 : Int) < (x.den : Int) * (y.den : Int) := Int.mul_pos (den_pos x) (den_pos y)
  have e := s_lratio h.ratio (show 1 ≤ k - 1 by omega) (p := x.num * y.num) hp (p_lt (mul_lt hx.1 hy.1) (mul_lt hx.1 hy.1)).2.2 (sz_den hx hy)
  rw [mul_rat] at e
  simp only [Rt, ev_call, evL_cons, evL_nil, ev_bin, ev_idx, ev_var, ev_lit, getV_zero, getV_succ, bnd_ret, ix_tup0, ix_tup1, lft_some, m1, m3] at e ⊢
  exact e
theorem s_lless (h : LRats P) (hk : 1 ≤ k) (hx : Sz x) (hy : Sz y) : call P k "_law_less" [Rt x, Rt y] = ret (.bl (decide (x < y))) := by
  refine s_of h.less (by omega) rfl (ρ0 := [.im (Rt x), .im (Rt y)]) rfl (exs_rt ?_)
  have m1 := bop_mul (sz_mul hx.1 (sz_dn hy))
  have m2 := bop_mul (sz_mul hy.1 (sz_dn hx))
  simp only [Rt, ev_cmp, ev_bin, ev_idx, ev_var, ev_lit, getV_zero, getV_succ, bnd_ret, ix_tup0, ix_tup1, lft_some, m1, m2, cop_lt, Rat.lt_iff]
end
end PL

set_option autoImplicit false
set_option linter.all false
set_option maxRecDepth 100000
set_option maxHeartbeats 2000000
set_option exponentiation.threshold 20000
/-! M4: plain data; the judges of ratios. -/
namespace PL
/-- plain data: ints to c, sequences to l, depth to n -/
def Pd (c l : Nat) : Nat → D → Prop
  | 0, d => (match d with
    | .non => True
    | .bl _ => True
    | .int i => i.natAbs ≤ c
    | .str s => s.cps.size ≤ lim ∧ s.cps.all (· < 0x110000) = true
    | _ => False)
  | n + 1, d => (match d with
    | .non => True
    | .bl _ => True
    | .int i => i.natAbs ≤ c
    | .str s => s.cps.size ≤ lim ∧ s.cps.all (· < 0x110000) = true
    | .tup xs => xs.length ≤ l ∧ ∀ x ∈ xs, Pd c l n x
    | .lst xs => xs.length ≤ l ∧ ∀ x ∈ xs, Pd c l n x
    | _ => False)
theorem Pd.tup {c l n : Nat} {xs : List D} (h : Pd c l n (.tup xs)) : ∃ m, n = m + 1 ∧ xs.length ≤ l ∧ ∀ x ∈ xs, Pd c l m x := by
  cases n with
  | zero => exact h.elim
  | succ m => exact ⟨m, rfl, h⟩
theorem Pd.lst {c l n : Nat} {xs : List D} (h : Pd c l n (.lst xs)) : ∃ m, n = m + 1 ∧ xs.length ≤ l ∧ ∀ x ∈ xs, Pd c l m x := by
  cases n with
  | zero => exact h.elim
  | succ m => exact ⟨m, rfl, h⟩
theorem Pd.int {c l n : Nat} {i : Int} (h : Pd c l n (.int i)) : i.natAbs ≤ c := by cases n <;> exact h
theorem Pd.of_int {c l n : Nat} {i : Int} (h : i.natAbs ≤ c) : Pd c l n (.int i) := by cases n <;> exact h
theorem Pd.bl {c l n : Nat} {b : Bool} : Pd c l n (.bl b) := by cases n <;> trivial
theorem Pd.non {c l n : Nat} : Pd c l n .non := by cases n <;> trivial
theorem Pd.of_tup {c l n : Nat} {xs : List D} (h : xs.length ≤ l) (h2 : ∀ x ∈ xs, Pd c l n x) : Pd c l (n + 1) (.tup xs) := ⟨h, h2⟩
theorem Pd.of_lst {c l n : Nat} {xs : List D} (h : xs.length ≤ l) (h2 : ∀ x ∈ xs, Pd c l n x) : Pd c l (n + 1) (.lst xs) := ⟨h, h2⟩
theorem Pd.mono {c l c' l' : Nat} (hc : c ≤ c') (hl : l ≤ l') : ∀ {n m : Nat} {d : D}, n ≤ m → Pd c l n d → Pd c' l' m d := by
  intro n
  induction n with
  | zero =>
    intro m d _ h
    cases d with
    | int i => exact Pd.of_int (Nat.le_trans h.int hc)
    | non => exact Pd.non
    | bl b => exact Pd.bl
    | str s => cases m <;> exact h
    | _ => exact h.elim
  | succ n ih =>
    intro m d hm h
    obtain ⟨m, rfl⟩ : ∃ j, m = j + 1 := ⟨m - 1, by omega⟩
    cases d with
    | int i => exact Pd.of_int (Nat.le_trans h.int hc)
    | non => exact Pd.non
    | bl b => exact Pd.bl
    | str s => exact h
    | tup xs => exact ⟨Nat.le_trans h.1 hl, fun x hx => ih (by omega) (h.2 x hx)⟩
    | lst xs => exact ⟨Nat.le_trans h.1 hl, fun x hx => ih (by omega) (h.2 x hx)⟩
    | _ => exact h.elim
theorem plnL_of {m : Nat} {xs : List D} (h : ∀ x ∈ xs, pln m x = true) : plnL m xs = true := by
  induction xs with
  | nil => simp only [plnL]
  | cons x xs ih => simp only [plnL, h x List.mem_cons_self, ih fun y hy => h y (List.mem_cons_of_mem _ hy), Bool.and_self]
theorem Pd.pln {c l : Nat} : ∀ {n m : Nat} {d : D}, n < m → Pd c l n d → pln m d = true := by
  intro n
  induction n with
  | zero =>
    intro m d hm h
    cases d with
    | int i => simp only [PL.pln]
    | non => simp only [PL.pln]
    | bl b => simp only [PL.pln]
    | str s => simp only [PL.pln]; exact h.2
    | _ => exact h.elim
  | succ n ih =>
    intro m d hm h
    obtain ⟨m, rfl⟩ : ∃ j, m = j + 1 := ⟨m - 1, by omega⟩
    cases d with
    | int i => simp only [PL.pln]
    | non => simp only [PL.pln]
    | bl b => simp only [PL.pln]
    | str s => simp only [PL.pln]; exact h.2
    | tup xs => simp only [PL.pln, plnT]; exact plnL_of fun x hx => ih (by omega) (h.2 x hx)
    | lst xs => simp only [PL.pln, plnT]; exact plnL_of fun x hx => ih (by omega) (h.2 x hx)
    | _ => exact h.elim
def dInt : D → Bool
  | .int _ => true
  | _ => false
def dTup : D → Bool
  | .tup _ => true
  | _ => false
def dLst : D → Bool
  | .lst _ => true
  | _ => false
def dBl : D → Bool
  | .bl _ => true
  | _ => false
def dStr : D → Bool
  | .str _ => true
  | _ => false
/-- a ratio in lowest terms -/
def isRt : D → Bool
  | .tup [.int p, .int q] => decide (0 < q) && decide ((Int.gcd p q : Int) = 1)
  | _ => false
theorem isRt_Rt (x : Rat) : isRt (Rt x) = true := by
  have h := x.reduced
  have hd := den_pos x
  have hg : (Int.gcd x.num x.den : Int) = 1 := by
    have : Int.gcd x.num x.den = 1 := h
    rw [this]; rfl
  simp only [isRt, Rt, hg, hd, decide_true, Bool.and_self]
theorem isRt_inv {d : D} (h : isRt d = true) : ∃ x, d = Rt x := by
  unfold isRt at h
  split at h
  · rename_i p q
    simp only [Bool.and_eq_true, decide_eq_true_eq] at h
    refine ⟨(p : Rat) / (q : Rat), ?_⟩
    rw [rat_of h.1, h.2]
    simp
  · cases h
section
variable {β : Type} {P : Prog β} {k c l n : Nat}
theorem Pd.isi {d : D} (h : Pd c l n d) : PL.isi d .int = some (dInt d || dBl d) ∧ PL.isi d .bool = some (dBl d) ∧ PL.isi d .tuple = some (dTup d) ∧ PL.isi d .list = some (dLst d) ∧ PL.isi d .str = some (dStr d) := by
  cases d with
  | box => cases n <;> exact h.elim
  | fn _ => cases n <;> exact h.elim
  | _ => exact ⟨rfl, rfl, rfl, rfl, rfl⟩
theorem s_whole (h : Fnd P "is_whole" RF.is_whole) (hk : 1 ≤ k) {d : D} (hd : Pd c l n d) : call P k "is_whole" [d] = ret (.bl (dInt d)) := by
  refine s_of h hk rfl (ρ0 := [.im d]) rfl (exs_rt ?_)
  simp [hd.isi.1, hd.isi.2.1]
  cases d <;> rfl
structure Judges (P : Prog β) : Prop where
  whole : Fnd P "is_whole" RF.is_whole
  is_ratio : Fnd P "is_ratio" RF.is_ratio
theorem s_is_ratio (h : Judges P) (hg : Fnd P "common_divisor" RF.common_divisor) (hk : 2 ≤ k) {d : D} (hd : Pd c l n d) : call P k "is_ratio" [d] = ret (.bl (isRt d)) := by
  have w : ∀ e, Pd c l (n - 1) e → call P (k - 1) "is_whole" [e] = ret (.bl (dInt e)) := fun e he => s_whole h.whole (by omega) he
  refine s_of h.is_ratio (by omega) rfl (ρ0 := [.im d]) rfl ?_ (ρ1 := [.im d])
  by_cases ht : dTup d = true
  · cases d with
    | tup xs =>
      obtain ⟨m, rfl, hl, hx⟩ := hd.tup
      match xs, hx with
      | [], _ => exact exs_T (by simp [hd.isi.2.2.1, dTup, bfn]) (exs_rt (by simp [isRt]))
      | [a], _ => exact exs_T (by simp [hd.isi.2.2.1, dTup, bfn]) (exs_rt (by simp [isRt]))
      | [a, b], hx =>
        have wa := w a (hx a (by simp))
        have wb := w b (hx b (by simp))
        cases ha : dInt a with
        | false =>
          refine exs_T (by simp [hd.isi.2.2.1, dTup, bfn, wa, ha]) (exs_rt ?_)
          cases a <;> first | rfl | cases ha
        | true =>
          cases hb : dInt b with
          | false =>
            refine exs_T (by simp [hd.isi.2.2.1, dTup, bfn, wa, ha, wb, hb]) (exs_rt ?_)
            cases a <;> cases b <;> first | rfl | (cases ha; done) | (cases hb; done)
          | true =>
            cases a with
            | int p =>
              cases b with
              | int q =>
                refine (exs_F (by simp [hd.isi.2.2.1, dTup, bfn, wa, ha, wb, hb])).trans (exs_rt ?_)
                have e := s_gcd hg (show 1 ≤ k - 1 by omega) p q
                by_cases hq : 0 < q
                · simp [e, isRt, hq]
                · simp [isRt, hq]
              | _ => cases hb
            | _ => cases ha
      | a :: b :: c :: r, _ =>
        refine exs_T ?_ (exs_rt (by simp [isRt]))
        have : ¬ ((r.length : Int) + 1 + 1 + 1 = 2) := by omega
        simp [hd.isi.2.2.1, dTup, bfn, this]
    | _ => cases ht
  · have ht : dTup d = false := by simpa using ht
    refine exs_T (by simp [hd.isi.2.2.1, ht]) (exs_rt ?_)
    cases d <;> first | rfl | cases ht
/-! ### all, any over what was listed -/
theorem isBls_map {xs : List D} {g : D → Bool} : isBls (xs.map fun x => .bl (g x)) = some (xs.map g) := by
  induction xs with
  | nil => rfl
  | cons x xs ih => simp [isBls, ih]
theorem bfn_all {xs : List D} {g : D → Bool} : bfn .all [.lst (xs.map fun x => .bl (g x))] = some (.bl (xs.all g)) := by
  simp [bfn, isBls_map]
theorem bfn_any {xs : List D} {g : D → Bool} : bfn .any [.lst (xs.map fun x => .bl (g x))] = some (.bl (xs.any g)) := by
  simp [bfn, isBls_map]
/-- a comprehension of bare values by one name -/
theorem ev_comp1 {gl : String → Option D} {F : String → List D → M β D} {ρ : Env} {e : E} {t : Tg} {ik : Ik} {es : List E} {own : List Nat} {ds xs : List D} {g : D → D}
    (h1 : evL gl F es ρ = ret ds) (h2 : iter ik ds = some xs) (h3 : xs.length ≤ lim) (h4 : ∀ x ∈ xs, ∃ ρ', bindT t x (wipeE ρ own) = some ρ' ∧ ev gl F e ρ' = ret (g x)) : ev gl F (.comp e t ik es [] own) ρ = ret (.lst (xs.map g)) := by
  rw [ev_comp, h1, bnd_ret, h2, lft_some, bnd_ret, if_pos h3, compM_map (g := g)]
  · rfl
  · intro x hx
    obtain ⟨ρ', h5, h6⟩ := h4 x hx
    simp only [h5, lft_some, bnd_ret, evC_nil, if_true, h6]
/-- .. with a test -/
theorem ev_compF {gl : String → Option D} {F : String → List D → M β D} {ρ : Env} {e c : E} {t : Tg} {ik : Ik} {es : List E} {own : List Nat} {ds xs : List D} {g : D → D} {p : D → Bool}
    (h1 : evL gl F es ρ = ret ds) (h2 : iter ik ds = some xs) (h3 : xs.length ≤ lim) (h4 : ∀ x ∈ xs, ∃ ρ', bindT t x (wipeE ρ own) = some ρ' ∧ tst gl F c ρ' = ret (p x) ∧ (p x = true → ev gl F e ρ' = ret (g x))) : ev gl F (.comp e t ik es [c] own) ρ = ret (.lst ((xs.filter p).map g)) := by
  rw [ev_comp, h1, bnd_ret, h2, lft_some, bnd_ret, if_pos h3, compM_ret (g := fun x => if p x = true then some (g x) else none)]
  · rw [bnd_ret]
    congr 2
    clear h2 h3 h4
    induction xs with
    | nil => rfl
    | cons x xs ih =>
      by_cases hp : p x = true
      · rw [List.filterMap_cons_some (by rw [if_pos hp]), List.filter_cons_of_pos hp, List.map_cons, ih]
      · rw [List.filterMap_cons_none (by rw [if_neg hp]), List.filter_cons_of_neg hp, ih]
  · intro x hx
    obtain ⟨ρ', h5, h6, h7⟩ := h4 x hx
    rw [h5, lft_some, bnd_ret]
    have e1 : evC gl F [c] ρ' = ret (p x) := by
      simp only [evC_cons, evC_nil]
      have h6 : bnd (ev gl F c ρ') (fun x => lft (truth x)) = ret (p x) := h6
      rw [← bnd_assoc, h6, bnd_ret]
      cases p x <;> rfl
    rw [e1, bnd_ret]
    by_cases hp : p x = true
    · rw [if_pos hp, if_pos hp, h7 hp, bnd_ret]
    · rw [if_neg hp, if_neg hp]
def l_same : Fn := ⟨["a", "b", "k"], 2,
    [.iff (.or [.and [.isi (.var 0) .tuple, .isi (.var 1) .tuple], .and [.isi (.var 0) .list, .isi (.var 1) .list]])
      [.ret (.and [.cmp .eq (.bi .len [.var 0]) (.bi .len [.var 1]), .bi .all [.comp (.call "_law_same" [.idx (.var 0) (.var 2), .idx (.var 1) (.var 2)]) (.nm 2) .ran [.bi .len [.var 0]] [] [2]]])]
      [],
    .iff (.or [.isi (.var 0) .bool, .isi (.var 1) .bool])
      [.ret (.and [.isi (.var 0) .bool, .isi (.var 1) .bool, .cmp .eq (.var 0) (.var 1)])]
      [],
    .iff (.or [.and [.isi (.var 0) .int, .isi (.var 1) .int], .and [.isi (.var 0) .str, .isi (.var 1) .str]])
      [.ret (.cmp .eq (.var 0) (.var 1))]
      [],
    .ret (.and [.cmp .iss (.var 0) (.lit .non), .cmp .iss (.var 1) (.lit .non)])]⟩
theorem mem_intsFrom {n : Nat} {x : D} (h : x ∈ intsFrom 0 n) : ∃ i : Nat, i < n ∧ x = .int i := by
  unfold intsFrom at h
  obtain ⟨i, hi, rfl⟩ := List.mem_map.mp h
  exact ⟨i, List.mem_range.mp hi, by simp⟩
theorem len_intsFrom {a : Int} {n : Nat} : (intsFrom a n).length = n := by simp [intsFrom]
theorem iter_ran {n : Nat} (h : n ≤ 4000) : iter .ran [.int (n : Int)] = some (intsFrom 0 n) := by
  have hs : small (n : Int) = true := by simp [small]; omega
  simp only [iter, hs, if_true]
  simp
theorem pyIx_nat {xs : List D} {i : Nat} : pyIx xs (i : Int) = xs[i]? := by
  unfold pyIx
  rw [if_pos (by omega)]
  simp
theorem deq_self {c l : Nat} : ∀ {n : Nat} {d : D}, Pd c l n d → deq d d = true := by
  have L : ∀ (xs : List D), (∀ x ∈ xs, deq x x = true) → deqL xs xs = true := by
    intro xs
    induction xs with
    | nil => intro _; simp only [deqL]
    | cons x xs ih => intro h; simp only [deqL, h x List.mem_cons_self, ih fun y hy => h y (List.mem_cons_of_mem _ hy), Bool.and_self]
  intro n
  induction n with
  | zero =>
    intro d h
    cases d with
    | int i => simp [deq]
    | non => simp [deq]
    | bl b => simp [deq]
    | str s => simp [deq]
    | _ => exact h.elim
  | succ n ih =>
    intro d h
    cases d with
    | int i => simp [deq]
    | non => simp [deq]
    | bl b => simp [deq]
    | str s => simp [deq]
    | tup xs => simp only [deq]; exact L xs fun x hx => ih (h.2 x hx)
    | lst xs => simp only [deq]; exact L xs fun x hx => ih (h.2 x hx)
    | _ => exact h.elim
theorem all_const {xs : List D} : bfn .all [.lst (xs.map fun _ => .bl true)] = some (.bl true) := by
  rw [bfn_all (g := fun _ => true)]; simp
theorem s_same (h : Fnd P "_law_same" l_same) : ∀ {n : Nat} {d : D} {k : Nat}, n ≤ 50 → l ≤ 4000 → n + 1 ≤ k → Pd c l n d → call P k "_law_same" [d, d] = ret (.bl true) := by
  have seq : ∀ (n k : Nat) (d : D) (xs : List D), (d = .tup xs ∨ d = .lst xs) → n + 1 ≤ 50 → l ≤ 4000 → n + 2 ≤ k → Pd c l (n + 1) d → xs.length ≤ l → (∀ x ∈ xs, call P (k - 1) "_law_same" [x, x] = ret (.bl true)) → call P k "_law_same" [d, d] = ret (.bl true) := by
    intro n k d xs hd hn hl hk hp hlen ih
    refine s_of h (by omega) rfl (ρ0 := [.im d, .im d, .un]) rfl (ρ1 := [.im d, .im d, .un]) ?_
    have el : bfn .len [d] = some (.int xs.length) := by rcases hd with rfl | rfl <;> rfl
    have ei : ∀ i : Nat, idx d (.int i) = xs[i]? := by intro i; rcases hd with rfl | rfl <;> exact pyIx_nat
    have t1 : tst P.gl (call P (k - 1)) (.or [.and [.isi (.var 0) .tuple, .isi (.var 1) .tuple], .and [.isi (.var 0) .list, .isi (.var 1) .list]]) [.im d, .im d, .un] = ret true := by
      simp [hp.isi.2.2.1, hp.isi.2.2.2.1]
      rcases hd with rfl | rfl <;> simp [dTup, dLst]
    refine exs_T t1 (exs_rt ?_)
    have e2 : ev P.gl (call P (k - 1)) (.comp (.call "_law_same" [.idx (.var 0) (.var 2), .idx (.var 1) (.var 2)]) (.nm 2) .ran [.bi .len [.var 0]] [] [2]) [.im d, .im d, .un] = ret (.lst ((intsFrom 0 xs.length).map fun _ => .bl true)) := by
      refine ev_comp1 (ds := [.int (xs.length : Int)]) (by simp [el]) (iter_ran (by omega)) (by rw [len_intsFrom]; unfold lim; omega) fun x hx => ?_
      obtain ⟨i, hi, rfl⟩ := mem_intsFrom hx
      refine ⟨[.im d, .im d, .im (.int i)], rfl, ?_⟩
      have e3 : idx d (.int i) = some xs[i] := by rw [ei, List.getElem?_eq_getElem hi]
      simp [e3, ih _ (List.getElem_mem hi)]
    simp only [ev_and, evA_cons, evA_one, ev_cmp, ev_bi, evL_cons, evL_nil, ev_var, getV_zero, getV_succ, bnd_ret, el, lft_some, cop_eqI, decide_true, truth_bl, if_true, e2, all_const]
  have flat : ∀ (n k : Nat) (d : D), n ≤ 50 → n + 1 ≤ k → Pd c l n d → dTup d = false → dLst d = false → call P k "_law_same" [d, d] = ret (.bl true) := by
    intro n k d hn hk hp h1 h2
    have hq : cop .eq d d = some true := by
      simp only [cop, hp.pln (show n < 60 by omega), Bool.and_self, if_true, deq_self hp]
    refine s_of h (by omega) rfl (ρ0 := [.im d, .im d, .un]) rfl (ρ1 := [.im d, .im d, .un]) ?_
    obtain ⟨i1, i2, i3, i4, i5⟩ := hp.isi
    rw [h1] at i3
    rw [h2] at i4
    refine (exs_F (by simp [i3, i4])).trans ?_
    cases hb : dBl d with
    | true =>
      rw [hb] at i2
      exact exs_T (by simp [i2]) (exs_rt (by simp [i2, hq]))
    | false =>
      rw [hb] at i2 i1
      refine (exs_F (by simp [i2])).trans ?_
      cases hi : dInt d with
      | true =>
        rw [hi] at i1
        exact exs_T (by simp [i1]) (exs_rt (by simp [hq]))
      | false =>
        rw [hi] at i1
        cases hs : dStr d with
        | true =>
          rw [hs] at i5
          exact exs_T (by simp [i1, i5]) (exs_rt (by simp [hq]))
        | false =>
          rw [hs] at i5
          refine (exs_F (by simp [i1, i5])).trans (exs_rt ?_)
          cases d with
          | non => simp [isSame]
          | int _ => cases hi
          | bl _ => cases hb
          | str _ => cases hs
          | tup _ => cases h1
          | lst _ => cases h2
          | _ => cases n <;> exact hp.elim
  intro n
  induction n with
  | zero =>
    intro d k hn hl hk hp
    refine flat 0 k d hn hk hp ?_ ?_ <;> (cases d <;> first | rfl | exact hp.elim)
  | succ n ih =>
    intro d k hn hl hk hp
    cases d with
    | tup xs => exact seq n k _ xs (.inl rfl) hn hl hk hp hp.1 fun x hx => ih (by omega) hl (by omega) (hp.2 x hx)
    | lst xs => exact seq n k _ xs (.inr rfl) hn hl hk hp hp.1 fun x hx => ih (by omega) hl (by omega) (hp.2 x hx)
    | _ => exact flat (n + 1) k _ hn hk hp rfl rfl
end
end PL

set_option autoImplicit false
set_option linter.all false
set_option maxRecDepth 100000
set_option maxHeartbeats 2000000
set_option exponentiation.threshold 20000
/-! M5: the laws that draw by a tape: what they share. -/
namespace PL
def l_is_ratio : Fn := ⟨["value", "part"], 1,
    [.iff (.or [.no (.isi (.var 0) .tuple), .cmp .ne (.bi .len [.var 0]) (.lit (.int 2)), .no (.bi .all [.comp (.and [.isi (.var 1) .int, .no (.isi (.var 1) .bool)]) (.nm 1) .seq [.var 0] [] [1]])])
      [.ret (.lit (.bl false))]
      [],
    .ret (.and [.cmp .gt (.idx (.var 0) (.lit (.int 1))) (.lit (.int 0)), .cmp .eq (.call "_law_ratio" [.idx (.var 0) (.lit (.int 0)), .idx (.var 0) (.lit (.int 1))]) (.var 0)])]⟩
def l_small : Fn := ⟨["tape", "top"], 2,
    [.ret (.call "_law_ratio" [.call "_law_take" [.var 0, .var 1], .bin .add (.lit (.int 1)) (.call "_law_take" [.var 0, .lit (.int 4)])])]⟩
def l_spoilt : Fn := ⟨["tape", "value", "at", "rows"], 2,
    [.iff (.and [.isi (.var 1) .tuple, .cmp .gt (.bi .len [.var 1]) (.lit (.int 0)), .cmp .gt (.call "_law_take" [.var 0, .lit (.int 4)]) (.lit (.int 0))])
      [.asg (.nm 2) (.call "_law_take" [.var 0, .bi .len [.var 1]]),
        .iff (.cmp .eq (.call "_law_take" [.var 0, .lit (.int 8)]) (.lit (.int 0)))
          [.ret (.bin .add (.sl2 (.var 1) (.var 2)) (.sl1 (.var 1) (.bin .add (.var 2) (.lit (.int 1)))))]
          [],
        .ret (.bin .add (.bin .add (.sl2 (.var 1) (.var 2)) (.tup [.call "_law_spoilt" [.var 0, .idx (.var 1) (.var 2)]])) (.sl1 (.var 1) (.bin .add (.var 2) (.lit (.int 1)))))]
      [],
    .asg (.nm 3) (.lst [.lit .non, .tup [], .lit (.int 0), .lit (.int 1), .lit (.bl true), .lit (.bl false), .lit (.str "a"), .neg (.lit (.int 1)), .tup [.lit (.int 0)], .tup [.tup [.lit (.int 0), .lit (.int 0)]]]),
    .iff (.isi (.var 1) .int)
      [.asg (.nm 3) (.bin .add (.var 3) (.lst [.bin .add (.var 1) (.lit (.int 1)), .bin .sub (.var 1) (.lit (.int 1)), .cmp .eq (.var 1) (.lit (.int 1)), .bin .add (.var 1) (.lit (.int 1))]))]
      [],
    .iff (.isi (.var 1) .tuple)
      [.asg (.nm 3) (.bin .add (.var 3) (.lst [.sl2 (.var 1) (.neg (.lit (.int 1))), .bin .add (.var 1) (.sl1 (.var 1) (.neg (.lit (.int 1)))), .rev (.var 1), .bin .add (.var 1) (.tup [.tup [.lit (.int 0), .lit (.int 0)]]), .tup [.var 1], .sl1 (.var 1) (.lit (.int 1))]))]
      [],
    .ret (.idx (.var 3) (.call "_law_take" [.var 0, .bi .len [.var 3]]))]⟩
def l_sum : Fn := ⟨["ratios", "found", "one"], 1,
    [.asg (.nm 1) (.tup [.lit (.int 0), .lit (.int 1)]),
    .fr (.nm 2) .seq [.var 0]
      [.asg (.nm 1) (.call "_law_plus" [.var 1, .var 2])],
    .ret (.var 1)]⟩
def l_max : Fn := ⟨["ratios", "found", "one"], 1,
    [.asg (.nm 1) (.idx (.var 0) (.lit (.int 0))),
    .fr (.nm 2) .seq [.var 0]
      [.asg (.nm 1) (.ite (.call "_law_less" [.var 1, .var 2]) (.var 2) (.var 1))],
    .ret (.var 1)]⟩
def sum_of : Fn := ⟨["ratios", "found", "one"], 1,
    [.asg (.nm 1) (.glob "ZERO"),
    .fr (.nm 2) .seq [.var 0]
      [.asg (.nm 1) (.call "plus" [.var 1, .var 2])],
    .ret (.var 1)]⟩
section
variable {β : Type} {P : Prog β} {k c l n : Nat}
theorem cop_eqT {a b p q : Int} : cop .eq (.tup [.int a, .int b]) (.tup [.int p, .int q]) = some (decide (a = p) && decide (b = q)) := by
  have h : ∀ u v : Int, pln 60 (.tup [.int u, .int v]) = true := fun u v => by simp only [pln, plnT, plnL, Bool.and_self]
  simp only [cop, h, Bool.and_self, if_true, deq, deqL, Bool.and_true]
  congr 1
theorem s_l_is_ratio (h : Fnd P "_law_is_ratio" l_is_ratio) (hr : Fnd P "_law_ratio" RF.l_ratio) (hc : c < 2 ^ 9000) (hl4 : l ≤ 4000) (hk : 2 ≤ k) {d : D} (hd : Pd c l n d) : call P k "_law_is_ratio" [d] = ret (.bl (isRt d)) := by
  refine s_of h (by omega) rfl (ρ0 := [.im d, .un]) rfl ?_ (ρ1 := [.im d, .un])
  by_cases ht : dTup d = true
  · cases d with
    | tup xs =>
      obtain ⟨m, rfl, hl, hx⟩ := hd.tup
      have ec : ev P.gl (call P (k - 1)) (.comp (.and [.isi (.var 1) .int, .no (.isi (.var 1) .bool)]) (.nm 1) .seq [.var 0] [] [1]) [.im (.tup xs), .un] = ret (.lst (xs.map fun x => .bl (dInt x))) := by
        refine ev_comp1 (ds := [.tup xs]) (by simp) rfl (by unfold lim; omega) fun x hx' => ⟨[.im (.tup xs), .im x], rfl, ?_⟩
        obtain ⟨i1, i2, _⟩ := (hx x hx').isi
        simp [i1, i2]
        cases x <;> rfl
      match xs, hx, ec with
      | [], _, _ => exact exs_T (by simp [hd.isi.2.2.1, dTup, bfn]) (exs_rt (by simp [isRt]))
      | [a], _, _ => exact exs_T (by simp [hd.isi.2.2.1, dTup, bfn]) (exs_rt (by simp [isRt]))
      | [a, b], hx, ec =>
        have hlen : bfn .len [.tup [a, b]] = some (.int 2) := rfl
        have ea : ∀ u v, bfn .all [.lst [.bl u, .bl v]] = some (.bl (u && v)) := by intro u v; simp [bfn, isBls]
        cases ha : dInt a && dInt b with
        | false =>
          refine exs_T (by simp [hd.isi.2.2.1, dTup, hlen, ec, ea, ha]) (exs_rt ?_)
          cases a <;> cases b <;> first | rfl | (cases ha; done)
        | true =>
          rw [Bool.and_eq_true] at ha
          cases a with
          | int p =>
            cases b with
            | int q =>
              refine (exs_F (by simp [hd.isi.2.2.1, dTup, hlen, ec, ea, dInt])).trans (exs_rt ?_)
              by_cases hq : 0 < q
              · have e := s_lratio hr (show 1 ≤ k - 1 by omega) (p := p) hq (Nat.lt_of_le_of_lt (hx _ (by simp)).int hc) (Nat.lt_of_le_of_lt (hx _ (by simp)).int hc)
                rw [rat_of hq] at e
                have key : (decide (p / (Int.gcd p q : Int) = p) && decide (q / (Int.gcd p q : Int) = q)) = decide ((Int.gcd p q : Int) = 1) := by
                  have hg := gcd_pos (p := p) hq
                  by_cases h1 : (Int.gcd p q : Int) = 1
                  · simp [h1]
                  · have : ¬ q / (Int.gcd p q : Int) = q := by
                      intro z
                      have h2 : q / (Int.gcd p q : Int) < q := by
                        apply Int.ediv_lt_of_lt_mul hg
                        have : q * 1 < q * (Int.gcd p q : Int) := Int.mul_lt_mul_of_pos_left (by omega) hq
                        omega
                      omega
                    simp [h1, this]
                simp [e, isRt, hq, cop_eqT, key]
              · simp [isRt, hq]
            | _ => simp [dInt] at ha
          | _ => simp [dInt] at ha
      | a :: b :: c :: r, _, _ =>
        refine exs_T ?_ (exs_rt (by simp [isRt]))
        have : ¬ ((r.length : Int) + 1 + 1 + 1 = 2) := by omega
        simp [hd.isi.2.2.1, dTup, bfn, this]
    | _ => cases ht
  · have ht : dTup d = false := by simpa using ht
    refine exs_T (by simp [hd.isi.2.2.1, ht]) (exs_rt ?_)
    cases d <;> first | rfl | cases ht
/-! ### draws -/
structure Draws (P : Prog β) (tk : String) : Prop where
  t : ∀ {k : Nat} {m : Int} {b : β}, 4 ≤ k → 0 < m → m < 1000000000 → ∃ i b', 0 ≤ i ∧ i < m ∧ call P k tk [.box, .int m] b = .ok (.int i) b'
theorem Draws.run {tk : String} (h : Draws P tk) (hk : 4 ≤ k) {m : Int} (h0 : 0 < m) (h1 : m < 1000000000) {b : β} {Q : D → β → Prop} (q : ∀ (i : Nat) b', (i : Int) < m → Q (.int i) b') : Run (call P k tk [.box, .int m]) b Q := by
  obtain ⟨i, b', h2, h3, e⟩ := h.t (b := b) hk h0 h1
  refine ⟨_, _, e, ?_⟩
  have := q i.toNat b' (by omega)
  rwa [Int.toNat_of_nonneg h2] at this
theorem run_call {x : String} {f : Fn} (h : Fnd P x f) {args : List D} (hk : 1 ≤ k) (h3 : args.length = f.np) {ρ0 : Env} (h0 : args.map Cell.im ++ List.replicate (f.names.length - f.np) Cell.un = ρ0) {b : β} {Q : D → β → Prop}
    (hb : Run (exs P.gl (call P (k - 1)) f.body ρ0) b (fun r b' => match r.1 with
      | .rt d => Q d b'
      | .nx => Q .non b'
      | _ => False)) : Run (call P k x args) b Q := by
  rw [call_at h hk h3, h0]
  exact run_endF.mpr hb
section
variable {gl : String → Option D} {F : String → List D → M β D} {ρ : Env} {b : β}
theorem run_rt {e : E} {r : List S} {Q : Fl × Env → β → Prop} (h : Run (ev gl F e ρ) b (fun d b' => Q (.rt d, ρ) b')) : Run (exs gl F (.ret e :: r) ρ) b Q := by
  rw [run_exs_cons]
  simp only [ex]
  rw [run_bnd]
  exact h.mono fun d b' q => run_ret.mpr q
theorem run_asg {i : Nat} {e : E} {r : List S} {Q : Fl × Env → β → Prop} (h : Run (ev gl F e ρ) b (fun d b' => Run (exs gl F r (ρ.set i (.im d))) b' Q)) : Run (exs gl F (.asg (.nm i) e :: r) ρ) b Q := by
  rw [run_exs_cons]
  simp only [ex]
  rw [run_bnd]
  refine h.mono fun d b' q => ?_
  simp only [bindT, lft_some, bnd_ret, nxt]
  exact run_ret.mpr q
theorem run_iff {c : E} {p q r : List S} {Q : Fl × Env → β → Prop} (h : Run (tst gl F c ρ) b (fun t b' => if t = true then Run (exs gl F p ρ) b' (nxts Q (exs gl F r)) else Run (exs gl F q ρ) b' (nxts Q (exs gl F r)))) : Run (exs gl F (.iff c p q :: r) ρ) b Q := by
  rw [run_exs_cons]
  simp only [ex]
  rw [run_bnd]
  exact h.mono fun t b' q => run_ite.mpr q
theorem run_tst {e : E} {Q : Bool → β → Prop} (h : Run (ev gl F e ρ) b (fun d b' => ∃ t, truth d = some t ∧ Q t b')) : Run (tst gl F e ρ) b Q := by
  simp only [tst]
  rw [run_bnd]
  exact h.mono fun d b' ⟨t, e, q⟩ => run_lft.mpr ⟨t, e, q⟩
end
structure Tape (P : Prog β) : Prop where
  dr : Draws P "_law_take"
  ratio : Fnd P "_law_ratio" RF.l_ratio
  small : Fnd P "_law_small" l_small
  spoilt : Fnd P "_law_spoilt" l_spoilt
theorem r_small (h : Tape P) (hk : 5 ≤ k) {m : Int} (h0 : 0 < m) (h1 : m < 1000000000) {b : β} {Q : D → β → Prop} (q : ∀ (i j : Nat) b', (i : Int) < m → j < 4 → Q (Rt (((i : Int) : Rat) / (((1 + j : Nat) : Int) : Rat))) b') : Run (call P k "_law_small" [.box, .int m]) b Q := by
  refine run_call h.small (by omega) rfl (ρ0 := [.im .box, .im (.int m)]) rfl (run_rt ?_)
  simp only [ev_call, evL_cons, evL_nil, ev_bin, ev_var, ev_lit, getV_zero, getV_succ, bnd_ret, run_bnd]
  refine h.dr.run (by omega) h0 h1 fun i b1 hi => ?_
  refine h.dr.run (by omega) (by decide) (by decide) fun j b2 hj => ?_
  simp only [bop_addI, lft_some, run_ret]
  have e := s_lratio h.ratio (show 1 ≤ k - 1 by omega) (p := (i : Int)) (q := 1 + (j : Int)) (by omega) ?_ ?_
  · rw [e, run_ret]
    have := q i j b2 hi (by omega)
    rwa [Int.natCast_add] at this
  · exact Nat.lt_of_lt_of_le (show ((i : Int)).natAbs < 2 ^ 30 by omega) (Nat.pow_le_pow_right (by decide) (by decide))
  · exact Nat.lt_of_lt_of_le (show (1 + (j : Int)).natAbs < 2 ^ 3 by omega) (Nat.pow_le_pow_right (by decide) (by decide))
/-- trees of ints -/
def It (c l : Nat) : Nat → D → Prop
  | 0, d => (match d with
    | .int i => i.natAbs ≤ c
    | _ => False)
  | n + 1, d => (match d with
    | .int i => i.natAbs ≤ c
    | .tup xs => xs.length ≤ l ∧ ∀ x ∈ xs, It c l n x
    | _ => False)
theorem It.pd : ∀ {n : Nat} {d : D}, It c l n d → Pd c l n d := by
  intro n
  induction n with
  | zero => intro d h; cases d <;> first | exact h | exact h.elim
  | succ n ih =>
    intro d h
    cases d with
    | int i => exact h
    | tup xs => exact ⟨h.1, fun x hx => ih (h.2 x hx)⟩
    | _ => exact h.elim
theorem len_take {xs : List D} : bfn .len [.tup xs] = some (.int xs.length) := rfl
theorem clip_nat {n i : Nat} (h : i ≤ n) (d : Nat) : clip n d (some (i : Int)) = i := by
  unfold clip
  simp only
  rw [if_neg (by omega)]
  omega
theorem cut_to {xs : List D} {i : Nat} (h : i ≤ xs.length) : cutD xs none (some (i : Int)) = xs.take i := by
  unfold cutD
  rw [clip_nat h]
  simp [clip]
theorem cut_from {xs : List D} {i : Nat} (h : i ≤ xs.length) : cutD xs (some (i : Int)) none = xs.drop i := by
  unfold cutD
  rw [clip_nat h]
  simp only [clip]
  rw [List.take_of_length_le (by rw [List.length_drop]; omega)]
theorem sub_take {xs : List D} {lo hi : Option Int} {x : D} (h : x ∈ cutD xs lo hi) : x ∈ xs := List.mem_of_mem_drop (List.mem_of_mem_take h)
theorem len_cut {xs : List D} {lo hi : Option Int} : (cutD xs lo hi).length ≤ xs.length := by
  unfold cutD
  rw [List.length_take, List.length_drop]
  omega
theorem bop_addT {a b : List D} (h : a.length + b.length ≤ lim) : bop .add (.tup a) (.tup b) = some (.tup (a ++ b)) := by simp only [bop, if_pos h]
theorem bop_addL {a b : List D} (h : a.length + b.length ≤ lim) : bop .add (.lst a) (.lst b) = some (.lst (a ++ b)) := by simp only [bop, if_pos h]
def base10 : List D := [.non, .tup [], .int 0, .int 1, .bl true, .bl false, .str "a", .int (-1), .tup [.int 0], .tup [.tup [.int 0, .int 0]]]
theorem base_pd (hc : 1 ≤ c) (hl : 2 ≤ l) : ∀ x ∈ base10, Pd c l (n + 2) x := by
  intro x hx
  simp only [base10, List.mem_cons, List.not_mem_nil, or_false] at hx
  have i0 : ∀ m, Pd c l m (.int 0) := fun m => Pd.of_int (by simp)
  rcases hx with rfl | rfl | rfl | rfl | rfl | rfl | rfl | rfl | rfl | rfl
  · exact Pd.non
  · exact ⟨by simp, by simp⟩
  · exact i0 _
  · exact Pd.of_int (by simpa using hc)
  · exact Pd.bl
  · exact Pd.bl
  · exact ⟨by decide +kernel, by decide +kernel⟩
  · exact Pd.of_int (by simpa using hc)
  · exact ⟨by first | (simp; done) | (simp; omega), by intro x hx; simp only [List.mem_cons, List.not_mem_nil, or_false] at hx; subst hx; exact i0 _⟩
  · refine ⟨by first | (simp; done) | (simp; omega), ?_⟩
    intro x hx
    simp only [List.mem_cons, List.not_mem_nil, or_false] at hx
    subst hx
    exact ⟨by simpa using hl, by intro x hx; simp only [List.mem_cons, List.not_mem_nil, or_false, or_self] at hx; subst hx; exact i0 _⟩
/-- the end: one of the rows -/
theorem sp_end (h : Draws P "_law_take") (hk : 4 ≤ k) {rows : List D} (h0 : rows ≠ []) (h1 : rows.length ≤ lim) {d : D} {c3 : Cell} {b : β} {Q : Fl × Env → β → Prop} (q : ∀ x ∈ rows, ∀ ρ b', Q (.rt x, ρ) b') :
    Run (exs P.gl (call P k) [.ret (.idx (.var 3) (.call "_law_take" [.var 0, .bi .len [.var 3]]))] [.im .box, .im d, c3, .im (.lst rows)]) b Q := by
  refine run_rt ?_
  have hp : 0 < rows.length := List.length_pos_iff.mpr h0
  have e : bfn .len [.lst rows] = some (.int rows.length) := rfl
  simp only [ev_idx, ev_call, evL_cons, evL_nil, ev_bi, ev_var, getV_zero, getV_succ, bnd_ret, e, lft_some, run_bnd]
  refine h.run hk (by omega) (by unfold lim at h1; omega) fun i b1 hi => ?_
  have hi : i < rows.length := by omega
  have e2 : idx (.lst rows) (.int i) = some rows[i] := by
    show pyIx rows i = _
    rw [pyIx_nat, List.getElem?_eq_getElem hi]
  rw [e2, lft_some, run_ret]
  exact q _ (List.getElem_mem hi) _ _
theorem sp_rest (h : Draws P "_law_take") (hk : 4 ≤ k) (hc : 1 ≤ c) (hl : 2 ≤ l) (hl2 : l ≤ 3000) {d : D} (hd : It c l n d) {b : β} {Q : Fl × Env → β → Prop} (q : ∀ x, Pd (c + 1) (l + 1) (n + 2) x → ∀ ρ b', Q (.rt x, ρ) b') :
    Run (exs P.gl (call P k) (l_spoilt.body.drop 1) [.im .box, .im d, .un, .un]) b Q := by
  show Run (exs P.gl (call P k) (.asg (.nm 3) _ :: .iff _ _ _ :: .iff _ _ _ :: [.ret _]) _) b Q
  refine run_asg ?_
  have e0 : ev P.gl (call P k) (.lst [.lit .non, .tup [], .lit (.int 0), .lit (.int 1), .lit (.bl true), .lit (.bl false), .lit (.str "a"), .neg (.lit (.int 1)), .tup [.lit (.int 0)], .tup [.tup [.lit (.int 0), .lit (.int 0)]]]) [.im .box, .im d, .un, .un] = ret (.lst base10) := by
    simp [lim, base10]
  rw [e0, run_ret]
  show Run (exs P.gl (call P k) _ [.im .box, .im d, .un, .im (.lst base10)]) b Q
  have hbase : ∀ x ∈ base10, Pd (c + 1) (l + 1) (n + 2) x := fun x hx => base_pd (by omega) (by omega) x hx
  refine run_iff (run_tst ?_)
  obtain ⟨i1, i2, i3, _⟩ := hd.pd.isi
  cases d with
  | int i =>
    have hi : i.natAbs ≤ c := hd.pd.int
    simp only [ev_isi, ev_var, getV_succ, getV_zero, bnd_ret, i1, lft_some, run_ret]
    refine ⟨true, rfl, ?_⟩
    rw [if_pos rfl]
    have e1 : ev P.gl (call P k) (.bin .add (.var 3) (.lst [.bin .add (.var 1) (.lit (.int 1)), .bin .sub (.var 1) (.lit (.int 1)), .cmp .eq (.var 1) (.lit (.int 1)), .bin .add (.var 1) (.lit (.int 1))])) [.im .box, .im (.int i), .un, .im (.lst base10)] =
        ret (.lst (base10 ++ [.int (i + 1), .int (i - 1), .bl (decide (i = 1)), .int (i + 1)])) := by
      simp only [ev_bin, ev_lst, evL_cons, evL_nil, ev_var, ev_lit, ev_cmp, getV_succ, getV_zero, bnd_ret, bop_addI, bop_subI, cop_eqI, lft_some]
      rw [if_pos (by simp [lim])]
      simp only [bnd_ret]
      rw [bop_addL (by simp [base10, lim])]
      rfl
    refine run_asg ?_
    rw [e1, run_ret]
    refine run_exs_nil.mpr ?_
    show Run (exs P.gl (call P k) _ [.im .box, .im (.int i), .un, .im (.lst (base10 ++ [.int (i + 1), .int (i - 1), .bl (decide (i = 1)), .int (i + 1)]))]) b Q
    refine run_iff (run_tst ?_)
    simp only [ev_isi, ev_var, getV_succ, getV_zero, bnd_ret, i3, lft_some, run_ret]
    refine ⟨false, rfl, ?_⟩
    rw [if_neg (by decide)]
    refine run_exs_nil.mpr ?_
    refine sp_end h hk (by simp [base10]) (by simp [base10, lim]) fun x hx ρ b' => q x ?_ ρ b'
    rw [List.mem_append] at hx
    rcases hx with hx | hx
    · exact hbase x hx
    · simp only [List.mem_cons, List.not_mem_nil, or_false] at hx
      rcases hx with rfl | rfl | rfl | rfl
      · exact Pd.of_int (by omega)
      · exact Pd.of_int (by omega)
      · exact Pd.bl
      · exact Pd.of_int (by omega)
  | tup xs =>
    obtain ⟨m, rfl, hlen, hx⟩ := hd.pd.tup
    simp only [ev_isi, ev_var, getV_succ, getV_zero, bnd_ret, i1, lft_some, run_ret]
    refine ⟨false, rfl, ?_⟩
    rw [if_neg (by decide)]
    refine run_exs_nil.mpr ?_
    refine run_iff (run_tst ?_)
    simp only [ev_isi, ev_var, getV_succ, getV_zero, bnd_ret, i3, lft_some, run_ret]
    refine ⟨true, rfl, ?_⟩
    rw [if_pos rfl]
    have hl1 : (cutD xs (some (-1)) none).length ≤ 1 := by
      unfold cutD
      simp only [clip]
      rw [List.length_take, List.length_drop]
      simp
      omega
    have e1 : ev P.gl (call P k) (.bin .add (.var 3) (.lst [.sl2 (.var 1) (.neg (.lit (.int 1))), .bin .add (.var 1) (.sl1 (.var 1) (.neg (.lit (.int 1)))), .rev (.var 1), .bin .add (.var 1) (.tup [.tup [.lit (.int 0), .lit (.int 0)]]), .tup [.var 1], .sl1 (.var 1) (.lit (.int 1))])) [.im .box, .im (.tup xs), .un, .im (.lst base10)] =
        ret (.lst (base10 ++ [.tup (cutD xs none (some (-1))), .tup (xs ++ cutD xs (some (-1)) none), .tup xs.reverse, .tup (xs ++ [.tup [.int 0, .int 0]]), .tup [.tup xs], .tup (cutD xs (some 1) none)])) := by
      simp only [ev_bin, ev_lst, ev_tup, evL_cons, evL_nil, ev_var, ev_lit, ev_cmp, ev_sl1, ev_sl2, ev_neg, ev_rev, getV_succ, getV_zero, bnd_ret, toI_int, lft_some, sli, revD]
      rw [bop_addT (by unfold lim; omega), if_pos (by simp [lim])]
      simp only [bnd_ret, lft_some]
      rw [if_pos (by simp [lim])]
      simp only [bnd_ret, lft_some]
      rw [bop_addT (by unfold lim; simp; omega)]
      simp only [bnd_ret, lft_some]
      rw [if_pos (by simp [lim])]
      simp only [bnd_ret, lft_some]
      rw [if_pos (by simp [lim])]
      simp only [bnd_ret, lft_some]
      rw [bop_addL (by simp [base10, lim])]
      rfl
    refine run_asg ?_
    rw [e1, run_ret]
    refine run_exs_nil.mpr ?_
    refine sp_end h hk (by simp [base10]) (by simp [base10, lim]) fun x hxx ρ b' => q x ?_ ρ b'
    have up : ∀ y ∈ xs, Pd (c + 1) (l + 1) (m + 2) y := fun y hy => (hx y hy).mono (by omega) (by omega) (by omega)
    rw [List.mem_append] at hxx
    rcases hxx with hxx | hxx
    · exact hbase x hxx
    · simp only [List.mem_cons, List.not_mem_nil, or_false] at hxx
      rcases hxx with rfl | rfl | rfl | rfl | rfl | rfl
      · exact ⟨Nat.le_trans len_cut (by omega), fun y hy => up y (sub_take hy)⟩
      · refine ⟨by rw [List.length_append]; omega, fun y hy => ?_⟩
        rcases List.mem_append.mp hy with hy | hy
        · exact up y hy
        · exact up y (sub_take hy)
      · exact ⟨by rw [List.length_reverse]; omega, fun y hy => up y (List.mem_reverse.mp hy)⟩
      · refine ⟨by rw [List.length_append]; simp; omega, fun y hy => ?_⟩
        rcases List.mem_append.mp hy with hy | hy
        · exact up y hy
        · simp only [List.mem_cons, List.not_mem_nil, or_false] at hy
          subst hy
          exact ⟨by first | (simp; done) | (simp; omega), by intro z hz; simp only [List.mem_cons, List.not_mem_nil, or_false, or_self] at hz; subst hz; exact Pd.of_int (by simp)⟩
      · refine ⟨by first | (simp; done) | (simp; omega), fun y hy => ?_⟩
        simp only [List.mem_cons, List.not_mem_nil, or_false] at hy
        subst hy
        exact ⟨by omega, fun z hz => (hx z hz).mono (by omega) (by omega) (by omega)⟩
      · exact ⟨Nat.le_trans len_cut (by omega), fun y hy => up y (sub_take hy)⟩
  | _ => cases n <;> exact hd.elim
theorem r_spoilt (h : Tape P) (hc : 1 ≤ c) (hl : 2 ≤ l) (hl2 : l ≤ 1000) : ∀ {n : Nat} {d : D} {k : Nat} {b : β} {Q : D → β → Prop}, n + 5 ≤ k → It c l n d → (∀ x b', Pd (c + 1) (l + 1) (n + 2) x → Q x b') → Run (call P k "_law_spoilt" [.box, d]) b Q := by
  intro n
  induction n with
  | zero =>
    intro d k b Q hk hd q
    refine run_call h.spoilt (by omega) rfl (ρ0 := [.im .box, .im d, .un, .un]) rfl ?_
    show Run (exs P.gl (call P (k - 1)) (.iff _ _ _ :: l_spoilt.body.drop 1) _) b _
    refine run_iff (run_tst ?_)
    cases d with
    | int i =>
      simp only [ev_and, evA_cons, ev_isi, ev_var, getV_succ, getV_zero, bnd_ret, hd.pd.isi.2.2.1, lft_some, truth_bl, dTup, Bool.false_eq_true, if_false, run_ret]
      refine ⟨false, rfl, ?_⟩
      rw [if_neg (by decide)]
      refine run_exs_nil.mpr ?_
      exact sp_rest h.dr (by omega) hc hl (by omega) hd fun x hx ρ b' => q x b' hx
    | _ => exact hd.elim
  | succ n ih =>
    intro d k b Q hk hd q
    refine run_call h.spoilt (by omega) rfl (ρ0 := [.im .box, .im d, .un, .un]) rfl ?_
    show Run (exs P.gl (call P (k - 1)) (.iff _ _ _ :: l_spoilt.body.drop 1) _) b _
    refine run_iff (run_tst ?_)
    have leaf : ∀ b', Run (exs P.gl (call P (k - 1)) (l_spoilt.body.drop 1) [.im .box, .im d, .un, .un]) b' (fun r b' => match r.1 with
      | .rt d => Q d b'
      | .nx => Q .non b'
      | _ => False) := fun b' => sp_rest h.dr (by omega) hc hl (by omega) hd fun x hx ρ b' => q x b' hx
    cases d with
    | int i =>
      simp only [ev_and, evA_cons, ev_isi, ev_var, getV_succ, getV_zero, bnd_ret, hd.pd.isi.2.2.1, lft_some, truth_bl, dTup, Bool.false_eq_true, if_false, run_ret]
      refine ⟨false, rfl, ?_⟩
      rw [if_neg (by decide)]
      refine run_exs_nil.mpr ?_
      exact leaf b
    | tup xs =>
      have hlen := hd.1
      have hx := hd.2
      have hpx := hd.pd.2
      by_cases h0 : 0 < xs.length
      case neg =>
        simp only [ev_and, evA_cons, evA_one, ev_isi, ev_cmp, ev_bi, evL_cons, evL_nil, ev_lit, ev_var, getV_succ, getV_zero, bnd_ret, hd.pd.isi.2.2.1, lft_some, truth_bl, dTup, if_true, len_take, cop_gt, decide_eq_false (show ¬ (0 : Int) < xs.length by omega), Bool.false_eq_true, if_false, run_ret]
        refine ⟨false, rfl, ?_⟩
        rw [if_neg (by decide)]
        refine run_exs_nil.mpr ?_
        exact leaf b
      simp only [ev_and, evA_cons, evA_one, ev_isi, ev_cmp, ev_bi, ev_call, evL_cons, evL_nil, ev_lit, ev_var, getV_succ, getV_zero, bnd_ret, hd.pd.isi.2.2.1, lft_some, truth_bl, dTup, if_true, len_take, cop_gt, decide_eq_true (show (0 : Int) < xs.length by omega), run_bnd]
      refine h.dr.run (by omega) (by decide) (by decide) fun t b1 ht => ?_
      simp only [cop_gt, lft_some, run_ret]
      refine ⟨_, rfl, ?_⟩
      by_cases hc0 : (0 : Int) < (t : Int)
      case neg =>
        rw [decide_eq_false hc0, if_neg (by decide)]
        refine run_exs_nil.mpr ?_
        exact leaf b1
      rw [decide_eq_true hc0, if_pos rfl]
      refine run_asg ?_
      simp only [ev_bi, ev_call, evL_cons, evL_nil, ev_var, getV_succ, getV_zero, bnd_ret, lft_some, len_take]
      refine h.dr.run (by omega) (by omega) (by omega) fun a b2 ha => ?_
      have ha : a < xs.length := by omega
      show Run (exs P.gl (call P (k - 1)) _ [.im .box, .im (.tup xs), .im (.int a), .un]) b2 _
      refine run_iff (run_tst ?_)
      simp only [ev_cmp, ev_call, evL_cons, evL_nil, ev_lit, ev_var, getV_succ, getV_zero, bnd_ret, run_bnd]
      refine h.dr.run (by omega) (by decide) (by decide) fun u b3 hu => ?_
      simp only [cop_eqI, lft_some, run_ret]
      refine ⟨_, rfl, ?_⟩
      have c1 : sli none (some (a : Int)) (.tup xs) = some (.tup (xs.take a)) := by simp only [sli, cut_to (Nat.le_of_lt ha)]
      have c2 : sli (some ((a : Int) + 1)) none (.tup xs) = some (.tup (xs.drop (a + 1))) := by
        have := cut_from (xs := xs) (i := a + 1) ha
        rw [Int.natCast_add] at this
        simp only [sli]
        rw [← this]; rfl
      have up : ∀ y ∈ xs, Pd (c + 1) (l + 1) (n + 2) y := fun y hy => (hpx y hy).mono (by omega) (by omega) (by omega)
      by_cases hu0 : (u : Int) = 0
      · rw [decide_eq_true hu0, if_pos rfl]
        refine run_rt ?_
        simp only [ev_bin, ev_sl1, ev_sl2, ev_lit, ev_var, getV_succ, getV_zero, bnd_ret, toI_int, bop_addI, lft_some, c1, c2]
        rw [bop_addT (by rw [List.length_take, List.length_drop]; unfold lim; omega), lft_some, run_ret]
        refine q _ _ ⟨by rw [List.length_append, List.length_take, List.length_drop]; omega, fun y hy => ?_⟩
        rcases List.mem_append.mp hy with hy | hy
        · exact up y (List.mem_of_mem_take hy)
        · exact up y (List.mem_of_mem_drop hy)
      · rw [decide_eq_false hu0, if_neg (by decide)]
        refine run_exs_nil.mpr ?_
        refine run_rt ?_
        have e2 : idx (.tup xs) (.int a) = some xs[a] := by
          show pyIx xs a = _
          rw [pyIx_nat, List.getElem?_eq_getElem ha]
        simp only [ev_bin, ev_tup, ev_call, ev_idx, evL_cons, evL_nil, ev_sl1, ev_sl2, ev_lit, ev_var, getV_succ, getV_zero, bnd_ret, toI_int, bop_addI, lft_some, c1, c2, e2, run_bnd]
        refine ih (by omega) (hx _ (List.getElem_mem ha)) fun y b4 hy => ?_
        simp only [run_ret]
        rw [if_pos (by simp [lim]), run_ret, bop_addT (by rw [List.length_take]; simp [lim]; omega), lft_some, run_ret, bop_addT (by rw [List.length_append, List.length_take, List.length_drop]; simp [lim]; omega), lft_some, run_ret]
        refine q _ _ ⟨by rw [List.length_append, List.length_append, List.length_take, List.length_drop]; simp; omega, fun z hz => ?_⟩
        rcases List.mem_append.mp hz with hz | hz
        · rcases List.mem_append.mp hz with hz | hz
          · exact up z (List.mem_of_mem_take hz)
          · simp only [List.mem_cons, List.not_mem_nil, or_false] at hz
            subst hz
            exact hy
        · exact up z (List.mem_of_mem_drop hz)
    | _ => exact hd.elim
end
end PL

set_option autoImplicit false
set_option linter.all false
set_option maxRecDepth 100000
set_option maxHeartbeats 2000000
set_option exponentiation.threshold 20000
/-! M6: how great numbers get; sums, the greatest. -/
namespace PL
/-- at most n bits above and below -/
def Bz (n : Nat) (q : Rat) : Prop := q.num.natAbs < 2 ^ n ∧ q.den < 2 ^ n
theorem Bz.mono {n m : Nat} {q : Rat} (h : Bz n q) (hm : n ≤ m) : Bz m q := ⟨Nat.lt_of_lt_of_le h.1 (Nat.pow_le_pow_right (by decide) hm), Nat.lt_of_lt_of_le h.2 (Nat.pow_le_pow_right (by decide) hm)⟩
theorem Bz.sz {n : Nat} {q : Rat} (h : Bz n q) (hn : n ≤ 4000) : Sz q := h.mono hn
/-- from any form -/
theorem Bz.of {p q : Int} {n : Nat} (h0 : 0 < q) (hp : p.natAbs < 2 ^ n) (hq : q.natAbs < 2 ^ n) : Bz n ((p : Rat) / (q : Rat)) := by
  have e := rat_of (p := p) h0
  simp only [Rt, D.tup.injEq, List.cons.injEq, D.int.injEq, and_true] at e
  have hg := gcd_pos (p := p) h0
  constructor
  · rw [e.1]
    have : (p / (Int.gcd p q : Int)).natAbs ≤ p.natAbs := Int.natAbs_ediv_le_natAbs _ _
    omega
  · have : ((((p : Rat) / (q : Rat)).den : Nat) : Int) ≤ q := by
      rw [e.2]
      exact Int.ediv_le_self _ (by omega)
    omega
theorem pow_mul_lt {a b n m : Nat} (h1 : a < 2 ^ n) (h2 : b < 2 ^ m) : a * b < 2 ^ (n + m) := by
  rw [Nat.pow_add]
  exact Nat.mul_lt_mul'' h1 h2
theorem Bz.mul {n m : Nat} {p q : Rat} (h1 : Bz n p) (h2 : Bz m q) : Bz (n + m) (p * q) := by
  rw [← mul_rat]
  refine Bz.of (Int.mul_pos (den_pos p) (den_pos q)) ?_ ?_
  · rw [Int.natAbs_mul]; exact pow_mul_lt h1.1 h2.1
  · rw [Int.natAbs_mul, Int.natAbs_natCast, Int.natAbs_natCast]; exact pow_mul_lt h1.2 h2.2
theorem two_lt {a b c d n m : Nat} (h1 : a < 2 ^ n) (h2 : b < 2 ^ m) (h3 : c < 2 ^ m) (h4 : d < 2 ^ n) : a * b + c * d < 2 ^ (n + m + 1) := by
  have e1 := pow_mul_lt h1 h2
  have e2 := pow_mul_lt h3 h4
  rw [Nat.add_comm m n] at e2
  rw [Nat.pow_succ]
  omega
theorem Bz.add {n m : Nat} {p q : Rat} (h1 : Bz n p) (h2 : Bz m q) : Bz (n + m + 1) (p + q) := by
  rw [← add_rat]
  refine Bz.of (Int.mul_pos (den_pos p) (den_pos q)) ?_ ?_
  · refine Nat.lt_of_le_of_lt (Int.natAbs_add_le _ _) ?_
    rw [Int.natAbs_mul, Int.natAbs_mul, Int.natAbs_natCast, Int.natAbs_natCast]
    exact two_lt h1.1 h2.2 h2.1 h1.2
  · rw [Int.natAbs_mul, Int.natAbs_natCast, Int.natAbs_natCast]
    exact Nat.lt_of_lt_of_le (pow_mul_lt h1.2 h2.2) (Nat.pow_le_pow_right (by decide) (by omega))
theorem Bz.sub {n m : Nat} {p q : Rat} (h1 : Bz n p) (h2 : Bz m q) : Bz (n + m + 1) (p - q) := by
  rw [← sub_rat]
  refine Bz.of (Int.mul_pos (den_pos p) (den_pos q)) ?_ ?_
  · refine Nat.lt_of_le_of_lt (Int.natAbs_sub_le _ _) ?_
    rw [Int.natAbs_mul, Int.natAbs_mul, Int.natAbs_natCast, Int.natAbs_natCast]
    exact two_lt h1.1 h2.2 h2.1 h1.2
  · rw [Int.natAbs_mul, Int.natAbs_natCast, Int.natAbs_natCast]
    exact Nat.lt_of_lt_of_le (pow_mul_lt h1.2 h2.2) (Nat.pow_le_pow_right (by decide) (by omega))
theorem Bz.zero {n : Nat} (h : 1 ≤ n) : Bz n 0 := by
  constructor
  · show (0 : Rat).num.natAbs < 2 ^ n
    exact Nat.lt_of_lt_of_le (by decide : (0 : Rat).num.natAbs < 2 ^ 1) (Nat.pow_le_pow_right (by decide) h)
  · exact Nat.lt_of_lt_of_le (by decide : (0 : Rat).den < 2 ^ 1) (Nat.pow_le_pow_right (by decide) h)
/-- the sum, from the left -/
def sm (xs : List Rat) : Rat := xs.foldl (· + ·) 0
theorem sm_nil : sm [] = 0 := rfl
theorem foldl_add (xs : List Rat) : ∀ a : Rat, xs.foldl (· + ·) a = a + sm xs := by
  induction xs with
  | nil => intro a; show a = a + 0; grind
  | cons x xs ih =>
    intro a
    show xs.foldl (· + ·) (a + x) = a + xs.foldl (· + ·) (0 + x)
    rw [ih (a + x), ih (0 + x)]; grind
theorem sm_cons (x : Rat) (xs : List Rat) : sm (x :: xs) = x + sm xs := by
  unfold sm
  rw [List.foldl_cons, foldl_add, foldl_add]; grind
theorem sm_append (xs ys : List Rat) : sm (xs ++ ys) = sm xs + sm ys := by
  unfold sm
  rw [List.foldl_append, foldl_add]; rfl
theorem sm_take {xs : List Rat} {i : Nat} (h : i < xs.length) : sm (xs.take (i + 1)) = sm (xs.take i) + xs[i] := by
  rw [List.take_succ_eq_append_getElem h, sm_append]
  congr 1
  rw [sm_cons, sm_nil]; grind
theorem Bz.sm {m : Nat} : ∀ {xs : List Rat}, (∀ x ∈ xs, Bz m x) → Bz (xs.length * (m + 1) + 1) (PL.sm xs)
  | [], _ => Bz.zero (by omega)
  | x :: xs, h => by
    rw [sm_cons]
    refine ((h x List.mem_cons_self).add (Bz.sm fun y hy => h y (List.mem_cons_of_mem _ hy))).mono ?_
    rw [List.length_cons, Nat.succ_mul]
    omega
theorem Bz.sm_take {m : Nat} {xs : List Rat} (h : ∀ x ∈ xs, Bz m x) (i : Nat) : Bz (xs.length * (m + 1) + 1) (PL.sm (xs.take i)) := by
  refine (Bz.sm (m := m) (xs := xs.take i) fun x hx => h x (List.mem_of_mem_take hx)).mono ?_
  have : (xs.take i).length * (m + 1) ≤ xs.length * (m + 1) := Nat.mul_le_mul_right _ (by rw [List.length_take]; omega)
  omega
theorem Rt_zero : Rt 0 = .tup [.int 0, .int 1] := rfl
section
variable {β : Type} {P : Prog β} {k c l n : Nat}
theorem for_add {gl : String → Option D} {F : String → List D → M β D} {nm : String} {xs : List Rat} {d : D} (hF : ∀ x y, Sz x → Sz y → F nm [Rt x, Rt y] = ret (Rt (x + y))) {m : Nat} (hm : xs.length * (m + 1) + 1 ≤ 4000) (hx : ∀ x ∈ xs, Bz m x) (b : β) {Q : Fl × Env → β → Prop}
    (hQ : ∀ c, Q (.nx, [.im d, .im (Rt (sm xs)), c]) b) : Run (forM (fun d ρ' => bnd (lft (bindT (.nm 2) d ρ')) fun ρ'' => exs gl F [.asg (.nm 1) (.call nm [.var 1, .var 2])] ρ'') (xs.map Rt) [.im d, .im (Rt 0), .un]) b Q := by
  have hm2 : m ≤ 4000 ∨ xs = [] := by
    cases xs with
    | nil => exact .inr rfl
    | cons x xs => left; rw [List.length_cons, Nat.succ_mul] at hm; omega
  refine run_for (fun i ρ b' => b' = b ∧ ∃ c, ρ = [.im d, .im (Rt (sm (xs.take i))), c]) ?_ ?_ ⟨rfl, _, rfl⟩
  · rintro i e ρ b' he ⟨rfl, c, rfl⟩
    rw [List.getElem?_map] at he
    have hi : i < xs.length := by
      refine Classical.byContradiction fun z => ?_
      rw [List.getElem?_eq_none (by omega)] at he
      cases he
    rw [List.getElem?_eq_getElem hi] at he
    simp only [Option.map_some, Option.some.injEq] at he
    subst he
    show Run (exs gl F _ [.im d, .im (Rt (sm (xs.take i))), .im (Rt xs[i])]) b' _
    refine run_asg ?_
    have hs : m ≤ 4000 := by
      rcases hm2 with h | h
      · exact h
      · rw [h] at hi; simp at hi
    simp only [ev_call, evL_cons, evL_nil, ev_var, getV_zero, getV_succ, bnd_ret]
    rw [hF _ _ ((Bz.sm_take hx i).sz hm) ((hx _ (List.getElem_mem hi)).sz hs), run_ret]
    refine run_exs_nil.mpr ⟨rfl, .im (Rt xs[i]), ?_⟩
    rw [sm_take hi]; rfl
  · rintro ρ b' ⟨rfl, c, rfl⟩
    rw [List.length_map, List.take_length]
    exact hQ c
theorem items_of {d : D} {xs : List D} (h : items d = some xs) : iter .seq [d] = some xs := h
theorem s_lsum (h : Fnd P "_law_sum" l_sum) (hr : LRats P) (hk : 3 ≤ k) {xs : List Rat} {d : D} (hd : items d = some (xs.map Rt)) {m : Nat} (hm : xs.length * (m + 1) + 1 ≤ 4000) (hx : ∀ x ∈ xs, Bz m x) :
    call P k "_law_sum" [d] = ret (Rt (sm xs)) := by
  refine eq_ret fun b => run_call h (by omega) rfl (ρ0 := [.im d, .un, .un]) rfl (run_asg ?_)
  have e : ev P.gl (call P (k - 1)) (.tup [.lit (.int 0), .lit (.int 1)]) [.im d, .un, .un] = ret (Rt 0) := by simp [lim]; rfl
  rw [e, run_ret]
  show Run (exs P.gl (call P (k - 1)) _ [.im d, .im (Rt 0), .un]) b _
  rw [run_exs_cons]
  simp only [ex, evL_cons, evL_nil, ev_var, getV_zero, bnd_ret, items_of hd, lft_some]
  refine for_add (fun x y h1 h2 => s_lplus hr (by omega) h1 h2) hm hx b fun c => ?_
  refine run_rt ?_
  simp only [ev_var, getV_succ, getV_zero, run_ret]
  exact ⟨trivial, trivial⟩
theorem s_sum_of (h : Fnd P "sum_of" sum_of) (hz : P.gl "ZERO" = some (Rt 0)) (hr : Rats P) (hk : 4 ≤ k) {xs : List Rat} {d : D} (hd : items d = some (xs.map Rt)) {m : Nat} (hm : xs.length * (m + 1) + 1 ≤ 4000) (hx : ∀ x ∈ xs, Bz m x) :
    call P k "sum_of" [d] = ret (Rt (sm xs)) := by
  refine eq_ret fun b => run_call h (by omega) rfl (ρ0 := [.im d, .un, .un]) rfl (run_asg ?_)
  simp only [ev_glob, hz, lft_some, run_ret]
  show Run (exs P.gl (call P (k - 1)) _ [.im d, .im (Rt 0), .un]) b _
  rw [run_exs_cons]
  simp only [ex, evL_cons, evL_nil, ev_var, getV_zero, bnd_ret, items_of hd, lft_some]
  refine for_add (fun x y h1 h2 => s_plus hr (by omega) h1 h2) hm hx b fun c => ?_
  refine run_rt ?_
  simp only [ev_var, getV_succ, getV_zero, run_ret]
  exact ⟨trivial, trivial⟩
/-- the first of the greatest so far -/
def mx (a : Rat) (xs : List Rat) : Rat := xs.foldl (fun a b => if a < b then b else a) a
theorem mx_mem : ∀ (xs : List Rat) (a : Rat), mx a xs = a ∨ mx a xs ∈ xs
  | [], a => .inl rfl
  | x :: xs, a => by
    show mx (if a < x then x else a) xs = a ∨ _
    by_cases h : a < x
    · rw [if_pos h]
      rcases mx_mem xs x with e | e
      · exact .inr (by show mx (if a < x then x else a) xs ∈ _; rw [if_pos h, e]; exact List.mem_cons_self)
      · exact .inr (by show mx (if a < x then x else a) xs ∈ _; rw [if_pos h]; exact List.mem_cons_of_mem _ e)
    · rw [if_neg h]
      rcases mx_mem xs a with e | e
      · exact .inl e
      · exact .inr (by show mx (if a < x then x else a) xs ∈ _; rw [if_neg h]; exact List.mem_cons_of_mem _ e)
theorem mx_ge : ∀ (xs : List Rat) (a : Rat), a ≤ mx a xs ∧ ∀ x ∈ xs, x ≤ mx a xs
  | [], a => ⟨Rat.le_refl, by simp⟩
  | x :: xs, a => by
    show a ≤ mx (if a < x then x else a) xs ∧ ∀ y ∈ x :: xs, y ≤ mx (if a < x then x else a) xs
    have h1 : a ≤ (if a < x then x else a) ∧ x ≤ (if a < x then x else a) := by split <;> grind
    obtain ⟨h2, h3⟩ := mx_ge xs (if a < x then x else a)
    refine ⟨Rat.le_trans h1.1 h2, fun y hy => ?_⟩
    rcases List.mem_cons.mp hy with rfl | hy
    · exact Rat.le_trans h1.2 h2
    · exact h3 y hy
theorem s_lmax (h : Fnd P "_law_max" l_max) (hr : LRats P) (hk : 2 ≤ k) {x : Rat} {xs : List Rat} {d : D} (hd : items d = some ((x :: xs).map Rt)) (hx : ∀ y ∈ x :: xs, Sz y) :
    call P k "_law_max" [d] = ret (Rt (mx x xs)) := by
  refine eq_ret fun b => run_call h (by omega) rfl (ρ0 := [.im d, .un, .un]) rfl (run_asg ?_)
  have e : idx d (.int 0) = some (Rt x) := by
    cases d <;> simp only [items, Option.some.injEq] at hd <;> first | (cases hd; done) | (subst hd; rfl)
  simp only [ev_idx, ev_var, ev_lit, getV_zero, bnd_ret, e, lft_some, run_ret]
  show Run (exs P.gl (call P (k - 1)) _ [.im d, .im (Rt x), .un]) b _
  rw [run_exs_cons]
  simp only [ex, evL_cons, evL_nil, ev_var, getV_zero, bnd_ret, items_of hd, lft_some]
  have e0 : mx x ((x :: xs).take 0) = x := rfl
  have e1 : mx x (x :: xs) = mx x xs := by
    show mx (if x < x then x else x) xs = _
    simp
  have hmem : ∀ i, Sz (mx x ((x :: xs).take i)) := fun i => by
    rcases mx_mem ((x :: xs).take i) x with h | h
    · rw [h]; exact hx x List.mem_cons_self
    · exact hx _ (List.mem_of_mem_take h)
  refine run_for (fun i ρ b' => b' = b ∧ ∃ c, ρ = [.im d, .im (Rt (mx x ((x :: xs).take i))), c]) ?_ ?_ ⟨rfl, _, rfl⟩
  · rintro i e ρ b' he ⟨rfl, c, rfl⟩
    rw [List.getElem?_map] at he
    have hi : i < (x :: xs).length := by
      refine Classical.byContradiction fun z => ?_
      rw [List.getElem?_eq_none (by omega)] at he
      cases he
    rw [List.getElem?_eq_getElem hi] at he
    simp only [Option.map_some, Option.some.injEq] at he
    subst he
    show Run (exs P.gl (call P (k - 1)) _ [.im d, .im (Rt (mx x ((x :: xs).take i))), .im (Rt (x :: xs)[i])]) b' _
    refine run_asg ?_
    simp only [ev_ite, ev_call, evL_cons, evL_nil, ev_var, getV_zero, getV_succ, bnd_ret]
    rw [s_lless hr (by omega) (hmem i) (hx _ (List.getElem_mem hi)), bnd_ret, truth_bl, lft_some, bnd_ret]
    have e2 : mx x ((x :: xs).take (i + 1)) = if mx x ((x :: xs).take i) < (x :: xs)[i] then (x :: xs)[i] else mx x ((x :: xs).take i) := by
      rw [List.take_succ_eq_append_getElem hi]
      unfold mx
      rw [List.foldl_append]; rfl
    by_cases hlt : mx x ((x :: xs).take i) < (x :: xs)[i]
    · rw [decide_eq_true hlt, if_pos rfl, run_ret]
      refine run_exs_nil.mpr ⟨rfl, .im (Rt (x :: xs)[i]), ?_⟩
      rw [e2, if_pos hlt]; rfl
    · rw [decide_eq_false hlt, if_neg (by decide), run_ret]
      refine run_exs_nil.mpr ⟨rfl, .im (Rt (x :: xs)[i]), ?_⟩
      rw [e2, if_neg hlt]; rfl
  · rintro ρ b' ⟨rfl, c, rfl⟩
    rw [List.length_map, List.take_length, e1]
    refine run_rt ?_
    simp only [ev_var, getV_succ, getV_zero, run_ret]
    exact ⟨trivial, trivial⟩
end
end PL

set_option autoImplicit false
set_option linter.all false
set_option maxRecDepth 100000
set_option maxHeartbeats 2000000
set_option exponentiation.threshold 20000
/-! M7: walks over lists of any things. -/
namespace PL
section
variable {β α : Type} {gl : String → Option D} {F : String → List D → M β D} {ρ : Env}
theorem ev_compL {e : E} {t : Tg} {ik : Ik} {es : List E} {own : List Nat} {ds : List D} {l : List α} {w : α → D} {g : α → D}
    (h1 : evL gl F es ρ = ret ds) (h2 : iter ik ds = some (l.map w)) (h3 : l.length ≤ lim) (h4 : ∀ x ∈ l, ∃ ρ', bindT t (w x) (wipeE ρ own) = some ρ' ∧ ev gl F e ρ' = ret (g x)) : ev gl F (.comp e t ik es [] own) ρ = ret (.lst (l.map g)) := by
  rw [ev_comp, h1, bnd_ret, h2, lft_some, bnd_ret, if_pos (by rw [List.length_map]; exact h3)]
  have key : ∀ l : List α, (∀ x ∈ l, ∃ ρ', bindT t (w x) (wipeE ρ own) = some ρ' ∧ ev gl F e ρ' = ret (g x)) → compM (fun d => bnd (lft (bindT t d (wipeE ρ own))) fun ρ' =>
      bnd (evC gl F [] ρ') fun b => if b = true then bnd (ev gl F e ρ') fun v => ret (some v) else ret none) (l.map w) = (ret (l.map g) : M β (List D)) := by
    intro l
    induction l with
    | nil => intro _; rfl
    | cons x l ih =>
      intro h
      obtain ⟨ρ', h5, h6⟩ := h x List.mem_cons_self
      rw [List.map_cons, compM, ih fun y hy => h y (List.mem_cons_of_mem _ hy)]
      simp only [h5, lft_some, bnd_ret, evC_nil, if_true, h6, List.map_cons]
  rw [key l h4]; rfl
theorem run_forL {f : D → Env → M β (Fl × Env)} {Q : Fl × Env → β → Prop} {l : List α} {w : α → D} (I : Nat → Env → β → Prop)
    (hs : ∀ i x ρ b, l[i]? = some x → I i ρ b → Run (f (w x) ρ) b (turn (I (i + 1)) Q)) (hd : ∀ ρ b, I l.length ρ b → Q (.nx, ρ) b) {b : β} (h0 : I 0 ρ b) : Run (forM f (l.map w) ρ) b Q := by
  refine run_for I (fun i d ρ b e h => ?_) (fun ρ b h => hd ρ b (by rwa [List.length_map] at h)) h0
  rw [List.getElem?_map] at e
  cases q : l[i]? with
  | none => rw [q] at e; cases e
  | some x =>
    rw [q] at e
    simp only [Option.map_some, Option.some.injEq] at e
    subst e
    exact hs i x ρ b q h
theorem bfn_allL {l : List α} {g : α → Bool} : bfn .all [.lst (l.map fun x => .bl (g x))] = some (.bl (l.all g)) := by
  have : isBls (l.map fun x => D.bl (g x)) = some (l.map g) := by
    induction l with
    | nil => rfl
    | cons x xs ih => simp [isBls, ih]
  simp [bfn, this]
theorem bfn_anyL {l : List α} {g : α → Bool} : bfn .any [.lst (l.map fun x => .bl (g x))] = some (.bl (l.any g)) := by
  have : isBls (l.map fun x => D.bl (g x)) = some (l.map g) := by
    induction l with
    | nil => rfl
    | cons x xs ih => simp [isBls, ih]
  simp [bfn, this]
end
theorem ran_map {n : Nat} (h : n ≤ 4000) : iter .ran [.int (n : Int)] = some ((List.range n).map fun (i : Nat) => .int i) := by
  rw [iter_ran h]
  unfold intsFrom
  congr 1
  apply List.map_congr_left
  intro i _
  simp
theorem ran2_map {a b : Nat} (h : b ≤ 4000) (h2 : a ≤ 4000) : iter .ran [.int (a : Int), .int (b : Int)] = some ((List.range (b - a)).map fun (i : Nat) => .int ((a + i : Nat) : Int)) := by
  have h1 : small (a : Int) = true := by simp [small]; omega
  have h3 : small (b : Int) = true := by simp [small]; omega
  simp only [iter, h1, h3, Bool.and_self, if_true, intsFrom]
  have : ((b : Int) - (a : Int)).toNat = b - a := by omega
  rw [this]
  congr 1
theorem zip_map {α γ : Type} {f : α → D} {g : γ → D} : ∀ {as : List α} {bs : List γ}, zipD (as.map f) (bs.map g) = (as.zip bs).map fun p => .tup [f p.1, g p.2]
  | [], _ => by simp [zipD]
  | _ :: _, [] => by simp [zipD]
  | a :: as, b :: bs => by simp only [List.map_cons, zipD, List.zip_cons_cons, zip_map]
theorem iter_zip {α γ : Type} {f : α → D} {g : γ → D} {as : List α} {bs : List γ} : iter .zip [.tup (as.map f), .tup (bs.map g)] = some ((as.zip bs).map fun p => .tup [f p.1, g p.2]) := by
  simp only [iter, zip_map]
theorem enu_map {α : Type} {f : α → D} : ∀ {as : List α} {k : Nat}, enuD k (as.map f) = (as.zipIdx k).map fun p => .tup [.int p.2, f p.1]
  | [], _ => by simp [enuD]
  | a :: as, k => by simp only [List.map_cons, enuD, List.zipIdx_cons, enu_map]
theorem all_range {α : Type} {l : List α} {d : α} {p : α → Bool} : ((List.range l.length).all fun i => p (l.getD i d)) = l.all p := by
  apply Bool.eq_iff_iff.mpr
  simp only [List.all_eq_true, List.mem_range]
  constructor
  · intro h x hx
    obtain ⟨i, hi, rfl⟩ := List.mem_iff_getElem.mp hx
    have := h i hi
    rwa [List.getD_eq_getElem?_getD, List.getElem?_eq_getElem hi] at this
  · intro h i hi
    rw [List.getD_eq_getElem?_getD, List.getElem?_eq_getElem hi]
    exact h _ (List.getElem_mem hi)
theorem any_range {α : Type} {l : List α} {d : α} {p : α → Bool} : ((List.range l.length).any fun i => p (l.getD i d)) = l.any p := by
  have := all_range (l := l) (d := d) (p := fun x => !p x)
  rw [← List.not_any_eq_all_not, ← List.not_any_eq_all_not] at this
  simpa using this
theorem getD_at {α : Type} {l : List α} {i : Nat} (h : i < l.length) (d : α) : l.getD i d = l[i] := by rw [List.getD_eq_getElem?_getD, List.getElem?_eq_getElem h]; rfl
end PL

set_option autoImplicit false
set_option linter.all false
set_option maxRecDepth 100000
/-! the terms of K86, printed by lawgen.py -/
namespace K86
open PL
def f_is_whole : Fn := ⟨["value"], 1,
    [.ret (.and [.isi (.var 0) .int, .no (.isi (.var 0) .bool)])]⟩
def f_common_divisor : Fn := ⟨["a", "b"], 2,
    [.par 0 1 false false (.bi .abs [.var 0]) (.bi .abs [.var 1]),
    .whl (.var 1)
      [.par 0 1 false false (.var 1) (.bin .mod (.var 0) (.var 1))],
    .ret (.var 0)]⟩
def f_is_ratio : Fn := ⟨["value"], 1,
    [.iff (.or [.no (.isi (.var 0) .tuple), .cmp .ne (.bi .len [.var 0]) (.lit (.int 2)), .no (.call "is_whole" [.idx (.var 0) (.lit (.int 0))]), .no (.call "is_whole" [.idx (.var 0) (.lit (.int 1))])])
      [.ret (.lit (.bl false))]
      [],
    .ret (.and [.cmp .gt (.idx (.var 0) (.lit (.int 1))) (.lit (.int 0)), .cmp .eq (.call "common_divisor" [.idx (.var 0) (.lit (.int 0)), .idx (.var 0) (.lit (.int 1))]) (.lit (.int 1))])]⟩
def f_ratio : Fn := ⟨["p", "q", "d"], 2,
    [.iff (.cmp .eq (.var 1) (.lit (.int 0)))
      [.bad]
      [],
    .iff (.cmp .lt (.var 1) (.lit (.int 0)))
      [.par 0 1 false false (.neg (.var 0)) (.neg (.var 1))]
      [],
    .asg (.nm 2) (.call "common_divisor" [.var 0, .var 1]),
    .ret (.tup [.bin .fdiv (.var 0) (.var 2), .bin .fdiv (.var 1) (.var 2)])]⟩
def f_plus : Fn := ⟨["one", "other"], 2,
    [.ret (.call "ratio" [.bin .add (.bin .mul (.idx (.var 0) (.lit (.int 0))) (.idx (.var 1) (.lit (.int 1)))) (.bin .mul (.idx (.var 1) (.lit (.int 0))) (.idx (.var 0) (.lit (.int 1)))), .bin .mul (.idx (.var 0) (.lit (.int 1))) (.idx (.var 1) (.lit (.int 1)))])]⟩
def f_minus : Fn := ⟨["one", "other"], 2,
    [.ret (.call "ratio" [.bin .sub (.bin .mul (.idx (.var 0) (.lit (.int 0))) (.idx (.var 1) (.lit (.int 1)))) (.bin .mul (.idx (.var 1) (.lit (.int 0))) (.idx (.var 0) (.lit (.int 1)))), .bin .mul (.idx (.var 0) (.lit (.int 1))) (.idx (.var 1) (.lit (.int 1)))])]⟩
def f_times : Fn := ⟨["one", "other"], 2,
    [.ret (.call "ratio" [.bin .mul (.idx (.var 0) (.lit (.int 0))) (.idx (.var 1) (.lit (.int 0))), .bin .mul (.idx (.var 0) (.lit (.int 1))) (.idx (.var 1) (.lit (.int 1)))])]⟩
def f_less : Fn := ⟨["one", "other"], 2,
    [.ret (.cmp .lt (.bin .mul (.idx (.var 0) (.lit (.int 0))) (.idx (.var 1) (.lit (.int 1)))) (.bin .mul (.idx (.var 1) (.lit (.int 0))) (.idx (.var 0) (.lit (.int 1)))))]⟩
def f_sum_of : Fn := ⟨["ratios", "found", "one"], 1,
    [.asg (.nm 1) (.glob "ZERO"),
    .fr (.nm 2) .seq [.var 0]
      [.asg (.nm 1) (.call "plus" [.var 1, .var 2])],
    .ret (.var 1)]⟩
def f_is_offer : Fn := ⟨["value", "part"], 1,
    [.iff (.or [.no (.isi (.var 0) .tuple), .cmp .ne (.bi .len [.var 0]) (.lit (.int 2))])
      [.ret (.lit (.bl false))]
      [],
    .ret (.bi .all [.comp (.and [.call "is_ratio" [.var 1], .no (.call "less" [.var 1, .glob "ZERO"])]) (.nm 1) .seq [.var 0] [] [1]])]⟩
def f_are_intents : Fn := ⟨["value", "one", "k"], 1,
    [.iff (.or [.no (.isi (.var 0) .tuple), .no (.chn .le .le (.lit (.int 1)) (.bi .len [.var 0]) (.glob "MAX_INTENTS")), .no (.bi .all [.comp (.call "is_offer" [.var 1]) (.nm 1) .seq [.var 0] [] [1]])])
      [.ret (.lit (.bl false))]
      [],
    .ret (.bi .all [.comp (.call "less" [.idx (.idx (.var 0) (.var 2)) (.lit (.int 0)), .idx (.idx (.var 0) (.bin .add (.var 2) (.lit (.int 1)))) (.lit (.int 0))]) (.nm 2) .ran [.bin .sub (.bi .len [.var 0]) (.lit (.int 1))] [] [2]])]⟩
def f_are_intent_prices : Fn := ⟨["intents", "value", "price", "z", "amount", "mine", "other", "paid"], 2,
    [.iff (.or [.no (.isi (.var 1) .tuple), .cmp .ne (.bi .len [.var 1]) (.bi .len [.var 0]), .no (.bi .all [.comp (.call "is_ratio" [.var 2]) (.nm 2) .seq [.var 1] [] [2]])])
      [.ret (.lit (.bl false))]
      [],
    .fr (.tu [.tu [.nm 3, .nm 4], .nm 2]) .zip [.var 0, .var 1]
      [.asg (.nm 5) (.call "minus" [.call "times" [.var 3, .var 4], .var 2]),
        .iff (.bi .any [.comp (.call "less" [.var 5, .call "minus" [.call "times" [.var 3, .idx (.var 6) (.lit (.int 1))], .var 7]]) (.tu [.nm 6, .nm 7]) .zip [.var 0, .var 1] [] [6, 7]])
          [.ret (.lit (.bl false))]
          []],
    .ret (.lit (.bl true))]⟩
def f_first_fall : Fn := ⟨["intents", "k"], 1,
    [.fr (.nm 1) .ran [.lit (.int 1), .bi .len [.var 0]]
      [.iff (.call "less" [.idx (.idx (.var 0) (.var 1)) (.lit (.int 1)), .idx (.idx (.var 0) (.bin .sub (.var 1) (.lit (.int 1)))) (.lit (.int 1))])
          [.ret (.var 1)]
          []],
    .ret (.lit .non)]⟩
def f_prices_by : Fn := ⟨["intents", "first", "ahead", "found", "k", "more"], 3,
    [.own 3 (.lst [.var 1]),
    .fr (.nm 4) .ran [.lit (.int 1), .bi .len [.var 0]]
      [.asg (.nm 5) (.call "minus" [.idx (.idx (.var 0) (.var 4)) (.lit (.int 1)), .idx (.idx (.var 0) (.bin .sub (.var 4) (.lit (.int 1)))) (.lit (.int 1))]),
        .app 3 (.call "plus" [.idx (.bvar 3) (.neg (.lit (.int 1))), .call "times" [.idx (.idx (.var 0) (.ite (.var 2) (.bin .sub (.var 4) (.lit (.int 1))) (.var 4))) (.lit (.int 0)), .var 5]])],
    .ret (.bi .tuple [.bvar 3])]⟩
def f_intent_prices : Fn := ⟨["intents", "k"], 1,
    [.asg (.nm 1) (.call "first_fall" [.var 0]),
    .iff (.cmp .isnot (.var 1) (.lit .non))
      [.ret (.tup [.lit (.str "falls"), .var 1])]
      [],
    .ret (.tup [.lit (.str "prices"), .call "prices_by" [.var 0, .call "times" [.idx (.idx (.var 0) (.lit (.int 0))) (.lit (.int 0)), .idx (.idx (.var 0) (.lit (.int 0))) (.lit (.int 1))], .lit (.bl false)]])]⟩
def f_least_intent_prices : Fn := ⟨["intents"], 1,
    [.ret (.call "prices_by" [.var 0, .glob "ZERO", .lit (.bl true)])]⟩
def f_taken_in : Fn := ⟨["shares", "prices", "part", "price"], 2,
    [.ret (.call "sum_of" [.comp (.call "times" [.var 2, .var 3]) (.tu [.nm 2, .nm 3]) .zip [.var 0, .var 1] [] [2, 3]])]⟩
def f_best_cut : Fn := ⟨["intents", "shares", "best", "k", "z", "_", "income"], 2,
    [.asg (.nm 2) (.lit .non),
    .fr (.tu [.nm 3, .tu [.nm 4, .nm 5]]) .enu [.var 0]
      [.asg (.nm 6) (.call "times" [.var 4, .call "sum_of" [.sl1 (.var 1) (.var 3)]]),
        .iff (.or [.cmp .iss (.var 2) (.lit .non), .call "less" [.idx (.var 2) (.lit (.int 1)), .var 6]])
          [.asg (.nm 2) (.tup [.var 3, .var 6])]
          []],
    .ret (.var 2)]⟩
def f__law_same : Fn := ⟨["a", "b", "k"], 2,
    [.iff (.or [.and [.isi (.var 0) .tuple, .isi (.var 1) .tuple], .and [.isi (.var 0) .list, .isi (.var 1) .list]])
      [.ret (.and [.cmp .eq (.bi .len [.var 0]) (.bi .len [.var 1]), .bi .all [.comp (.call "_law_same" [.idx (.var 0) (.var 2), .idx (.var 1) (.var 2)]) (.nm 2) .ran [.bi .len [.var 0]] [] [2]]])]
      [],
    .iff (.or [.isi (.var 0) .bool, .isi (.var 1) .bool])
      [.ret (.and [.isi (.var 0) .bool, .isi (.var 1) .bool, .cmp .eq (.var 0) (.var 1)])]
      [],
    .iff (.or [.and [.isi (.var 0) .int, .isi (.var 1) .int], .and [.isi (.var 0) .str, .isi (.var 1) .str]])
      [.ret (.cmp .eq (.var 0) (.var 1))]
      [],
    .ret (.and [.cmp .iss (.var 0) (.lit .non), .cmp .iss (.var 1) (.lit .non)])]⟩
def f__law_ratio : Fn := ⟨["p", "q", "a", "b"], 2,
    [.iff (.cmp .lt (.var 1) (.lit (.int 0)))
      [.par 0 1 false false (.bin .sub (.lit (.int 0)) (.var 0)) (.bin .sub (.lit (.int 0)) (.var 1))]
      [],
    .par 2 3 false false (.bi .abs [.var 0]) (.var 1),
    .whl (.cmp .gt (.var 3) (.lit (.int 0)))
      [.par 2 3 false false (.var 3) (.bin .sub (.var 2) (.bin .mul (.bin .fdiv (.var 2) (.var 3)) (.var 3)))],
    .ret (.tup [.bin .fdiv (.var 0) (.var 2), .bin .fdiv (.var 1) (.var 2)])]⟩
def f__law_plus : Fn := ⟨["one", "other"], 2,
    [.ret (.call "_law_ratio" [.bin .add (.bin .mul (.idx (.var 0) (.lit (.int 0))) (.idx (.var 1) (.lit (.int 1)))) (.bin .mul (.idx (.var 1) (.lit (.int 0))) (.idx (.var 0) (.lit (.int 1)))), .bin .mul (.idx (.var 0) (.lit (.int 1))) (.idx (.var 1) (.lit (.int 1)))])]⟩
def f__law_minus : Fn := ⟨["one", "other"], 2,
    [.ret (.call "_law_ratio" [.bin .sub (.bin .mul (.idx (.var 0) (.lit (.int 0))) (.idx (.var 1) (.lit (.int 1)))) (.bin .mul (.idx (.var 1) (.lit (.int 0))) (.idx (.var 0) (.lit (.int 1)))), .bin .mul (.idx (.var 0) (.lit (.int 1))) (.idx (.var 1) (.lit (.int 1)))])]⟩
def f__law_times : Fn := ⟨["one", "other"], 2,
    [.ret (.call "_law_ratio" [.bin .mul (.idx (.var 0) (.lit (.int 0))) (.idx (.var 1) (.lit (.int 0))), .bin .mul (.idx (.var 0) (.lit (.int 1))) (.idx (.var 1) (.lit (.int 1)))])]⟩
def f__law_less : Fn := ⟨["one", "other"], 2,
    [.ret (.cmp .lt (.bin .mul (.idx (.var 0) (.lit (.int 0))) (.idx (.var 1) (.lit (.int 1)))) (.bin .mul (.idx (.var 1) (.lit (.int 0))) (.idx (.var 0) (.lit (.int 1)))))]⟩
def f__law_sum : Fn := ⟨["ratios", "found", "one"], 1,
    [.asg (.nm 1) (.tup [.lit (.int 0), .lit (.int 1)]),
    .fr (.nm 2) .seq [.var 0]
      [.asg (.nm 1) (.call "_law_plus" [.var 1, .var 2])],
    .ret (.var 1)]⟩
def f__law_max : Fn := ⟨["ratios", "found", "one"], 1,
    [.asg (.nm 1) (.idx (.var 0) (.lit (.int 0))),
    .fr (.nm 2) .seq [.var 0]
      [.asg (.nm 1) (.ite (.call "_law_less" [.var 1, .var 2]) (.var 2) (.var 1))],
    .ret (.var 1)]⟩
def f__law_is_ratio : Fn := ⟨["value", "part"], 1,
    [.iff (.or [.no (.isi (.var 0) .tuple), .cmp .ne (.bi .len [.var 0]) (.lit (.int 2)), .no (.bi .all [.comp (.and [.isi (.var 1) .int, .no (.isi (.var 1) .bool)]) (.nm 1) .seq [.var 0] [] [1]])])
      [.ret (.lit (.bl false))]
      [],
    .ret (.and [.cmp .gt (.idx (.var 0) (.lit (.int 1))) (.lit (.int 0)), .cmp .eq (.call "_law_ratio" [.idx (.var 0) (.lit (.int 0)), .idx (.var 0) (.lit (.int 1))]) (.var 0)])]⟩
def f__law_small : Fn := ⟨["tape", "top"], 2,
    [.ret (.call "_law_ratio" [.call "_law_take" [.var 0, .var 1], .bin .add (.lit (.int 1)) (.call "_law_take" [.var 0, .lit (.int 4)])])]⟩
def f__law_spoilt : Fn := ⟨["tape", "value", "at", "rows"], 2,
    [.iff (.and [.isi (.var 1) .tuple, .cmp .gt (.bi .len [.var 1]) (.lit (.int 0)), .cmp .gt (.call "_law_take" [.var 0, .lit (.int 4)]) (.lit (.int 0))])
      [.asg (.nm 2) (.call "_law_take" [.var 0, .bi .len [.var 1]]),
        .iff (.cmp .eq (.call "_law_take" [.var 0, .lit (.int 8)]) (.lit (.int 0)))
          [.ret (.bin .add (.sl2 (.var 1) (.var 2)) (.sl1 (.var 1) (.bin .add (.var 2) (.lit (.int 1)))))]
          [],
        .ret (.bin .add (.bin .add (.sl2 (.var 1) (.var 2)) (.tup [.call "_law_spoilt" [.var 0, .idx (.var 1) (.var 2)]])) (.sl1 (.var 1) (.bin .add (.var 2) (.lit (.int 1)))))]
      [],
    .asg (.nm 3) (.lst [.lit .non, .tup [], .lit (.int 0), .lit (.int 1), .lit (.bl true), .lit (.bl false), .lit (.str "a"), .neg (.lit (.int 1)), .tup [.lit (.int 0)], .tup [.tup [.lit (.int 0), .lit (.int 0)]]]),
    .iff (.isi (.var 1) .int)
      [.asg (.nm 3) (.bin .add (.var 3) (.lst [.bin .add (.var 1) (.lit (.int 1)), .bin .sub (.var 1) (.lit (.int 1)), .cmp .eq (.var 1) (.lit (.int 1)), .bin .add (.var 1) (.lit (.int 1))]))]
      [],
    .iff (.isi (.var 1) .tuple)
      [.asg (.nm 3) (.bin .add (.var 3) (.lst [.sl2 (.var 1) (.neg (.lit (.int 1))), .bin .add (.var 1) (.sl1 (.var 1) (.neg (.lit (.int 1)))), .rev (.var 1), .bin .add (.var 1) (.tup [.tup [.lit (.int 0), .lit (.int 0)]]), .tup [.var 1], .sl1 (.var 1) (.lit (.int 1))]))]
      [],
    .ret (.idx (.var 3) (.call "_law_take" [.var 0, .bi .len [.var 3]]))]⟩
def f__law_are_intents : Fn := ⟨["value", "part", "one", "k"], 1,
    [.iff (.or [.no (.isi (.var 0) .tuple), .no (.chn .le .le (.lit (.int 1)) (.bi .len [.var 0]) (.lit (.int 30)))])
      [.ret (.lit (.bl false))]
      [],
    .iff (.no (.bi .all [.comp (.and [.isi (.var 2) .tuple, .cmp .eq (.bi .len [.var 2]) (.lit (.int 2)), .bi .all [.comp (.and [.call "_law_is_ratio" [.var 1], .cmp .ge (.idx (.var 1) (.lit (.int 0))) (.lit (.int 0))]) (.nm 1) .seq [.var 2] [] [1]]]) (.nm 2) .seq [.var 0] [] [2]]))
      [.ret (.lit (.bl false))]
      [],
    .ret (.bi .all [.comp (.call "_law_less" [.idx (.idx (.var 0) (.var 3)) (.lit (.int 0)), .idx (.idx (.var 0) (.bin .add (.var 3) (.lit (.int 1)))) (.lit (.int 0))]) (.nm 3) .ran [.bin .sub (.bi .len [.var 0]) (.lit (.int 1))] [] [3]])]⟩
def f__law_are_prices : Fn := ⟨["intents", "value", "price", "i", "z", "mine", "j"], 2,
    [.iff (.or [.no (.isi (.var 1) .tuple), .cmp .ne (.bi .len [.var 1]) (.bi .len [.var 0]), .no (.bi .all [.comp (.call "_law_is_ratio" [.var 2]) (.nm 2) .seq [.var 1] [] [2]])])
      [.ret (.lit (.bl false))]
      [],
    .fr (.nm 3) .ran [.bi .len [.var 1]]
      [.asg (.nm 4) (.idx (.idx (.var 0) (.var 3)) (.lit (.int 0))),
        .asg (.nm 5) (.call "_law_minus" [.call "_law_times" [.var 4, .idx (.idx (.var 0) (.var 3)) (.lit (.int 1))], .idx (.var 1) (.var 3)]),
        .iff (.bi .any [.comp (.call "_law_less" [.var 5, .call "_law_minus" [.call "_law_times" [.var 4, .idx (.idx (.var 0) (.var 6)) (.lit (.int 1))], .idx (.var 1) (.var 6)]]) (.nm 6) .ran [.bi .len [.var 1]] [] [6]])
          [.ret (.lit (.bl false))]
          []],
    .ret (.lit (.bl true))]⟩
def f_law : Fn := ⟨["script", "tape", "turn", "z", "amount", "rows", "k", "intents", "n", "values", "value", "falls", "told_here", "prices", "one", "top", "low", "more", "up", "price", "down", "j", "fine", "shares", "incomes_here", "most"], 1,
    [.fr (.nm 2) .ran [.lit (.int 4)]
      [.par3 3 4 5 false false true (.call "_law_small" [.var 1, .lit (.int 3)]) (.call "_law_small" [.var 1, .lit (.int 5)]) (.lst []),
        .fr (.nm 6) .ran [.bin .add (.lit (.int 1)) (.call "_law_take" [.var 1, .lit (.int 6)])]
          [.app 5 (.tup [.var 3, .var 4]),
            .asg (.nm 3) (.call "_law_plus" [.var 3, .call "_law_plus" [.call "_law_small" [.var 1, .lit (.int 5)], .tup [.lit (.int 1), .lit (.int 3)]]]),
            .asg (.nm 4) (.ite (.cmp .gt (.call "_law_take" [.var 1, .lit (.int 8)]) (.lit (.int 0))) (.call "_law_plus" [.var 4, .call "_law_small" [.var 1, .lit (.int 5)]]) (.call "_law_times" [.var 4, .tup [.lit (.int 1), .lit (.int 2)]]))],
        .par 7 8 false false (.bi .tuple [.bvar 5]) (.bi .len [.bvar 5]),
        .asg (.nm 9) (.lst [.var 7, .rev (.var 7), .bin .add (.var 7) (.sl1 (.var 7) (.neg (.lit (.int 1)))), .tup [], .tup [.tup [.tup [.lit (.int 0), .lit (.int 1)]]], .tup [.tup [.tup [.neg (.lit (.int 1)), .lit (.int 1)], .tup [.lit (.int 0), .lit (.int 1)]]], .bi .tuple [.comp (.tup [.tup [.var 6, .lit (.int 1)], .tup [.lit (.int 0), .lit (.int 1)]]) (.nm 6) .ran [.lit (.int 30)] [] [6]]]),
        .fr (.nm 10) .seq [.bin .add (.bin .add (.var 9) (.lst [.bi .tuple [.comp (.tup [.tup [.var 6, .lit (.int 1)], .tup [.lit (.int 0), .lit (.int 1)]]) (.nm 6) .ran [.lit (.int 31)] [] [6]], .lit .non])) (.comp (.call "_law_spoilt" [.var 1, .var 7]) (.nm 6) .ran [.lit (.int 3)] [] [6])]
          [.iff (.no (.call "_law_same" [.call "are_intents" [.var 10], .call "_law_are_intents" [.var 10]]))
              [.ret (.lit (.bl false))]
              []],
        .asg (.nm 11) (.comp (.var 6) (.nm 6) .ran [.lit (.int 1), .var 8] [.call "_law_less" [.idx (.idx (.var 7) (.var 6)) (.lit (.int 1)), .idx (.idx (.var 7) (.bin .sub (.var 6) (.lit (.int 1)))) (.lit (.int 1))]] [6]),
        .asg (.nm 12) (.call "intent_prices" [.var 7]),
        .iff (.cmp .ne (.var 11) (.lst []))
          [.iff (.no (.call "_law_same" [.var 12, .tup [.lit (.str "falls"), .idx (.var 11) (.lit (.int 0))]]))
              [.ret (.lit (.bl false))]
              [],
            .asg (.nm 13) (.bi .tuple [.comp (.call "_law_times" [.idx (.var 14) (.lit (.int 0)), .idx (.var 14) (.lit (.int 1))]) (.nm 14) .seq [.var 7] [] [14]])]
          [.par 15 16 true true (.lst [.call "_law_times" [.idx (.idx (.var 7) (.lit (.int 0))) (.lit (.int 0)), .idx (.idx (.var 7) (.lit (.int 0))) (.lit (.int 1))]]) (.lst [.tup [.lit (.int 0), .lit (.int 1)]]),
            .fr (.nm 6) .ran [.lit (.int 1), .var 8]
              [.asg (.nm 17) (.call "_law_minus" [.idx (.idx (.var 7) (.var 6)) (.lit (.int 1)), .idx (.idx (.var 7) (.bin .sub (.var 6) (.lit (.int 1)))) (.lit (.int 1))]),
                .app 15 (.call "_law_plus" [.idx (.bvar 15) (.neg (.lit (.int 1))), .call "_law_times" [.idx (.idx (.var 7) (.var 6)) (.lit (.int 0)), .var 17]]),
                .app 16 (.call "_law_plus" [.idx (.bvar 16) (.neg (.lit (.int 1))), .call "_law_times" [.idx (.idx (.var 7) (.bin .sub (.var 6) (.lit (.int 1)))) (.lit (.int 0)), .var 17]])],
            .iff (.or [.no (.call "_law_same" [.var 12, .tup [.lit (.str "prices"), .bi .tuple [.bvar 15]]]), .no (.call "_law_same" [.call "least_intent_prices" [.var 7], .bi .tuple [.bvar 16]])])
              [.ret (.lit (.bl false))]
              [],
            .iff (.or [.no (.call "_law_are_prices" [.var 7, .bi .tuple [.bvar 15]]), .no (.call "_law_are_prices" [.var 7, .bi .tuple [.bvar 16]]), .bi .any [.comp (.call "_law_less" [.idx (.bvar 15) (.var 6), .idx (.bvar 16) (.var 6)]) (.nm 6) .ran [.var 8] [] [6]]])
              [.ret (.lit (.bl false))]
              [],
            .iff (.bi .any [.comp (.call "_law_less" [.call "_law_times" [.idx (.idx (.var 7) (.var 6)) (.lit (.int 0)), .idx (.idx (.var 7) (.var 6)) (.lit (.int 1))], .idx (.bvar 15) (.var 6)]) (.nm 6) .ran [.var 8] [] [6]])
              [.ret (.lit (.bl false))]
              [],
            .fr (.nm 6) .ran [.var 8]
              [.asg (.nm 18) (.bi .tuple [.bin .add (.sl2 (.bvar 15) (.var 6)) (.comp (.call "_law_plus" [.var 19, .tup [.lit (.int 1), .lit (.int 9)]]) (.nm 19) .seq [.sl1 (.bvar 15) (.var 6)] [] [19])]),
                .asg (.nm 20) (.bi .tuple [.comp (.ite (.cmp .lt (.var 21) (.var 6)) (.var 19) (.call "_law_minus" [.var 19, .tup [.lit (.int 1), .lit (.int 9)]])) (.tu [.nm 21, .nm 19]) .enu [.bvar 16] [] [21, 19]]),
                .iff (.and [.call "_law_are_prices" [.var 7, .var 18], .no (.bi .any [.comp (.call "_law_less" [.call "_law_times" [.idx (.idx (.var 7) (.var 21)) (.lit (.int 0)), .idx (.idx (.var 7) (.var 21)) (.lit (.int 1))], .idx (.var 18) (.var 21)]) (.nm 21) .ran [.var 8] [] [21]])])
                  [.ret (.lit (.bl false))]
                  [],
                .iff (.and [.call "_law_are_prices" [.var 7, .var 20], .no (.bi .any [.comp (.cmp .lt (.idx (.var 19) (.lit (.int 0))) (.lit (.int 0))) (.nm 19) .seq [.var 20] [] [19]])])
                  [.ret (.lit (.bl false))]
                  []],
            .asg (.nm 13) (.bi .tuple [.bvar 15])],
        .asg (.nm 9) (.lst [.var 13, .rev (.var 13), .sl1 (.var 13) (.lit (.int 1)), .bin .add (.var 13) (.tup [.tup [.lit (.int 0), .lit (.int 1)]]), .bin .mul (.tup [.tup [.lit (.int 0), .lit (.int 1)]]) (.var 8), .bi .tuple [.comp (.call "_law_plus" [.var 19, .tup [.lit (.int 3), .lit (.int 1)]]) (.nm 19) .seq [.var 13] [] [19]], .lit .non]),
        .fr (.nm 10) .seq [.bin .add (.var 9) (.comp (.call "_law_spoilt" [.var 1, .var 13]) (.nm 6) .ran [.lit (.int 5)] [] [6])]
          [.asg (.nm 22) (.call "_law_are_prices" [.var 7, .var 10]),
            .iff (.or [.no (.call "_law_same" [.call "are_intent_prices" [.var 7, .var 10], .var 22]), .and [.var 22, .cmp .ne (.var 11) (.lst [])]])
              [.ret (.lit (.bl false))]
              []],
        .asg (.nm 23) (.bi .tuple [.comp (.call "_law_small" [.var 1, .lit (.int 9)]) (.nm 6) .ran [.var 8] [] [6]]),
        .iff (.no (.call "_law_same" [.call "taken_in" [.var 23, .var 13], .call "_law_sum" [.comp (.call "_law_times" [.idx (.var 23) (.var 6), .idx (.var 13) (.var 6)]) (.nm 6) .ran [.var 8] [] [6]]]))
          [.ret (.lit (.bl false))]
          [],
        .asg (.nm 24) (.comp (.call "_law_times" [.idx (.idx (.var 7) (.var 6)) (.lit (.int 0)), .call "_law_sum" [.sl1 (.var 23) (.var 6)]]) (.nm 6) .ran [.var 8] [] [6]),
        .asg (.nm 25) (.call "_law_max" [.var 24]),
        .iff (.no (.call "_law_same" [.call "best_cut" [.var 7, .var 23], .tup [.idx (.comp (.var 6) (.nm 6) .ran [.var 8] [.cmp .eq (.idx (.var 24) (.var 6)) (.var 25)] [6]) (.lit (.int 0)), .var 25]]))
          [.ret (.lit (.bl false))]
          []],
    .ret (.lit (.bl true))]⟩
def fnT : List (String × Fn) := ([("is_whole", f_is_whole), ("common_divisor", f_common_divisor), ("is_ratio", f_is_ratio), ("ratio", f_ratio), ("plus", f_plus), ("minus", f_minus), ("times", f_times), ("less", f_less), ("sum_of", f_sum_of), ("is_offer", f_is_offer), ("are_intents", f_are_intents), ("are_intent_prices", f_are_intent_prices), ("first_fall", f_first_fall), ("prices_by", f_prices_by), ("intent_prices", f_intent_prices), ("least_intent_prices", f_least_intent_prices), ("taken_in", f_taken_in), ("best_cut", f_best_cut), ("_law_same", f__law_same), ("_law_ratio", f__law_ratio)] : List (String × Fn)) ++ ([("_law_plus", f__law_plus), ("_law_minus", f__law_minus), ("_law_times", f__law_times), ("_law_less", f__law_less), ("_law_sum", f__law_sum), ("_law_max", f__law_max), ("_law_is_ratio", f__law_is_ratio), ("_law_small", f__law_small), ("_law_spoilt", f__law_spoilt), ("_law_are_intents", f__law_are_intents), ("_law_are_prices", f__law_are_prices)] : List (String × Fn))
def glT : List (String × D) := ([("ZERO", .tup [.int (0), .int (1)]), ("MAX_INTENTS", .int (30))] : List (String × D))
def P : Prog Tp := ⟨fun x => fnT.lookup x, fun x => glT.lookup x, fun x => if x = "_law_take" then some takeP else none⟩
def arT : List (String × Nat) := ([("is_whole", 1), ("common_divisor", 2), ("is_ratio", 1), ("ratio", 2), ("plus", 2), ("minus", 2), ("times", 2), ("less", 2), ("sum_of", 1), ("is_offer", 1), ("are_intents", 1), ("are_intent_prices", 2), ("first_fall", 1), ("prices_by", 3), ("intent_prices", 1), ("least_intent_prices", 1), ("taken_in", 2), ("best_cut", 2), ("_law_same", 2), ("_law_ratio", 2)] : List (String × Nat)) ++ ([("_law_plus", 2), ("_law_minus", 2), ("_law_times", 2), ("_law_less", 2), ("_law_sum", 1), ("_law_max", 1), ("_law_is_ratio", 1), ("_law_small", 2), ("_law_spoilt", 2), ("_law_are_intents", 1), ("_law_are_prices", 2), ("_law_take", 2)] : List (String × Nat))
def frT : List String := (["ValueError", "abs", "all", "any", "bool", "enumerate", "int", "isinstance", "len", "list", "range", "str", "tuple", "zip"] : List String)
def ar (x : String) : Option Nat := arT.lookup x
def fr (x : String) : Bool := frT.contains x
end K86

set_option autoImplicit false
set_option linter.all false
set_option maxRecDepth 100000
set_option maxHeartbeats 2000000
set_option exponentiation.threshold 20000
/-! MK86a: the judges of law k86. -/
namespace PL
/-- a ratio's value -/
def rv : D → Rat
  | .tup [.int p, .int q] => (p : Rat) / (q : Rat)
  | _ => 0
theorem rv_Rt (x : Rat) : rv (Rt x) = x := num_den x
def nn (d : D) : Bool := isRt d && decide (0 ≤ rv d)
def fstD : D → D
  | .tup (a :: _) => a
  | _ => .non
def isOffer : D → Bool
  | .tup [a, b] => nn a && nn b
  | _ => false
def chainB (xs : List D) : Bool := (List.range (xs.length - 1)).all fun k => decide (rv (fstD (xs.getD k .non)) < rv (fstD (xs.getD (k + 1) .non)))
def areI : D → Bool
  | .tup xs => decide (1 ≤ xs.length) && (decide (xs.length ≤ 30) && (xs.all isOffer && chainB xs))
  | _ => false
def iN : D → Nat
  | .int i => i.toNat
  | _ => 0
theorem all_ints {n : Nat} {h : Nat → Bool} : ((intsFrom 0 n).all fun d => h (iN d)) = (List.range n).all h := by
  unfold intsFrom
  rw [List.all_map]
  congr 1
  funext i
  simp [iN]
theorem any_ints {n : Nat} {h : Nat → Bool} : ((intsFrom 0 n).any fun d => h (iN d)) = (List.range n).any h := by
  unfold intsFrom
  rw [List.any_map]
  congr 1
  funext i
  simp [iN]
theorem pd_sz {c l n : Nat} {x : Rat} (h : Pd c l n (Rt x)) (hc : c < 2 ^ 4000) : Sz x := by
  obtain ⟨m, rfl, _, h2⟩ := h.tup
  exact ⟨Nat.lt_of_le_of_lt (h2 (.int x.num) (by simp)).int hc, Nat.lt_of_le_of_lt (h2 (.int x.den) (by simp)).int hc⟩
end PL
namespace K86
open PL
theorem fd {x : String} {f : Fn} (h1 : P.prim x = none) (h2 : P.fns x = some f) : Fnd P x f := ⟨h1, h2⟩
theorem rats : Rats P := ⟨fd rfl rfl, fd rfl rfl, fd rfl rfl, fd rfl rfl, fd rfl rfl, fd rfl rfl⟩
theorem lrats : LRats P := ⟨fd rfl rfl, fd rfl rfl, fd rfl rfl, fd rfl rfl, fd rfl rfl⟩
theorem judges : Judges P := ⟨fd rfl rfl, fd rfl rfl⟩
theorem gcd : Fnd P "common_divisor" RF.common_divisor := fd rfl rfl
theorem same : Fnd P "_law_same" l_same := fd rfl rfl
theorem zero : P.gl "ZERO" = some (Rt 0) := rfl
theorem tape : Tape P := by
  refine ⟨⟨fun {k m b} hk h0 h1 => ?_⟩, fd rfl rfl, fd rfl rfl, fd rfl rfl⟩
  refine ⟨(tpTake b m).1, (tpTake b m).2, (tpTake_bd b h0).1, (tpTake_bd b h0).2, ?_⟩
  obtain ⟨j, rfl⟩ : ∃ j, k = j + 1 := ⟨k - 1, by omega⟩
  have hp : P.prim "_law_take" = some takeP := rfl
  simp only [call, hp, if_pos (show 3 ≤ j by omega), takeP, if_pos (show 0 < m ∧ m < 1000000000 from ⟨h0, h1⟩)]
  rfl
variable {k c l n : Nat}
theorem s_is_offer (hk : 3 ≤ k) (hc : c < 2 ^ 4000) (hl : l ≤ 4000) {d : D} (hd : Pd c l n d) : call P k "is_offer" [d] = ret (.bl (isOffer d)) := by
  refine s_of (fd rfl rfl : Fnd P "is_offer" f_is_offer) (by omega) rfl (ρ0 := [.im d, .un]) rfl ?_ (ρ1 := [.im d, .un])
  by_cases ht : dTup d = true
  · cases d with
    | tup xs =>
      obtain ⟨m, rfl, hlen, hx⟩ := hd.tup
      have ec : ev P.gl (call P (k - 1)) (.comp (.and [.call "is_ratio" [.var 1], .no (.call "less" [.var 1, .glob "ZERO"])]) (.nm 1) .seq [.var 0] [] [1]) [.im (.tup xs), .un] = ret (.lst (xs.map fun x => .bl (nn x))) := by
        refine ev_comp1 (ds := [.tup xs]) (by simp) rfl (by unfold lim; omega) fun x hx' => ⟨[.im (.tup xs), .im x], rfl, ?_⟩
        have e1 := s_is_ratio judges gcd (show 2 ≤ k - 1 by omega) (hx x hx')
        cases hr : isRt x with
        | false =>
          rw [hr] at e1
          simp [e1, nn, hr]
        | true =>
          obtain ⟨y, rfl⟩ := isRt_inv hr
          rw [hr] at e1
          have e2 := s_less rats (show 1 ≤ k - 1 by omega) (pd_sz (hx _ hx') hc) ((Bz.zero (n := 1) (by decide)).sz (by decide))
          simp only [ev_and, evA_cons, evA_one, ev_no, ev_call, evL_cons, evL_nil, ev_var, getV_succ, getV_zero, ev_glob, zero, bnd_ret, lft_some, truth_bl, if_true, e1, e2]
          have : (!decide (y < 0)) = decide (0 ≤ y) := by
            by_cases h : y < 0
            · have h2 : ¬ 0 ≤ y := by grind
              simp [h, h2]
            · have h2 : 0 ≤ y := by grind
              simp [h, h2]
          simp only [nn, isRt_Rt, rv_Rt, Bool.true_and, this]
      have hlen2 : bfn .len [.tup xs] = some (.int xs.length) := rfl
      by_cases h2 : xs.length = 2
      · refine (exs_F (by simp [hd.isi.2.2.1, dTup, hlen2, h2])).trans (exs_rt ?_)
        simp only [ev_bi, evL_cons, evL_nil, ec, bnd_ret, bfn_all, lft_some]
        match xs, h2 with
        | [a, b], _ => simp [isOffer]
      · have : ¬ ((xs.length : Int) = 2) := by omega
        refine exs_T (by simp [hd.isi.2.2.1, dTup, hlen2, this]) (exs_rt ?_)
        match xs, h2 with
        | [], _ => rfl
        | [_], _ => rfl
        | [_, _], h => exact absurd rfl h
        | _ :: _ :: _ :: _, _ => rfl
    | _ => cases ht
  · have ht : dTup d = false := by simpa using ht
    refine exs_T (by simp [hd.isi.2.2.1, ht]) (exs_rt ?_)
    cases d <;> first | rfl | cases ht
theorem offer_inv {d : D} (h : isOffer d = true) : ∃ x y : Rat, d = .tup [Rt x, Rt y] ∧ 0 ≤ x ∧ 0 ≤ y := by
  unfold isOffer at h
  split at h
  · rename_i a b
    simp only [nn, Bool.and_eq_true, decide_eq_true_eq] at h
    obtain ⟨x, rfl⟩ := isRt_inv h.1.1
    obtain ⟨y, rfl⟩ := isRt_inv h.2.1
    rw [rv_Rt, rv_Rt] at h
    exact ⟨x, y, rfl, h.1.2, h.2.2⟩
  · cases h
theorem idx_nat {xs : List D} {i : Nat} : idx (.tup xs) (.int (i : Int)) = xs[i]? := pyIx_nat
theorem s_are_intents (hk : 4 ≤ k) (hc : c < 2 ^ 4000) (hl : l ≤ 4000) {d : D} (hd : Pd c l n d) : call P k "are_intents" [d] = ret (.bl (areI d)) := by
  refine s_of (fd rfl rfl : Fnd P "are_intents" f_are_intents) (by omega) rfl (ρ0 := [.im d, .un, .un]) rfl ?_ (ρ1 := [.im d, .un, .un])
  by_cases ht : dTup d = true
  · cases d with
    | tup xs =>
      obtain ⟨m, rfl, hlen, hx⟩ := hd.tup
      have hmax : P.gl "MAX_INTENTS" = some (.int 30) := rfl
      have hlen2 : bfn .len [.tup xs] = some (.int xs.length) := rfl
      have ec : ev P.gl (call P (k - 1)) (.comp (.call "is_offer" [.var 1]) (.nm 1) .seq [.var 0] [] [1]) [.im (.tup xs), .un, .un] = ret (.lst (xs.map fun x => .bl (isOffer x))) := by
        refine ev_comp1 (ds := [.tup xs]) (by simp) rfl (by unfold lim; omega) fun x hx' => ⟨[.im (.tup xs), .im x, .un], rfl, ?_⟩
        simp only [ev_call, evL_cons, evL_nil, ev_var, getV_succ, getV_zero, bnd_ret]
        exact s_is_offer (by omega) hc hl (hx x hx')
      by_cases h1 : 1 ≤ xs.length
      · have i1 : (1 : Int) ≤ xs.length := by omega
        by_cases h2 : xs.length ≤ 30
        · have i2 : (xs.length : Int) ≤ 30 := by omega
          cases ha : xs.all isOffer with
          | false =>
            refine exs_T (by simp only [tst_eq, ev_or, evO_cons, evO_one, ev_no, ev_isi, ev_chn, ev_bi, ev_lit, ev_glob, evL_cons, evL_nil, ev_var, getV_zero, bnd_ret, hd.isi.2.2.1, dTup, lft_some, truth_bl, hlen2, hmax, cop_le, decide_eq_true i1, decide_eq_true i2, ec, bfn_all, ha]; rfl) (exs_rt ?_)
            simp [areI, ha]
          | true =>
            refine (exs_F (by simp only [tst_eq, ev_or, evO_cons, evO_one, ev_no, ev_isi, ev_chn, ev_bi, ev_lit, ev_glob, evL_cons, evL_nil, ev_var, getV_zero, bnd_ret, hd.isi.2.2.1, dTup, lft_some, truth_bl, hlen2, hmax, cop_le, decide_eq_true i1, decide_eq_true i2, ec, bfn_all, ha]; rfl)).trans (exs_rt ?_)
            have off : ∀ i (hi : i < xs.length), ∃ x y, xs[i] = .tup [Rt x, Rt y] ∧ Sz x := fun i hi => by
              obtain ⟨x, y, e, _⟩ := offer_inv (List.all_eq_true.mp ha _ (List.getElem_mem hi))
              have hp := hx _ (List.getElem_mem hi)
              rw [e] at hp
              obtain ⟨m', rfl, _, hp⟩ := hp.tup
              exact ⟨x, y, e, pd_sz (hp (Rt x) (by simp)) hc⟩
            have e3 : ev P.gl (call P (k - 1)) (.comp (.call "less" [.idx (.idx (.var 0) (.var 2)) (.lit (.int 0)), .idx (.idx (.var 0) (.bin .add (.var 2) (.lit (.int 1)))) (.lit (.int 0))]) (.nm 2) .ran [.bin .sub (.bi .len [.var 0]) (.lit (.int 1))] [] [2]) [.im (.tup xs), .un, .un] =
                ret (.lst ((intsFrom 0 (xs.length - 1)).map fun d => .bl (decide (rv (fstD (xs.getD (iN d) .non)) < rv (fstD (xs.getD (iN d + 1) .non)))))) := by
              refine ev_comp1 (ds := [.int ((xs.length - 1 : Nat) : Int)]) ?_ (iter_ran (by omega)) (by rw [len_intsFrom]; unfold lim; omega) fun x hx' => ?_
              · simp only [evL_cons, evL_nil, ev_bin, ev_bi, ev_var, ev_lit, getV_zero, bnd_ret, hlen2, lft_some, bop_subI]
                congr 3
                omega
              · obtain ⟨i, hi, rfl⟩ := mem_intsFrom hx'
                refine ⟨[.im (.tup xs), .un, .im (.int i)], rfl, ?_⟩
                obtain ⟨x1, y1, g1, z1⟩ := off i (by omega)
                obtain ⟨x2, y2, g2, z2⟩ := off (i + 1) (by omega)
                have a1 : idx (.tup xs) (.int (i : Int)) = some (.tup [Rt x1, Rt y1]) := by rw [idx_nat, List.getElem?_eq_getElem (by omega), g1]
                have a2 : idx (.tup xs) (.int ((i : Int) + 1)) = some (.tup [Rt x2, Rt y2]) := by
                  have := idx_nat (xs := xs) (i := i + 1)
                  rw [Int.natCast_add] at this
                  rw [show ((i : Int) + 1) = (i : Int) + ((1 : Nat) : Int) from rfl, this, List.getElem?_eq_getElem (by omega), g2]
                have b1 : xs.getD i .non = .tup [Rt x1, Rt y1] := by rw [List.getD_eq_getElem?_getD, List.getElem?_eq_getElem (by omega), g1]; rfl
                have b2 : xs.getD (i + 1) .non = .tup [Rt x2, Rt y2] := by rw [List.getD_eq_getElem?_getD, List.getElem?_eq_getElem (by omega), g2]; rfl
                have hiN : iN (.int (i : Int)) = i := by simp [iN]
                simp only [ev_call, evL_cons, evL_nil, ev_idx, ev_bin, ev_var, ev_lit, getV_succ, getV_zero, bnd_ret, a1, bop_addI, a2, lft_some, ix_tup0, s_less rats (show 1 ≤ k - 1 by omega) z1 z2, hiN, b1, b2, fstD, rv_Rt]
            simp only [ev_bi, evL_cons, evL_nil, e3, bnd_ret, bfn_all, lft_some]
            rw [all_ints (h := fun i => decide (rv (fstD (xs.getD i .non)) < rv (fstD (xs.getD (i + 1) .non))))]
            simp only [areI, h1, h2, ha, chainB, decide_true, Bool.true_and]
        · have i2 : ¬ (xs.length : Int) ≤ 30 := by omega
          refine exs_T (by simp only [tst_eq, ev_or, evO_cons, evO_one, ev_no, ev_isi, ev_chn, ev_bi, ev_lit, ev_glob, evL_cons, evL_nil, ev_var, getV_zero, bnd_ret, hd.isi.2.2.1, dTup, lft_some, truth_bl, hlen2, hmax, cop_le, decide_eq_true i1, decide_eq_false i2]; rfl) (exs_rt ?_)
          simp [areI, h2]
      · have i1 : ¬ (1 : Int) ≤ xs.length := by omega
        refine exs_T (by simp only [tst_eq, ev_or, evO_cons, evO_one, ev_no, ev_isi, ev_chn, ev_bi, ev_lit, ev_glob, evL_cons, evL_nil, ev_var, getV_zero, bnd_ret, hd.isi.2.2.1, dTup, lft_some, truth_bl, hlen2, hmax, cop_le, decide_eq_false i1]; rfl) (exs_rt ?_)
        simp [areI, h1]
    | _ => cases ht
  · have ht : dTup d = false := by simpa using ht
    refine exs_T (by simp [hd.isi.2.2.1, ht]) (exs_rt ?_)
    cases d <;> first | rfl | cases ht
theorem rv_num {x : Rat} : decide (0 ≤ x.num) = decide (0 ≤ x) := by
  by_cases h : 0 ≤ x
  · rw [decide_eq_true h, decide_eq_true (Rat.num_nonneg.mpr h)]
  · rw [decide_eq_false h, decide_eq_false fun z => h (Rat.num_nonneg.mp z)]
theorem s_l_isR (hk : 2 ≤ k) (hc : c < 2 ^ 4000) (hl : l ≤ 4000) {d : D} (hd : Pd c l n d) : call P k "_law_is_ratio" [d] = ret (.bl (isRt d)) :=
  s_l_is_ratio (fd rfl rfl) (fd rfl rfl) (Nat.lt_of_lt_of_le hc (Nat.pow_le_pow_right (by decide) (by decide))) hl hk hd
theorem s_l_intents (hk : 4 ≤ k) (hc : c < 2 ^ 4000) (hl : l ≤ 4000) {d : D} (hd : Pd c l n d) : call P k "_law_are_intents" [d] = ret (.bl (areI d)) := by
  refine s_of (fd rfl rfl : Fnd P "_law_are_intents" f__law_are_intents) (by omega) rfl (ρ0 := [.im d, .un, .un, .un]) rfl ?_ (ρ1 := [.im d, .un, .un, .un])
  by_cases ht : dTup d = true
  · cases d with
    | tup xs =>
      obtain ⟨m, rfl, hlen, hx⟩ := hd.tup
      have hlen2 : ∀ ys, bfn .len [.tup ys] = some (.int ys.length) := fun _ => rfl
      have ec : ev P.gl (call P (k - 1)) (.comp (.and [.isi (.var 2) .tuple, .cmp .eq (.bi .len [.var 2]) (.lit (.int 2)), .bi .all [.comp (.and [.call "_law_is_ratio" [.var 1], .cmp .ge (.idx (.var 1) (.lit (.int 0))) (.lit (.int 0))]) (.nm 1) .seq [.var 2] [] [1]]]) (.nm 2) .seq [.var 0] [] [2]) [.im (.tup xs), .un, .un, .un] = ret (.lst (xs.map fun x => .bl (isOffer x))) := by
        refine ev_comp1 (ds := [.tup xs]) (by simp) rfl (by unfold lim; omega) fun x hx' => ⟨[.im (.tup xs), .un, .im x, .un], rfl, ?_⟩
        have hp := hx x hx'
        cases htx : dTup x with
        | false =>
          simp only [ev_and, evA_cons, ev_isi, ev_var, getV_succ, getV_zero, bnd_ret, hp.isi.2.2.1, htx, lft_some, truth_bl]
          cases x <;> first | rfl | cases htx
        | true =>
          cases x with
          | tup ys =>
            obtain ⟨m', rfl, hlen', hy⟩ := hp.tup
            have e2 : ev P.gl (call P (k - 1)) (.comp (.and [.call "_law_is_ratio" [.var 1], .cmp .ge (.idx (.var 1) (.lit (.int 0))) (.lit (.int 0))]) (.nm 1) .seq [.var 2] [] [1]) [.im (.tup xs), .un, .im (.tup ys), .un] = ret (.lst (ys.map fun x => .bl (nn x))) := by
              refine ev_comp1 (ds := [.tup ys]) (by simp) rfl (by unfold lim; omega) fun y hy' => ⟨[.im (.tup xs), .im y, .im (.tup ys), .un], rfl, ?_⟩
              have e1 := s_l_isR (show 2 ≤ k - 1 by omega) hc hl (hy y hy')
              cases hr : isRt y with
              | false =>
                rw [hr] at e1
                simp [e1, nn, hr]
              | true =>
                obtain ⟨z, rfl⟩ := isRt_inv hr
                rw [hr] at e1
                have e4 : idx (Rt z) (.int 0) = some (.int z.num) := rfl
                simp only [ev_and, evA_cons, evA_one, ev_cmp, ev_idx, ev_lit, ev_call, evL_cons, evL_nil, ev_var, getV_succ, getV_zero, bnd_ret, lft_some, truth_bl, if_true, e1, e4, cop_ge, nn, isRt_Rt, rv_Rt, Bool.true_and, rv_num]
            simp only [ev_and, evA_cons, evA_one, ev_isi, ev_cmp, ev_bi, ev_lit, evL_cons, evL_nil, ev_var, getV_succ, getV_zero, bnd_ret, hp.isi.2.2.1, dTup, lft_some, truth_bl, if_true, hlen2, cop_eqI, e2, bfn_all]
            by_cases h2 : ys.length = 2
            · have : ((ys.length : Int) = 2) := by omega
              rw [decide_eq_true this, if_pos rfl]
              match ys, h2 with
              | [a, b], _ => simp [isOffer]
            · have : ¬ ((ys.length : Int) = 2) := by omega
              rw [decide_eq_false this, if_neg (by decide)]
              match ys, h2 with
              | [], _ => rfl
              | [_], _ => rfl
              | [_, _], h => exact absurd rfl h
              | _ :: _ :: _ :: _, _ => rfl
          | _ => cases htx
      by_cases h1 : 1 ≤ xs.length
      · have i1 : (1 : Int) ≤ xs.length := by omega
        by_cases h2 : xs.length ≤ 30
        · have i2 : (xs.length : Int) ≤ 30 := by omega
          refine (exs_F (by simp only [tst_eq, ev_or, evO_cons, evO_one, ev_no, ev_isi, ev_chn, ev_bi, ev_lit, ev_glob, evL_cons, evL_nil, ev_var, getV_zero, bnd_ret, hd.isi.2.2.1, dTup, lft_some, truth_bl, hlen2, cop_le, decide_eq_true i1, decide_eq_true i2]; rfl)).trans ?_
          cases ha : xs.all isOffer with
          | false =>
            refine exs_T (by simp only [tst_eq, ev_no, ev_bi, evL_cons, evL_nil, bnd_ret, lft_some, truth_bl, ec, bfn_all, ha]; rfl) (exs_rt ?_)
            simp [areI, ha]
          | true =>
            refine (exs_F (by simp only [tst_eq, ev_no, ev_bi, evL_cons, evL_nil, bnd_ret, lft_some, truth_bl, ec, bfn_all, ha]; rfl)).trans (exs_rt ?_)
            have off : ∀ i (hi : i < xs.length), ∃ x y, xs[i] = .tup [Rt x, Rt y] ∧ Sz x := fun i hi => by
              obtain ⟨x, y, e, _⟩ := offer_inv (List.all_eq_true.mp ha _ (List.getElem_mem hi))
              have hp := hx _ (List.getElem_mem hi)
              rw [e] at hp
              obtain ⟨m', rfl, _, hp⟩ := hp.tup
              exact ⟨x, y, e, pd_sz (hp (Rt x) (by simp)) hc⟩
            have e3 : ev P.gl (call P (k - 1)) (.comp (.call "_law_less" [.idx (.idx (.var 0) (.var 3)) (.lit (.int 0)), .idx (.idx (.var 0) (.bin .add (.var 3) (.lit (.int 1)))) (.lit (.int 0))]) (.nm 3) .ran [.bin .sub (.bi .len [.var 0]) (.lit (.int 1))] [] [3]) [.im (.tup xs), .un, .un, .un] =
                ret (.lst ((intsFrom 0 (xs.length - 1)).map fun d => .bl (decide (rv (fstD (xs.getD (iN d) .non)) < rv (fstD (xs.getD (iN d + 1) .non)))))) := by
              refine ev_comp1 (ds := [.int ((xs.length - 1 : Nat) : Int)]) ?_ (iter_ran (by omega)) (by rw [len_intsFrom]; unfold lim; omega) fun x hx' => ?_
              · simp only [evL_cons, evL_nil, ev_bin, ev_bi, ev_var, ev_lit, getV_zero, bnd_ret, hlen2, lft_some, bop_subI]
                congr 3
                omega
              · obtain ⟨i, hi, rfl⟩ := mem_intsFrom hx'
                refine ⟨[.im (.tup xs), .un, .un, .im (.int i)], rfl, ?_⟩
                obtain ⟨x1, y1, g1, z1⟩ := off i (by omega)
                obtain ⟨x2, y2, g2, z2⟩ := off (i + 1) (by omega)
                have a1 : idx (.tup xs) (.int (i : Int)) = some (.tup [Rt x1, Rt y1]) := by rw [idx_nat, List.getElem?_eq_getElem (by omega), g1]
                have a2 : idx (.tup xs) (.int ((i : Int) + 1)) = some (.tup [Rt x2, Rt y2]) := by
                  have := idx_nat (xs := xs) (i := i + 1)
                  rw [Int.natCast_add] at this
                  rw [show ((i : Int) + 1) = (i : Int) + ((1 : Nat) : Int) from rfl, this, List.getElem?_eq_getElem (by omega), g2]
                have b1 : xs.getD i .non = .tup [Rt x1, Rt y1] := by rw [List.getD_eq_getElem?_getD, List.getElem?_eq_getElem (by omega), g1]; rfl
                have b2 : xs.getD (i + 1) .non = .tup [Rt x2, Rt y2] := by rw [List.getD_eq_getElem?_getD, List.getElem?_eq_getElem (by omega), g2]; rfl
                have hiN : iN (.int (i : Int)) = i := by simp [iN]
                simp only [ev_call, evL_cons, evL_nil, ev_idx, ev_bin, ev_var, ev_lit, getV_succ, getV_zero, bnd_ret, a1, bop_addI, a2, lft_some, ix_tup0, s_lless lrats (show 1 ≤ k - 1 by omega) z1 z2, hiN, b1, b2, fstD, rv_Rt]
            simp only [ev_bi, evL_cons, evL_nil, e3, bnd_ret, bfn_all, lft_some]
            rw [all_ints (h := fun i => decide (rv (fstD (xs.getD i .non)) < rv (fstD (xs.getD (i + 1) .non))))]
            simp only [areI, h1, h2, ha, chainB, decide_true, Bool.true_and]
        · have i2 : ¬ (xs.length : Int) ≤ 30 := by omega
          refine exs_T (by simp only [tst_eq, ev_or, evO_cons, evO_one, ev_no, ev_isi, ev_chn, ev_bi, ev_lit, ev_glob, evL_cons, evL_nil, ev_var, getV_zero, bnd_ret, hd.isi.2.2.1, dTup, lft_some, truth_bl, hlen2, cop_le, decide_eq_true i1, decide_eq_false i2]; rfl) (exs_rt ?_)
          simp [areI, h2]
      · have i1 : ¬ (1 : Int) ≤ xs.length := by omega
        refine exs_T (by simp only [tst_eq, ev_or, evO_cons, evO_one, ev_no, ev_isi, ev_chn, ev_bi, ev_lit, ev_glob, evL_cons, evL_nil, ev_var, getV_zero, bnd_ret, hd.isi.2.2.1, dTup, lft_some, truth_bl, hlen2, cop_le, decide_eq_false i1]; rfl) (exs_rt ?_)
        simp [areI, h1]
    | _ => cases ht
  · have ht : dTup d = false := by simpa using ht
    refine exs_T (by simp [hd.isi.2.2.1, ht]) (exs_rt ?_)
    cases d <;> first | rfl | cases ht
end K86

set_option autoImplicit false
set_option linter.all false
set_option maxRecDepth 100000
set_option maxHeartbeats 2000000
set_option exponentiation.threshold 20000
/-! MK86b: prices of intents. -/
namespace PL
abbrev In := Rat × Rat
def pr (p : In) : D := .tup [Rt p.1, Rt p.2]
def itD (ps : List In) : D := .tup (ps.map pr)
/-- nobody gains by another's amount and price -/
def arP (ps : List In) (vs : List Rat) : Bool := (ps.zip vs).all fun p => !((ps.zip vs).any fun q => decide (p.1.1 * p.1.2 - p.2 < p.1.1 * q.1.2 - q.2))
def prB (ps : List In) : D → Bool
  | .tup xs => decide (xs.length = ps.length) && (xs.all isRt && arP ps (xs.map rv))
  | _ => false
theorem all_Rt : ∀ {xs : List D}, xs.all isRt = true → xs = (xs.map rv).map Rt
  | [], _ => rfl
  | x :: xs, h => by
    simp only [List.all_cons, Bool.and_eq_true] at h
    obtain ⟨y, rfl⟩ := isRt_inv h.1
    simp only [List.map_cons, rv_Rt, ← all_Rt h.2]
theorem map_Rt_rv {vs : List Rat} : (vs.map Rt).map rv = vs := by
  rw [List.map_map]
  have : (rv ∘ Rt) = id := by funext x; exact rv_Rt x
  rw [this, List.map_id]
theorem all_isRt {vs : List Rat} : (vs.map Rt).all isRt = true := by
  simp only [List.all_eq_true, List.mem_map]
  rintro _ ⟨x, _, rfl⟩
  exact isRt_Rt x
end PL
namespace K86
open PL
variable {k c l n : Nat}
/-- sizes of intents -/
def Bs (ps : List In) : Prop := ∀ p ∈ ps, Bz 500 p.1 ∧ Bz 500 p.2
theorem Bs.at {ps : List In} (h : Bs ps) {p : In} (hp : p ∈ ps) : Bz 500 p.1 ∧ Bz 500 p.2 := h p hp
theorem mem_zip1 {ps : List In} {vs : List Rat} {q : In × Rat} (h : q ∈ ps.zip vs) : q.1 ∈ ps ∧ q.2 ∈ vs := List.of_mem_zip (show (q.1, q.2) ∈ ps.zip vs from h)
theorem s_intent_prices (hk : 5 ≤ k) (hc : c < 2 ^ 2000) (hl : l ≤ 4000) {ps : List In} (hp : Bs ps) (hpl : ps.length ≤ 100) {d : D} (hd : Pd c l n d) : call P k "are_intent_prices" [itD ps, d] = ret (.bl (prB ps d)) := by
  have hc4 : c < 2 ^ 4000 := Nat.lt_of_lt_of_le hc (Nat.pow_le_pow_right (by decide) (by decide))
  by_cases ht : dTup d = true
  case neg =>
    have ht : dTup d = false := by simpa using ht
    refine s_of (fd rfl rfl : Fnd P "are_intent_prices" f_are_intent_prices) (by omega) rfl (ρ0 := [.im (itD ps), .im d, .un, .un, .un, .un, .un, .un]) rfl ?_ (ρ1 := [.im (itD ps), .im d, .un, .un, .un, .un, .un, .un])
    refine exs_T (by simp [hd.isi.2.2.1, ht]) (exs_rt ?_)
    cases d <;> first | rfl | cases ht
  cases d with
  | tup xs =>
    obtain ⟨m, rfl, hlen, hx⟩ := hd.tup
    have hlen2 : ∀ ys, bfn .len [.tup ys] = some (.int ys.length) := fun _ => rfl
    have hli : bfn .len [itD ps] = some (.int ps.length) := by show some (D.int ((ps.map pr).length : Nat)) = _; rw [List.length_map]
    have ec : ev P.gl (call P (k - 1)) (.comp (.call "is_ratio" [.var 2]) (.nm 2) .seq [.var 1] [] [2]) [.im (itD ps), .im (.tup xs), .un, .un, .un, .un, .un, .un] = ret (.lst (xs.map fun x => .bl (isRt x))) := by
      refine ev_comp1 (ds := [.tup xs]) (by simp) rfl (by unfold lim; omega) fun x hx' => ⟨[.im (itD ps), .im (.tup xs), .im x, .un, .un, .un, .un, .un], rfl, ?_⟩
      simp only [ev_call, evL_cons, evL_nil, ev_var, getV_succ, getV_zero, bnd_ret]
      exact s_is_ratio judges gcd (by omega) (hx x hx')
    by_cases h1 : xs.length = ps.length
    case neg =>
      have i1 : ¬ ((xs.length : Int) = ps.length) := by omega
      refine s_of (fd rfl rfl : Fnd P "are_intent_prices" f_are_intent_prices) (by omega) rfl (ρ0 := [.im (itD ps), .im (.tup xs), .un, .un, .un, .un, .un, .un]) rfl ?_ (ρ1 := [.im (itD ps), .im (.tup xs), .un, .un, .un, .un, .un, .un])
      refine exs_T (by simp only [tst_eq, ev_or, evO_cons, evO_one, ev_no, ev_isi, ev_cmp, ev_bi, evL_cons, evL_nil, ev_var, getV_succ, getV_zero, bnd_ret, hd.isi.2.2.1, dTup, lft_some, truth_bl, hlen2, hli, cop_neI, decide_eq_false i1]; rfl) (exs_rt ?_)
      simp [prB, h1]
    have i1 : ((xs.length : Int) = ps.length) := by omega
    cases ha : xs.all isRt with
    | false =>
      refine s_of (fd rfl rfl : Fnd P "are_intent_prices" f_are_intent_prices) (by omega) rfl (ρ0 := [.im (itD ps), .im (.tup xs), .un, .un, .un, .un, .un, .un]) rfl ?_ (ρ1 := [.im (itD ps), .im (.tup xs), .un, .un, .un, .un, .un, .un])
      refine exs_T (by simp only [tst_eq, ev_or, evO_cons, evO_one, ev_no, ev_isi, ev_cmp, ev_bi, evL_cons, evL_nil, ev_var, getV_succ, getV_zero, bnd_ret, hd.isi.2.2.1, dTup, lft_some, truth_bl, hlen2, hli, cop_neI, decide_eq_true i1, ec, bfn_all, ha]; rfl) (exs_rt ?_)
      simp [prB, ha]
    | true =>
      have hxs := all_Rt ha
      generalize hvs : xs.map rv = vs at hxs
      have hvl : vs.length = ps.length := by rw [← hvs, List.length_map, h1]
      have hv : ∀ v ∈ vs, Bz 2000 v := fun v hv => by
        have : Rt v ∈ xs := by rw [hxs]; exact List.mem_map_of_mem hv
        obtain ⟨m', rfl, _, h2⟩ := (hx _ this).tup
        exact ⟨Nat.lt_of_le_of_lt (h2 (.int v.num) (by simp)).int hc, Nat.lt_of_le_of_lt (h2 (.int v.den) (by simp)).int hc⟩
      have hres : prB ps (.tup xs) = arP ps vs := by simp [prB, h1, ha, hvs]
      rw [hres]
      refine eq_ret fun b => run_call (fd rfl rfl : Fnd P "are_intent_prices" f_are_intent_prices) (by omega) rfl (ρ0 := [.im (itD ps), .im (.tup xs), .un, .un, .un, .un, .un, .un]) rfl ?_
      show Run (exs P.gl (call P (k - 1)) (.iff _ _ _ :: .fr _ _ _ _ :: .ret _ :: []) _) b _
      refine run_iff (run_tst ?_)
      simp only [ev_or, evO_cons, evO_one, ev_no, ev_isi, ev_cmp, ev_bi, evL_cons, evL_nil, ev_var, getV_succ, getV_zero, bnd_ret, hd.isi.2.2.1, dTup, lft_some, truth_bl, hlen2, hli, cop_neI, decide_eq_true i1, ec, bfn_all, ha, Bool.not_true, Bool.false_eq_true, if_false, run_ret]
      refine ⟨false, rfl, ?_⟩
      rw [if_neg (by decide)]
      refine run_exs_nil.mpr ?_
      show Run (exs P.gl (call P (k - 1)) (.fr _ _ _ _ :: .ret _ :: []) _) b _
      rw [run_exs_cons]
      simp only [ex, evL_cons, evL_nil, ev_var, getV_succ, getV_zero, bnd_ret]
      have hz : iter .zip [itD ps, .tup xs] = some ((ps.zip vs).map fun p => .tup [pr p.1, Rt p.2]) := by rw [hxs]; exact iter_zip
      rw [hz, lft_some, bnd_ret]
      have hzl : (ps.zip vs).length ≤ lim := by rw [List.length_zip]; unfold lim; omega
      have key : ∀ q ∈ ps.zip vs, ∀ p ∈ ps.zip vs, call P (k - 1) "minus" [Rt (p.1.1 * q.1.2), Rt q.2] = ret (Rt (p.1.1 * q.1.2 - q.2)) := fun q hq p hp' => by
        have z1 := (hp.at (mem_zip1 hq).1)
        have z2 := (hp.at (mem_zip1 hp').1)
        exact s_minus rats (by omega) ((z2.1.mul z1.2).sz (by decide)) ((hv _ (mem_zip1 hq).2).sz (by decide))
      have keyt : ∀ q ∈ ps.zip vs, ∀ p ∈ ps.zip vs, call P (k - 1) "times" [Rt p.1.1, Rt q.1.2] = ret (Rt (p.1.1 * q.1.2)) := fun q hq p hp' => by
        have z1 := (hp.at (mem_zip1 hq).1)
        have z2 := (hp.at (mem_zip1 hp').1)
        exact s_times rats (by omega) (z2.1.sz (by decide)) (z1.2.sz (by decide))
      have keyl : ∀ q ∈ ps.zip vs, ∀ p ∈ ps.zip vs, call P (k - 1) "less" [Rt (p.1.1 * p.1.2 - p.2), Rt (p.1.1 * q.1.2 - q.2)] = ret (.bl (decide (p.1.1 * p.1.2 - p.2 < p.1.1 * q.1.2 - q.2))) := fun q hq p hp' => by
        have z1 := (hp.at (mem_zip1 hq).1)
        have z2 := (hp.at (mem_zip1 hp').1)
        exact s_less rats (by omega) (((z2.1.mul z2.2).sub (hv _ (mem_zip1 hp').2)).sz (by decide)) (((z2.1.mul z1.2).sub (hv _ (mem_zip1 hq).2)).sz (by decide))
      refine run_forL (fun i ρ b' => b' = b ∧ (∃ c2 c3 c4 c5 c6 c7, ρ = [.im (itD ps), .im (.tup xs), c2, c3, c4, c5, c6, c7]) ∧ ∀ j, j < i → ∀ p, (ps.zip vs)[j]? = some p → ((ps.zip vs).any fun q => decide (p.1.1 * p.1.2 - p.2 < p.1.1 * q.1.2 - q.2)) = false) ?_ ?_ ⟨rfl, ⟨_, _, _, _, _, _, rfl⟩, fun j hj => absurd hj (by omega)⟩
      · rintro i p ρ b' hp' ⟨rfl, ⟨c2, c3, c4, c5, c6, c7, rfl⟩, hI⟩
        have hpm := List.mem_of_getElem? hp'
        have hb : (bindT (.tu [.tu [.nm 3, .nm 4], .nm 2]) (.tup [pr p.1, Rt p.2]) [.im (itD ps), .im (.tup xs), c2, c3, c4, c5, c6, c7]) = some [.im (itD ps), .im (.tup xs), .im (Rt p.2), .im (Rt p.1.1), .im (Rt p.1.2), c5, c6, c7] := rfl
        rw [hb, lft_some, bnd_ret]
        refine run_asg ?_
        simp only [ev_call, evL_cons, evL_nil, ev_var, getV_succ, getV_zero, bnd_ret, keyt p hpm p hpm, key p hpm p hpm, run_ret]
        show Run (exs P.gl (call P (k - 1)) _ [.im (itD ps), .im (.tup xs), .im (Rt p.2), .im (Rt p.1.1), .im (Rt p.1.2), .im (Rt (p.1.1 * p.1.2 - p.2)), c6, c7]) b' _
        refine run_iff (run_tst ?_)
        have ea : ev P.gl (call P (k - 1)) (.comp (.call "less" [.var 5, .call "minus" [.call "times" [.var 3, .idx (.var 6) (.lit (.int 1))], .var 7]]) (.tu [.nm 6, .nm 7]) .zip [.var 0, .var 1] [] [6, 7]) [.im (itD ps), .im (.tup xs), .im (Rt p.2), .im (Rt p.1.1), .im (Rt p.1.2), .im (Rt (p.1.1 * p.1.2 - p.2)), c6, c7] =
            ret (.lst ((ps.zip vs).map fun q => .bl (decide (p.1.1 * p.1.2 - p.2 < p.1.1 * q.1.2 - q.2)))) := by
          refine ev_compL (ds := [itD ps, .tup xs]) (by simp) hz hzl fun q hq => ⟨[.im (itD ps), .im (.tup xs), .im (Rt p.2), .im (Rt p.1.1), .im (Rt p.1.2), .im (Rt (p.1.1 * p.1.2 - p.2)), .im (pr q.1), .im (Rt q.2)], rfl, ?_⟩
          have e1 : idx (pr q.1) (.int 1) = some (Rt q.1.2) := rfl
          simp only [ev_call, ev_idx, ev_lit, evL_cons, evL_nil, ev_var, getV_succ, getV_zero, bnd_ret, e1, lft_some, keyt q hq p hpm, key q hq p hpm, keyl q hq p hpm]
        simp only [ev_bi, evL_cons, evL_nil, ea, bnd_ret, bfn_anyL, lft_some, run_ret]
        refine ⟨_, rfl, ?_⟩
        cases hany : (ps.zip vs).any fun q => decide (p.1.1 * p.1.2 - p.2 < p.1.1 * q.1.2 - q.2) with
        | true =>
          rw [if_pos rfl]
          refine run_rt ?_
          simp only [ev_lit, run_ret]
          refine ⟨?_, by trivial⟩
          have : arP ps vs = false := by
            unfold arP
            rw [List.all_eq_false]
            exact ⟨p, hpm, by rw [hany]; decide⟩
          rw [this]
        | false =>
          rw [if_neg (by decide)]
          refine run_exs_nil.mpr (run_exs_nil.mpr ?_)
          refine ⟨rfl, ⟨_, _, _, _, _, _, rfl⟩, fun j hj p' hp2 => ?_⟩
          by_cases hji : j < i
          · exact hI j hji p' hp2
          · have : j = i := by omega
            subst this
            rw [hp'] at hp2
            cases hp2
            exact hany
      · rintro ρ b' ⟨rfl, ⟨c2, c3, c4, c5, c6, c7, rfl⟩, hI⟩
        refine run_rt ?_
        simp only [ev_lit, run_ret]
        refine ⟨?_, by trivial⟩
        have : arP ps vs = true := by
          unfold arP
          rw [List.all_eq_true]
          intro p hp'
          obtain ⟨j, hj, e⟩ := List.mem_iff_getElem.mp hp'
          rw [hI j hj p (by rw [List.getElem?_eq_getElem hj, e])]
          rfl
        rw [this]
  | _ => cases ht
end K86

set_option autoImplicit false
set_option linter.all false
set_option maxRecDepth 100000
set_option maxHeartbeats 2000000
set_option exponentiation.threshold 20000
/-! MK86c: the law's judge of prices; falls, prices told. -/
namespace PL
def zf (ps : List In) (i : Nat) : Rat := (ps.getD i (0, 0)).1
def af (ps : List In) (i : Nat) : Rat := (ps.getD i (0, 0)).2
/-- an index into intents -/
theorem ix_in {ps : List In} {i : Nat} (h : i < ps.length) : idx (itD ps) (.int (i : Int)) = some (.tup [Rt (zf ps i), Rt (af ps i)]) := by
  show pyIx (ps.map pr) i = _
  rw [pyIx_nat, List.getElem?_map, List.getElem?_eq_getElem h]
  unfold zf af
  rw [getD_at h]; rfl
theorem ix_Rt {vs : List Rat} {i : Nat} (h : i < vs.length) : idx (.tup (vs.map Rt)) (.int (i : Int)) = some (Rt (vs.getD i 0)) := by
  show pyIx (vs.map Rt) i = _
  rw [pyIx_nat, List.getElem?_map, List.getElem?_eq_getElem h, getD_at h]; rfl
theorem ix_RtL {vs : List Rat} {i : Nat} (h : i < vs.length) : idx (.lst (vs.map Rt)) (.int (i : Int)) = some (Rt (vs.getD i 0)) := by
  show pyIx (vs.map Rt) i = _
  rw [pyIx_nat, List.getElem?_map, List.getElem?_eq_getElem h, getD_at h]; rfl
/-- by places -/
theorem arP_at {ps : List In} {vs : List Rat} (h : vs.length = ps.length) : arP ps vs = (List.range ps.length).all fun i => !((List.range ps.length).any fun j => decide (zf ps i * af ps i - vs.getD i 0 < zf ps i * af ps j - vs.getD j 0)) := by
  have hl : (ps.zip vs).length = ps.length := by rw [List.length_zip, h, Nat.min_self]
  have hg : ∀ i, i < ps.length → (ps.zip vs).getD i ((0, 0), 0) = ((zf ps i, af ps i), vs.getD i 0) := fun i hi => by
    rw [getD_at (by omega)]
    unfold zf af
    rw [getD_at hi, getD_at (by omega), List.getElem_zip]
  unfold arP
  rw [← all_range (d := ((0, 0), 0)), hl]
  apply Bool.eq_iff_iff.mpr
  simp only [List.all_eq_true, List.mem_range]
  constructor
  · intro h1 i hi
    have := h1 i hi
    rw [← any_range (d := ((0, 0), 0)), hl, hg i hi] at this
    rw [← this]
    congr 1
    apply Bool.eq_iff_iff.mpr
    simp only [List.any_eq_true, List.mem_range]
    constructor <;> rintro ⟨j, hj, e⟩ <;> refine ⟨j, hj, ?_⟩ <;> first | (rw [hg j hj]; exact e) | (rw [hg j hj] at e; exact e)
  · intro h1 i hi
    have := h1 i hi
    rw [← any_range (d := ((0, 0), 0)), hl, hg i hi]
    rw [← this]
    congr 1
    apply Bool.eq_iff_iff.mpr
    simp only [List.any_eq_true, List.mem_range]
    constructor <;> rintro ⟨j, hj, e⟩ <;> refine ⟨j, hj, ?_⟩ <;> first | (rw [hg j hj]; exact e) | (rw [hg j hj] at e; exact e)
end PL
namespace K86
open PL
variable {k c l n : Nat}
theorem Bs.z {ps : List In} (h : Bs ps) {i : Nat} (hi : i < ps.length) : Bz 500 (zf ps i) := by
  unfold zf; rw [getD_at hi]; exact (h _ (List.getElem_mem hi)).1
theorem Bs.a {ps : List In} (h : Bs ps) {i : Nat} (hi : i < ps.length) : Bz 500 (af ps i) := by
  unfold af; rw [getD_at hi]; exact (h _ (List.getElem_mem hi)).2
theorem s_l_prices (hk : 5 ≤ k) (hc : c < 2 ^ 2000) (hl : l ≤ 4000) {ps : List In} (hp : Bs ps) (hpl : ps.length ≤ 100) {d : D} (hd : Pd c l n d) : call P k "_law_are_prices" [itD ps, d] = ret (.bl (prB ps d)) := by
  have hc4 : c < 2 ^ 4000 := Nat.lt_of_lt_of_le hc (Nat.pow_le_pow_right (by decide) (by decide))
  by_cases ht : dTup d = true
  case neg =>
    have ht : dTup d = false := by simpa using ht
    refine s_of (fd rfl rfl : Fnd P "_law_are_prices" f__law_are_prices) (by omega) rfl (ρ0 := [.im (itD ps), .im d, .un, .un, .un, .un, .un]) rfl ?_ (ρ1 := [.im (itD ps), .im d, .un, .un, .un, .un, .un])
    refine exs_T (by simp [hd.isi.2.2.1, ht]) (exs_rt ?_)
    cases d <;> first | rfl | cases ht
  cases d with
  | tup xs =>
    obtain ⟨m, rfl, hlen, hx⟩ := hd.tup
    have hlen2 : ∀ ys, bfn .len [.tup ys] = some (.int ys.length) := fun _ => rfl
    have hli : bfn .len [itD ps] = some (.int ps.length) := by show some (D.int ((ps.map pr).length : Nat)) = _; rw [List.length_map]
    have ec : ev P.gl (call P (k - 1)) (.comp (.call "_law_is_ratio" [.var 2]) (.nm 2) .seq [.var 1] [] [2]) [.im (itD ps), .im (.tup xs), .un, .un, .un, .un, .un] = ret (.lst (xs.map fun x => .bl (isRt x))) := by
      refine ev_comp1 (ds := [.tup xs]) (by simp) rfl (by unfold lim; omega) fun x hx' => ⟨[.im (itD ps), .im (.tup xs), .im x, .un, .un, .un, .un], rfl, ?_⟩
      simp only [ev_call, evL_cons, evL_nil, ev_var, getV_succ, getV_zero, bnd_ret]
      exact s_l_isR (by omega) hc4 hl (hx x hx')
    by_cases h1 : xs.length = ps.length
    case neg =>
      have i1 : ¬ ((xs.length : Int) = ps.length) := by omega
      refine s_of (fd rfl rfl : Fnd P "_law_are_prices" f__law_are_prices) (by omega) rfl (ρ0 := [.im (itD ps), .im (.tup xs), .un, .un, .un, .un, .un]) rfl ?_ (ρ1 := [.im (itD ps), .im (.tup xs), .un, .un, .un, .un, .un])
      refine exs_T (by simp only [tst_eq, ev_or, evO_cons, evO_one, ev_no, ev_isi, ev_cmp, ev_bi, evL_cons, evL_nil, ev_var, getV_succ, getV_zero, bnd_ret, hd.isi.2.2.1, dTup, lft_some, truth_bl, hlen2, hli, cop_neI, decide_eq_false i1]; rfl) (exs_rt ?_)
      simp [prB, h1]
    have i1 : ((xs.length : Int) = ps.length) := by omega
    cases ha : xs.all isRt with
    | false =>
      refine s_of (fd rfl rfl : Fnd P "_law_are_prices" f__law_are_prices) (by omega) rfl (ρ0 := [.im (itD ps), .im (.tup xs), .un, .un, .un, .un, .un]) rfl ?_ (ρ1 := [.im (itD ps), .im (.tup xs), .un, .un, .un, .un, .un])
      refine exs_T (by simp only [tst_eq, ev_or, evO_cons, evO_one, ev_no, ev_isi, ev_cmp, ev_bi, evL_cons, evL_nil, ev_var, getV_succ, getV_zero, bnd_ret, hd.isi.2.2.1, dTup, lft_some, truth_bl, hlen2, hli, cop_neI, decide_eq_true i1, ec, bfn_all, ha]; rfl) (exs_rt ?_)
      simp [prB, ha]
    | true =>
      have hxs := all_Rt ha
      generalize hvs : xs.map rv = vs at hxs
      have hvl : vs.length = ps.length := by rw [← hvs, List.length_map, h1]
      have hv : ∀ i, i < ps.length → Bz 2000 (vs.getD i 0) := fun i hi => by
        have hi2 : i < vs.length := by omega
        rw [getD_at hi2]
        have hm : vs[i] ∈ vs := List.getElem_mem _
        generalize vs[i] = v at hm
        have : Rt v ∈ xs := by rw [hxs]; exact List.mem_map_of_mem hm
        obtain ⟨m', rfl, _, h2⟩ := (hx _ this).tup
        exact ⟨Nat.lt_of_le_of_lt (h2 (.int v.num) (by simp)).int hc, Nat.lt_of_le_of_lt (h2 (.int v.den) (by simp)).int hc⟩
      have hres : prB ps (.tup xs) = arP ps vs := by simp [prB, h1, ha, hvs]
      rw [hres, arP_at hvl]
      have ixv : ∀ i, i < ps.length → idx (.tup xs) (.int (i : Int)) = some (Rt (vs.getD i 0)) := fun i hi => by rw [hxs]; exact ix_Rt (by omega)
      refine eq_ret fun b => run_call (fd rfl rfl : Fnd P "_law_are_prices" f__law_are_prices) (by omega) rfl (ρ0 := [.im (itD ps), .im (.tup xs), .un, .un, .un, .un, .un]) rfl ?_
      show Run (exs P.gl (call P (k - 1)) (.iff _ _ _ :: .fr _ _ _ _ :: .ret _ :: []) _) b _
      refine run_iff (run_tst ?_)
      simp only [ev_or, evO_cons, evO_one, ev_no, ev_isi, ev_cmp, ev_bi, evL_cons, evL_nil, ev_var, getV_succ, getV_zero, bnd_ret, hd.isi.2.2.1, dTup, lft_some, truth_bl, hlen2, hli, cop_neI, decide_eq_true i1, ec, bfn_all, ha, Bool.not_true, Bool.false_eq_true, if_false, run_ret]
      refine ⟨false, rfl, ?_⟩
      rw [if_neg (by decide)]
      refine run_exs_nil.mpr ?_
      show Run (exs P.gl (call P (k - 1)) (.fr _ _ _ _ :: .ret _ :: []) _) b _
      rw [run_exs_cons]
      simp only [ex, evL_cons, evL_nil, ev_bi, ev_var, getV_succ, getV_zero, bnd_ret, hlen2, lft_some]
      rw [h1, ran_map (by omega), lft_some, bnd_ret]
      have key : ∀ i, i < ps.length → ∀ j, j < ps.length → call P (k - 1) "_law_minus" [Rt (zf ps i * af ps j), Rt (vs.getD j 0)] = ret (Rt (zf ps i * af ps j - vs.getD j 0)) := fun i hi j hj =>
        s_lminus lrats (by omega) (((hp.z hi).mul (hp.a hj)).sz (by decide)) ((hv j hj).sz (by decide))
      have keyt : ∀ i, i < ps.length → ∀ j, j < ps.length → call P (k - 1) "_law_times" [Rt (zf ps i), Rt (af ps j)] = ret (Rt (zf ps i * af ps j)) := fun i hi j hj =>
        s_ltimes lrats (by omega) ((hp.z hi).sz (by decide)) ((hp.a hj).sz (by decide))
      have keyl : ∀ i, i < ps.length → ∀ j, j < ps.length → call P (k - 1) "_law_less" [Rt (zf ps i * af ps i - vs.getD i 0), Rt (zf ps i * af ps j - vs.getD j 0)] = ret (.bl (decide (zf ps i * af ps i - vs.getD i 0 < zf ps i * af ps j - vs.getD j 0))) := fun i hi j hj =>
        s_lless lrats (by omega) ((((hp.z hi).mul (hp.a hi)).sub (hv i hi)).sz (by decide)) ((((hp.z hi).mul (hp.a hj)).sub (hv j hj)).sz (by decide))
      refine run_forL (fun i ρ b' => b' = b ∧ (∃ c3 c4 c5 c6, ρ = [.im (itD ps), .im (.tup xs), .un, c3, c4, c5, c6]) ∧ ∀ j, j < i → j < ps.length → ((List.range ps.length).any fun q => decide (zf ps j * af ps j - vs.getD j 0 < zf ps j * af ps q - vs.getD q 0)) = false) ?_ ?_ ⟨rfl, ⟨_, _, _, _, rfl⟩, fun j hj => absurd hj (by omega)⟩
      · rintro i p ρ b' hp' ⟨rfl, ⟨c3, c4, c5, c6, rfl⟩, hI⟩
        have hi : i < ps.length := by have := (List.getElem?_eq_some_iff.mp hp').1; rwa [List.length_range] at this
        obtain rfl : i = p := by rw [List.getElem?_range hi] at hp'; exact Option.some.inj hp'
        have hb : (bindT (.nm 3) (.int (i : Int)) [.im (itD ps), .im (.tup xs), .un, c3, c4, c5, c6]) = some [.im (itD ps), .im (.tup xs), .un, .im (.int i), c4, c5, c6] := rfl
        rw [hb, lft_some, bnd_ret]
        refine run_asg ?_
        simp only [ev_idx, ev_lit, ev_var, getV_succ, getV_zero, bnd_ret, ix_in hi, lft_some, ix_tup0, run_ret]
        show Run (exs P.gl (call P (k - 1)) _ [.im (itD ps), .im (.tup xs), .un, .im (.int i), .im (Rt (zf ps i)), c5, c6]) b' _
        refine run_asg ?_
        simp only [ev_call, evL_cons, evL_nil, ev_idx, ev_lit, ev_var, getV_succ, getV_zero, bnd_ret, ix_in hi, lft_some, ix_tup1, keyt i hi i hi, ixv i hi, key i hi i hi, run_ret]
        show Run (exs P.gl (call P (k - 1)) _ [.im (itD ps), .im (.tup xs), .un, .im (.int i), .im (Rt (zf ps i)), .im (Rt (zf ps i * af ps i - vs.getD i 0)), c6]) b' _
        refine run_iff (run_tst ?_)
        have ea : ev P.gl (call P (k - 1)) (.comp (.call "_law_less" [.var 5, .call "_law_minus" [.call "_law_times" [.var 4, .idx (.idx (.var 0) (.var 6)) (.lit (.int 1))], .idx (.var 1) (.var 6)]]) (.nm 6) .ran [.bi .len [.var 1]] [] [6]) [.im (itD ps), .im (.tup xs), .un, .im (.int i), .im (Rt (zf ps i)), .im (Rt (zf ps i * af ps i - vs.getD i 0)), c6] =
            ret (.lst ((List.range ps.length).map fun j => .bl (decide (zf ps i * af ps i - vs.getD i 0 < zf ps i * af ps j - vs.getD j 0)))) := by
          refine ev_compL (ds := [.int (ps.length : Int)]) (by simp [hlen2, h1]) (ran_map (by omega)) (by rw [List.length_range]; unfold lim; omega) fun j hj => ⟨[.im (itD ps), .im (.tup xs), .un, .im (.int i), .im (Rt (zf ps i)), .im (Rt (zf ps i * af ps i - vs.getD i 0)), .im (.int j)], rfl, ?_⟩
          have hj := List.mem_range.mp hj
          simp only [ev_call, ev_idx, ev_lit, evL_cons, evL_nil, ev_var, getV_succ, getV_zero, bnd_ret, ix_in hj, ix_tup1, ixv j hj, lft_some, keyt i hi j hj, key i hi j hj, keyl i hi j hj]
        simp only [ev_bi, evL_cons, evL_nil, ea, bnd_ret, bfn_anyL, lft_some, run_ret]
        refine ⟨_, rfl, ?_⟩
        cases hany : (List.range ps.length).any fun q => decide (zf ps i * af ps i - vs.getD i 0 < zf ps i * af ps q - vs.getD q 0) with
        | true =>
          rw [if_pos rfl]
          refine run_rt ?_
          simp only [ev_lit, run_ret]
          refine ⟨?_, by trivial⟩
          congr 1
          symm
          rw [List.all_eq_false]
          exact ⟨i, List.mem_range.mpr hi, by rw [hany]; decide⟩
        | false =>
          rw [if_neg (by decide)]
          refine run_exs_nil.mpr (run_exs_nil.mpr ?_)
          refine ⟨rfl, ⟨_, _, _, _, rfl⟩, fun j hj hjl => ?_⟩
          by_cases hji : j < i
          · exact hI j hji hjl
          · have : j = i := by omega
            subst this
            exact hany
      · rintro ρ b' ⟨rfl, ⟨c3, c4, c5, c6, rfl⟩, hI⟩
        refine run_rt ?_
        simp only [ev_lit, run_ret]
        refine ⟨?_, by trivial⟩
        congr 1
        symm
        rw [List.all_eq_true]
        intro j hj
        have hj := List.mem_range.mp hj
        rw [hI j (by rw [List.length_range]; exact hj) hj]
        rfl
  | _ => cases ht
end K86

set_option autoImplicit false
set_option linter.all false
set_option maxRecDepth 100000
set_option maxHeartbeats 2000000
set_option exponentiation.threshold 20000
/-! MK86d: falls, prices told, what comes in, the best cut. -/
namespace PL
section
variable {β : Type} {gl : String → Option D} {F : String → List D → M β D} {ρ : Env} {b : β}
theorem run_own {i : Nat} {e : E} {r : List S} {xs : List D} {Q : Fl × Env → β → Prop} (he : ev gl F e ρ = ret (.lst xs)) (h : Run (exs gl F r (ρ.set i (.ow xs))) b Q) : Run (exs gl F (.own i e :: r) ρ) b Q := by
  rw [run_exs_cons]
  simp only [ex, he, bnd_ret, asL, lft_some, nxt]
  exact run_ret.mpr h
theorem run_app {i : Nat} {e : E} {r : List S} {xs : List D} {Q : Fl × Env → β → Prop} (ho : (getO ρ i : M β (List D)) = ret xs) (hl : xs.length < lim) (h : Run (ev gl F e ρ) b (fun v b' => Run (exs gl F r (ρ.set i (.ow (xs ++ [v])))) b' Q)) : Run (exs gl F (.app i e :: r) ρ) b Q := by
  rw [run_exs_cons]
  simp only [ex, ho, bnd_ret]
  rw [run_bnd]
  refine h.mono fun v b' q => ?_
  rw [if_pos hl]
  exact run_ret.mpr q
end
theorem ix_last {xs : List D} {v : D} : idx (.lst (xs ++ [v])) (.int (-1)) = some v := by
  show pyIx (xs ++ [v]) (-1) = _
  unfold pyIx
  rw [if_neg (by decide), if_pos (by rw [List.length_append]; simp; omega)]
  have : (-1 + ((xs ++ [v]).length : Int)).toNat = xs.length := by rw [List.length_append]; simp; omega
  rw [this]
  simp
/-- places of falls -/
def fallsL (ps : List In) : List Nat := (List.range (ps.length - 1)).filter fun i => decide (af ps (i + 1) < af ps i)
def ffD (ps : List In) : D := match fallsL ps with
  | [] => .non
  | i :: _ => .int ((i + 1 : Nat) : Int)
/-- prices told one after the other -/
def gP (z a : Nat → Rat) (f : Rat) : Nat → Rat
  | 0 => f
  | k + 1 => gP z a f k + z (k + 1) * (a (k + 1) - a k)
/-- the first of the greatest -/
def bc (I : Nat → Rat) : Nat → Nat × Rat
  | 0 => (0, I 0)
  | i + 1 => if (bc I i).2 < I (i + 1) then (i + 1, I (i + 1)) else bc I i
theorem bc_spec (I : Nat → Rat) : ∀ i, (bc I i).1 ≤ i ∧ (bc I i).2 = I (bc I i).1 ∧ (∀ j, j ≤ i → I j ≤ (bc I i).2) ∧ ∀ j, j < (bc I i).1 → I j < (bc I i).2
  | 0 => ⟨Nat.le_refl _, rfl, fun j hj => by
      have : j = 0 := by omega
      subst this; exact Rat.le_refl, fun j hj => absurd hj (by simp [bc])⟩
  | i + 1 => by
    obtain ⟨h1, h2, h3, h4⟩ := bc_spec I i
    unfold bc
    by_cases h : (bc I i).2 < I (i + 1)
    · rw [if_pos h]
      refine ⟨Nat.le_refl _, rfl, fun j hj => ?_, fun j hj => ?_⟩
      · by_cases hj2 : j ≤ i
        · have := h3 j hj2; grind
        · have : j = i + 1 := by omega
          subst this; exact Rat.le_refl
      · have := h3 j (by simp at hj; omega); grind
    · rw [if_neg h]
      refine ⟨by omega, h2, fun j hj => ?_, h4⟩
      by_cases hj2 : j ≤ i
      · exact h3 j hj2
      · have : j = i + 1 := by omega
        subst this; grind
end PL
namespace K86
open PL
variable {k c l n : Nat}
structure Bq (ps : List In) : Prop where
  len : ps.length ≤ 6
  pos : 1 ≤ ps.length
  bz : ∀ p ∈ ps, Bz 38 p.1 ∧ Bz 23 p.2
theorem Bq.bs {ps : List In} (h : Bq ps) : Bs ps := fun p hp => ⟨(h.bz p hp).1.mono (by decide), (h.bz p hp).2.mono (by decide)⟩
theorem Bq.z {ps : List In} (h : Bq ps) {i : Nat} (hi : i < ps.length) : Bz 38 (zf ps i) := by
  unfold zf; rw [getD_at hi]; exact (h.bz _ (List.getElem_mem hi)).1
theorem Bq.a {ps : List In} (h : Bq ps) {i : Nat} (hi : i < ps.length) : Bz 23 (af ps i) := by
  unfold af; rw [getD_at hi]; exact (h.bz _ (List.getElem_mem hi)).2
theorem len_itD {ps : List In} : bfn .len [itD ps] = some (.int ps.length) := by show some (D.int ((ps.map pr).length : Nat)) = _; rw [List.length_map]
theorem int_pred {i : Nat} : ((i + 1 : Nat) : Int) - 1 = (i : Int) := by omega
theorem int_suc {i : Nat} : ((1 + i : Nat) : Int) = ((i + 1 : Nat) : Int) := by omega
theorem s_first_fall (hk : 2 ≤ k) {ps : List In} (hp : Bq ps) : call P k "first_fall" [itD ps] = ret (ffD ps) := by
  refine eq_ret fun b => run_call (fd rfl rfl : Fnd P "first_fall" f_first_fall) (by omega) rfl (ρ0 := [.im (itD ps), .un]) rfl ?_
  show Run (exs P.gl (call P (k - 1)) (.fr _ _ _ _ :: .ret _ :: []) _) b _
  rw [run_exs_cons]
  have hr := ran2_map (a := 1) (b := ps.length) (by have := hp.len; omega) (by decide)
  simp only [ex, evL_cons, evL_nil, ev_lit, ev_bi, ev_var, getV_succ, getV_zero, bnd_ret, len_itD, lft_some]
  rw [show iter .ran [.int 1, .int (ps.length : Int)] = _ from hr, lft_some, bnd_ret]
  refine run_forL (fun i ρ b' => b' = b ∧ (∃ c, ρ = [.im (itD ps), c]) ∧ ∀ j, j < i → decide (af ps (j + 1) < af ps j) = false) ?_ ?_ ⟨rfl, ⟨_, rfl⟩, fun j hj => absurd hj (by omega)⟩
  · rintro i x ρ b' hx ⟨rfl, ⟨c, rfl⟩, hI⟩
    have hi : i < ps.length - 1 := by have := (List.getElem?_eq_some_iff.mp hx).1; rwa [List.length_range] at this
    obtain rfl : i = x := by rw [List.getElem?_range hi] at hx; exact Option.some.inj hx
    show Run (exs P.gl (call P (k - 1)) _ [.im (itD ps), .im (.int ((1 + i : Nat) : Int))]) b' _
    refine run_iff (run_tst ?_)
    have e1 := ix_in (ps := ps) (i := i + 1) (by omega)
    have e2 := ix_in (ps := ps) (i := i) (by omega)
    simp only [ev_call, evL_cons, evL_nil, ev_idx, ev_bin, ev_lit, ev_var, getV_succ, getV_zero, bnd_ret, bop_subI, int_pred, int_suc, e1, e2, lft_some, ix_tup1,
      s_less rats (show 1 ≤ k - 1 by omega) ((hp.a (show i + 1 < ps.length by omega)).sz (by decide)) ((hp.a (show i < ps.length by omega)).sz (by decide)), run_ret]
    refine ⟨_, rfl, ?_⟩
    by_cases hlt : af ps (i + 1) < af ps i
    · rw [decide_eq_true hlt, if_pos rfl]
      refine run_rt ?_
      simp only [ev_var, getV_succ, getV_zero, run_ret]
      refine ⟨?_, by trivial⟩
      have hf : (fallsL ps).head? = some i := by
        unfold fallsL
        rw [List.head?_filter, List.find?_range_eq_some]
        exact ⟨decide_eq_true hlt, List.mem_range.mpr hi, fun j hj => by rw [hI j hj]; rfl⟩
      unfold ffD
      cases hfl : fallsL ps with
      | nil => rw [hfl] at hf; cases hf
      | cons j r => rw [hfl] at hf; cases hf; rfl
    · rw [decide_eq_false hlt, if_neg (by decide)]
      refine run_exs_nil.mpr (run_exs_nil.mpr ?_)
      refine ⟨rfl, ⟨_, rfl⟩, fun j hj => ?_⟩
      by_cases hji : j < i
      · exact hI j hji
      · have : j = i := by omega
        subst this
        exact decide_eq_false hlt
  · rintro ρ b' ⟨rfl, ⟨c, rfl⟩, hI⟩
    refine run_rt ?_
    simp only [ev_lit, run_ret]
    refine ⟨?_, by trivial⟩
    have : fallsL ps = [] := by
      unfold fallsL
      rw [List.filter_eq_nil_iff]
      intro j hj
      rw [hI j (by rwa [List.length_range, ← List.mem_range])]
      decide
    unfold ffD
    rw [this]
theorem gP_bz {ps : List In} (hp : Bq ps) {f : Rat} (hf : Bz 61 f) {z : Nat → Rat} (hz : ∀ i, i < ps.length → Bz 38 (z i)) : ∀ i, i < ps.length → Bz (61 + 86 * i) (gP z (af ps) f i)
  | 0, _ => hf
  | i + 1, hi => by
    unfold gP
    refine ((gP_bz hp hf hz i (by omega)).add ((hz (i + 1) hi).mul ((hp.a hi).sub (hp.a (show i < ps.length by omega))))).mono ?_
    omega
theorem s_prices_by (hk : 4 ≤ k) {ps : List In} (hp : Bq ps) {f : Rat} (hf : Bz 61 f) (ah : Bool) : call P k "prices_by" [itD ps, Rt f, .bl ah] = ret (.tup ((List.range ps.length).map fun i => Rt (gP (if ah = true then fun k => zf ps (k - 1) else zf ps) (af ps) f i))) := by
  generalize hz : (if ah = true then fun k => zf ps (k - 1) else zf ps) = z
  have hzb : ∀ i, i < ps.length → Bz 38 (z i) := fun i hi => by
    rw [← hz]
    cases ah with
    | true => exact hp.z (i := i - 1) (by omega)
    | false => exact hp.z hi
  have hlen := hp.len
  refine eq_ret fun b => run_call (fd rfl rfl : Fnd P "prices_by" f_prices_by) (by omega) rfl (ρ0 := [.im (itD ps), .im (Rt f), .im (.bl ah), .un, .un, .un]) rfl ?_
  show Run (exs P.gl (call P (k - 1)) (.own _ _ :: .fr _ _ _ _ :: .ret _ :: []) _) b _
  refine run_own (xs := [Rt f]) (by simp [lim]) ?_
  show Run (exs P.gl (call P (k - 1)) (.fr _ _ _ _ :: .ret _ :: []) [.im (itD ps), .im (Rt f), .im (.bl ah), .ow [Rt f], .un, .un]) b _
  rw [run_exs_cons]
  have hr := ran2_map (a := 1) (b := ps.length) (by omega) (by decide)
  simp only [ex, evL_cons, evL_nil, ev_lit, ev_bi, ev_var, getV_succ, getV_zero, bnd_ret, len_itD, lft_some]
  rw [show iter .ran [.int 1, .int (ps.length : Int)] = _ from hr, lft_some, bnd_ret]
  refine run_forL (fun i ρ b' => b' = b ∧ ∃ c4 c5, ρ = [.im (itD ps), .im (Rt f), .im (.bl ah), .ow ((List.range (i + 1)).map fun j => Rt (gP z (af ps) f j)), c4, c5]) ?_ ?_ ⟨rfl, _, _, rfl⟩
  · rintro i x ρ b' hx ⟨rfl, c4, c5, rfl⟩
    have hi : i < ps.length - 1 := by have := (List.getElem?_eq_some_iff.mp hx).1; rwa [List.length_range] at this
    obtain rfl : i = x := by rw [List.getElem?_range hi] at hx; exact Option.some.inj hx
    have h1 : i + 1 < ps.length := by omega
    have h0 : i < ps.length := by omega
    show Run (exs P.gl (call P (k - 1)) _ [.im (itD ps), .im (Rt f), .im (.bl ah), .ow _, .im (.int ((1 + i : Nat) : Int)), c5]) b' _
    refine run_asg ?_
    simp only [ev_call, evL_cons, evL_nil, ev_idx, ev_bin, ev_lit, ev_var, getV_succ, getV_zero, bnd_ret, bop_subI, int_pred, int_suc, ix_in h1, ix_in h0, lft_some, ix_tup1,
      s_minus rats (show 3 ≤ k - 1 by omega) ((hp.a h1).sz (by decide)) ((hp.a h0).sz (by decide)), run_ret]
    show Run (exs P.gl (call P (k - 1)) _ [.im (itD ps), .im (Rt f), .im (.bl ah), .ow _, .im (.int ((i + 1 : Nat) : Int)), .im (Rt (af ps (i + 1) - af ps i))]) b' _
    refine run_app (xs := (List.range (i + 1)).map fun j => Rt (gP z (af ps) f j)) rfl (by simp [lim]; omega) ?_
    have elast : idx (.lst ((List.range (i + 1)).map fun j => Rt (gP z (af ps) f j))) (.int (-1)) = some (Rt (gP z (af ps) f i)) := by
      rw [List.range_succ, List.map_append]
      exact ix_last
    have ez : ev P.gl (call P (k - 1)) (.idx (.idx (.var 0) (.ite (.var 2) (.bin .sub (.var 4) (.lit (.int 1))) (.var 4))) (.lit (.int 0))) [.im (itD ps), .im (Rt f), .im (.bl ah), .ow ((List.range (i + 1)).map fun j => Rt (gP z (af ps) f j)), .im (.int ((i + 1 : Nat) : Int)), .im (Rt (af ps (i + 1) - af ps i))] = ret (Rt (z (i + 1))) := by
      have hpred : ((i + 1 : Nat) : Int) - 1 = (i : Int) := by omega
      rw [← hz]
      cases ah with
      | true => simp only [ev_idx, ev_ite, ev_bin, ev_lit, ev_var, getV_succ, getV_zero, bnd_ret, truth_bl, if_true, bop_subI, hpred, ix_in h0, lft_some, ix_tup0]; rfl
      | false => simp only [ev_idx, ev_ite, ev_bin, ev_lit, ev_var, getV_succ, getV_zero, bnd_ret, truth_bl, if_false, Bool.false_eq_true, ix_in h1, lft_some, ix_tup0]
    have hd := (hp.a h1).sub (hp.a h0)
    have ew : ∀ F' : List D → M Tp D, True := fun _ => trivial
    simp only [ev_call, evL_cons, evL_nil, ez, ev_neg, ev_lit, bnd_ret, toI_int, lft_some, ev_var, getV_succ, getV_zero]
    have e0 : ev P.gl (call P (k - 1)) (.idx (.bvar 3) (.neg (.lit (.int 1)))) [.im (itD ps), .im (Rt f), .im (.bl ah), .ow ((List.range (i + 1)).map fun j => Rt (gP z (af ps) f j)), .im (.int ((i + 1 : Nat) : Int)), .im (Rt (af ps (i + 1) - af ps i))] = ret (Rt (gP z (af ps) f i)) := by
      simp only [ev_idx, ev_neg, ev_lit, ev_bvar, getB_succ, getB_ow, bnd_ret, toI_int, lft_some]
      exact congrArg lft elast
    rw [e0]
    simp only [bnd_ret, s_times rats (show 3 ≤ k - 1 by omega) ((hzb _ h1).sz (by decide)) (hd.sz (by decide))]
    have hg := gP_bz hp hf hzb i h0
    rw [s_plus rats (show 3 ≤ k - 1 by omega) (hg.sz (by omega)) (((hzb _ h1).mul hd).sz (by decide)), run_ret]
    refine run_exs_nil.mpr ⟨rfl, .im (.int ((i + 1 : Nat) : Int)), .im (Rt (af ps (i + 1) - af ps i)), ?_⟩
    rw [List.range_succ (n := i + 1), List.map_append]
    rfl
  · rintro ρ b' ⟨rfl, c4, c5, rfl⟩
    refine run_rt ?_
    have hl : (List.range (ps.length - 1)).length + 1 = ps.length := by rw [List.length_range]; have := hp.pos; omega
    rw [hl]
    simp only [ev_bi, evL_cons, evL_nil, ev_bvar, getB_succ, getB_ow, bnd_ret, bfn, lft_some, run_ret]
    exact ⟨by trivial, by trivial⟩
end K86

set_option autoImplicit false
set_option linter.all false
set_option maxRecDepth 100000
set_option maxHeartbeats 2000000
set_option exponentiation.threshold 20000
/-! MK86e: what the program tells. -/
namespace PL
theorem rangeSucc {n : Nat} (h : 1 ≤ n) : ∃ m, n = m + 1 := ⟨n - 1, by omega⟩
def topD (ps : List In) : List D := (List.range ps.length).map fun i => Rt (gP (zf ps) (af ps) (zf ps 0 * af ps 0) i)
def lowD (ps : List In) : List D := (List.range ps.length).map fun i => Rt (gP (fun k => zf ps (k - 1)) (af ps) 0 i)
def toldD (ps : List In) : D := match fallsL ps with
  | [] => .tup [.str "prices", .tup (topD ps)]
  | i :: _ => .tup [.str "falls", .int ((i + 1 : Nat) : Int)]
/-- incomes by the cuts -/
def incF (ps : List In) (ss : List Rat) (i : Nat) : Rat := zf ps i * sm (ss.drop i)
end PL
namespace K86
open PL
variable {k c l n : Nat}
theorem s_told (hk : 5 ≤ k) {ps : List In} (hp : Bq ps) : call P k "intent_prices" [itD ps] = ret (toldD ps) := by
  have e1 := s_first_fall (show 2 ≤ k - 1 by omega) hp
  have h0 : 0 < ps.length := hp.pos
  cases hf : fallsL ps with
  | nil =>
    have eD : ffD ps = .non := by unfold ffD; rw [hf]
    have eT : toldD ps = .tup [.str "prices", .tup (topD ps)] := by unfold toldD; rw [hf]
    rw [eD] at e1
    rw [eT]
    refine s_of (fd rfl rfl : Fnd P "intent_prices" f_intent_prices) (by omega) rfl (ρ0 := [.im (itD ps), .un]) rfl ((exs_asg (d := .non) (by simp only [ev_call, evL_cons, evL_nil, ev_var, getV_zero, bnd_ret, e1])).trans ((exs_F (by simp [isSame])).trans (exs_rt ?_))) (ρ1 := [.im (itD ps), .im .non])
    have e2 := s_times rats (show 3 ≤ k - 1 by omega) ((hp.z h0).sz (by decide)) ((hp.a h0).sz (by decide))
    have e3 := s_prices_by (show 4 ≤ k - 1 by omega) hp ((hp.z h0).mul (hp.a h0)) false
    have i0 := ix_in (ps := ps) h0
    rw [show ((0 : Nat) : Int) = 0 from rfl] at i0
    show ev P.gl (call P (k - 1)) _ [.im (itD ps), .im .non] = _
    simp only [ev_tup, evL_cons, evL_nil, ev_lit, ev_call, ev_idx, ev_var, getV_zero, getV_succ, bnd_ret, i0, lft_some, ix_tup0, ix_tup1, e2, e3]
    rw [if_pos (by simp [lim])]
    rfl
  | cons i r =>
    have eD : ffD ps = .int ((i + 1 : Nat) : Int) := by unfold ffD; rw [hf]
    have eT : toldD ps = .tup [.str "falls", .int ((i + 1 : Nat) : Int)] := by unfold toldD; rw [hf]
    rw [eD] at e1
    rw [eT]
    refine s_of (fd rfl rfl : Fnd P "intent_prices" f_intent_prices) (by omega) rfl (ρ0 := [.im (itD ps), .un]) rfl ((exs_asg (d := .int ((i + 1 : Nat) : Int)) (by simp only [ev_call, evL_cons, evL_nil, ev_var, getV_zero, bnd_ret, e1])).trans (exs_T (by simp [isSame]) (exs_rt ?_))) (ρ1 := [.im (itD ps), .im (.int ((i + 1 : Nat) : Int))])
    show ev P.gl (call P (k - 1)) _ [.im (itD ps), .im (.int ((i + 1 : Nat) : Int))] = _
    simp only [ev_tup, evL_cons, evL_nil, ev_lit, ev_var, getV_zero, getV_succ, bnd_ret]
    rw [if_pos (by simp [lim])]
theorem s_least (hk : 5 ≤ k) {ps : List In} (hp : Bq ps) : call P k "least_intent_prices" [itD ps] = ret (.tup (lowD ps)) := by
  have e3 := s_prices_by (show 4 ≤ k - 1 by omega) hp (Bz.zero (n := 61) (by decide)) true
  refine s_of (fd rfl rfl : Fnd P "least_intent_prices" f_least_intent_prices) (by omega) rfl (ρ0 := [.im (itD ps)]) rfl (exs_rt ?_)
  simp only [ev_call, evL_cons, evL_nil, ev_lit, ev_glob, zero, ev_var, getV_zero, bnd_ret, lft_some, e3]
  rfl
theorem s_taken_in (hk : 5 ≤ k) {ss vs : List Rat} (hs : ∀ x ∈ ss, Bz 4 x) (hv : ∀ x ∈ vs, Bz 491 x) (hl : ss.length ≤ 6) : call P k "taken_in" [.tup (ss.map Rt), .tup (vs.map Rt)] = ret (Rt (sm ((ss.zip vs).map fun p => p.1 * p.2))) := by
  refine s_of (fd rfl rfl : Fnd P "taken_in" f_taken_in) (by omega) rfl (ρ0 := [.im (.tup (ss.map Rt)), .im (.tup (vs.map Rt)), .un, .un]) rfl (exs_rt ?_)
  have hz : (ss.zip vs).length ≤ 6 := by rw [List.length_zip]; omega
  have ec : ev P.gl (call P (k - 1)) (.comp (.call "times" [.var 2, .var 3]) (.tu [.nm 2, .nm 3]) .zip [.var 0, .var 1] [] [2, 3]) [.im (.tup (ss.map Rt)), .im (.tup (vs.map Rt)), .un, .un] = ret (.lst ((ss.zip vs).map fun p => Rt (p.1 * p.2))) := by
    refine ev_compL (ds := [.tup (ss.map Rt), .tup (vs.map Rt)]) (by simp) iter_zip (by unfold lim; omega) fun q hq => ⟨[.im (.tup (ss.map Rt)), .im (.tup (vs.map Rt)), .im (Rt q.1), .im (Rt q.2)], rfl, ?_⟩
    have hm := List.of_mem_zip (show (q.1, q.2) ∈ ss.zip vs from hq)
    simp only [ev_call, evL_cons, evL_nil, ev_var, getV_zero, getV_succ, bnd_ret]
    exact s_times rats (show 3 ≤ k - 1 by omega) ((hs _ hm.1).sz (by decide)) ((hv _ hm.2).sz (by decide))
  simp only [ev_call, evL_cons, evL_nil, ec, bnd_ret]
  refine s_sum_of (fd rfl rfl) zero rats (show 4 ≤ k - 1 by omega) (xs := (ss.zip vs).map fun p => p.1 * p.2) (m := 495) ?_ ?_ ?_
  · show some _ = _
    rw [List.map_map]; rfl
  · rw [List.length_map]; omega
  · intro x hx
    obtain ⟨q, hq, rfl⟩ := List.mem_map.mp hx
    have hm := List.of_mem_zip (show (q.1, q.2) ∈ ss.zip vs from hq)
    exact (hs _ hm.1).mul (hv _ hm.2)
theorem drop_sl {ss : List Rat} {i : Nat} (h : i ≤ ss.length) : sli (some (i : Int)) none (.tup (ss.map Rt)) = some (.tup ((ss.drop i).map Rt)) := by
  simp only [sli]
  rw [cut_from (by rw [List.length_map]; exact h), List.map_drop]
theorem sm_drop {ss : List Rat} (hs : ∀ x ∈ ss, Bz 4 x) (hl : ss.length ≤ 6) (i : Nat) : Bz 31 (sm (ss.drop i)) := by
  refine (Bz.sm (m := 4) fun x hx => hs x (List.mem_of_mem_drop hx)).mono ?_
  rw [List.length_drop]; omega
theorem inc_bz {ps : List In} (hp : Bq ps) {ss : List Rat} (hs : ∀ x ∈ ss, Bz 4 x) (hl : ss.length ≤ 6) {i : Nat} (hi : i < ps.length) : Bz 69 (incF ps ss i) := (hp.z hi).mul (sm_drop hs hl i)
theorem s_best_cut (hk : 6 ≤ k) {ps : List In} (hp : Bq ps) {ss : List Rat} (hs : ∀ x ∈ ss, Bz 4 x) (hl : ss.length = ps.length) :
    call P k "best_cut" [itD ps, .tup (ss.map Rt)] = ret (.tup [.int ((bc (incF ps ss) (ps.length - 1)).1 : Int), Rt (bc (incF ps ss) (ps.length - 1)).2]) := by
  have hlen := hp.len
  refine eq_ret fun b => run_call (fd rfl rfl : Fnd P "best_cut" f_best_cut) (by omega) rfl (ρ0 := [.im (itD ps), .im (.tup (ss.map Rt)), .un, .un, .un, .un, .un]) rfl ?_
  show Run (exs P.gl (call P (k - 1)) (.asg _ _ :: .fr _ _ _ _ :: .ret _ :: []) _) b _
  refine run_asg ?_
  simp only [ev_lit, run_ret]
  show Run (exs P.gl (call P (k - 1)) (.fr _ _ _ _ :: .ret _ :: []) [.im (itD ps), .im (.tup (ss.map Rt)), .im .non, .un, .un, .un, .un]) b _
  rw [run_exs_cons]
  simp only [ex, evL_cons, evL_nil, ev_var, getV_succ, getV_zero, bnd_ret]
  have hit : iter .enu [itD ps] = some ((ps.zipIdx 0).map fun p => .tup [.int (p.2 : Int), pr p.1]) := by
    show some (enuD 0 (ps.map pr)) = _
    rw [enu_map]
  rw [hit, lft_some, bnd_ret]
  let bD : Nat → D := fun i => match i with
    | 0 => .non
    | i + 1 => .tup [.int ((bc (incF ps ss) i).1 : Int), Rt (bc (incF ps ss) i).2]
  refine run_forL (fun i ρ b' => b' = b ∧ ∃ c3 c4 c5 c6, ρ = [.im (itD ps), .im (.tup (ss.map Rt)), .im (bD i), c3, c4, c5, c6]) ?_ ?_ ⟨rfl, _, _, _, _, rfl⟩
  · rintro i x ρ b' hx ⟨rfl, c3, c4, c5, c6, rfl⟩
    have hi : i < ps.length := by have := (List.getElem?_eq_some_iff.mp hx).1; rwa [List.length_zipIdx] at this
    have hx2 : x = (ps[i], i) := by
      rw [List.getElem?_zipIdx, List.getElem?_eq_getElem hi] at hx
      simpa using hx.symm
    subst hx2
    have ez : (ps[i]).1 = zf ps i := by unfold zf; rw [getD_at hi]
    have hb : (bindT (.tu [.nm 3, .tu [.nm 4, .nm 5]]) (.tup [.int (i : Int), pr ps[i]]) [.im (itD ps), .im (.tup (ss.map Rt)), .im (bD i), c3, c4, c5, c6]) = some [.im (itD ps), .im (.tup (ss.map Rt)), .im (bD i), .im (.int i), .im (Rt (zf ps i)), .im (Rt (ps[i]).2), c6] := by
      rw [← ez]; rfl
    rw [hb, lft_some, bnd_ret]
    refine run_asg ?_
    have e1 := s_sum_of (fd rfl rfl) zero rats (show 4 ≤ k - 1 by omega) (xs := ss.drop i) (d := .tup ((ss.drop i).map Rt)) rfl (m := 4) (by rw [List.length_drop]; omega) fun x hx => hs x (List.mem_of_mem_drop hx)
    have e2 := s_times rats (show 3 ≤ k - 1 by omega) ((hp.z hi).sz (by decide)) ((sm_drop hs (by omega) i).sz (by decide))
    simp only [ev_call, evL_cons, evL_nil, ev_sl1, ev_var, getV_zero, getV_succ, bnd_ret, toI_int, lft_some, drop_sl (show i ≤ ss.length by omega), e1, e2, run_ret]
    show Run (exs P.gl (call P (k - 1)) _ [.im (itD ps), .im (.tup (ss.map Rt)), .im (bD i), .im (.int i), .im (Rt (zf ps i)), .im (Rt (ps[i]).2), .im (Rt (incF ps ss i))]) b' _
    refine run_iff (run_tst ?_)
    cases i with
    | zero =>
      simp only [ev_or, evO_cons, evO_one, ev_cmp, ev_lit, ev_var, getV_zero, getV_succ, bnd_ret, bD, cop_is, isSame, lft_some, truth_bl, if_true, run_ret]
      refine ⟨true, rfl, ?_⟩
      rw [if_pos rfl]
      refine run_asg ?_
      simp only [ev_tup, evL_cons, evL_nil, ev_var, getV_zero, getV_succ, bnd_ret]
      rw [if_pos (by simp [lim]), run_ret]
      refine run_exs_nil.mpr (run_exs_nil.mpr ⟨rfl, .im (.int 0), .im (Rt (zf ps 0)), .im (Rt (ps[0]).2), .im (Rt (incF ps ss 0)), rfl⟩)
    | succ i =>
      have hbc : Bz 69 (bc (incF ps ss) i).2 := by
        obtain ⟨h1, h2, _⟩ := bc_spec (incF ps ss) i
        rw [h2]
        exact inc_bz hp hs (by omega) (by omega)
      have e3 := s_less rats (show 1 ≤ k - 1 by omega) (hbc.sz (by decide)) ((inc_bz hp hs (by omega) hi).sz (by decide))
      simp only [ev_or, evO_cons, evO_one, ev_cmp, ev_call, ev_idx, evL_cons, evL_nil, ev_lit, ev_var, getV_zero, getV_succ, bnd_ret, bD, cop_is, isSame, lft_some, truth_bl, Bool.false_eq_true, if_false, ix_tup1, e3, run_ret]
      refine ⟨_, rfl, ?_⟩
      by_cases hlt : (bc (incF ps ss) i).2 < incF ps ss (i + 1)
      · rw [decide_eq_true hlt, if_pos rfl]
        refine run_asg ?_
        simp only [ev_tup, evL_cons, evL_nil, ev_var, getV_zero, getV_succ, bnd_ret]
        rw [if_pos (by simp [lim]), run_ret]
        refine run_exs_nil.mpr (run_exs_nil.mpr ⟨rfl, .im (.int ((i + 1 : Nat) : Int)), .im (Rt (zf ps (i + 1))), .im (Rt (ps[i + 1]).2), .im (Rt (incF ps ss (i + 1))), ?_⟩)
        have : bc (incF ps ss) (i + 1) = (i + 1, incF ps ss (i + 1)) := by unfold bc; rw [if_pos hlt]
        simp only [bD, this]
        rfl
      · rw [decide_eq_false hlt, if_neg (by decide)]
        refine run_exs_nil.mpr (run_exs_nil.mpr ⟨rfl, .im (.int ((i + 1 : Nat) : Int)), .im (Rt (zf ps (i + 1))), .im (Rt (ps[i + 1]).2), .im (Rt (incF ps ss (i + 1))), ?_⟩)
        have : bc (incF ps ss) (i + 1) = bc (incF ps ss) i := by
          show (if (bc (incF ps ss) i).2 < incF ps ss (i + 1) then (i + 1, incF ps ss (i + 1)) else bc (incF ps ss) i) = _
          rw [if_neg hlt]
        simp only [bD, this]
  · rintro ρ b' ⟨rfl, c3, c4, c5, c6, rfl⟩
    refine run_rt ?_
    have : (ps.zipIdx 0).length = (ps.length - 1) + 1 := by rw [List.length_zipIdx]; have := hp.pos; omega
    rw [this]
    simp only [ev_var, getV_succ, getV_zero, run_ret, bD]
    exact ⟨by trivial, by trivial⟩
end K86

set_option autoImplicit false
set_option linter.all false
set_option maxRecDepth 100000
set_option maxHeartbeats 2000000
set_option exponentiation.threshold 20000
/-! MK86f: the plain law. -/
namespace PL
theorem mul_le {a b c : Rat} (h : a ≤ b) (hc : 0 ≤ c) : a * c ≤ b * c := Rat.mul_le_mul_of_nonneg_right h hc
/-- all of what is told of a row of intents -/
structure Ri (ps : List In) : Prop where
  up : ∀ i, i + 1 < ps.length → zf ps i < zf ps (i + 1)
  z0 : 0 ≤ zf ps 0
  a0 : ∀ i, i < ps.length → 0 ≤ af ps i
theorem Ri.mono {ps : List In} (h : Ri ps) {i : Nat} : ∀ {j : Nat}, i ≤ j → j < ps.length → zf ps i ≤ zf ps j
  | 0, hij, _ => by
    have : i = 0 := by omega
    subst this; exact Rat.le_refl
  | j + 1, hij, hj => by
    by_cases e : i = j + 1
    · subst e; exact Rat.le_refl
    · have h1 := Ri.mono h (i := i) (j := j) (by omega) (by omega)
      have h2 := h.up j hj
      grind
section
variable {z a w : Nat → Rat} {f : Rat} {n : Nat}
/-- between: nobody gains by another's -/
theorem ic_up (ha : ∀ i, i + 1 < n → a i ≤ a (i + 1)) (zi : Rat) {i : Nat} : ∀ {j : Nat}, i ≤ j → j < n → (∀ k, i < k → k ≤ j → zi ≤ w k) → zi * (a j - a i) ≤ gP w a f j - gP w a f i
  | 0, hij, _, _ => by
    have : i = 0 := by omega
    subst this; grind
  | j + 1, hij, hj, hw => by
    by_cases e : i = j + 1
    · subst e; grind
    · have h1 := ic_up ha zi (i := i) (j := j) (by omega) (by omega) fun k h1 h2 => hw k h1 (by omega)
      have h2 := mul_le (hw (j + 1) (by omega) (Nat.le_refl _)) (show 0 ≤ a (j + 1) - a j by have := ha j hj; grind)
      have h3 : gP w a f (j + 1) = gP w a f j + w (j + 1) * (a (j + 1) - a j) := rfl
      rw [h3]
      grind
theorem ic_dn (ha : ∀ i, i + 1 < n → a i ≤ a (i + 1)) (zi : Rat) {i : Nat} : ∀ {j : Nat}, i ≤ j → j < n → (∀ k, i < k → k ≤ j → w k ≤ zi) → gP w a f j - gP w a f i ≤ zi * (a j - a i)
  | 0, hij, _, _ => by
    have : i = 0 := by omega
    subst this; grind
  | j + 1, hij, hj, hw => by
    by_cases e : i = j + 1
    · subst e; grind
    · have h1 := ic_dn ha zi (i := i) (j := j) (by omega) (by omega) fun k h1 h2 => hw k h1 (by omega)
      have h2 := mul_le (hw (j + 1) (by omega) (Nat.le_refl _)) (show 0 ≤ a (j + 1) - a j by have := ha j hj; grind)
      have h3 : gP w a f (j + 1) = gP w a f j + w (j + 1) * (a (j + 1) - a j) := rfl
      rw [h3]
      grind
end
def NoFall (ps : List In) : Prop := ∀ i, i + 1 < ps.length → af ps i ≤ af ps (i + 1)
theorem noFall_of {ps : List In} (h : fallsL ps = []) : NoFall ps := by
  intro i hi
  unfold fallsL at h
  rw [List.filter_eq_nil_iff] at h
  have := h i (List.mem_range.mpr (by omega))
  simp only [decide_eq_true_eq] at this
  grind
theorem getD_map {g : Nat → Rat} {n i : Nat} (h : i < n) : ((List.range n).map g).getD i 0 = g i := by
  rw [getD_at (by simpa using h)]
  simp
theorem arP_G {ps : List In} (h : Ri ps) (ha : NoFall ps) {w : Nat → Rat} {f : Rat} (h1 : ∀ k, k + 1 < ps.length → zf ps k ≤ w (k + 1)) (h2 : ∀ k, k + 1 < ps.length → w (k + 1) ≤ zf ps (k + 1)) :
    arP ps ((List.range ps.length).map (gP w (af ps) f)) = true := by
  rw [arP_at (by simp)]
  rw [List.all_eq_true]
  intro i hi
  have hi := List.mem_range.mp hi
  rw [Bool.not_eq_true', List.any_eq_false]
  intro j hj
  have hj := List.mem_range.mp hj
  rw [getD_map hi, getD_map hj, decide_eq_true_eq]
  intro hlt
  by_cases hij : i ≤ j
  · have := ic_up (f := f) (n := ps.length) ha (zf ps i) hij hj fun k hk1 hk2 => by
      obtain ⟨m, rfl⟩ : ∃ m, k = m + 1 := ⟨k - 1, by omega⟩
      exact Rat.le_trans (h.mono (show i ≤ m by omega) (by omega)) (h1 m (by omega))
    grind
  · have := ic_dn (f := f) (n := ps.length) ha (zf ps i) (show j ≤ i by omega) hi fun k hk1 hk2 => by
      obtain ⟨m, rfl⟩ : ∃ m, k = m + 1 := ⟨k - 1, by omega⟩
      exact Rat.le_trans (h2 m (by omega)) (h.mono (show m + 1 ≤ i by omega) hi)
    grind
def topR (ps : List In) (i : Nat) : Rat := gP (zf ps) (af ps) (zf ps 0 * af ps 0) i
def lowR (ps : List In) (i : Nat) : Rat := gP (fun k => zf ps (k - 1)) (af ps) 0 i
theorem ic_top {ps : List In} (h : Ri ps) (ha : NoFall ps) : arP ps ((List.range ps.length).map (topR ps)) = true :=
  arP_G h ha (fun k hk => by have := h.up k hk; grind) fun k hk => Rat.le_refl
theorem ic_low {ps : List In} (h : Ri ps) (ha : NoFall ps) : arP ps ((List.range ps.length).map (lowR ps)) = true :=
  arP_G h ha (fun k hk => by show zf ps k ≤ zf ps (k + 1 - 1); rw [Nat.add_sub_cancel]; exact Rat.le_refl) fun k hk => by
    show zf ps (k + 1 - 1) ≤ zf ps (k + 1)
    rw [Nat.add_sub_cancel]
    have := h.up k hk; grind
theorem low_top {ps : List In} (h : Ri ps) (ha : NoFall ps) : ∀ i, i < ps.length → lowR ps i ≤ topR ps i
  | 0, hi => by
    show (0 : Rat) ≤ zf ps 0 * af ps 0
    exact Rat.mul_nonneg h.z0 (h.a0 0 hi)
  | i + 1, hi => by
    have ih := low_top h ha i (by omega)
    have h1 : lowR ps (i + 1) = lowR ps i + zf ps i * (af ps (i + 1) - af ps i) := rfl
    have h2 : topR ps (i + 1) = topR ps i + zf ps (i + 1) * (af ps (i + 1) - af ps i) := rfl
    have h3 := mul_le (show zf ps i ≤ zf ps (i + 1) by have := h.up i hi; grind) (show 0 ≤ af ps (i + 1) - af ps i by have := ha i hi; grind)
    rw [h1, h2]
    grind
theorem top_le {ps : List In} (h : Ri ps) : ∀ i, i < ps.length → topR ps i ≤ zf ps i * af ps i
  | 0, hi => Rat.le_refl
  | i + 1, hi => by
    have ih := top_le h i (by omega)
    have h2 : topR ps (i + 1) = topR ps i + zf ps (i + 1) * (af ps (i + 1) - af ps i) := rfl
    have h3 := mul_le (show zf ps i ≤ zf ps (i + 1) by have := h.up i hi; grind) (h.a0 i (by omega))
    rw [h2]
    grind
theorem arP_not {ps : List In} {vs : List Rat} (hl : vs.length = ps.length) {i j : Nat} (hi : i < ps.length) (hj : j < ps.length) (h : zf ps i * af ps i - vs.getD i 0 < zf ps i * af ps j - vs.getD j 0) : arP ps vs = false := by
  rw [arP_at hl, List.all_eq_false]
  refine ⟨i, List.mem_range.mpr hi, ?_⟩
  rw [Bool.not_eq_true', Bool.not_eq_false, List.any_eq_true]
  exact ⟨j, List.mem_range.mpr hj, by rw [decide_eq_true h]⟩
/-- amounts that fall have no prices -/
theorem no_prices {ps : List In} (h : Ri ps) {vs : List Rat} (hl : vs.length = ps.length) {i : Nat} {r : List Nat} (hf : fallsL ps = i :: r) : arP ps vs = false := by
  have hm : i ∈ fallsL ps := by rw [hf]; exact List.mem_cons_self
  unfold fallsL at hm
  obtain ⟨h1, h2⟩ := List.mem_filter.mp hm
  have h1 := List.mem_range.mp h1
  have h2 : af ps (i + 1) < af ps i := by simpa using h2
  have h3 := h.up i (by omega)
  by_cases hc : zf ps i * af ps i - vs.getD i 0 < zf ps i * af ps (i + 1) - vs.getD (i + 1) 0
  · exact arP_not hl (by omega) (by omega) hc
  · refine arP_not hl (i := i + 1) (j := i) (by omega) (by omega) ?_
    have h4 : 0 < (zf ps (i + 1) - zf ps i) * (af ps i - af ps (i + 1)) := Rat.mul_pos (by grind) (by grind)
    grind
theorem ninth : (0 : Rat) < 1 / 9 := by decide +kernel
/-- raised from k on -/
def upR (ps : List In) (k i : Nat) : Rat := if i < k then topR ps i else topR ps i + 1 / 9
def dnR (ps : List In) (k i : Nat) : Rat := if i < k then lowR ps i else lowR ps i - 1 / 9
theorem up_bad {ps : List In} {k : Nat} (hk : k + 1 < ps.length) : arP ps ((List.range ps.length).map (upR ps (k + 1))) = false := by
  refine arP_not (by simp) (i := k + 1) (j := k) hk (by omega) ?_
  rw [getD_map hk, getD_map (by omega)]
  have e1 : upR ps (k + 1) (k + 1) = topR ps k + zf ps (k + 1) * (af ps (k + 1) - af ps k) + 1 / 9 := by unfold upR; rw [if_neg (by omega)]; rfl
  have e2 : upR ps (k + 1) k = topR ps k := by unfold upR; rw [if_pos (by omega)]
  rw [e1, e2]
  have := ninth
  grind
theorem dn_bad {ps : List In} {k : Nat} (hk : k + 1 < ps.length) : arP ps ((List.range ps.length).map (dnR ps (k + 1))) = false := by
  refine arP_not (by simp) (i := k) (j := k + 1) (by omega) hk ?_
  rw [getD_map hk, getD_map (by omega)]
  have e1 : dnR ps (k + 1) (k + 1) = lowR ps k + zf ps k * (af ps (k + 1) - af ps k) - 1 / 9 := by unfold dnR; rw [if_neg (by omega)]; rfl
  have e2 : dnR ps (k + 1) k = lowR ps k := by unfold dnR; rw [if_pos (by omega)]
  rw [e1, e2]
  have := ninth
  grind
theorem up_zero {ps : List In} : zf ps 0 * af ps 0 < upR ps 0 0 := by
  have e1 : upR ps 0 0 = zf ps 0 * af ps 0 + 1 / 9 := by unfold upR; rw [if_neg (by omega)]; rfl
  rw [e1]
  have := ninth
  grind
theorem dn_zero {ps : List In} : dnR ps 0 0 < 0 := by
  have e1 : dnR ps 0 0 = 0 - 1 / 9 := by unfold dnR; rw [if_neg (by omega)]; rfl
  rw [e1]
  have := ninth
  grind
theorem bc_mx (I : Nat → Rat) : ∀ i, (bc I i).2 = mx (I 0) ((List.range (i + 1)).map I)
  | 0 => by
    show I 0 = mx (if I 0 < I 0 then I 0 else I 0) []
    simp [mx]
  | i + 1 => by
    rw [List.range_succ, List.map_append]
    unfold mx
    rw [List.foldl_append]
    have ih := bc_mx I i
    unfold mx at ih
    rw [← ih]
    show (bc I (i + 1)).2 = if (bc I i).2 < I (i + 1) then I (i + 1) else (bc I i).2
    show (if (bc I i).2 < I (i + 1) then (i + 1, I (i + 1)) else bc I i).2 = _
    split <;> rfl
/-- the first place of the greatest -/
theorem bc_first (I : Nat → Rat) (n : Nat) : ((List.range (n + 1)).filter fun k => decide (I k = (bc I n).2)).head? = some (bc I n).1 := by
  obtain ⟨h1, h2, h3, h4⟩ := bc_spec I n
  rw [List.head?_filter, List.find?_range_eq_some]
  refine ⟨decide_eq_true h2.symm, List.mem_range.mpr (by omega), fun j hj => ?_⟩
  have := h4 j hj
  rw [decide_eq_false (fun e => by rw [e] at this; grind)]
  rfl
end PL

set_option autoImplicit false
set_option linter.all false
set_option maxRecDepth 100000
set_option maxHeartbeats 4000000
set_option exponentiation.threshold 20000
/-! MK86g: the law's turn, part one. -/
namespace PL
section
variable {β : Type} {gl : String → Option D} {F : String → List D → M β D} {ρ : Env} {b : β}
theorem run_par {i j : Nat} {oi oj : Bool} {x y : E} {r : List S} {Q : Fl × Env → β → Prop} (h : Run (ev gl F x ρ) b fun v b1 => Run (ev gl F y ρ) b1 fun w b2 => ∃ c d, cellOf oi v = some c ∧ cellOf oj w = some d ∧ Run (exs gl F r ((ρ.set i c).set j d)) b2 Q) :
    Run (exs gl F (.par i j oi oj x y :: r) ρ) b Q := by
  rw [run_exs_cons]
  simp only [ex]
  rw [run_bnd]
  refine h.mono fun v b1 h => ?_
  rw [run_bnd]
  refine h.mono fun w b2 ⟨c, d, e1, e2, h⟩ => ?_
  rw [e1, lft_some, bnd_ret, e2, lft_some, bnd_ret]
  exact run_ret.mpr h
theorem run_par3 {i j l : Nat} {oi oj ol : Bool} {x y z : E} {r : List S} {Q : Fl × Env → β → Prop} (h : Run (ev gl F x ρ) b fun v b1 => Run (ev gl F y ρ) b1 fun w b2 => Run (ev gl F z ρ) b2 fun u b3 => ∃ c d g, cellOf oi v = some c ∧ cellOf oj w = some d ∧ cellOf ol u = some g ∧ Run (exs gl F r (((ρ.set i c).set j d).set l g)) b3 Q) :
    Run (exs gl F (.par3 i j l oi oj ol x y z :: r) ρ) b Q := by
  rw [run_exs_cons]
  simp only [ex]
  rw [run_bnd]
  refine h.mono fun v b1 h => ?_
  rw [run_bnd]
  refine h.mono fun w b2 h => ?_
  rw [run_bnd]
  refine h.mono fun u b3 ⟨c, d, g, e1, e2, e3, h⟩ => ?_
  rw [e1, lft_some, bnd_ret, e2, lft_some, bnd_ret, e3, lft_some, bnd_ret]
  exact run_ret.mpr h
/-- a for over a range counted by an expression -/
theorem run_fr {t : Tg} {ik : Ik} {es : List E} {a r : List S} {Q : Fl × Env → β → Prop} (h : Run (evL gl F es ρ) b fun ds b1 => ∃ xs, iter ik ds = some xs ∧ Run (forM (fun d ρ' => bnd (lft (bindT t d ρ')) fun ρ'' => exs gl F a ρ'') xs ρ) b1 (nxts Q (exs gl F r))) :
    Run (exs gl F (.fr t ik es a :: r) ρ) b Q := by
  rw [run_exs_cons]
  simp only [ex]
  rw [run_bnd]
  refine h.mono fun ds b1 ⟨xs, e, h⟩ => ?_
  rw [e, lft_some, bnd_ret]
  exact h
end
theorem small_bz {i j m : Nat} (hi : i < 2 ^ m) (hj : j < 4) (hm : 3 ≤ m) : Bz m (((i : Int) : Rat) / (((1 + j : Nat) : Int) : Rat)) := by
  refine Bz.of (by omega) (by simpa using hi) ?_
  have : 2 ^ 3 ≤ 2 ^ m := Nat.pow_le_pow_right (by decide) hm
  have : (8 : Nat) ≤ 2 ^ m := this
  omega
theorem small_nn {i j : Nat} : (0 : Rat) ≤ ((i : Int) : Rat) / (((1 + j : Nat) : Int) : Rat) := by
  have h1 : (0 : Rat) ≤ ((i : Int) : Rat) := by exact_mod_cast Int.natCast_nonneg i
  have h2 : (0 : Rat) < (((1 + j : Nat) : Int) : Rat) := by
    have : (0 : Int) < ((1 + j : Nat) : Int) := by omega
    exact_mod_cast this
  rw [Rat.div_def]
  exact Rat.mul_nonneg h1 (Rat.le_of_lt (Rat.inv_pos.mpr h2))
theorem third : D.tup [.int 1, .int 3] = Rt (1 / 3) := by
  have h1 : ((1 / 3 : Rat)).num = 1 := by decide +kernel
  have h2 : ((1 / 3 : Rat)).den = 3 := by decide +kernel
  simp only [Rt, h1, h2]
  rfl
theorem half : D.tup [.int 1, .int 2] = Rt (1 / 2) := by
  have h1 : ((1 / 2 : Rat)).num = 1 := by decide +kernel
  have h2 : ((1 / 2 : Rat)).den = 2 := by decide +kernel
  simp only [Rt, h1, h2]
  rfl
theorem third_bz : Bz 2 (1 / 3) := ⟨by decide +kernel, by decide +kernel⟩
theorem half_bz : Bz 2 (1 / 2) := ⟨by decide +kernel, by decide +kernel⟩
theorem zf_app {ps : List In} {p : In} {j : Nat} : zf (ps ++ [p]) j = if j < ps.length then zf ps j else if j = ps.length then p.1 else 0 := by
  unfold zf
  rw [List.getD_eq_getElem?_getD, List.getD_eq_getElem?_getD]
  by_cases h : j < ps.length
  · rw [if_pos h, List.getElem?_append_left h]
  · rw [if_neg h, List.getElem?_append_right (by omega)]
    by_cases h2 : j = ps.length
    · rw [if_pos h2, h2, Nat.sub_self]; rfl
    · rw [if_neg h2, List.getElem?_eq_none (by simp; omega)]; rfl
theorem af_app {ps : List In} {p : In} {j : Nat} : af (ps ++ [p]) j = if j < ps.length then af ps j else if j = ps.length then p.2 else 0 := by
  unfold af
  rw [List.getD_eq_getElem?_getD, List.getD_eq_getElem?_getD]
  by_cases h : j < ps.length
  · rw [if_pos h, List.getElem?_append_left h]
  · rw [if_neg h, List.getElem?_append_right (by omega)]
    by_cases h2 : j = ps.length
    · rw [if_pos h2, h2, Nat.sub_self]; rfl
    · rw [if_neg h2, List.getElem?_eq_none (by simp; omega)]; rfl
end PL
namespace K86
open PL
def bodyB : List S := match f_law.body with
  | .fr _ _ _ b :: _ => b
  | _ => []
/-- the rows so far -/
structure Gr (ps : List In) (z a : Rat) : Prop where
  bz : ∀ j, j < ps.length → Bz (3 + 7 * j) (zf ps j) ∧ Bz (3 + 4 * j) (af ps j) ∧ 0 ≤ af ps j
  up : ∀ j, j + 1 < ps.length → zf ps j < zf ps (j + 1)
  z0 : ∀ j, j < ps.length → 0 ≤ zf ps j
  nz : 0 ≤ z
  na : 0 ≤ a
  lt : ∀ j, j < ps.length → zf ps j < z
  bzz : Bz (3 + 7 * ps.length) z
  bza : Bz (3 + 4 * ps.length) a
theorem Gr.more {ps : List In} {z a s a' : Rat} (h : Gr ps z a) (hs : Bz 3 s) (hn : 0 ≤ s) (ha : Bz (3 + 4 * (ps.length + 1)) a') (hna : 0 ≤ a') : Gr (ps ++ [(z, a)]) (z + (s + 1 / 3)) a' := by
  have h3 : (0 : Rat) < 1 / 3 := by decide +kernel
  have hl : (ps ++ [(z, a)]).length = ps.length + 1 := by simp
  refine ⟨fun j hj => ?_, fun j hj => ?_, fun j hj => ?_, ?_, hna, fun j hj => ?_, ?_, by rw [hl]; exact ha⟩
  · rw [zf_app, af_app]
    by_cases h1 : j < ps.length
    · rw [if_pos h1, if_pos h1]; exact h.bz j h1
    · have : j = ps.length := by omega
      rw [if_neg h1, if_neg h1, if_pos this, if_pos this, this]
      exact ⟨h.bzz, h.bza, h.na⟩
  · rw [zf_app, zf_app, if_pos (by omega)]
    by_cases h1 : j + 1 < ps.length
    · rw [if_pos h1]; exact h.up j h1
    · rw [if_neg h1, if_pos (by omega)]; exact h.lt j (by omega)
  · rw [zf_app]
    by_cases h1 : j < ps.length
    · rw [if_pos h1]; exact h.z0 j h1
    · rw [if_neg h1, if_pos (by omega)]; exact h.nz
  · have := h.nz; grind
  · rw [zf_app]
    by_cases h1 : j < ps.length
    · rw [if_pos h1]; have := h.lt j h1; grind
    · rw [if_neg h1, if_pos (by omega)]; grind
  · rw [hl]
    exact (h.bzz.add (hs.add third_bz)).mono (by omega)
theorem Gr.bq {ps : List In} {z a : Rat} (h : Gr ps z a) (h1 : 1 ≤ ps.length) (h6 : ps.length ≤ 6) : Bq ps := by
  refine ⟨h6, h1, fun p hp => ?_⟩
  obtain ⟨j, hj, rfl⟩ := List.mem_iff_getElem.mp hp
  obtain ⟨b1, b2, _⟩ := h.bz j hj
  unfold zf at b1
  unfold af at b2
  rw [getD_at hj] at b1 b2
  exact ⟨b1.mono (by omega), b2.mono (by omega)⟩
theorem Gr.ri {ps : List In} {z a : Rat} (h : Gr ps z a) (h1 : 1 ≤ ps.length) : Ri ps := ⟨h.up, h.z0 0 h1, fun i hi => (h.bz i hi).2.2⟩
variable {k : Nat} {c2 c3 c4 c5 c6 c7 c8 c9 c10 c11 c12 c13 c14 c15 c16 c17 c18 c19 c20 c21 c22 c23 c24 c25 : Cell}
/-- the rows are drawn -/
theorem partA (hk : 8 ≤ k) {b : Tp} {Q : Fl × Env → Tp → Prop}
    (q : ∀ (ps : List In) c3 c4 c5 c6 b', Bq ps → Ri ps → Run (exs P.gl (call P k) (bodyB.drop 3) [.un, .im .box, c2, c3, c4, c5, c6, .im (itD ps), .im (.int ps.length), c9, c10, c11, c12, c13, c14, c15, c16, c17, c18, c19, c20, c21, c22, c23, c24, c25]) b' Q) :
    Run (exs P.gl (call P k) bodyB [.un, .im .box, c2, c3, c4, c5, c6, c7, c8, c9, c10, c11, c12, c13, c14, c15, c16, c17, c18, c19, c20, c21, c22, c23, c24, c25]) b Q := by
  show Run (exs P.gl (call P k) (.par3 _ _ _ _ _ _ _ _ _ :: bodyB.drop 1) _) b Q
  refine run_par3 ?_
  simp only [ev_call, evL_cons, evL_nil, ev_lit, ev_var, getV_succ, getV_zero, bnd_ret]
  refine r_small tape (by omega) (by decide) (by decide) fun i1 j1 b1 hi1 hj1 => ?_
  refine r_small tape (by omega) (by decide) (by decide) fun i2 j2 b2 hi2 hj2 => ?_
  have e0 : ev P.gl (call P k) (.lst []) [.un, .im .box, c2, c3, c4, c5, c6, c7, c8, c9, c10, c11, c12, c13, c14, c15, c16, c17, c18, c19, c20, c21, c22, c23, c24, c25] = ret (.lst []) := by simp [lim]
  rw [e0, run_ret]
  refine ⟨_, _, _, rfl, rfl, rfl, ?_⟩
  generalize hz0 : (((i1 : Int) : Rat) / (((1 + j1 : Nat) : Int) : Rat)) = z0
  generalize ha0 : (((i2 : Int) : Rat) / (((1 + j2 : Nat) : Int) : Rat)) = a0
  have bz0 : Bz 3 z0 := by rw [← hz0]; exact small_bz (by omega) hj1 (by decide)
  have ba0 : Bz 3 a0 := by rw [← ha0]; exact small_bz (by omega) hj2 (by decide)
  have nz0 : 0 ≤ z0 := by rw [← hz0]; exact small_nn
  have na0 : 0 ≤ a0 := by rw [← ha0]; exact small_nn
  show Run (exs P.gl (call P k) (.fr _ _ _ _ :: bodyB.drop 2) [.un, .im .box, c2, .im (Rt z0), .im (Rt a0), .ow [], c6, c7, c8, c9, c10, c11, c12, c13, c14, c15, c16, c17, c18, c19, c20, c21, c22, c23, c24, c25]) b2 Q
  refine run_fr ?_
  simp only [ev_bin, ev_call, evL_cons, evL_nil, ev_lit, ev_var, getV_succ, getV_zero, bnd_ret, run_bnd]
  refine tape.dr.run (by omega) (by decide) (by decide) fun t b3 ht => ?_
  simp only [bop_addI, lft_some, run_ret]
  have hn : (1 : Int) + (t : Int) = ((1 + t : Nat) : Int) := by omega
  rw [hn]
  refine ⟨_, ran_map (by omega), ?_⟩
  refine run_forL (fun i ρ b' => ∃ ps z a c6, ps.length = i ∧ Gr ps z a ∧ ρ = [.un, .im .box, c2, .im (Rt z), .im (Rt a), .ow (ps.map pr), c6, c7, c8, c9, c10, c11, c12, c13, c14, c15, c16, c17, c18, c19, c20, c21, c22, c23, c24, c25]) ?_ ?_ ?_
  · rintro i x ρ b' hx ⟨ps, z, a, c6, hlen, hG, rfl⟩
    have hi : i < 1 + t := by have := (List.getElem?_eq_some_iff.mp hx).1; rwa [List.length_range] at this
    have ht6 : t < 6 := by omega
    show Run (exs P.gl (call P k) _ [.un, .im .box, c2, .im (Rt z), .im (Rt a), .ow (ps.map pr), .im (.int x), c7, c8, c9, c10, c11, c12, c13, c14, c15, c16, c17, c18, c19, c20, c21, c22, c23, c24, c25]) b' _
    refine run_app (xs := ps.map pr) rfl (by rw [List.length_map]; unfold lim; omega) ?_
    simp only [ev_tup, evL_cons, evL_nil, ev_var, getV_succ, getV_zero, bnd_ret]
    rw [if_pos (by simp [lim]), run_ret]
    show Run (exs P.gl (call P k) _ [.un, .im .box, c2, .im (Rt z), .im (Rt a), .ow (ps.map pr ++ [.tup [Rt z, Rt a]]), .im (.int x), c7, c8, c9, c10, c11, c12, c13, c14, c15, c16, c17, c18, c19, c20, c21, c22, c23, c24, c25]) b' _
    refine run_asg ?_
    simp only [ev_call, ev_tup, evL_cons, evL_nil, ev_lit, ev_var, getV_succ, getV_zero, bnd_ret, run_bnd]
    refine r_small tape (by omega) (by decide) (by decide) fun i3 j3 b4 hi3 hj3 => ?_
    generalize hs : (((i3 : Int) : Rat) / (((1 + j3 : Nat) : Int) : Rat)) = s
    have bs : Bz 3 s := by rw [← hs]; exact small_bz (by omega) hj3 (by decide)
    have ns : 0 ≤ s := by rw [← hs]; exact small_nn
    simp only [run_ret]
    rw [if_pos (by simp [lim]), run_ret, third, s_lplus lrats (by omega) (bs.sz (by decide)) (third_bz.sz (by decide)), run_ret,
      s_lplus lrats (by omega) (hG.bzz.sz (by omega)) ((bs.add third_bz).sz (by decide)), run_ret]
    show Run (exs P.gl (call P k) _ [.un, .im .box, c2, .im (Rt (z + (s + 1 / 3))), .im (Rt a), .ow (ps.map pr ++ [.tup [Rt z, Rt a]]), .im (.int x), c7, c8, c9, c10, c11, c12, c13, c14, c15, c16, c17, c18, c19, c20, c21, c22, c23, c24, c25]) b4 _
    refine run_asg ?_
    simp only [ev_ite, ev_cmp, ev_call, evL_cons, evL_nil, ev_lit, ev_var, getV_succ, getV_zero, bnd_ret, run_bnd]
    refine tape.dr.run (by omega) (by decide) (by decide) fun u b5 hu => ?_
    simp only [cop_gt, lft_some, bnd_ret, truth_bl, run_ret]
    have fin : ∀ (a' : Rat) b6, Bz (3 + 4 * (ps.length + 1)) a' → 0 ≤ a' → Run (exs P.gl (call P k) [] ([.un, .im .box, c2, .im (Rt (z + (s + 1 / 3))), .im (Rt a'), .ow (ps.map pr ++ [.tup [Rt z, Rt a]]), .im (.int x), c7, c8, c9, c10, c11, c12, c13, c14, c15, c16, c17, c18, c19, c20, c21, c22, c23, c24, c25])) b6 (turn (fun ρ b' => ∃ ps z a c6, ps.length = i + 1 ∧ Gr ps z a ∧ ρ = [.un, .im .box, c2, .im (Rt z), .im (Rt a), .ow (ps.map pr), c6, c7, c8, c9, c10, c11, c12, c13, c14, c15, c16, c17, c18, c19, c20, c21, c22, c23, c24, c25]) (nxts Q (exs P.gl (call P k) (bodyB.drop 2)))) := fun a' b6 h1 h2 => by
      refine run_exs_nil.mpr ⟨ps ++ [(z, a)], z + (s + 1 / 3), a', .im (.int x), by rw [List.length_append, hlen]; rfl, hG.more bs ns h1 h2, ?_⟩
      rw [List.map_append]; rfl
    by_cases hu0 : (0 : Int) < (u : Int)
    · rw [decide_eq_true hu0, if_pos rfl]
      simp only [run_bnd]
      refine r_small tape (by omega) (by decide) (by decide) fun i4 j4 b6 hi4 hj4 => ?_
      generalize hs2 : (((i4 : Int) : Rat) / (((1 + j4 : Nat) : Int) : Rat)) = s2
      have bs2 : Bz 3 s2 := by rw [← hs2]; exact small_bz (by omega) hj4 (by decide)
      have ns2 : 0 ≤ s2 := by rw [← hs2]; exact small_nn
      simp only [run_ret]
      rw [s_lplus lrats (by omega) (hG.bza.sz (by omega)) (bs2.sz (by decide)), run_ret]
      exact fin (a + s2) b6 ((hG.bza.add bs2).mono (by omega)) (by have := hG.na; grind)
    · rw [decide_eq_false hu0, if_neg (by decide)]
      simp only [ev_tup, evL_cons, evL_nil, ev_lit, bnd_ret, run_bnd, run_ret]
      rw [if_pos (by simp [lim]), run_ret, half, s_ltimes lrats (by omega) (hG.bza.sz (by omega)) (half_bz.sz (by decide)), run_ret]
      exact fin (a * (1 / 2)) b5 ((hG.bza.mul half_bz).mono (by omega)) (Rat.mul_nonneg hG.na (by decide +kernel))
  · rintro ρ b' ⟨ps, z, a, c6, hlen, hG, rfl⟩
    rw [List.length_range] at hlen
    show Run (exs P.gl (call P k) (.par _ _ _ _ _ _ :: bodyB.drop 3) _) b' Q
    refine run_par ?_
    simp only [ev_bi, evL_cons, evL_nil, ev_bvar, getB_succ, getB_ow, bnd_ret, bfn, lft_some, run_ret]
    refine ⟨_, _, rfl, rfl, ?_⟩
    have := q ps (.im (Rt z)) (.im (Rt a)) (.ow (ps.map pr)) c6 b' (hG.bq (by omega) (by omega)) (hG.ri (by omega))
    rw [List.length_map]
    exact this
  · exact ⟨[], z0, a0, c6, rfl, ⟨fun j hj => absurd hj (by simp), fun j hj => absurd hj (by simp), fun j hj => absurd hj (by simp), nz0, na0, fun j hj => absurd hj (by simp), bz0, ba0⟩, rfl⟩
end K86

set_option autoImplicit false
set_option linter.all false
set_option maxRecDepth 100000
set_option maxHeartbeats 4000000
set_option exponentiation.threshold 20000
/-! MK86h: the law's turn, part two: which values are intents. -/
namespace PL
section
variable {β : Type} {gl : String → Option D} {F : String → List D → M β D} {ρ : Env} {b : β}
theorem run_compP {e : E} {t : Tg} {ik : Ik} {es : List E} {own : List Nat} {ds xs : List D} {p : D → Prop} {Q : D → β → Prop} (h1 : evL gl F es ρ = ret ds) (h2 : iter ik ds = some xs) (h3 : xs.length ≤ lim)
    (h4 : ∀ x ∈ xs, ∃ ρ', bindT t x (wipeE ρ own) = some ρ' ∧ ∀ b, Run (ev gl F e ρ') b fun v _ => p v) (hQ : ∀ vs b', vs.length = xs.length → (∀ v ∈ vs, p v) → Q (.lst vs) b') : Run (ev gl F (.comp e t ik es [] own) ρ) b Q := by
  rw [ev_comp, h1, bnd_ret, h2, lft_some, bnd_ret, if_pos h3, run_bnd]
  refine run_comp (fun i acc b' => acc.length = i ∧ ∀ v ∈ acc, p v) ?_ (fun acc b' ⟨e1, e2⟩ => run_ret.mpr (hQ acc b' e1 e2)) ⟨rfl, by simp⟩
  rintro i d acc b' hd ⟨e1, e2⟩
  obtain ⟨ρ', h5, h6⟩ := h4 d (List.mem_of_getElem? hd)
  simp only [h5, lft_some, bnd_ret, evC_nil, if_true, run_bnd]
  refine (h6 b').mono fun v b'' hv => run_ret.mpr ⟨by rw [List.length_append, e1]; rfl, fun w hw => ?_⟩
  rcases List.mem_append.mp hw with hw | hw
  · exact e2 w hw
  · simp only [List.mem_cons, List.not_mem_nil, or_false] at hw
    subst hw; exact hv
end
theorem It.of_int {c l n : Nat} {i : Int} (h : i.natAbs ≤ c) : It c l n (.int i) := by cases n <;> exact h
theorem It.rt {c l n m : Nat} {x : Rat} (h : Bz m x) (hc : 2 ^ m ≤ c) (hl : 2 ≤ l) : It c l (n + 1) (Rt x) := by
  refine ⟨by simpa using hl, fun y hy => ?_⟩
  simp only [List.mem_cons, List.not_mem_nil, or_false] at hy
  rcases hy with rfl | rfl
  · exact It.of_int (Nat.le_trans (Nat.le_of_lt h.1) hc)
  · exact It.of_int (Nat.le_trans (Nat.le_of_lt h.2) hc)
def e30 (m : Nat) : List D := (List.range m).map fun i => D.tup [.tup [.int (i : Nat), .int 1], .tup [.int 0, .int 1]]
theorem pd_two {c l n : Nat} {i j : Int} (hi : i.natAbs ≤ c) (hj : j.natAbs ≤ c) (hl : 2 ≤ l) : Pd c l (n + 1) (.tup [.int i, .int j]) := by
  refine ⟨by simpa using hl, fun y hy => ?_⟩
  simp only [List.mem_cons, List.not_mem_nil, or_false] at hy
  rcases hy with rfl | rfl
  · exact Pd.of_int hi
  · exact Pd.of_int hj
theorem pd_e30 {c l n m : Nat} (hm : m ≤ l) (h2 : 2 ≤ l) (hc : m ≤ c) (hc1 : 1 ≤ c) : Pd c l (n + 3) (.tup (e30 m)) := by
  refine ⟨by simp [e30]; omega, fun y hy => ?_⟩
  obtain ⟨i, hi, rfl⟩ := List.mem_map.mp hy
  have hi := List.mem_range.mp hi
  refine ⟨by simpa using h2, fun z hz => ?_⟩
  simp only [List.mem_cons, List.not_mem_nil, or_false] at hz
  rcases hz with rfl | rfl
  · exact pd_two (by omega) (by omega) h2
  · exact pd_two (by omega) (by omega) h2
end PL
namespace K86
open PL
variable {k : Nat} {c2 c3 c4 c5 c6 c7 c8 c9 c10 c11 c12 c13 c14 c15 c16 c17 c18 c19 c20 c21 c22 c23 c24 c25 : Cell}
theorem it_itD {ps : List In} (hp : Bq ps) : It (2 ^ 40) 10 3 (itD ps) := by
  refine ⟨by rw [List.length_map]; have := hp.len; omega, fun y hy => ?_⟩
  obtain ⟨p, hm, rfl⟩ := List.mem_map.mp hy
  obtain ⟨b1, b2⟩ := hp.bz p hm
  refine ⟨by simp, fun z hz => ?_⟩
  simp only [List.mem_cons, List.not_mem_nil, or_false] at hz
  rcases hz with rfl | rfl
  · exact It.rt b1 (Nat.pow_le_pow_right (by decide) (by decide)) (by decide)
  · exact It.rt b2 (Nat.pow_le_pow_right (by decide) (by decide)) (by decide)
abbrev PV (d : D) : Prop := Pd (2 ^ 41) 40 5 d
theorem pv_same (hk : 6 ≤ k) {x : Bool} : call P k "_law_same" [.bl x, .bl x] = ret (.bl true) := s_same (c := 0) (l := 0) (n := 0) same (by decide) (by decide) (by omega) Pd.bl
theorem ev_e30 {ρ : Env} {m : Nat} (hm : m ≤ 100) (hw : ∀ d, bindT (.nm 6) d (wipeE ρ [6]) = some ((wipeE ρ [6]).set 6 (.im d))) (hg : ∀ d, (getV ((wipeE ρ [6]).set 6 (.im d)) 6 : M Tp D) = ret d) : ev P.gl (call P k) (.bi .tuple [.comp (.tup [.tup [.var 6, .lit (.int 1)], .tup [.lit (.int 0), .lit (.int 1)]]) (.nm 6) .ran [.lit (.int m)] [] [6]]) ρ = ret (.tup (e30 m)) := by
  have ec : ev P.gl (call P k) (.comp (.tup [.tup [.var 6, .lit (.int 1)], .tup [.lit (.int 0), .lit (.int 1)]]) (.nm 6) .ran [.lit (.int m)] [] [6]) ρ = ret (.lst (e30 m)) := by
    refine ev_compL (ds := [.int (m : Int)]) (by simp) (ran_map (by omega)) (by rw [List.length_range]; unfold lim; omega) fun i hi => ⟨_, hw _, ?_⟩
    simp only [ev_tup, evL_cons, evL_nil, ev_lit, ev_var, hg, bnd_ret]
    rw [if_pos (by simp [lim]), bnd_ret, if_pos (by simp [lim])]
    simp only [bnd_ret]
    rw [if_pos (by simp [lim])]
  simp only [ev_bi, evL_cons, evL_nil, ec, bnd_ret, bfn, lft_some]
theorem partB (hk : 20 ≤ k) {ps : List In} (hp : Bq ps) {b : Tp} {Q : Fl × Env → Tp → Prop}
    (q : ∀ c9 c10 b', Run (exs P.gl (call P k) (bodyB.drop 5) [.un, .im .box, c2, c3, c4, c5, c6, .im (itD ps), .im (.int ps.length), c9, c10, c11, c12, c13, c14, c15, c16, c17, c18, c19, c20, c21, c22, c23, c24, c25]) b' Q) :
    Run (exs P.gl (call P k) (bodyB.drop 3) [.un, .im .box, c2, c3, c4, c5, c6, .im (itD ps), .im (.int ps.length), c9, c10, c11, c12, c13, c14, c15, c16, c17, c18, c19, c20, c21, c22, c23, c24, c25]) b Q := by
  show Run (exs P.gl (call P k) (.asg _ _ :: bodyB.drop 4) _) b Q
  refine run_asg ?_
  have hpos := hp.pos
  have hlen := hp.len
  have hit := it_itD hp
  have hpd : PV (itD ps) := hit.pd.mono (Nat.pow_le_pow_right (by decide) (by decide)) (by decide) (by decide)
  have hsub : ∀ y ∈ ps.map pr, Pd (2 ^ 41) 40 4 y := fun y hy => (hit.pd.2 y hy).mono (Nat.pow_le_pow_right (by decide) (by decide)) (by decide) (by decide)
  have hl1 : (cutD (ps.map pr) (some (-1)) none).length ≤ 6 := Nat.le_trans len_cut (by rw [List.length_map]; exact hlen)
  have e1 := ev_e30 (k := k) (ρ := [.un, .im .box, c2, c3, c4, c5, c6, .im (itD ps), .im (.int ps.length), c9, c10, c11, c12, c13, c14, c15, c16, c17, c18, c19, c20, c21, c22, c23, c24, c25]) (m := 30) (by decide) (fun _ => rfl) (fun _ => rfl)
  have h2 : (2 : Nat) ≤ 2 ^ 41 := by decide
  obtain ⟨V, ev, hV, hVl⟩ : ∃ V : List D, ev P.gl (call P k) (.lst [.var 7, .rev (.var 7), .bin .add (.var 7) (.sl1 (.var 7) (.neg (.lit (.int 1)))), .tup [], .tup [.tup [.tup [.lit (.int 0), .lit (.int 1)]]], .tup [.tup [.tup [.neg (.lit (.int 1)), .lit (.int 1)], .tup [.lit (.int 0), .lit (.int 1)]]], .bi .tuple [.comp (.tup [.tup [.var 6, .lit (.int 1)], .tup [.lit (.int 0), .lit (.int 1)]]) (.nm 6) .ran [.lit (.int 30)] [] [6]]])
      [.un, .im .box, c2, c3, c4, c5, c6, .im (itD ps), .im (.int ps.length), c9, c10, c11, c12, c13, c14, c15, c16, c17, c18, c19, c20, c21, c22, c23, c24, c25] = ret (.lst V) ∧ (∀ v ∈ V, PV v) ∧ V.length = 7 := by
    refine ⟨[itD ps, .tup (ps.map pr).reverse, .tup (ps.map pr ++ cutD (ps.map pr) (some (-1)) none), .tup [], .tup [.tup [.tup [.int 0, .int 1]]], .tup [.tup [.tup [.int (-1), .int 1], .tup [.int 0, .int 1]]], .tup (e30 30)], ?_, ?_, rfl⟩
    · rw [ev_lst, evL_cons, evL_cons, evL_cons, evL_cons, evL_cons, evL_cons, evL_cons, evL_nil, show (E.lit (.int 30)) = E.lit (.int ((30 : Nat) : Int)) from rfl, e1]
      simp only [ev_var, ev_rev, ev_bin, ev_sl1, ev_neg, ev_lit, ev_tup, evL_cons, evL_nil, getV_succ, getV_zero, bnd_ret, toI_int, lft_some, itD, revD, sli]
      rw [bop_addT (by rw [List.length_map]; unfold lim; omega)]
      simp only [lft_some, bnd_ret]
      simp [lim]
    · intro v hv
      simp only [List.mem_cons, List.not_mem_nil, or_false] at hv
      rcases hv with rfl | rfl | rfl | rfl | rfl | rfl | rfl
      · exact hpd
      · exact ⟨by rw [List.length_reverse, List.length_map]; omega, fun y hy => hsub y (List.mem_reverse.mp hy)⟩
      · refine ⟨by rw [List.length_append, List.length_map]; omega, fun y hy => ?_⟩
        rcases List.mem_append.mp hy with hy | hy
        · exact hsub y hy
        · exact hsub y (sub_take hy)
      · exact ⟨by simp, by simp⟩
      · exact ⟨by simp, fun y hy => by
          simp only [List.mem_cons, List.not_mem_nil, or_false] at hy
          subst hy
          exact ⟨by simp, fun z hz => by
            simp only [List.mem_cons, List.not_mem_nil, or_false] at hz
            subst hz
            exact pd_two (by omega) (by omega) (by decide)⟩⟩
      · exact ⟨by simp, fun y hy => by
          simp only [List.mem_cons, List.not_mem_nil, or_false] at hy
          subst hy
          exact ⟨by simp, fun z hz => by
            simp only [List.mem_cons, List.not_mem_nil, or_false] at hz
            rcases hz with rfl | rfl <;> exact pd_two (by omega) (by omega) (by decide)⟩⟩
      · exact pd_e30 (by decide) (by decide) (by omega) (by omega)
  rw [ev, run_ret]
  show Run (exs P.gl (call P k) (.fr _ _ _ _ :: bodyB.drop 5) [.un, .im .box, c2, c3, c4, c5, c6, .im (itD ps), .im (.int ps.length), .im (.lst V), c10, c11, c12, c13, c14, c15, c16, c17, c18, c19, c20, c21, c22, c23, c24, c25]) b Q
  refine run_fr ?_
  have e31 := ev_e30 (k := k) (ρ := [.un, .im .box, c2, c3, c4, c5, c6, .im (itD ps), .im (.int ps.length), .im (.lst V), c10, c11, c12, c13, c14, c15, c16, c17, c18, c19, c20, c21, c22, c23, c24, c25]) (m := 31) (by decide) (fun _ => rfl) (fun _ => rfl)
  rw [evL_cons, evL_nil, ev_bin, ev_bin, ev_lst, evL_cons, evL_cons, evL_nil, show (E.lit (.int 31)) = E.lit (.int ((31 : Nat) : Int)) from rfl, e31]
  simp only [ev_var, ev_lit, getV_succ, getV_zero, bnd_ret]
  rw [if_pos (by simp [lim])]
  simp only [bnd_ret]
  rw [bop_addL (by rw [hVl]; simp [lim])]
  simp only [lft_some, bnd_ret]
  rw [run_bnd, run_bnd]
  refine run_compP (ds := [.int 3]) (xs := intsFrom 0 3) (p := PV) (by simp) (iter_ran (n := 3) (by decide)) (by decide) (fun x hx => ⟨_, rfl, fun b1 => ?_⟩) fun vs b1 hvl hvs => ?_
  · simp only [ev_call, evL_cons, evL_nil, ev_var]
    show Run (bnd (bnd (ret D.box) fun d => bnd (bnd (ret (itD ps)) fun d => bnd (ret []) fun ds => ret (d :: ds)) fun ds => ret (d :: ds)) fun ds => call P k "_law_spoilt" ds) b1 _
    simp only [bnd_ret]
    refine r_spoilt tape (c := 2 ^ 40) (l := 10) (by decide) (by decide) (by decide) (by omega) hit fun x b' hx => ?_
    exact hx.mono (by decide) (by decide) (by decide)
  · have hvl : vs.length = 3 := by rw [hvl]; rfl
    rw [bop_addL (by rw [List.length_append, hVl, hvl]; simp [lim]), lft_some, run_ret, run_ret]
    refine ⟨_, rfl, ?_⟩
    have hall : ∀ v ∈ V ++ [D.tup (e30 31), D.non] ++ vs, PV v := by
      intro v hv
      rcases List.mem_append.mp hv with hv | hv
      · rcases List.mem_append.mp hv with hv | hv
        · exact hV v hv
        · simp only [List.mem_cons, List.not_mem_nil, or_false] at hv
          rcases hv with rfl | rfl
          · exact pd_e30 (by decide) (by decide) (by omega) (by omega)
          · exact Pd.non
      · exact hvs v hv
    refine run_for (fun i ρ b' => ∃ c10, ρ = [.un, .im .box, c2, c3, c4, c5, c6, .im (itD ps), .im (.int ps.length), .im (.lst V), c10, c11, c12, c13, c14, c15, c16, c17, c18, c19, c20, c21, c22, c23, c24, c25]) ?_ ?_ ⟨_, rfl⟩
    · rintro i d ρ b2 hd ⟨c10, rfl⟩
      have hpv := hall d (List.mem_of_getElem? hd)
      show Run (exs P.gl (call P k) _ [.un, .im .box, c2, c3, c4, c5, c6, .im (itD ps), .im (.int ps.length), .im (.lst V), .im d, c11, c12, c13, c14, c15, c16, c17, c18, c19, c20, c21, c22, c23, c24, c25]) b2 _
      refine run_iff (run_tst ?_)
      simp only [ev_no, ev_call, evL_cons, evL_nil, ev_var, getV_succ, getV_zero, bnd_ret, s_are_intents (show 4 ≤ k by omega) (by decide +kernel) (by decide) hpv, s_l_intents (show 4 ≤ k by omega) (by decide +kernel) (by decide) hpv, pv_same (show 6 ≤ k by omega), truth_bl, lft_some, run_ret]
      refine ⟨false, rfl, ?_⟩
      rw [if_neg (by decide)]
      exact run_exs_nil.mpr (run_exs_nil.mpr ⟨_, rfl⟩)
    · rintro ρ b2 ⟨c10, rfl⟩
      exact q _ _ _
end K86

set_option autoImplicit false
set_option linter.all false
set_option maxRecDepth 100000
set_option maxHeartbeats 4000000
set_option exponentiation.threshold 20000
/-! MK86i: the law's turn, part three: falls, prices. -/
namespace PL
theorem prB_vs {ps : List In} {vs : List Rat} (h : vs.length = ps.length) : prB ps (.tup (vs.map Rt)) = arP ps vs := by
  simp only [prB, List.length_map, h, decide_true, all_isRt, map_Rt_rv, Bool.true_and]
theorem pd_vs {vs : List Rat} {m : Nat} (hm : 1 ≤ m) (hv : ∀ v ∈ vs, Bz m v) (hl : vs.length ≤ 10) : Pd (2 ^ m) 10 2 (.tup (vs.map Rt)) := by
  refine ⟨by rw [List.length_map]; exact hl, fun y hy => ?_⟩
  obtain ⟨v, hv', rfl⟩ := List.mem_map.mp hy
  have hb := hv v hv'
  exact pd_two (Nat.le_of_lt hb.1) (Nat.le_of_lt hb.2) (by decide)
theorem enu_range' {f : Nat → D} : ∀ {m k : Nat}, enuD k ((List.range' k m).map f) = (List.range' k m).map fun i => .tup [.int (i : Nat), f i]
  | 0, _ => rfl
  | m + 1, k => by
    rw [List.range'_succ, List.map_cons, List.map_cons]
    simp only [enuD]
    rw [enu_range']
theorem enu_range {f : Nat → D} {n : Nat} : enuD 0 ((List.range n).map f) = (List.range n).map fun i => .tup [.int (i : Nat), f i] := by
  rw [List.range_eq_range', enu_range']
def fD (ps : List In) : List D := (fallsL ps).map fun i => .int ((i + 1 : Nat) : Int)
theorem iN_int {i : Nat} : iN (.int (i : Int)) = i := by simp [iN]
theorem cop_neL {xs : List D} (h : pln 60 (.lst xs) = true) : cop .ne (.lst xs) (.lst []) = some (!xs.isEmpty) := by
  have h2 : pln 60 (.lst []) = true := by simp only [pln, plnT, plnL]
  simp only [cop, h, h2, Bool.and_self, if_true]
  cases xs with
  | nil => simp only [deq, deqL]; rfl
  | cons x xs => simp only [deq, deqL]; rfl
end PL
namespace K86
open PL
variable {k : Nat} {c2 c3 c4 c5 c6 c7 c8 c9 c10 c11 c12 c13 c14 c15 c16 c17 c18 c19 c20 c21 c22 c23 c24 c25 : Cell}
theorem fD_pln {ps : List In} (hp : Bq ps) : pln 60 (.lst (fD ps)) = true := by
  refine Pd.pln (c := 100) (l := 100) (n := 1) (by decide) ⟨?_, fun y hy => ?_⟩
  · unfold fD fallsL
    rw [List.length_map]
    have := List.length_filter_le (fun i => decide (af ps (i + 1) < af ps i)) (List.range (ps.length - 1))
    rw [List.length_range] at this
    have := hp.len
    omega
  · obtain ⟨i, hi, rfl⟩ := List.mem_map.mp hy
    unfold fallsL at hi
    have := List.mem_range.mp (List.mem_filter.mp hi).1
    have := hp.len
    exact Pd.of_int (by omega)
theorem ev_falls (hk : 6 ≤ k) {ps : List In} (hp : Bq ps) : ev P.gl (call P k) (.comp (.var 6) (.nm 6) .ran [.lit (.int 1), .var 8] [.call "_law_less" [.idx (.idx (.var 7) (.var 6)) (.lit (.int 1)), .idx (.idx (.var 7) (.bin .sub (.var 6) (.lit (.int 1)))) (.lit (.int 1))]] [6])
    [.un, .im .box, c2, c3, c4, c5, c6, .im (itD ps), .im (.int ps.length), c9, c10, c11, c12, c13, c14, c15, c16, c17, c18, c19, c20, c21, c22, c23, c24, c25] = ret (.lst (fD ps)) := by
  have hlen := hp.len
  have hr := ran2_map (a := 1) (b := ps.length) (by omega) (by decide)
  rw [ev_compF (ds := [.int 1, .int (ps.length : Int)]) (xs := (List.range (ps.length - 1)).map fun (i : Nat) => .int ((1 + i : Nat) : Int)) (g := fun d => d) (p := fun d => decide (af ps (iN d) < af ps (iN d - 1))) (by simp) hr (by rw [List.length_map, List.length_range]; unfold lim; omega)]
  · rw [List.filter_map, List.map_map]
    unfold fD fallsL
    congr 2
    have h1 : (fun i : Nat => (((fun d => decide (af ps (iN d) < af ps (iN d - 1))) ∘ fun (i : Nat) => D.int ((1 + i : Nat) : Int)) i)) = fun i => decide (af ps (i + 1) < af ps i) := by
      funext i
      simp only [Function.comp, iN_int]
      rw [Nat.add_comm 1 i, Nat.add_sub_cancel]
    rw [show ((fun d => decide (af ps (iN d) < af ps (iN d - 1))) ∘ fun (i : Nat) => D.int ((1 + i : Nat) : Int)) = _ from h1]
    apply List.map_congr_left
    intro i _
    simp only [Function.comp]
    rw [int_suc]
  · intro d hd
    obtain ⟨i, hi, rfl⟩ := List.mem_map.mp hd
    have hi := List.mem_range.mp hi
    have h1 : i + 1 < ps.length := by omega
    have h0 : i < ps.length := by omega
    refine ⟨[.un, .im .box, c2, c3, c4, c5, .im (.int ((1 + i : Nat) : Int)), .im (itD ps), .im (.int ps.length), c9, c10, c11, c12, c13, c14, c15, c16, c17, c18, c19, c20, c21, c22, c23, c24, c25], rfl, ?_, fun _ => by simp only [ev_var, getV_succ, getV_zero]⟩
    simp only [tst_eq, ev_call, evL_cons, evL_nil, ev_idx, ev_bin, ev_lit, ev_var, getV_succ, getV_zero, bnd_ret, int_suc, bop_subI, int_pred, ix_in h1, ix_in h0, lft_some, ix_tup1, s_lless lrats (show 1 ≤ k by omega) ((hp.a h1).sz (by decide)) ((hp.a h0).sz (by decide)), truth_bl, iN_int, Nat.add_sub_cancel]
/-- what is known of the told prices -/
structure Vs (ps : List In) (vs : List Rat) : Prop where
  len : vs.length = ps.length
  bz : ∀ v ∈ vs, Bz 491 v
theorem top_bz {ps : List In} (hp : Bq ps) {i : Nat} (hi : i < ps.length) : Bz 491 (topR ps i) :=
  (gP_bz hp ((hp.z hp.pos).mul (hp.a hp.pos)) (fun i hi => hp.z hi) i hi).mono (by have := hp.len; omega)
theorem low_bz {ps : List In} (hp : Bq ps) {i : Nat} (hi : i < ps.length) : Bz 491 (lowR ps i) :=
  (gP_bz hp (Bz.zero (by decide)) (fun i hi => hp.z (show i - 1 < ps.length by omega)) i hi).mono (by have := hp.len; omega)
theorem str_pd {s : PySem.Str} (h : s.cps.size ≤ lim ∧ s.cps.all (· < 0x110000) = true) : Pd (2 ^ 500) 10 3 (.str s) := h
theorem same_of (hk : 6 ≤ k) {d : D} (h : Pd (2 ^ 500) 10 4 d) : call P k "_law_same" [d, d] = ret (.bl true) := s_same same (by decide) (by decide) (by omega) h
/-- one with falls -/
theorem partC1 (hk : 20 ≤ k) {ps : List In} (hp : Bq ps) (hri : Ri ps) {i0 : Nat} {r0 : List Nat} (hf : fallsL ps = i0 :: r0) {b : Tp} {Q : Fl × Env → Tp → Prop}
    (q : ∀ vs c14, Vs ps vs → Run (exs P.gl (call P k) (bodyB.drop 8) [.un, .im .box, c2, c3, c4, c5, c6, .im (itD ps), .im (.int ps.length), c9, c10, .im (.lst (fD ps)), .im (toldD ps), .im (.tup (vs.map Rt)), c14, c15, c16, c17, c18, c19, c20, c21, c22, c23, c24, c25]) b Q) :
    Run (exs P.gl (call P k) (bodyB.drop 5) [.un, .im .box, c2, c3, c4, c5, c6, .im (itD ps), .im (.int ps.length), c9, c10, c11, c12, c13, c14, c15, c16, c17, c18, c19, c20, c21, c22, c23, c24, c25]) b Q := by
  show Run (exs P.gl (call P k) (.asg _ _ :: .asg _ _ :: .iff _ _ _ :: bodyB.drop 8) _) b Q
  refine run_asg ?_
  rw [ev_falls (by omega) hp, run_ret]
  refine run_asg ?_
  show Run (ev P.gl (call P k) (.call "intent_prices" [.var 7]) [.un, .im .box, c2, c3, c4, c5, c6, .im (itD ps), .im (.int ps.length), c9, c10, .im (.lst (fD ps)), c12, c13, c14, c15, c16, c17, c18, c19, c20, c21, c22, c23, c24, c25]) b _
  simp only [ev_call, evL_cons, evL_nil, ev_var, getV_succ, getV_zero, bnd_ret, s_told (show 5 ≤ k by omega) hp, run_ret]
  show Run (exs P.gl (call P k) (.iff _ _ _ :: bodyB.drop 8) [.un, .im .box, c2, c3, c4, c5, c6, .im (itD ps), .im (.int ps.length), c9, c10, .im (.lst (fD ps)), .im (toldD ps), c13, c14, c15, c16, c17, c18, c19, c20, c21, c22, c23, c24, c25]) b Q
  refine run_iff (run_tst ?_)
  have hfd : fD ps = .int ((i0 + 1 : Nat) : Int) :: r0.map fun i => .int ((i + 1 : Nat) : Int) := by unfold fD; rw [hf]; rfl
  have eT : toldD ps = .tup [.str "falls", .int ((i0 + 1 : Nat) : Int)] := by unfold toldD; rw [hf]
  simp only [ev_cmp, ev_var, ev_lst, evL_nil, getV_succ, getV_zero, bnd_ret]
  rw [if_pos (by simp [lim])]
  simp only [bnd_ret, cop_neL (fD_pln hp), lft_some, run_ret]
  refine ⟨true, by rw [hfd]; rfl, ?_⟩
  rw [if_pos rfl]
  refine run_iff (run_tst ?_)
  have e0 : idx (.lst (fD ps)) (.int 0) = some (.int ((i0 + 1 : Nat) : Int)) := by rw [hfd]; rfl
  have hsm : i0 < ps.length := by
    have : i0 ∈ fallsL ps := by rw [hf]; exact List.mem_cons_self
    unfold fallsL at this
    have := List.mem_range.mp (List.mem_filter.mp this).1
    omega
  have hp6 := hp.len
  have big : (100 : Nat) ≤ 2 ^ 500 := Nat.le_trans (show 100 ≤ 2 ^ 7 by decide) (Nat.pow_le_pow_right (by decide) (by decide))
  have hs : call P k "_law_same" [.tup [.str "falls", .int ((i0 + 1 : Nat) : Int)], .tup [.str "falls", .int ((i0 + 1 : Nat) : Int)]] = ret (.bl true) := by
    refine same_of (by omega) ⟨by simp, fun y hy => ?_⟩
    simp only [List.mem_cons, List.not_mem_nil, or_false] at hy
    rcases hy with rfl | rfl
    · exact str_pd ⟨by decide +kernel, by decide +kernel⟩
    · exact Pd.of_int (by omega)
  simp only [ev_no, ev_call, evL_cons, evL_nil, ev_tup, ev_idx, ev_lit, ev_var, getV_succ, getV_zero, bnd_ret, e0, lft_some, eT]
  rw [if_pos (by simp [lim])]
  simp only [bnd_ret, hs, truth_bl, lft_some, run_ret]
  refine ⟨false, rfl, ?_⟩
  rw [if_neg (by decide)]
  refine run_exs_nil.mpr ?_
  refine run_asg ?_
  have ec : ev P.gl (call P k) (.comp (.call "_law_times" [.idx (.var 14) (.lit (.int 0)), .idx (.var 14) (.lit (.int 1))]) (.nm 14) .seq [.var 7] [] [14]) [.un, .im .box, c2, c3, c4, c5, c6, .im (itD ps), .im (.int ps.length), c9, c10, .im (.lst (fD ps)), .im (toldD ps), c13, c14, c15, c16, c17, c18, c19, c20, c21, c22, c23, c24, c25] = ret (.lst (ps.map fun p => Rt (p.1 * p.2))) := by
    refine ev_compL (ds := [itD ps]) (w := pr) (by simp) rfl (by unfold lim; omega) fun p hpm => ⟨[.un, .im .box, c2, c3, c4, c5, c6, .im (itD ps), .im (.int ps.length), c9, c10, .im (.lst (fD ps)), .im (toldD ps), c13, .im (pr p), c15, c16, c17, c18, c19, c20, c21, c22, c23, c24, c25], rfl, ?_⟩
    have e1 : idx (pr p) (.int 0) = some (Rt p.1) := rfl
    have e2 : idx (pr p) (.int 1) = some (Rt p.2) := rfl
    have hb := hp.bz p hpm
    simp only [ev_call, evL_cons, evL_nil, ev_idx, ev_lit, ev_var, getV_succ, getV_zero, bnd_ret, e1, e2, lft_some]
    exact s_ltimes lrats (show 2 ≤ k by omega) (hb.1.sz (by decide)) (hb.2.sz (by decide))
  rw [← eT]
  simp only [ev_bi, evL_cons, evL_nil, ec, bnd_ret, bfn, lft_some, run_ret]
  refine run_exs_nil.mpr ?_
  have := q (ps.map fun p => p.1 * p.2) c14 ⟨by rw [List.length_map], fun v hv => by
    obtain ⟨p, hpm, rfl⟩ := List.mem_map.mp hv
    have hb := hp.bz p hpm
    exact (hb.1.mul hb.2).mono (by decide)⟩
  rw [List.map_map] at this
  exact this
end K86

set_option autoImplicit false
set_option linter.all false
set_option maxRecDepth 100000
set_option maxHeartbeats 4000000
set_option exponentiation.threshold 20000
/-! MK86j: the law's turn, part four: no falls. -/
namespace PL
theorem ninthD : D.tup [.int 1, .int 9] = Rt (1 / 9) := by
  have h1 : ((1 / 9 : Rat)).num = 1 := by decide +kernel
  have h2 : ((1 / 9 : Rat)).den = 9 := by decide +kernel
  simp only [Rt, h1, h2]
  rfl
theorem ninth_bz : Bz 4 (1 / 9) := ⟨by decide +kernel, by decide +kernel⟩
def rts (g : Nat → Rat) (n : Nat) : List D := (List.range n).map fun i => Rt (g i)
theorem rts_map (g : Nat → Rat) (n : Nat) : rts g n = ((List.range n).map g).map Rt := by unfold rts; rw [List.map_map]; rfl
theorem rts_len (g : Nat → Rat) (n : Nat) : (rts g n).length = n := by unfold rts; simp
theorem rts_get (g : Nat → Rat) {n i : Nat} (h : i < n) : (rts g n)[i]? = some (Rt (g i)) := by unfold rts; rw [List.getElem?_map, List.getElem?_range h]; rfl
theorem rts_succ (g : Nat → Rat) (n : Nat) : rts g (n + 1) = rts g n ++ [Rt (g n)] := by unfold rts; rw [List.range_succ, List.map_append]; rfl
theorem rts_ixL (g : Nat → Rat) {n i : Nat} (h : i < n) : idx (.lst (rts g n)) (.int (i : Int)) = some (Rt (g i)) := by
  show pyIx (rts g n) i = _
  rw [pyIx_nat, rts_get g h]
theorem rts_ixT (g : Nat → Rat) {n i : Nat} (h : i < n) : idx (.tup (rts g n)) (.int (i : Int)) = some (Rt (g i)) := by
  show pyIx (rts g n) i = _
  rw [pyIx_nat, rts_get g h]
theorem rts_cat (g h : Nat → Rat) {n k : Nat} (hk : k ≤ n) : (rts g n).take k ++ ((List.range' k (n - k)).map fun i => Rt (h i)) = rts (fun i => if i < k then g i else h i) n := by
  apply List.ext_getElem?
  intro i
  by_cases hi : i < n
  · rw [rts_get _ hi]
    by_cases h1 : i < k
    · rw [List.getElem?_append_left (by rw [List.length_take, rts_len]; omega), List.getElem?_take_of_lt h1, rts_get _ hi, if_pos h1]
    · rw [List.getElem?_append_right (by rw [List.length_take, rts_len]; omega), List.length_take, rts_len, Nat.min_eq_left hk, List.getElem?_map, List.getElem?_range' (by omega), if_neg h1]
      simp only [Option.map_some]
      congr 3
      omega
  · rw [List.getElem?_eq_none (by rw [List.length_append, List.length_take, rts_len, List.length_map, List.length_range']; omega), List.getElem?_eq_none (by rw [rts_len]; omega)]
theorem rts_drop (g : Nat → Rat) {n k : Nat} (hk : k ≤ n) : (rts g n).drop k = (List.range' k (n - k)).map fun i => Rt (g i) := by
  apply List.ext_getElem?
  intro i
  rw [List.getElem?_drop]
  by_cases hi : k + i < n
  · rw [rts_get _ hi, List.getElem?_map, List.getElem?_range' (by omega)]
    simp
  · rw [List.getElem?_eq_none (by rw [rts_len]; omega), List.getElem?_eq_none (by rw [List.length_map, List.length_range']; omega)]
theorem sl_to {xs : List D} {i : Nat} (h : i ≤ xs.length) : sli none (some (i : Int)) (.lst xs) = some (.lst (xs.take i)) := by simp only [sli, cut_to h]
theorem sl_from {xs : List D} {i : Nat} (h : i ≤ xs.length) : sli (some (i : Int)) none (.lst xs) = some (.lst (xs.drop i)) := by simp only [sli, cut_from h]
end PL
namespace K86
open PL
variable {k : Nat} {c2 c3 c4 c5 c6 c7 c8 c9 c10 c11 c12 c13 c14 c15 c16 c17 c18 c19 c20 c21 c22 c23 c24 c25 : Cell}
theorem topD_rts (ps : List In) : topD ps = rts (topR ps) ps.length := rfl
theorem lowD_rts (ps : List In) : lowD ps = rts (lowR ps) ps.length := rfl
theorem pd_rts {g : Nat → Rat} {n m : Nat} (hm : 1 ≤ m) (hg : ∀ i, i < n → Bz m (g i)) (hn : n ≤ 10) : Pd (2 ^ m) 10 2 (.tup (rts g n)) := by
  rw [rts_map]
  refine pd_vs hm (fun v hv => ?_) (by simpa using hn)
  obtain ⟨i, hi, rfl⟩ := List.mem_map.mp hv
  exact hg i (List.mem_range.mp hi)
theorem prices_rts (hk : 5 ≤ k) {ps : List In} (hp : Bq ps) {g : Nat → Rat} (hg : ∀ i, i < ps.length → Bz 500 (g i)) : call P k "_law_are_prices" [itD ps, .tup (rts g ps.length)] = ret (.bl (arP ps ((List.range ps.length).map g))) := by
  have hl := hp.len
  rw [s_l_prices hk (c := 2 ^ 500) (l := 10) (n := 2) (Nat.pow_lt_pow_right (by decide) (by decide)) (by decide) hp.bs (by omega) (pd_rts (by decide) hg (by omega)), rts_map, prB_vs (by simp)]
/-- slots 15 and 16: the greatest and the least; one value k -/
theorem turnK (hk : 20 ≤ k) {ps : List In} (hp : Bq ps) (hri : Ri ps) (hnf : NoFall ps) {i : Nat} (hi : i < ps.length) {b : Tp} {Q : Fl × Env → Tp → Prop}
    (q : ∀ c18 c20, Q (.nx, [.un, .im .box, c2, c3, c4, c5, .im (.int (i : Int)), .im (itD ps), .im (.int ps.length), c9, c10, c11, c12, c13, c14, .ow (rts (topR ps) ps.length), .ow (rts (lowR ps) ps.length), c17, c18, c19, c20, c21, c22, c23, c24, c25]) b) :
    Run (exs P.gl (call P k) [.asg (.nm 18) (.bi .tuple [.bin .add (.sl2 (.bvar 15) (.var 6)) (.comp (.call "_law_plus" [.var 19, .tup [.lit (.int 1), .lit (.int 9)]]) (.nm 19) .seq [.sl1 (.bvar 15) (.var 6)] [] [19])]),
                .asg (.nm 20) (.bi .tuple [.comp (.ite (.cmp .lt (.var 21) (.var 6)) (.var 19) (.call "_law_minus" [.var 19, .tup [.lit (.int 1), .lit (.int 9)]])) (.tu [.nm 21, .nm 19]) .enu [.bvar 16] [] [21, 19]]),
                .iff (.and [.call "_law_are_prices" [.var 7, .var 18], .no (.bi .any [.comp (.call "_law_less" [.call "_law_times" [.idx (.idx (.var 7) (.var 21)) (.lit (.int 0)), .idx (.idx (.var 7) (.var 21)) (.lit (.int 1))], .idx (.var 18) (.var 21)]) (.nm 21) .ran [.var 8] [] [21]])])
                  [.ret (.lit (.bl false))]
                  [],
                .iff (.and [.call "_law_are_prices" [.var 7, .var 20], .no (.bi .any [.comp (.cmp .lt (.idx (.var 19) (.lit (.int 0))) (.lit (.int 0))) (.nm 19) .seq [.var 20] [] [19]])])
                  [.ret (.lit (.bl false))]
                  []]
      [.un, .im .box, c2, c3, c4, c5, .im (.int (i : Int)), .im (itD ps), .im (.int ps.length), c9, c10, c11, c12, c13, c14, .ow (rts (topR ps) ps.length), .ow (rts (lowR ps) ps.length), c17, c18, c19, c20, c21, c22, c23, c24, c25]) b Q := by
  have hlen := hp.len
  have hup : ∀ j, j < ps.length → Bz 500 (upR ps i j) := fun j hj => by
    unfold upR
    split
    · exact (top_bz hp hj).mono (by decide)
    · exact ((top_bz hp hj).add ninth_bz).mono (by decide)
  have hdn : ∀ j, j < ps.length → Bz 500 (dnR ps i j) := fun j hj => by
    unfold dnR
    split
    · exact (low_bz hp hj).mono (by decide)
    · exact ((low_bz hp hj).sub ninth_bz).mono (by decide)
  -- up
  refine run_asg ?_
  have e1 : ev P.gl (call P k) (.comp (.call "_law_plus" [.var 19, .tup [.lit (.int 1), .lit (.int 9)]]) (.nm 19) .seq [.sl1 (.bvar 15) (.var 6)] [] [19])
      [.un, .im .box, c2, c3, c4, c5, .im (.int (i : Int)), .im (itD ps), .im (.int ps.length), c9, c10, c11, c12, c13, c14, .ow (rts (topR ps) ps.length), .ow (rts (lowR ps) ps.length), c17, c18, c19, c20, c21, c22, c23, c24, c25] = ret (.lst ((List.range' i (ps.length - i)).map fun j => Rt (topR ps j + 1 / 9))) := by
    refine ev_compL (ds := [.lst ((List.range' i (ps.length - i)).map fun j => Rt (topR ps j))]) (w := fun j => Rt (topR ps j)) ?_ rfl (by rw [List.length_range']; unfold lim; omega) fun j hj => ?_
    · simp only [evL_cons, evL_nil, ev_sl1, ev_bvar, ev_var, getB_succ, getB_ow, getV_succ, getV_zero, bnd_ret, toI_int, lft_some, sl_from (show i ≤ (rts (topR ps) ps.length).length by rw [rts_len]; omega), rts_drop _ (Nat.le_of_lt hi)]
    · have hj := List.mem_range'_1.mp hj
      refine ⟨[.un, .im .box, c2, c3, c4, c5, .im (.int (i : Int)), .im (itD ps), .im (.int ps.length), c9, c10, c11, c12, c13, c14, .ow (rts (topR ps) ps.length), .ow (rts (lowR ps) ps.length), c17, c18, .im (Rt (topR ps j)), c20, c21, c22, c23, c24, c25], rfl, ?_⟩
      simp only [ev_call, ev_tup, evL_cons, evL_nil, ev_lit, ev_var, getV_succ, getV_zero, bnd_ret]
      rw [if_pos (by simp [lim])]
      simp only [bnd_ret, ninthD]
      exact s_lplus lrats (show 2 ≤ k by omega) ((top_bz hp (by omega)).sz (by decide)) (ninth_bz.sz (by decide))
  simp only [ev_bi, evL_cons, evL_nil, ev_bin, e1, ev_sl2, ev_bvar, ev_var, getB_succ, getB_ow, getV_succ, getV_zero, bnd_ret, toI_int, lft_some, sl_to (show i ≤ (rts (topR ps) ps.length).length by rw [rts_len]; omega)]
  rw [bop_addL (by rw [List.length_take, rts_len, List.length_map, List.length_range']; unfold lim; omega), rts_cat _ _ (Nat.le_of_lt hi)]
  simp only [lft_some, bnd_ret, bfn, run_ret]
  show Run (exs P.gl (call P k) _ [.un, .im .box, c2, c3, c4, c5, .im (.int (i : Int)), .im (itD ps), .im (.int ps.length), c9, c10, c11, c12, c13, c14, .ow (rts (topR ps) ps.length), .ow (rts (lowR ps) ps.length), c17, .im (.tup (rts (upR ps i) ps.length)), c19, c20, c21, c22, c23, c24, c25]) b Q
  -- down
  refine run_asg ?_
  have e2 : ev P.gl (call P k) (.comp (.ite (.cmp .lt (.var 21) (.var 6)) (.var 19) (.call "_law_minus" [.var 19, .tup [.lit (.int 1), .lit (.int 9)]])) (.tu [.nm 21, .nm 19]) .enu [.bvar 16] [] [21, 19])
      [.un, .im .box, c2, c3, c4, c5, .im (.int (i : Int)), .im (itD ps), .im (.int ps.length), c9, c10, c11, c12, c13, c14, .ow (rts (topR ps) ps.length), .ow (rts (lowR ps) ps.length), c17, .im (.tup (rts (upR ps i) ps.length)), c19, c20, c21, c22, c23, c24, c25] = ret (.lst (rts (dnR ps i) ps.length)) := by
    refine ev_compL (ds := [.lst (rts (lowR ps) ps.length)]) (l := List.range ps.length) (w := fun j => .tup [.int (j : Nat), Rt (lowR ps j)]) ?_ ?_ (by rw [List.length_range]; unfold lim; omega) fun j hj => ?_
    · simp only [evL_cons, evL_nil, ev_bvar, getB_succ, getB_ow, bnd_ret]
    · show some (enuD 0 (rts (lowR ps) ps.length)) = _
      unfold rts
      rw [enu_range]
    · have hj := List.mem_range.mp hj
      refine ⟨[.un, .im .box, c2, c3, c4, c5, .im (.int (i : Int)), .im (itD ps), .im (.int ps.length), c9, c10, c11, c12, c13, c14, .ow (rts (topR ps) ps.length), .ow (rts (lowR ps) ps.length), c17, .im (.tup (rts (upR ps i) ps.length)), .im (Rt (lowR ps j)), c20, .im (.int (j : Int)), c22, c23, c24, c25], rfl, ?_⟩
      simp only [ev_ite, ev_cmp, ev_call, ev_tup, evL_cons, evL_nil, ev_lit, ev_var, getV_succ, getV_zero, bnd_ret, cop_lt, lft_some, truth_bl]
      unfold dnR
      by_cases h : j < i
      · rw [decide_eq_true (show (j : Int) < (i : Int) by omega), if_pos rfl, if_pos h]
      · rw [decide_eq_false (show ¬ (j : Int) < (i : Int) by omega), if_neg (by decide), if_neg h, if_pos (by simp [lim])]
        simp only [bnd_ret, ninthD]
        exact s_lminus lrats (show 2 ≤ k by omega) ((low_bz hp hj).sz (by decide)) (ninth_bz.sz (by decide))
  simp only [ev_bi, evL_cons, evL_nil, e2, bnd_ret, bfn, lft_some, run_ret]
  show Run (exs P.gl (call P k) _ [.un, .im .box, c2, c3, c4, c5, .im (.int (i : Int)), .im (itD ps), .im (.int ps.length), c9, c10, c11, c12, c13, c14, .ow (rts (topR ps) ps.length), .ow (rts (lowR ps) ps.length), c17, .im (.tup (rts (upR ps i) ps.length)), c19, .im (.tup (rts (dnR ps i) ps.length)), c21, c22, c23, c24, c25]) b Q
  refine run_iff (run_tst ?_)
  have p1 := prices_rts (show 5 ≤ k by omega) hp hup
  have p2 := prices_rts (show 5 ≤ k by omega) hp hdn
  have goal2 : Run (exs P.gl (call P k) [.iff (.and [.call "_law_are_prices" [.var 7, .var 20], .no (.bi .any [.comp (.cmp .lt (.idx (.var 19) (.lit (.int 0))) (.lit (.int 0))) (.nm 19) .seq [.var 20] [] [19]])])
                  [.ret (.lit (.bl false))]
                  []]
      [.un, .im .box, c2, c3, c4, c5, .im (.int (i : Int)), .im (itD ps), .im (.int ps.length), c9, c10, c11, c12, c13, c14, .ow (rts (topR ps) ps.length), .ow (rts (lowR ps) ps.length), c17, .im (.tup (rts (upR ps i) ps.length)), c19, .im (.tup (rts (dnR ps i) ps.length)), c21, c22, c23, c24, c25]) b Q := by
    refine run_iff (run_tst ?_)
    simp only [ev_and, evA_cons, evA_one, ev_call, evL_cons, evL_nil, ev_var, getV_succ, getV_zero, bnd_ret, p2, truth_bl, lft_some]
    have fin : ∀ {t : Bool} {b' : Tp}, t = false → b' = b → (if t = true then Run (exs P.gl (call P k) [.ret (.lit (.bl false))] [.un, .im .box, c2, c3, c4, c5, .im (.int (i : Int)), .im (itD ps), .im (.int ps.length), c9, c10, c11, c12, c13, c14, .ow (rts (topR ps) ps.length), .ow (rts (lowR ps) ps.length), c17, .im (.tup (rts (upR ps i) ps.length)), c19, .im (.tup (rts (dnR ps i) ps.length)), c21, c22, c23, c24, c25]) b' (nxts Q (exs P.gl (call P k) [])) else Run (exs P.gl (call P k) [] [.un, .im .box, c2, c3, c4, c5, .im (.int (i : Int)), .im (itD ps), .im (.int ps.length), c9, c10, c11, c12, c13, c14, .ow (rts (topR ps) ps.length), .ow (rts (lowR ps) ps.length), c17, .im (.tup (rts (upR ps i) ps.length)), c19, .im (.tup (rts (dnR ps i) ps.length)), c21, c22, c23, c24, c25]) b' (nxts Q (exs P.gl (call P k) []))) := fun {t b'} ht hb => by
      subst ht hb
      rw [if_neg (by decide)]
      exact run_exs_nil.mpr (run_exs_nil.mpr (q _ _))
    cases i with
    | succ i =>
      rw [dn_bad hi, if_neg (by decide), run_ret]
      exact ⟨false, rfl, fin rfl rfl⟩
    | zero =>
      cases ha : arP ps ((List.range ps.length).map (dnR ps 0)) with
      | false =>
        rw [if_neg (by decide), run_ret]
        exact ⟨false, rfl, fin rfl rfl⟩
      | true =>
        rw [if_pos rfl]
        have e3 : ev P.gl (call P k) (.comp (.cmp .lt (.idx (.var 19) (.lit (.int 0))) (.lit (.int 0))) (.nm 19) .seq [.var 20] [] [19])
            [.un, .im .box, c2, c3, c4, c5, .im (.int ((0 : Nat) : Int)), .im (itD ps), .im (.int ps.length), c9, c10, c11, c12, c13, c14, .ow (rts (topR ps) ps.length), .ow (rts (lowR ps) ps.length), c17, .im (.tup (rts (upR ps 0) ps.length)), c19, .im (.tup (rts (dnR ps 0) ps.length)), c21, c22, c23, c24, c25] = ret (.lst ((List.range ps.length).map fun j => .bl (decide ((dnR ps 0 j).num < 0)))) := by
          refine ev_compL (ds := [.tup (rts (dnR ps 0) ps.length)]) (l := List.range ps.length) (w := fun j => Rt (dnR ps 0 j)) (by simp) rfl (by rw [List.length_range]; unfold lim; omega) fun j hj => ⟨[.un, .im .box, c2, c3, c4, c5, .im (.int ((0 : Nat) : Int)), .im (itD ps), .im (.int ps.length), c9, c10, c11, c12, c13, c14, .ow (rts (topR ps) ps.length), .ow (rts (lowR ps) ps.length), c17, .im (.tup (rts (upR ps 0) ps.length)), .im (Rt (dnR ps 0 j)), .im (.tup (rts (dnR ps 0) ps.length)), c21, c22, c23, c24, c25], rfl, ?_⟩
          have : idx (Rt (dnR ps 0 j)) (.int 0) = some (.int (dnR ps 0 j).num) := rfl
          simp only [ev_cmp, ev_idx, ev_lit, ev_var, getV_succ, getV_zero, bnd_ret, this, lft_some, cop_lt]
        have hany : ((List.range ps.length).any fun j => decide ((dnR ps 0 j).num < 0)) = true := by
          rw [List.any_eq_true]
          refine ⟨0, List.mem_range.mpr hi, decide_eq_true ?_⟩
          have h := dn_zero (ps := ps)
          refine Classical.byContradiction fun z => ?_
          have := Rat.num_nonneg.mp (show 0 ≤ (dnR ps 0 0).num by omega)
          grind
        simp only [ev_no, ev_bi, evL_cons, evL_nil, e3, bnd_ret, bfn_anyL, hany, lft_some, truth_bl, run_ret]
        exact ⟨false, rfl, fin rfl rfl⟩
  simp only [ev_and, evA_cons, evA_one, ev_call, evL_cons, evL_nil, ev_var, getV_succ, getV_zero, bnd_ret, p1, truth_bl, lft_some]
  cases i with
  | succ i =>
    rw [up_bad hi, if_neg (by decide), run_ret]
    refine ⟨false, rfl, ?_⟩
    rw [if_neg (by decide)]
    exact run_exs_nil.mpr goal2
  | zero =>
    cases ha : arP ps ((List.range ps.length).map (upR ps 0)) with
    | false =>
      rw [if_neg (by decide), run_ret]
      refine ⟨false, rfl, ?_⟩
      rw [if_neg (by decide)]
      exact run_exs_nil.mpr goal2
    | true =>
      rw [if_pos rfl]
      have e3 : ev P.gl (call P k) (.comp (.call "_law_less" [.call "_law_times" [.idx (.idx (.var 7) (.var 21)) (.lit (.int 0)), .idx (.idx (.var 7) (.var 21)) (.lit (.int 1))], .idx (.var 18) (.var 21)]) (.nm 21) .ran [.var 8] [] [21])
          [.un, .im .box, c2, c3, c4, c5, .im (.int ((0 : Nat) : Int)), .im (itD ps), .im (.int ps.length), c9, c10, c11, c12, c13, c14, .ow (rts (topR ps) ps.length), .ow (rts (lowR ps) ps.length), c17, .im (.tup (rts (upR ps 0) ps.length)), c19, .im (.tup (rts (dnR ps 0) ps.length)), c21, c22, c23, c24, c25] = ret (.lst ((List.range ps.length).map fun j => .bl (decide (zf ps j * af ps j < upR ps 0 j)))) := by
        refine ev_compL (ds := [.int (ps.length : Int)]) (by simp) (ran_map (by omega)) (by rw [List.length_range]; unfold lim; omega) fun j hj => ⟨[.un, .im .box, c2, c3, c4, c5, .im (.int ((0 : Nat) : Int)), .im (itD ps), .im (.int ps.length), c9, c10, c11, c12, c13, c14, .ow (rts (topR ps) ps.length), .ow (rts (lowR ps) ps.length), c17, .im (.tup (rts (upR ps 0) ps.length)), c19, .im (.tup (rts (dnR ps 0) ps.length)), .im (.int (j : Int)), c22, c23, c24, c25], rfl, ?_⟩
        have hj := List.mem_range.mp hj
        simp only [ev_call, evL_cons, evL_nil, ev_idx, ev_lit, ev_var, getV_succ, getV_zero, bnd_ret, ix_in hj, lft_some, ix_tup0, ix_tup1, rts_ixT (upR ps 0) hj, s_ltimes lrats (show 2 ≤ k by omega) ((hp.z hj).sz (by decide)) ((hp.a hj).sz (by decide)), s_lless lrats (show 1 ≤ k by omega) (((hp.z hj).mul (hp.a hj)).sz (by decide)) ((hup j hj).sz (by decide))]
      have hany : ((List.range ps.length).any fun j => decide (zf ps j * af ps j < upR ps 0 j)) = true := by
        rw [List.any_eq_true]
        exact ⟨0, List.mem_range.mpr hi, decide_eq_true up_zero⟩
      simp only [ev_no, ev_bi, evL_cons, evL_nil, e3, bnd_ret, bfn_anyL, hany, lft_some, truth_bl, run_ret]
      refine ⟨false, rfl, ?_⟩
      rw [if_neg (by decide)]
      exact run_exs_nil.mpr goal2
end K86

set_option autoImplicit false
set_option linter.all false
set_option maxRecDepth 100000
set_option maxHeartbeats 4000000
set_option exponentiation.threshold 20000
/-! MK86k: the law's turn, part five: no falls, joined. -/
namespace K86
open PL
variable {k : Nat} {c2 c3 c4 c5 c6 c7 c8 c9 c10 c11 c12 c13 c14 c15 c16 c17 c18 c19 c20 c21 c22 c23 c24 c25 : Cell}
theorem partC2 (hk : 20 ≤ k) {ps : List In} (hp : Bq ps) (hri : Ri ps) (hf : fallsL ps = []) {b : Tp} {Q : Fl × Env → Tp → Prop}
    (q : ∀ c6 c15 c16 c17 c18 c20, Run (exs P.gl (call P k) (bodyB.drop 8) [.un, .im .box, c2, c3, c4, c5, c6, .im (itD ps), .im (.int ps.length), c9, c10, .im (.lst (fD ps)), .im (toldD ps), .im (.tup (rts (topR ps) ps.length)), c14, c15, c16, c17, c18, c19, c20, c21, c22, c23, c24, c25]) b Q) :
    Run (exs P.gl (call P k) (bodyB.drop 5) [.un, .im .box, c2, c3, c4, c5, c6, .im (itD ps), .im (.int ps.length), c9, c10, c11, c12, c13, c14, c15, c16, c17, c18, c19, c20, c21, c22, c23, c24, c25]) b Q := by
  have hnf := noFall_of hf
  have hlen := hp.len
  have hpos := hp.pos
  show Run (exs P.gl (call P k) (.asg _ _ :: .asg _ _ :: .iff _ _ _ :: bodyB.drop 8) _) b Q
  refine run_asg ?_
  rw [ev_falls (by omega) hp, run_ret]
  refine run_asg ?_
  show Run (ev P.gl (call P k) (.call "intent_prices" [.var 7]) [.un, .im .box, c2, c3, c4, c5, c6, .im (itD ps), .im (.int ps.length), c9, c10, .im (.lst (fD ps)), c12, c13, c14, c15, c16, c17, c18, c19, c20, c21, c22, c23, c24, c25]) b _
  simp only [ev_call, evL_cons, evL_nil, ev_var, getV_succ, getV_zero, bnd_ret, s_told (show 5 ≤ k by omega) hp, run_ret]
  show Run (exs P.gl (call P k) (.iff _ _ _ :: bodyB.drop 8) [.un, .im .box, c2, c3, c4, c5, c6, .im (itD ps), .im (.int ps.length), c9, c10, .im (.lst (fD ps)), .im (toldD ps), c13, c14, c15, c16, c17, c18, c19, c20, c21, c22, c23, c24, c25]) b Q
  refine run_iff (run_tst ?_)
  have hfd : fD ps = [] := by unfold fD; rw [hf]; rfl
  have eT : toldD ps = .tup [.str "prices", .tup (rts (topR ps) ps.length)] := by unfold toldD; rw [hf]; rfl
  simp only [ev_cmp, ev_var, ev_lst, evL_nil, getV_succ, getV_zero, bnd_ret]
  rw [if_pos (by simp [lim])]
  simp only [bnd_ret, cop_neL (fD_pln hp), lft_some, run_ret]
  refine ⟨false, by rw [hfd]; rfl, ?_⟩
  rw [if_neg (by decide)]
  -- top, low
  refine run_par ?_
  have i0 := ix_in (ps := ps) hpos
  rw [show ((0 : Nat) : Int) = 0 from rfl] at i0
  have htop0 : zf ps 0 * af ps 0 = topR ps 0 := rfl
  simp only [ev_lst, ev_call, ev_tup, evL_cons, evL_nil, ev_idx, ev_lit, ev_var, getV_succ, getV_zero, bnd_ret, i0, lft_some, ix_tup0, ix_tup1, s_ltimes lrats (show 2 ≤ k by omega) ((hp.z hpos).sz (by decide)) ((hp.a hpos).sz (by decide))]
  rw [if_pos (by simp [lim]), run_ret, if_pos (by simp [lim])]
  simp only [bnd_ret]
  rw [if_pos (by simp [lim]), run_ret]
  refine ⟨_, _, rfl, rfl, ?_⟩
  show Run (exs P.gl (call P k) _ [.un, .im .box, c2, c3, c4, c5, c6, .im (itD ps), .im (.int ps.length), c9, c10, .im (.lst (fD ps)), .im (toldD ps), c13, c14, .ow (rts (topR ps) 1), .ow (rts (lowR ps) 1), c17, c18, c19, c20, c21, c22, c23, c24, c25]) b _
  refine run_fr ?_
  have hr := ran2_map (a := 1) (b := ps.length) (by omega) (by decide)
  simp only [evL_cons, evL_nil, ev_lit, ev_var, getV_succ, getV_zero, bnd_ret, run_ret]
  refine ⟨_, hr, ?_⟩
  refine run_forL (fun i ρ b' => b' = b ∧ ∃ c6 c17, ρ = [.un, .im .box, c2, c3, c4, c5, c6, .im (itD ps), .im (.int ps.length), c9, c10, .im (.lst (fD ps)), .im (toldD ps), c13, c14, .ow (rts (topR ps) (i + 1)), .ow (rts (lowR ps) (i + 1)), c17, c18, c19, c20, c21, c22, c23, c24, c25]) ?_ ?_ ⟨rfl, _, _, rfl⟩
  · rintro i x ρ b' hx ⟨rfl, c6, c17, rfl⟩
    have hi : i < ps.length - 1 := by have := (List.getElem?_eq_some_iff.mp hx).1; rwa [List.length_range] at this
    obtain rfl : i = x := by rw [List.getElem?_range hi] at hx; exact Option.some.inj hx
    have h1 : i + 1 < ps.length := by omega
    have h0 : i < ps.length := by omega
    show Run (exs P.gl (call P k) _ [.un, .im .box, c2, c3, c4, c5, .im (.int ((1 + i : Nat) : Int)), .im (itD ps), .im (.int ps.length), c9, c10, .im (.lst (fD ps)), .im (toldD ps), c13, c14, .ow (rts (topR ps) (i + 1)), .ow (rts (lowR ps) (i + 1)), c17, c18, c19, c20, c21, c22, c23, c24, c25]) b' _
    have hd := (hp.a h1).sub (hp.a h0)
    refine run_asg ?_
    simp only [ev_call, evL_cons, evL_nil, ev_idx, ev_bin, ev_lit, ev_var, getV_succ, getV_zero, bnd_ret, bop_subI, int_suc, int_pred, ix_in h1, ix_in h0, lft_some, ix_tup1, s_lminus lrats (show 2 ≤ k by omega) ((hp.a h1).sz (by decide)) ((hp.a h0).sz (by decide)), run_ret]
    show Run (exs P.gl (call P k) _ [.un, .im .box, c2, c3, c4, c5, .im (.int ((i + 1 : Nat) : Int)), .im (itD ps), .im (.int ps.length), c9, c10, .im (.lst (fD ps)), .im (toldD ps), c13, c14, .ow (rts (topR ps) (i + 1)), .ow (rts (lowR ps) (i + 1)), .im (Rt (af ps (i + 1) - af ps i)), c18, c19, c20, c21, c22, c23, c24, c25]) b' _
    have lastT : idx (.lst (rts (topR ps) (i + 1))) (.int (-1)) = some (Rt (topR ps i)) := by rw [rts_succ]; exact ix_last
    have lastL : idx (.lst (rts (lowR ps) (i + 1))) (.int (-1)) = some (Rt (lowR ps i)) := by rw [rts_succ]; exact ix_last
    refine run_app (xs := rts (topR ps) (i + 1)) rfl (by rw [rts_len]; unfold lim; omega) ?_
    simp only [ev_call, evL_cons, evL_nil, ev_idx, ev_bin, ev_neg, ev_lit, ev_var, ev_bvar, getB_succ, getB_ow, getV_succ, getV_zero, bnd_ret, toI_int, lastT, bop_subI, int_pred, ix_in h1, ix_in h0, lft_some, ix_tup0,
      s_ltimes lrats (show 2 ≤ k by omega) ((hp.z h1).sz (by decide)) (hd.sz (by decide)), s_lplus lrats (show 2 ≤ k by omega) ((top_bz hp h0).sz (by decide)) (((hp.z h1).mul hd).sz (by decide)), run_ret]
    show Run (exs P.gl (call P k) _ [.un, .im .box, c2, c3, c4, c5, .im (.int ((i + 1 : Nat) : Int)), .im (itD ps), .im (.int ps.length), c9, c10, .im (.lst (fD ps)), .im (toldD ps), c13, c14, .ow (rts (topR ps) (i + 1) ++ [Rt (topR ps (i + 1))]), .ow (rts (lowR ps) (i + 1)), .im (Rt (af ps (i + 1) - af ps i)), c18, c19, c20, c21, c22, c23, c24, c25]) b' _
    refine run_app (xs := rts (lowR ps) (i + 1)) rfl (by rw [rts_len]; unfold lim; omega) ?_
    simp only [ev_call, evL_cons, evL_nil, ev_idx, ev_bin, ev_neg, ev_lit, ev_var, ev_bvar, getB_succ, getB_ow, getV_succ, getV_zero, bnd_ret, toI_int, lastL, bop_subI, int_pred, ix_in h1, ix_in h0, lft_some, ix_tup0,
      s_ltimes lrats (show 2 ≤ k by omega) ((hp.z h0).sz (by decide)) (hd.sz (by decide)), s_lplus lrats (show 2 ≤ k by omega) ((low_bz hp h0).sz (by decide)) (((hp.z h0).mul hd).sz (by decide)), run_ret]
    refine run_exs_nil.mpr ⟨rfl, .im (.int ((i + 1 : Nat) : Int)), .im (Rt (af ps (i + 1) - af ps i)), ?_⟩
    rw [rts_succ (topR ps) (i + 1), rts_succ (lowR ps) (i + 1)]
    rfl
  · rintro ρ b' ⟨rfl, c6, c17, rfl⟩
    have hl : (List.range (ps.length - 1)).length + 1 = ps.length := by rw [List.length_range]; omega
    rw [hl]
    have pdT : Pd (2 ^ 500) 10 2 (.tup (rts (topR ps) ps.length)) := pd_rts (by decide) (fun i hi => (top_bz hp hi).mono (by decide)) (by omega)
    have pdL : Pd (2 ^ 500) 10 2 (.tup (rts (lowR ps) ps.length)) := pd_rts (by decide) (fun i hi => (low_bz hp hi).mono (by decide)) (by omega)
    have s1 : call P k "_law_same" [.tup [.str "prices", .tup (rts (topR ps) ps.length)], .tup [.str "prices", .tup (rts (topR ps) ps.length)]] = ret (.bl true) := by
      refine same_of (by omega) ⟨by simp, fun y hy => ?_⟩
      simp only [List.mem_cons, List.not_mem_nil, or_false] at hy
      rcases hy with rfl | rfl
      · exact str_pd ⟨by decide +kernel, by decide +kernel⟩
      · exact pdT.mono (Nat.le_refl _) (Nat.le_refl _) (by decide)
    have s2 : call P k "_law_same" [.tup (rts (lowR ps) ps.length), .tup (rts (lowR ps) ps.length)] = ret (.bl true) := same_of (by omega) (pdL.mono (Nat.le_refl _) (Nat.le_refl _) (by decide))
    have pt := prices_rts (show 5 ≤ k by omega) hp (g := topR ps) fun i hi => (top_bz hp hi).mono (by decide)
    have pl := prices_rts (show 5 ≤ k by omega) hp (g := lowR ps) fun i hi => (low_bz hp hi).mono (by decide)
    rw [ic_top hri hnf] at pt
    rw [ic_low hri hnf] at pl
    have sl := s_least (show 5 ≤ k by omega) hp
    rw [lowD_rts] at sl
    refine run_iff (run_tst ?_)
    simp only [ev_or, evO_cons, evO_one, ev_no, ev_call, ev_tup, ev_bi, evL_cons, evL_nil, ev_lit, ev_var, ev_bvar, getB_succ, getB_ow, getV_succ, getV_zero, bnd_ret, bfn, lft_some, eT]
    rw [if_pos (by simp [lim])]
    simp only [bnd_ret, s1, sl, s2, truth_bl, lft_some, Bool.not_true, Bool.false_eq_true, if_false, run_ret]
    refine ⟨false, rfl, ?_⟩
    rw [if_neg (by decide)]
    refine run_exs_nil.mpr ?_
    refine run_iff (run_tst ?_)
    have e1 : ev P.gl (call P k) (.comp (.call "_law_less" [.idx (.bvar 15) (.var 6), .idx (.bvar 16) (.var 6)]) (.nm 6) .ran [.var 8] [] [6])
        [.un, .im .box, c2, c3, c4, c5, c6, .im (itD ps), .im (.int ps.length), c9, c10, .im (.lst (fD ps)), .im (.tup [.str "prices", .tup (rts (topR ps) ps.length)]), c13, c14, .ow (rts (topR ps) ps.length), .ow (rts (lowR ps) ps.length), c17, c18, c19, c20, c21, c22, c23, c24, c25] = ret (.lst ((List.range ps.length).map fun j => .bl (decide (topR ps j < lowR ps j)))) := by
      refine ev_compL (ds := [.int (ps.length : Int)]) (by simp) (ran_map (by omega)) (by rw [List.length_range]; unfold lim; omega) fun j hj => ⟨[.un, .im .box, c2, c3, c4, c5, .im (.int (j : Int)), .im (itD ps), .im (.int ps.length), c9, c10, .im (.lst (fD ps)), .im (.tup [.str "prices", .tup (rts (topR ps) ps.length)]), c13, c14, .ow (rts (topR ps) ps.length), .ow (rts (lowR ps) ps.length), c17, c18, c19, c20, c21, c22, c23, c24, c25], rfl, ?_⟩
      have hj := List.mem_range.mp hj
      simp only [ev_call, evL_cons, evL_nil, ev_idx, ev_var, ev_bvar, getB_succ, getB_ow, getV_succ, getV_zero, bnd_ret, rts_ixL (topR ps) hj, rts_ixL (lowR ps) hj, lft_some, s_lless lrats (show 1 ≤ k by omega) ((top_bz hp hj).sz (by decide)) ((low_bz hp hj).sz (by decide))]
    have a1 : ((List.range ps.length).any fun j => decide (topR ps j < lowR ps j)) = false := by
      rw [List.any_eq_false]
      intro j hj
      have := low_top hri hnf j (List.mem_range.mp hj)
      rw [decide_eq_true_eq]
      grind
    have tupL : ∀ xs, bfn .tuple [.lst xs] = some (.tup xs) := fun _ => rfl
    simp only [ev_or, evO_cons, evO_one, ev_no, ev_call, ev_bi, evL_cons, evL_nil, ev_var, ev_bvar, getB_succ, getB_ow, getV_succ, getV_zero, bnd_ret, tupL, lft_some, pt, pl, truth_bl, Bool.not_true, Bool.false_eq_true, if_false, e1, bfn_anyL, a1]
    simp only [lft_some, run_ret]
    refine ⟨false, rfl, ?_⟩
    rw [if_neg (by decide)]
    refine run_exs_nil.mpr ?_
    refine run_iff (run_tst ?_)
    have e2 : ev P.gl (call P k) (.comp (.call "_law_less" [.call "_law_times" [.idx (.idx (.var 7) (.var 6)) (.lit (.int 0)), .idx (.idx (.var 7) (.var 6)) (.lit (.int 1))], .idx (.bvar 15) (.var 6)]) (.nm 6) .ran [.var 8] [] [6])
        [.un, .im .box, c2, c3, c4, c5, c6, .im (itD ps), .im (.int ps.length), c9, c10, .im (.lst (fD ps)), .im (.tup [.str "prices", .tup (rts (topR ps) ps.length)]), c13, c14, .ow (rts (topR ps) ps.length), .ow (rts (lowR ps) ps.length), c17, c18, c19, c20, c21, c22, c23, c24, c25] = ret (.lst ((List.range ps.length).map fun j => .bl (decide (zf ps j * af ps j < topR ps j)))) := by
      refine ev_compL (ds := [.int (ps.length : Int)]) (by simp) (ran_map (by omega)) (by rw [List.length_range]; unfold lim; omega) fun j hj => ⟨[.un, .im .box, c2, c3, c4, c5, .im (.int (j : Int)), .im (itD ps), .im (.int ps.length), c9, c10, .im (.lst (fD ps)), .im (.tup [.str "prices", .tup (rts (topR ps) ps.length)]), c13, c14, .ow (rts (topR ps) ps.length), .ow (rts (lowR ps) ps.length), c17, c18, c19, c20, c21, c22, c23, c24, c25], rfl, ?_⟩
      have hj := List.mem_range.mp hj
      simp only [ev_call, evL_cons, evL_nil, ev_idx, ev_lit, ev_var, ev_bvar, getB_succ, getB_ow, getV_succ, getV_zero, bnd_ret, ix_in hj, ix_tup0, ix_tup1, rts_ixL (topR ps) hj, lft_some, s_ltimes lrats (show 2 ≤ k by omega) ((hp.z hj).sz (by decide)) ((hp.a hj).sz (by decide)), s_lless lrats (show 1 ≤ k by omega) (((hp.z hj).mul (hp.a hj)).sz (by decide)) ((top_bz hp hj).sz (by decide))]
    have a2 : ((List.range ps.length).any fun j => decide (zf ps j * af ps j < topR ps j)) = false := by
      rw [List.any_eq_false]
      intro j hj
      have := top_le hri j (List.mem_range.mp hj)
      rw [decide_eq_true_eq]
      grind
    simp only [ev_bi, evL_cons, evL_nil, e2, bnd_ret, bfn_anyL, a2, lft_some, run_ret]
    refine ⟨false, rfl, ?_⟩
    rw [if_neg (by decide)]
    refine run_exs_nil.mpr ?_
    refine run_fr ?_
    simp only [evL_cons, evL_nil, ev_var, getV_succ, getV_zero, bnd_ret, run_ret]
    refine ⟨_, ran_map (by omega), ?_⟩
    refine run_forL (fun i ρ b2 => b2 = b' ∧ ∃ c6 c18 c20, ρ = [.un, .im .box, c2, c3, c4, c5, c6, .im (itD ps), .im (.int ps.length), c9, c10, .im (.lst (fD ps)), .im (.tup [.str "prices", .tup (rts (topR ps) ps.length)]), c13, c14, .ow (rts (topR ps) ps.length), .ow (rts (lowR ps) ps.length), c17, c18, c19, c20, c21, c22, c23, c24, c25]) ?_ ?_ ⟨rfl, _, _, _, rfl⟩
    · rintro i x ρ b2 hx ⟨rfl, c6, c18, c20, rfl⟩
      have hi : i < ps.length := by have := (List.getElem?_eq_some_iff.mp hx).1; rwa [List.length_range] at this
      obtain rfl : i = x := by rw [List.getElem?_range hi] at hx; exact Option.some.inj hx
      exact turnK (c2 := c2) (c3 := c3) (c4 := c4) (c5 := c5) (c9 := c9) (c10 := c10) (c11 := .im (.lst (fD ps))) (c12 := .im (.tup [.str "prices", .tup (rts (topR ps) ps.length)])) (c13 := c13) (c14 := c14) (c17 := c17) (c18 := c18) (c19 := c19) (c20 := c20) (c21 := c21) (c22 := c22) (c23 := c23) (c24 := c24) (c25 := c25) hk hp hri hnf hi fun c18 c20 => ⟨rfl, _, _, _, rfl⟩
    · rintro ρ b2 ⟨rfl, c6, c18, c20, rfl⟩
      refine run_asg ?_
      simp only [ev_bi, evL_cons, evL_nil, ev_bvar, getB_succ, getB_ow, bnd_ret, bfn, lft_some, run_ret]
      refine run_exs_nil.mpr ?_
      have := q c6 (.ow (rts (topR ps) ps.length)) (.ow (rts (lowR ps) ps.length)) c17 c18 c20
      rw [eT] at this
      exact this
end K86

set_option autoImplicit false
set_option linter.all false
set_option maxRecDepth 100000
set_option maxHeartbeats 4000000
set_option exponentiation.threshold 20000
/-! MK86l: the law's turn, part six: judged prices, what comes in, the cut; the law. -/
namespace PL
theorem threeD : D.tup [.int 3, .int 1] = Rt 3 := by
  have h1 : ((3 : Rat)).num = 3 := by decide +kernel
  have h2 : ((3 : Rat)).den = 1 := by decide +kernel
  simp only [Rt, h1, h2]
  rfl
theorem three_bz : Bz 2 3 := ⟨by decide +kernel, by decide +kernel⟩
theorem prB_falls {ps : List In} (h : Ri ps) {i : Nat} {r : List Nat} (hf : fallsL ps = i :: r) (d : D) : prB ps d = false := by
  unfold prB
  split
  · rename_i xs
    by_cases hl : xs.length = ps.length
    · rw [no_prices h (by rw [List.length_map, hl]) hf]
      simp
    · simp [hl]
  · rfl
theorem zip_range {ss vs : List Rat} {n : Nat} (h1 : ss.length = n) (h2 : vs.length = n) : (ss.zip vs).map (fun p => p.1 * p.2) = (List.range n).map fun k => ss.getD k 0 * vs.getD k 0 := by
  apply List.ext_getElem
  · simp [h1, h2]
  · intro i h3 h4
    have hi : i < n := by simpa using h4
    simp only [List.getElem_map, List.getElem_zip, List.getElem_range]
    rw [getD_at (by omega), getD_at (by omega)]
theorem cop_eqR {x y : Rat} : cop .eq (Rt x) (Rt y) = some (decide (x = y)) := by
  unfold Rt
  rw [cop_eqT]
  congr 1
  by_cases h : x = y
  · subst h; simp
  · rw [decide_eq_false h]
    by_cases h1 : x.num = y.num
    · have : ¬ (x.den : Int) = (y.den : Int) := fun z => h (Rat.ext h1 (by exact_mod_cast z))
      rw [decide_eq_false this, Bool.and_false]
    · rw [decide_eq_false h1, Bool.false_and]
theorem exists_map {p : Rat → Prop} : ∀ {ds : List D}, (∀ d ∈ ds, ∃ x, d = Rt x ∧ p x) → ∃ xs : List Rat, ds = xs.map Rt ∧ ∀ x ∈ xs, p x
  | [], _ => ⟨[], rfl, by simp⟩
  | d :: ds, h => by
    obtain ⟨x, rfl, hx⟩ := h d List.mem_cons_self
    obtain ⟨xs, rfl, hxs⟩ := exists_map fun d hd => h d (List.mem_cons_of_mem _ hd)
    exact ⟨x :: xs, rfl, fun y hy => by
      rcases List.mem_cons.mp hy with rfl | hy
      · exact hx
      · exact hxs y hy⟩
end PL
namespace K86
open PL
variable {k : Nat} {c2 c3 c4 c5 c6 c7 c8 c9 c10 c11 c12 c13 c14 c15 c16 c17 c18 c19 c20 c21 c22 c23 c24 c25 : Cell}
abbrev PW (d : D) : Prop := Pd (2 ^ 501) 20 5 d
theorem partD (hk : 20 ≤ k) {ps : List In} (hp : Bq ps) (hri : Ri ps) {vs : List Rat} (hv : Vs ps vs) {b : Tp} {Q : Fl × Env → Tp → Prop}
    (q : ∀ c9 c10 c22 b', Run (exs P.gl (call P k) (bodyB.drop 10) [.un, .im .box, c2, c3, c4, c5, c6, .im (itD ps), .im (.int ps.length), c9, c10, .im (.lst (fD ps)), c12, .im (.tup (vs.map Rt)), c14, c15, c16, c17, c18, c19, c20, c21, c22, c23, c24, c25]) b' Q) :
    Run (exs P.gl (call P k) (bodyB.drop 8) [.un, .im .box, c2, c3, c4, c5, c6, .im (itD ps), .im (.int ps.length), c9, c10, .im (.lst (fD ps)), c12, .im (.tup (vs.map Rt)), c14, c15, c16, c17, c18, c19, c20, c21, c22, c23, c24, c25]) b Q := by
  have hlen := hp.len
  have hpos := hp.pos
  have hvl := hv.len
  show Run (exs P.gl (call P k) (.asg _ _ :: .fr _ _ _ _ :: bodyB.drop 10) _) b Q
  refine run_asg ?_
  have hc : (2 : Nat) ^ 500 ≤ 2 ^ 501 := Nat.pow_le_pow_right (by decide) (by decide)
  have big : (100 : Nat) ≤ 2 ^ 501 := Nat.le_trans (show 100 ≤ 2 ^ 7 by decide) (Nat.pow_le_pow_right (by decide) (by decide))
  have pdv : Pd (2 ^ 500) 10 2 (.tup (vs.map Rt)) := pd_vs (by decide) (fun v h => (hv.bz v h).mono (by decide)) (by omega)
  have hsub : ∀ y ∈ vs.map Rt, Pd (2 ^ 501) 20 4 y := fun y hy => (pdv.2 y hy).mono hc (by decide) (by decide)
  have ec : ev P.gl (call P k) (.comp (.call "_law_plus" [.var 19, .tup [.lit (.int 3), .lit (.int 1)]]) (.nm 19) .seq [.var 13] [] [19])
      [.un, .im .box, c2, c3, c4, c5, c6, .im (itD ps), .im (.int ps.length), c9, c10, .im (.lst (fD ps)), c12, .im (.tup (vs.map Rt)), c14, c15, c16, c17, c18, c19, c20, c21, c22, c23, c24, c25] = ret (.lst (vs.map fun v => Rt (v + 3))) := by
    refine ev_compL (ds := [.tup (vs.map Rt)]) (w := Rt) (by simp) rfl (by unfold lim; omega) fun v hv' => ⟨[.un, .im .box, c2, c3, c4, c5, c6, .im (itD ps), .im (.int ps.length), c9, c10, .im (.lst (fD ps)), c12, .im (.tup (vs.map Rt)), c14, c15, c16, c17, c18, .im (Rt v), c20, c21, c22, c23, c24, c25], rfl, ?_⟩
    simp only [ev_call, ev_tup, evL_cons, evL_nil, ev_lit, ev_var, getV_succ, getV_zero, bnd_ret]
    rw [if_pos (by simp [lim])]
    simp only [bnd_ret, threeD]
    exact s_lplus lrats (show 2 ≤ k by omega) ((hv.bz v hv').sz (by decide)) (three_bz.sz (by decide))
  obtain ⟨V, ev, hV, hVl⟩ : ∃ V : List D, ev P.gl (call P k) (.lst [.var 13, .rev (.var 13), .sl1 (.var 13) (.lit (.int 1)), .bin .add (.var 13) (.tup [.tup [.lit (.int 0), .lit (.int 1)]]), .bin .mul (.tup [.tup [.lit (.int 0), .lit (.int 1)]]) (.var 8), .bi .tuple [.comp (.call "_law_plus" [.var 19, .tup [.lit (.int 3), .lit (.int 1)]]) (.nm 19) .seq [.var 13] [] [19]], .lit .non])
      [.un, .im .box, c2, c3, c4, c5, c6, .im (itD ps), .im (.int ps.length), c9, c10, .im (.lst (fD ps)), c12, .im (.tup (vs.map Rt)), c14, c15, c16, c17, c18, c19, c20, c21, c22, c23, c24, c25] = ret (.lst V) ∧ (∀ v ∈ V, PW v) ∧ V.length = 7 := by
    refine ⟨[.tup (vs.map Rt), .tup (vs.map Rt).reverse, .tup (cutD (vs.map Rt) (some 1) none), .tup (vs.map Rt ++ [.tup [.int 0, .int 1]]), .tup (List.replicate ps.length [D.tup [.int 0, .int 1]]).flatten, .tup (vs.map fun v => Rt (v + 3)), .non], ?_, ?_, rfl⟩
    · have em : bop .mul (.tup [.tup [.int 0, .int 1]]) (.int (ps.length : Int)) = some (.tup (List.replicate ps.length [D.tup [.int 0, .int 1]]).flatten) := by
        simp only [bop]
        rw [if_pos ⟨by simp, by omega, by omega, by simp⟩]
        simp
      simp only [ev_lst, ev_bi, evL_cons, evL_nil, ec, ev_var, ev_rev, ev_bin, ev_sl1, ev_lit, ev_tup, getV_succ, getV_zero, bnd_ret, toI_int, lft_some, revD, sli, bfn]
      rw [if_pos (by simp [lim])]
      simp only [bnd_ret]
      rw [if_pos (by simp [lim])]
      simp only [bnd_ret]
      rw [bop_addT (by rw [List.length_map]; unfold lim; simp; omega)]
      simp only [lft_some, bnd_ret, em]
      rw [if_pos (by simp [lim])]
    · intro v hv'
      simp only [List.mem_cons, List.not_mem_nil, or_false] at hv'
      rcases hv' with rfl | rfl | rfl | rfl | rfl | rfl | rfl
      · exact pdv.mono hc (by decide) (by decide)
      · exact ⟨by rw [List.length_reverse, List.length_map]; omega, fun y hy => hsub y (List.mem_reverse.mp hy)⟩
      · exact ⟨Nat.le_trans len_cut (by rw [List.length_map]; omega), fun y hy => hsub y (sub_take hy)⟩
      · refine ⟨by rw [List.length_append, List.length_map]; simp; omega, fun y hy => ?_⟩
        rcases List.mem_append.mp hy with hy | hy
        · exact hsub y hy
        · simp only [List.mem_cons, List.not_mem_nil, or_false] at hy
          subst hy
          exact pd_two (by omega) (by omega) (by decide)
      · refine ⟨by simp; omega, fun y hy => ?_⟩
        have : y = .tup [.int 0, .int 1] := by
          obtain ⟨l, hl, hy⟩ := List.mem_flatten.mp hy
          rw [(List.mem_replicate.mp hl).2] at hy
          simpa using hy
        subst this
        exact pd_two (by omega) (by omega) (by decide)
      · have h3 : Pd (2 ^ 500) 10 2 (.tup ((vs.map fun v => v + 3).map Rt)) := pd_vs (by decide) (fun v h => by
          obtain ⟨u, hu, rfl⟩ := List.mem_map.mp h
          exact ((hv.bz u hu).add three_bz).mono (by decide)) (by rw [List.length_map]; omega)
        rw [List.map_map] at h3
        exact h3.mono hc (by decide) (by decide)
      · exact Pd.non
  rw [ev, run_ret]
  show Run (exs P.gl (call P k) (.fr _ _ _ _ :: bodyB.drop 10) [.un, .im .box, c2, c3, c4, c5, c6, .im (itD ps), .im (.int ps.length), .im (.lst V), c10, .im (.lst (fD ps)), c12, .im (.tup (vs.map Rt)), c14, c15, c16, c17, c18, c19, c20, c21, c22, c23, c24, c25]) b Q
  refine run_fr ?_
  rw [evL_cons, evL_nil, ev_bin]
  simp only [ev_var, getV_succ, getV_zero, bnd_ret]
  rw [run_bnd, run_bnd]
  have hit : It (2 ^ 500) 10 2 (.tup (vs.map Rt)) := by
    refine ⟨by rw [List.length_map]; omega, fun y hy => ?_⟩
    obtain ⟨v, hv', rfl⟩ := List.mem_map.mp hy
    exact It.rt ((hv.bz v hv').mono (show 491 ≤ 500 by decide)) (Nat.le_refl _) (by decide)
  refine run_compP (ds := [.int 5]) (xs := intsFrom 0 5) (p := PW) (by simp) (iter_ran (n := 5) (by decide)) (by decide) (fun x hx => ⟨_, rfl, fun b1 => ?_⟩) fun us b1 hul hus => ?_
  · simp only [ev_call, evL_cons, evL_nil, ev_var]
    show Run (bnd (bnd (ret D.box) fun d => bnd (bnd (ret (D.tup (vs.map Rt))) fun d => bnd (ret []) fun ds => ret (d :: ds)) fun ds => ret (d :: ds)) fun ds => call P k "_law_spoilt" ds) b1 _
    simp only [bnd_ret]
    have h1 : (1 : Nat) ≤ 2 ^ 500 := Nat.one_le_two_pow
    refine r_spoilt tape (c := 2 ^ 500) (l := 10) h1 (by decide) (by decide) (by omega) hit fun x b' hx => ?_
    refine hx.mono ?_ (by decide) (by decide)
    rw [Nat.pow_succ]; omega
  · have hul : us.length = 5 := by rw [hul]; rfl
    rw [bop_addL (by rw [hVl, hul]; simp [lim]), lft_some, run_ret, run_ret]
    refine ⟨_, rfl, ?_⟩
    have hall : ∀ v ∈ V ++ us, PW v := by
      intro v hv'
      rcases List.mem_append.mp hv' with hv' | hv'
      · exact hV v hv'
      · exact hus v hv'
    refine run_for (fun i ρ b' => ∃ c10 c22, ρ = [.un, .im .box, c2, c3, c4, c5, c6, .im (itD ps), .im (.int ps.length), .im (.lst V), c10, .im (.lst (fD ps)), c12, .im (.tup (vs.map Rt)), c14, c15, c16, c17, c18, c19, c20, c21, c22, c23, c24, c25]) ?_ ?_ ⟨_, _, rfl⟩
    · rintro i d ρ b2 hd ⟨c10, c22, rfl⟩
      have hpw := hall d (List.mem_of_getElem? hd)
      have hc2 : (2 : Nat) ^ 501 < 2 ^ 2000 := Nat.pow_lt_pow_right (by decide) (by decide)
      have p1 := s_l_prices (show 5 ≤ k by omega) hc2 (by decide) hp.bs (by omega) hpw
      have p2 := s_intent_prices (show 5 ≤ k by omega) hc2 (by decide) hp.bs (by omega) hpw
      show Run (exs P.gl (call P k) _ [.un, .im .box, c2, c3, c4, c5, c6, .im (itD ps), .im (.int ps.length), .im (.lst V), .im d, .im (.lst (fD ps)), c12, .im (.tup (vs.map Rt)), c14, c15, c16, c17, c18, c19, c20, c21, c22, c23, c24, c25]) b2 _
      refine run_asg ?_
      simp only [ev_call, evL_cons, evL_nil, ev_var, getV_succ, getV_zero, bnd_ret, p1, run_ret]
      show Run (exs P.gl (call P k) _ [.un, .im .box, c2, c3, c4, c5, c6, .im (itD ps), .im (.int ps.length), .im (.lst V), .im d, .im (.lst (fD ps)), c12, .im (.tup (vs.map Rt)), c14, c15, c16, c17, c18, c19, c20, c21, .im (.bl (prB ps d)), c23, c24, c25]) b2 _
      refine run_iff (run_tst ?_)
      have fin : ∀ {t : Bool} {b' : Tp}, t = false → b' = b2 → (if t = true then Run (exs P.gl (call P k) [.ret (.lit (.bl false))] [.un, .im .box, c2, c3, c4, c5, c6, .im (itD ps), .im (.int ps.length), .im (.lst V), .im d, .im (.lst (fD ps)), c12, .im (.tup (vs.map Rt)), c14, c15, c16, c17, c18, c19, c20, c21, .im (.bl (prB ps d)), c23, c24, c25]) b' (nxts (turn (fun ρ b' => ∃ c10 c22, ρ = [.un, .im .box, c2, c3, c4, c5, c6, .im (itD ps), .im (.int ps.length), .im (.lst V), c10, .im (.lst (fD ps)), c12, .im (.tup (vs.map Rt)), c14, c15, c16, c17, c18, c19, c20, c21, c22, c23, c24, c25]) (nxts Q (exs P.gl (call P k) (bodyB.drop 10)))) (exs P.gl (call P k) [])) else Run (exs P.gl (call P k) [] [.un, .im .box, c2, c3, c4, c5, c6, .im (itD ps), .im (.int ps.length), .im (.lst V), .im d, .im (.lst (fD ps)), c12, .im (.tup (vs.map Rt)), c14, c15, c16, c17, c18, c19, c20, c21, .im (.bl (prB ps d)), c23, c24, c25]) b' (nxts (turn (fun ρ b' => ∃ c10 c22, ρ = [.un, .im .box, c2, c3, c4, c5, c6, .im (itD ps), .im (.int ps.length), .im (.lst V), c10, .im (.lst (fD ps)), c12, .im (.tup (vs.map Rt)), c14, c15, c16, c17, c18, c19, c20, c21, c22, c23, c24, c25]) (nxts Q (exs P.gl (call P k) (bodyB.drop 10)))) (exs P.gl (call P k) []))) := fun {t b'} ht hb => by
        subst ht hb
        rw [if_neg (by decide)]
        exact run_exs_nil.mpr (run_exs_nil.mpr ⟨_, _, rfl⟩)
      simp only [ev_or, evO_cons, evO_one, ev_no, ev_call, evL_cons, evL_nil, ev_var, getV_succ, getV_zero, bnd_ret, p2, pv_same (show 6 ≤ k by omega), truth_bl, lft_some, Bool.not_true, Bool.false_eq_true, if_false, ev_and, evA_cons, evA_one]
      cases hfl : prB ps d with
      | false =>
        rw [hfl] at fin
        rw [if_neg (by decide), run_ret]
        exact ⟨false, rfl, fin rfl rfl⟩
      | true =>
        rw [hfl] at fin
        have hnil : fallsL ps = [] := by
          cases hf : fallsL ps with
          | nil => rfl
          | cons i r => rw [prB_falls hri hf d] at hfl; cases hfl
        have hfd : fD ps = [] := by unfold fD; rw [hnil]; rfl
        rw [if_pos rfl]
        simp only [ev_cmp, ev_lst, evL_nil, ev_var, getV_succ, getV_zero, bnd_ret]
        rw [if_pos (by simp [lim])]
        simp only [bnd_ret, cop_neL (fD_pln hp), lft_some, run_ret]
        refine ⟨false, by rw [hfd]; rfl, fin rfl rfl⟩
    · rintro ρ b2 ⟨c10, c22, rfl⟩
      exact q _ _ _ _
end K86

set_option autoImplicit false
set_option linter.all false
set_option maxRecDepth 100000
set_option maxHeartbeats 4000000
set_option exponentiation.threshold 20000
/-! MK86m: the end of the turn; the law. -/
namespace K86
open PL
variable {k : Nat} {c2 c3 c4 c5 c6 c7 c8 c9 c10 c11 c12 c13 c14 c15 c16 c17 c18 c19 c20 c21 c22 c23 c24 c25 : Cell}
theorem partE (hk : 20 ≤ k) {ps : List In} (hp : Bq ps) {vs : List Rat} (hv : Vs ps vs) {b : Tp} {Q : Fl × Env → Tp → Prop}
    (q : ∀ c23 c24 c25 b', Q (.nx, [.un, .im .box, c2, c3, c4, c5, c6, .im (itD ps), .im (.int ps.length), c9, c10, c11, c12, .im (.tup (vs.map Rt)), c14, c15, c16, c17, c18, c19, c20, c21, c22, c23, c24, c25]) b') :
    Run (exs P.gl (call P k) (bodyB.drop 10) [.un, .im .box, c2, c3, c4, c5, c6, .im (itD ps), .im (.int ps.length), c9, c10, c11, c12, .im (.tup (vs.map Rt)), c14, c15, c16, c17, c18, c19, c20, c21, c22, c23, c24, c25]) b Q := by
  have hlen := hp.len
  have hpos := hp.pos
  have hvl := hv.len
  have tupL : ∀ xs, bfn .tuple [.lst xs] = some (.tup xs) := fun _ => rfl
  show Run (exs P.gl (call P k) (.asg _ _ :: .iff _ _ _ :: .asg _ _ :: .asg _ _ :: .iff _ _ _ :: []) _) b Q
  refine run_asg ?_
  simp only [ev_bi, evL_cons, evL_nil]
  rw [run_bnd, run_bnd]
  refine run_compP (ds := [.int (ps.length : Int)]) (xs := intsFrom 0 ps.length) (p := fun d => ∃ x, d = Rt x ∧ Bz 4 x) (by simp) (iter_ran (by omega)) (by rw [len_intsFrom]; unfold lim; omega) (fun x hx => ⟨_, rfl, fun b1 => ?_⟩) fun us b1 hul hus => ?_
  · simp only [ev_call, evL_cons, evL_nil, ev_var, ev_lit]
    show Run (bnd (bnd (ret D.box) fun d => bnd (bnd (ret (D.int 9)) fun d => bnd (ret []) fun ds => ret (d :: ds)) fun ds => ret (d :: ds)) fun ds => call P k "_law_small" ds) b1 _
    simp only [bnd_ret]
    exact r_small tape (by omega) (by decide) (by decide) fun i j b' hi hj => ⟨_, rfl, small_bz (by omega) hj (by decide)⟩
  obtain ⟨ss, rfl, hss⟩ := exists_map hus
  have hsl : ss.length = ps.length := by rw [List.length_map, len_intsFrom] at hul; exact hul
  simp only [run_bnd, run_ret, tupL, lft_some]
  show Run (exs P.gl (call P k) _ [.un, .im .box, c2, c3, c4, c5, c6, .im (itD ps), .im (.int ps.length), c9, c10, c11, c12, .im (.tup (vs.map Rt)), c14, c15, c16, c17, c18, c19, c20, c21, c22, .im (.tup (ss.map Rt)), c24, c25]) b1 _
  have hsg : ∀ i, i < ps.length → Bz 4 (ss.getD i 0) := fun i hi => by rw [getD_at (by omega)]; exact hss _ (List.getElem_mem _)
  have hvg : ∀ i, i < ps.length → Bz 491 (vs.getD i 0) := fun i hi => by rw [getD_at (by omega)]; exact hv.bz _ (List.getElem_mem _)
  -- what comes in
  refine run_iff (run_tst ?_)
  have e1 : ev P.gl (call P k) (.comp (.call "_law_times" [.idx (.var 23) (.var 6), .idx (.var 13) (.var 6)]) (.nm 6) .ran [.var 8] [] [6])
      [.un, .im .box, c2, c3, c4, c5, c6, .im (itD ps), .im (.int ps.length), c9, c10, c11, c12, .im (.tup (vs.map Rt)), c14, c15, c16, c17, c18, c19, c20, c21, c22, .im (.tup (ss.map Rt)), c24, c25] = ret (.lst ((List.range ps.length).map fun j => Rt (ss.getD j 0 * vs.getD j 0))) := by
    refine ev_compL (ds := [.int (ps.length : Int)]) (by simp) (ran_map (by omega)) (by rw [List.length_range]; unfold lim; omega) fun j hj => ⟨[.un, .im .box, c2, c3, c4, c5, .im (.int (j : Int)), .im (itD ps), .im (.int ps.length), c9, c10, c11, c12, .im (.tup (vs.map Rt)), c14, c15, c16, c17, c18, c19, c20, c21, c22, .im (.tup (ss.map Rt)), c24, c25], rfl, ?_⟩
    have hj := List.mem_range.mp hj
    simp only [ev_call, evL_cons, evL_nil, ev_idx, ev_var, getV_succ, getV_zero, bnd_ret, ix_Rt (vs := ss) (show j < ss.length by omega), ix_Rt (vs := vs) (show j < vs.length by omega), lft_some]
    exact s_ltimes lrats (show 2 ≤ k by omega) ((hsg j hj).sz (by decide)) ((hvg j hj).sz (by decide))
  have s1 := s_taken_in (show 5 ≤ k by omega) hss hv.bz (by omega)
  rw [zip_range hsl hvl] at s1
  have s2 := s_lsum (fd rfl rfl : Fnd P "_law_sum" l_sum) lrats (show 3 ≤ k by omega) (xs := (List.range ps.length).map fun j => ss.getD j 0 * vs.getD j 0) (d := .lst ((List.range ps.length).map fun j => Rt (ss.getD j 0 * vs.getD j 0))) (by show some _ = _; rw [List.map_map]; rfl) (m := 495) (by rw [List.length_map, List.length_range]; omega) fun x hx => by
    obtain ⟨j, hj, rfl⟩ := List.mem_map.mp hx
    have hj := List.mem_range.mp hj
    exact (hsg j hj).mul (hvg j hj)
  have hsame : call P k "_law_same" [Rt (sm ((List.range ps.length).map fun j => ss.getD j 0 * vs.getD j 0)), Rt (sm ((List.range ps.length).map fun j => ss.getD j 0 * vs.getD j 0))] = ret (.bl true) := by
    have hb := Bz.sm (m := 495) (xs := (List.range ps.length).map fun j => ss.getD j 0 * vs.getD j 0) fun x hx => by
      obtain ⟨j, hj, rfl⟩ := List.mem_map.mp hx
      have hj := List.mem_range.mp hj
      exact (hsg j hj).mul (hvg j hj)
    exact s_same (c := 2 ^ (((List.range ps.length).map fun j => ss.getD j 0 * vs.getD j 0).length * (495 + 1) + 1)) (l := 10) (n := 1) same (by decide) (by decide) (by omega) (pd_two (Nat.le_of_lt hb.1) (Nat.le_of_lt hb.2) (by decide))
  simp only [ev_no, ev_call, evL_cons, evL_nil, ev_var, getV_succ, getV_zero, bnd_ret, e1, s1, s2, hsame, truth_bl, lft_some, run_ret]
  refine ⟨false, rfl, ?_⟩
  rw [if_neg (by decide)]
  refine run_exs_nil.mpr ?_
  -- incomes by the cuts
  refine run_asg ?_
  have e2 : ev P.gl (call P k) (.comp (.call "_law_times" [.idx (.idx (.var 7) (.var 6)) (.lit (.int 0)), .call "_law_sum" [.sl1 (.var 23) (.var 6)]]) (.nm 6) .ran [.var 8] [] [6])
      [.un, .im .box, c2, c3, c4, c5, c6, .im (itD ps), .im (.int ps.length), c9, c10, c11, c12, .im (.tup (vs.map Rt)), c14, c15, c16, c17, c18, c19, c20, c21, c22, .im (.tup (ss.map Rt)), c24, c25] = ret (.lst ((List.range ps.length).map fun j => Rt (incF ps ss j))) := by
    refine ev_compL (ds := [.int (ps.length : Int)]) (by simp) (ran_map (by omega)) (by rw [List.length_range]; unfold lim; omega) fun j hj => ⟨[.un, .im .box, c2, c3, c4, c5, .im (.int (j : Int)), .im (itD ps), .im (.int ps.length), c9, c10, c11, c12, .im (.tup (vs.map Rt)), c14, c15, c16, c17, c18, c19, c20, c21, c22, .im (.tup (ss.map Rt)), c24, c25], rfl, ?_⟩
    have hj := List.mem_range.mp hj
    have s3 := s_lsum (fd rfl rfl : Fnd P "_law_sum" l_sum) lrats (show 3 ≤ k by omega) (xs := ss.drop j) (d := .tup ((ss.drop j).map Rt)) rfl (m := 4) (by rw [List.length_drop]; omega) fun x hx => hss x (List.mem_of_mem_drop hx)
    simp only [ev_call, evL_cons, evL_nil, ev_idx, ev_sl1, ev_lit, ev_var, getV_succ, getV_zero, bnd_ret, ix_in hj, lft_some, ix_tup0, toI_int, drop_sl (show j ≤ ss.length by omega), s3]
    exact s_ltimes lrats (show 2 ≤ k by omega) ((hp.z hj).sz (by decide)) ((sm_drop hss (by omega) j).sz (by decide))
  rw [e2, run_ret]
  show Run (exs P.gl (call P k) _ [.un, .im .box, c2, c3, c4, c5, c6, .im (itD ps), .im (.int ps.length), c9, c10, c11, c12, .im (.tup (vs.map Rt)), c14, c15, c16, c17, c18, c19, c20, c21, c22, .im (.tup (ss.map Rt)), .im (.lst (rts (incF ps ss) ps.length)), c25]) b1 _
  refine run_asg ?_
  obtain ⟨m, hm⟩ : ∃ m, ps.length = m + 1 := ⟨ps.length - 1, by omega⟩
  have hmx : call P k "_law_max" [.lst (rts (incF ps ss) ps.length)] = ret (Rt (bc (incF ps ss) (ps.length - 1)).2) := by
    have hcons : (List.range (m + 1)).map (incF ps ss) = incF ps ss 0 :: (List.range m).map fun i => incF ps ss (i + 1) := by
      rw [List.range_succ_eq_map, List.map_cons, List.map_map]; rfl
    have h1 := s_lmax (fd rfl rfl : Fnd P "_law_max" l_max) lrats (show 2 ≤ k by omega) (x := incF ps ss 0) (xs := (List.range m).map fun i => incF ps ss (i + 1)) (d := .lst (rts (incF ps ss) ps.length)) (by rw [← hcons, hm, rts_map]; rfl) (by
      rw [← hcons]
      intro y hy
      obtain ⟨j, hj, rfl⟩ := List.mem_map.mp hy
      have hj := List.mem_range.mp hj
      exact (inc_bz hp hss (by omega) (show j < ps.length by omega)).sz (by decide))
    rw [h1, hm, Nat.add_sub_cancel, bc_mx, hcons]
    congr 2
    show _ = mx (if incF ps ss 0 < incF ps ss 0 then incF ps ss 0 else incF ps ss 0) _
    simp
  simp only [ev_call, evL_cons, evL_nil, ev_var, getV_succ, getV_zero, bnd_ret, hmx, run_ret]
  show Run (exs P.gl (call P k) _ [.un, .im .box, c2, c3, c4, c5, c6, .im (itD ps), .im (.int ps.length), c9, c10, c11, c12, .im (.tup (vs.map Rt)), c14, c15, c16, c17, c18, c19, c20, c21, c22, .im (.tup (ss.map Rt)), .im (.lst (rts (incF ps ss) ps.length)), .im (Rt (bc (incF ps ss) (ps.length - 1)).2)]) b1 _
  refine run_iff (run_tst ?_)
  have hbc : Bz 69 (bc (incF ps ss) (ps.length - 1)).2 := by
    obtain ⟨h1, h2, _⟩ := bc_spec (incF ps ss) (ps.length - 1)
    rw [h2]
    exact inc_bz hp hss (by omega) (by omega)
  have e3 : ev P.gl (call P k) (.comp (.var 6) (.nm 6) .ran [.var 8] [.cmp .eq (.idx (.var 24) (.var 6)) (.var 25)] [6])
      [.un, .im .box, c2, c3, c4, c5, c6, .im (itD ps), .im (.int ps.length), c9, c10, c11, c12, .im (.tup (vs.map Rt)), c14, c15, c16, c17, c18, c19, c20, c21, c22, .im (.tup (ss.map Rt)), .im (.lst (rts (incF ps ss) ps.length)), .im (Rt (bc (incF ps ss) (ps.length - 1)).2)] =
      ret (.lst (((List.range ps.length).filter fun j => decide (incF ps ss j = (bc (incF ps ss) (ps.length - 1)).2)).map fun (j : Nat) => .int (j : Int))) := by
    rw [ev_compF (ds := [.int (ps.length : Int)]) (xs := (List.range ps.length).map fun (j : Nat) => .int (j : Int)) (g := fun d => d) (p := fun d => decide (incF ps ss (iN d) = (bc (incF ps ss) (ps.length - 1)).2)) (by simp) (ran_map (by omega)) (by rw [List.length_map, List.length_range]; unfold lim; omega)]
    · rw [List.filter_map, List.map_map]
      have h1 : ((fun d => decide (incF ps ss (iN d) = (bc (incF ps ss) (ps.length - 1)).2)) ∘ fun (j : Nat) => D.int (j : Int)) = fun j => decide (incF ps ss j = (bc (incF ps ss) (ps.length - 1)).2) := by
        funext j
        simp only [Function.comp, iN_int]
      rw [h1]
      rfl
    · intro d hd
      obtain ⟨j, hj, rfl⟩ := List.mem_map.mp hd
      have hj := List.mem_range.mp hj
      refine ⟨[.un, .im .box, c2, c3, c4, c5, .im (.int (j : Int)), .im (itD ps), .im (.int ps.length), c9, c10, c11, c12, .im (.tup (vs.map Rt)), c14, c15, c16, c17, c18, c19, c20, c21, c22, .im (.tup (ss.map Rt)), .im (.lst (rts (incF ps ss) ps.length)), .im (Rt (bc (incF ps ss) (ps.length - 1)).2)], rfl, ?_, fun _ => by simp only [ev_var, getV_succ, getV_zero]⟩
      simp only [tst_eq, ev_cmp, ev_idx, ev_var, getV_succ, getV_zero, bnd_ret, rts_ixL (incF ps ss) hj, lft_some, cop_eqR, truth_bl, iN_int]
  have hfirst := bc_first (incF ps ss) (ps.length - 1)
  rw [show ps.length - 1 + 1 = ps.length by omega] at hfirst
  have e4 : idx (.lst (((List.range ps.length).filter fun j => decide (incF ps ss j = (bc (incF ps ss) (ps.length - 1)).2)).map fun (j : Nat) => .int (j : Int))) (.int 0) = some (.int ((bc (incF ps ss) (ps.length - 1)).1 : Int)) := by
    cases hl : (List.range ps.length).filter fun j => decide (incF ps ss j = (bc (incF ps ss) (ps.length - 1)).2) with
    | nil => rw [hl] at hfirst; cases hfirst
    | cons j r => rw [hl] at hfirst; cases hfirst; rfl
  have s5 := s_best_cut (show 6 ≤ k by omega) hp hss hsl
  have hb1 := (bc_spec (incF ps ss) (ps.length - 1)).1
  have hsame2 : call P k "_law_same" [.tup [.int ((bc (incF ps ss) (ps.length - 1)).1 : Int), Rt (bc (incF ps ss) (ps.length - 1)).2], .tup [.int ((bc (incF ps ss) (ps.length - 1)).1 : Int), Rt (bc (incF ps ss) (ps.length - 1)).2]] = ret (.bl true) := by
    refine s_same (c := 2 ^ 69) (l := 10) (n := 2) same (by decide) (by decide) (by omega) ⟨by simp, fun y hy => ?_⟩
    simp only [List.mem_cons, List.not_mem_nil, or_false] at hy
    rcases hy with rfl | rfl
    · exact Pd.of_int (by omega)
    · exact pd_two (Nat.le_of_lt hbc.1) (Nat.le_of_lt hbc.2) (by decide)
  simp only [ev_no, ev_call, ev_tup, ev_idx, evL_cons, evL_nil, ev_lit, ev_var, getV_succ, getV_zero, bnd_ret, e3, e4, s5, lft_some]
  rw [if_pos (by simp [lim])]
  simp only [bnd_ret, hsame2, truth_bl, lft_some, run_ret]
  refine ⟨false, rfl, ?_⟩
  rw [if_neg (by decide)]
  exact run_exs_nil.mpr (run_exs_nil.mpr (q _ _ _ _))
/-- the law -/
theorem main (b : Tp) : ∃ ρ' b', exs P.gl (call P 200) f_law.body (.un :: .im .box :: List.replicate (f_law.names.length - 2) .un) b = .ok (.rt (.bl true), ρ') b' := by
  have key : Run (exs P.gl (call P 200) f_law.body (.un :: .im .box :: List.replicate (f_law.names.length - 2) .un)) b (fun r _ => r.1 = .rt (.bl true)) := by
    show Run (exs P.gl (call P 200) (.fr (.nm 2) .ran [.lit (.int 4)] bodyB :: .ret (.lit (.bl true)) :: []) [.un, .im .box, .un, .un, .un, .un, .un, .un, .un, .un, .un, .un, .un, .un, .un, .un, .un, .un, .un, .un, .un, .un, .un, .un, .un, .un]) b _
    refine run_fr ?_
    simp only [evL_cons, evL_nil, ev_lit, bnd_ret, run_ret]
    refine ⟨intsFrom 0 4, iter_ran (n := 4) (by decide), ?_⟩
    refine run_for (fun i ρ b' => ∃ c2 c3 c4 c5 c6 c7 c8 c9 c10 c11 c12 c13 c14 c15 c16 c17 c18 c19 c20 c21 c22 c23 c24 c25, ρ = [.un, .im .box, c2, c3, c4, c5, c6, c7, c8, c9, c10, c11, c12, c13, c14, c15, c16, c17, c18, c19, c20, c21, c22, c23, c24, c25]) ?_ ?_ ⟨_, _, _, _, _, _, _, _, _, _, _, _, _, _, _, _, _, _, _, _, _, _, _, _, rfl⟩
    · rintro i d ρ b' hd ⟨c2, c3, c4, c5, c6, c7, c8, c9, c10, c11, c12, c13, c14, c15, c16, c17, c18, c19, c20, c21, c22, c23, c24, c25, rfl⟩
      show Run (exs P.gl (call P 200) bodyB [.un, .im .box, .im d, c3, c4, c5, c6, c7, c8, c9, c10, c11, c12, c13, c14, c15, c16, c17, c18, c19, c20, c21, c22, c23, c24, c25]) b' _
      refine partA (by decide) fun ps c3 c4 c5 c6 b1 hp hri => ?_
      refine partB (by decide) hp fun c9 c10 b2 => ?_
      cases hf : fallsL ps with
      | cons i0 r0 =>
        refine partC1 (by decide) hp hri hf fun vs c14 hv => ?_
        refine partD (by decide) hp hri hv fun c9 c10 c22 b3 => ?_
        refine partE (by decide) hp hv fun c23 c24 c25 b4 => ?_
        exact ⟨_, _, _, _, _, _, _, _, _, _, _, _, _, _, _, _, _, _, _, _, _, _, _, _, rfl⟩
      | nil =>
        refine partC2 (by decide) hp hri hf fun c6 c15 c16 c17 c18 c20 => ?_
        rw [rts_map]
        have hv : Vs ps ((List.range ps.length).map (topR ps)) := ⟨by simp, fun v hv => by
          obtain ⟨j, hj, rfl⟩ := List.mem_map.mp hv
          exact top_bz hp (List.mem_range.mp hj)⟩
        refine partD (by decide) hp hri hv fun c9 c10 c22 b3 => ?_
        refine partE (by decide) hp hv fun c23 c24 c25 b4 => ?_
        exact ⟨_, _, _, _, _, _, _, _, _, _, _, _, _, _, _, _, _, _, _, _, _, _, _, _, rfl⟩
    · rintro ρ b' _
      refine run_rt ?_
      simp only [ev_lit, run_ret]
  obtain ⟨⟨fl, ρ'⟩, b', e, h⟩ := key
  have h : fl = .rt (.bl true) := h
  subst h
  exact ⟨ρ', b', e⟩
end K86

set_option autoImplicit false
set_option linter.all false
set_option maxRecDepth 100000
set_option maxHeartbeats 4000000
namespace K86
open PySem PySem.Spec PyProof.Rows L2 PL
def top (i : Nat) : Stmt := PySem.Challenge.pw_taxbands_k86_whole_amounts_for_kinds.main.body.getD i (.Pass ⟨0, 0, 0, 0⟩)
theorem c_is_whole : chkSs ar fr (f_is_whole.names.map sx) f_is_whole.body (defScope (top 4)) (defBody (top 4)) = true := by decide +kernel
theorem c_common_divisor : chkSs ar fr (f_common_divisor.names.map sx) f_common_divisor.body (defScope (top 7)) (defBody (top 7)) = true := by decide +kernel
theorem c_is_ratio : chkSs ar fr (f_is_ratio.names.map sx) f_is_ratio.body (defScope (top 8)) (defBody (top 8)) = true := by decide +kernel
theorem c_ratio : chkSs ar fr (f_ratio.names.map sx) f_ratio.body (defScope (top 9)) (defBody (top 9)) = true := by decide +kernel
theorem c_plus : chkSs ar fr (f_plus.names.map sx) f_plus.body (defScope (top 10)) (defBody (top 10)) = true := by decide +kernel
theorem c_minus : chkSs ar fr (f_minus.names.map sx) f_minus.body (defScope (top 11)) (defBody (top 11)) = true := by decide +kernel
theorem c_times : chkSs ar fr (f_times.names.map sx) f_times.body (defScope (top 12)) (defBody (top 12)) = true := by decide +kernel
theorem c_less : chkSs ar fr (f_less.names.map sx) f_less.body (defScope (top 13)) (defBody (top 13)) = true := by decide +kernel
theorem c_sum_of : chkSs ar fr (f_sum_of.names.map sx) f_sum_of.body (defScope (top 14)) (defBody (top 14)) = true := by decide +kernel
theorem c_is_offer : chkSs ar fr (f_is_offer.names.map sx) f_is_offer.body (defScope (top 16)) (defBody (top 16)) = true := by decide +kernel
theorem c_are_intents : chkSs ar fr (f_are_intents.names.map sx) f_are_intents.body (defScope (top 19)) (defBody (top 19)) = true := by decide +kernel
theorem c_are_intent_prices : chkSs ar fr (f_are_intent_prices.names.map sx) f_are_intent_prices.body (defScope (top 20)) (defBody (top 20)) = true := by decide +kernel
theorem c_first_fall : chkSs ar fr (f_first_fall.names.map sx) f_first_fall.body (defScope (top 21)) (defBody (top 21)) = true := by decide +kernel
theorem c_prices_by : chkSs ar fr (f_prices_by.names.map sx) f_prices_by.body (defScope (top 22)) (defBody (top 22)) = true := by decide +kernel
theorem c_intent_prices : chkSs ar fr (f_intent_prices.names.map sx) f_intent_prices.body (defScope (top 23)) (defBody (top 23)) = true := by decide +kernel
theorem c_least_intent_prices : chkSs ar fr (f_least_intent_prices.names.map sx) f_least_intent_prices.body (defScope (top 24)) (defBody (top 24)) = true := by decide +kernel
theorem c_taken_in : chkSs ar fr (f_taken_in.names.map sx) f_taken_in.body (defScope (top 25)) (defBody (top 25)) = true := by decide +kernel
theorem c_best_cut : chkSs ar fr (f_best_cut.names.map sx) f_best_cut.body (defScope (top 26)) (defBody (top 26)) = true := by decide +kernel
theorem c__law_same : chkSs ar fr (f__law_same.names.map sx) f__law_same.body (defScope (top 31)) (defBody (top 31)) = true := by decide +kernel
theorem c__law_ratio : chkSs ar fr (f__law_ratio.names.map sx) f__law_ratio.body (defScope (top 32)) (defBody (top 32)) = true := by decide +kernel
theorem c__law_plus : chkSs ar fr (f__law_plus.names.map sx) f__law_plus.body (defScope (top 33)) (defBody (top 33)) = true := by decide +kernel
theorem c__law_minus : chkSs ar fr (f__law_minus.names.map sx) f__law_minus.body (defScope (top 34)) (defBody (top 34)) = true := by decide +kernel
theorem c__law_times : chkSs ar fr (f__law_times.names.map sx) f__law_times.body (defScope (top 35)) (defBody (top 35)) = true := by decide +kernel
theorem c__law_less : chkSs ar fr (f__law_less.names.map sx) f__law_less.body (defScope (top 36)) (defBody (top 36)) = true := by decide +kernel
theorem c__law_sum : chkSs ar fr (f__law_sum.names.map sx) f__law_sum.body (defScope (top 37)) (defBody (top 37)) = true := by decide +kernel
theorem c__law_max : chkSs ar fr (f__law_max.names.map sx) f__law_max.body (defScope (top 38)) (defBody (top 38)) = true := by decide +kernel
theorem c__law_is_ratio : chkSs ar fr (f__law_is_ratio.names.map sx) f__law_is_ratio.body (defScope (top 39)) (defBody (top 39)) = true := by decide +kernel
theorem c__law_small : chkSs ar fr (f__law_small.names.map sx) f__law_small.body (defScope (top 40)) (defBody (top 40)) = true := by decide +kernel
theorem c__law_spoilt : chkSs ar fr (f__law_spoilt.names.map sx) f__law_spoilt.body (defScope (top 41)) (defBody (top 41)) = true := by decide +kernel
theorem c__law_are_intents : chkSs ar fr (f__law_are_intents.names.map sx) f__law_are_intents.body (defScope (top 42)) (defBody (top 42)) = true := by decide +kernel
theorem c__law_are_prices : chkSs ar fr (f__law_are_prices.names.map sx) f__law_are_prices.body (defScope (top 43)) (defBody (top 43)) = true := by decide +kernel
theorem c_law : chkSs ar fr (f_law.names.map sx) f_law.body (defScope (top 44)) ((defBody (top 44)).drop 1) = true := by decide +kernel
section
variable {P : Program} {w : World} {K : PySem.W.Frag} {mg : PySem.Str → Option Value} {base : Heap} {f fM : Addr} {fd fdM : FuncData}
theorem sc_mix : FnScope ["number"] ["number"] (defScope (top 28)) := C8.fnScope_by (by decide +kernel)
theorem sc_tape : FnScope ["script"] ["script"] (defScope (top 29)) := C8.fnScope_by (by decide +kernel)
theorem sc_take : FnScope ["tape", "many", "cell", "digit"] ["tape", "many"] (defScope (top 30)) := C8.fnScope_by (by decide +kernel)
theorem ok_mix (F : FunD K "_law_mix" "_law_mix" (defArgs (top 28)) (defBody (top 28)) (defScope (top 28)) [] [] f fd) (g1 : mg "int" = none) : FnOk P w K mg base CX0 1 f fd ["number"] spMix := by
  refine F.ok sc_mix (fun vs H Q E ⟨n, h, _⟩ => by rw [h]; rfl) (fun cdv A outer s H vs Q E hr h => ⟨_, PSs.nox
    (pss_cons (ps_set (i := 0) sc_mix.nd rfl (Or.inl rfl) (pe_op op_mod (pe_callTy call_int1 rfl g1 (by decide +kernel) (pa_cons (pe_op op_add (pe_op op_mul (pv 0) pe_int) pe_int) pa_nil)) pe_int))
    (pss_one (ps_ret (pe_op op_mod (pe_callTy call_int1 rfl g1 (by decide +kernel) (pa_cons (pe_op op_add (pe_op op_fdivW (pe_op op_mul (pv 0) (pv 0)) pe_int) (pe_op op_mul (pv 0) pe_int)) pa_nil)) pe_int)))), ?_⟩)
  obtain ⟨n, rfl, q⟩ := h
  have hb := mix_ok n
  refine ⟨_, rfl, _, _, rfl, rfl, .inr ⟨by decide, by decide⟩, _, _, rfl, rfl, .inl ⟨_, rfl, _, _, rfl, rfl, (by decide : (0:Int) < 18446744073709551616), ?_⟩⟩
  refine ⟨_, rfl, _, rfl, _, _, rfl, rfl, .inl ⟨by omega, by omega⟩, _, _, rfl, rfl, wide_div (b := 33) (by decide) (by decide) (by decide) (by decide), ?_⟩
  refine ⟨_, rfl, _, _, rfl, rfl, .inr ⟨by decide, by decide⟩, _, _, rfl, rfl, .inl ⟨_, rfl, _, _, rfl, rfl, (by decide : (0:Int) < 18446744073709551557), ?_⟩⟩
  exact q
theorem ok_tape (F : FunD K "_law_tape" "_law_tape" (defArgs (top 29)) (defBody (top 29)) (defScope (top 29)) [] [] f fd) (g1 : mg "list" = none) (g2 : mg "len" = none) : FnOk P w K mg base CX0 1 f fd ["script"] (spTape K) := by
  refine F.ok sc_tape (fun vs H Q E ⟨a, n, h, _⟩ => by rw [h]; rfl) (fun cdv A outer s H vs Q E hr h => ⟨_, PSs.nox
    (pss_one (ps_ret (pe_lst (pa_cons (pe_callTy call_list_of rfl g1 (by decide +kernel) (pa_cons (pe_slice sl_list (pv 0) po_none (po_some pe_int)) pa_nil)) (pa_cons pe_int (pa_cons pe_int (pa_cons (pe_op op_add pe_int (pe_callB call_len_seq rfl g2 (by decide +kernel) (pa_cons (pv 0) pa_nil))) pa_nil))))))), ?_⟩)
  obtain ⟨a, ns, rfl, hS, hl, q⟩ := h
  refine ⟨_, rfl, ⟨_, rfl, a, _, rfl, hS, fun p1 f1 => ?_⟩⟩
  refine ⟨_, _, rfl, .inl (SqL.of upd_same), fun p2 f2 => ?_⟩
  have hS2 := ((same_upd (o := .lst (cutV (ns.map V.int) none (some 80))) f1).trans (same_upd (o := .lst (cutV (ns.map V.int) none (some 80))) f2)).seq hS
  refine ⟨_, rfl, a, _, rfl, .inl hS2, _, _, rfl, rfl, by show 4 ≤ sizeLine; decide, fun p3 f3 => ?_⟩
  have hc : cutV (ns.map V.int) none (some 80) = ns.map V.int := by
    unfold cutV HT.sIx
    simp only [List.length_map, List.drop_zero]
    rw [List.take_of_length_le]
    simp only [List.length_map]
    have : ¬ ((80 : Int) < 0) := by decide
    rw [if_neg this]
    omega
  have n1 : p2 ≠ p3 := fun z => by rw [← z, upd_same] at f3; cases f3
  rw [List.length_map]
  exact q p3 p2 _ upd_same (by rw [upd_ne n1, upd_same, hc]) (Ne.symm n1)
theorem ok_take (F : FunD K "_law_take" "_law_take" (defArgs (top 30)) (defBody (top 30)) (defScope (top 30)) [] [] f fd) (FM : FunD K "_law_mix" "_law_mix" (defArgs (top 28)) (defBody (top 28)) (defScope (top 28)) [] [] fM fdM) (gM : mg "_law_mix" = some (.ref fM))
    (g1 : mg "int" = none) (g2 : mg "len" = none) : FnOk P w K mg base CX0 2 f fd ["tape", "many"] spTake := by
  have GM : FnOk P w K mg base CX0 1 fM fdM ["number"] spMix := ok_mix FM g1
  have bM : Binds K fdM ["number"] [] := FM.bindsN fun _ _ _ _ _ _ us hl => match us, hl with | [_], _ => rfl
  refine F.ok sc_take (fun vs H Q E ⟨a, _, n, m, h, _⟩ => by rw [h]; rfl) (fun cdv A outer s H vs Q E hr h => ⟨t_take K, PSs.nox
    (pss_cons (ps_if (pt_cmpR op_lt (pe_ix ix_list (pv 0) pe_int (fun _ _ => rfl)) (pv 1) (nomark _))
      (pss_one (ps_if (pt_cmpR op_lt (pe_ix ix_list (pv 0) pe_int (fun _ _ => rfl)) (pe_callB call_len_seq rfl g2 (by decide +kernel) (pa_cons (pe_ix ix_list (pv 0) pe_int (fun _ _ => rfl)) pa_nil)) (nomark _))
        (pss_cons (ps_set (i := 2) sc_take.nd rfl (Or.inl rfl) (pe_ix ix_list (pe_ix ix_list (pv 0) pe_int (fun _ _ => rfl)) (pe_ix ix_list (pv 0) pe_int (fun _ _ => rfl)) (fun _ _ => rfl)))
        (pss_cons (ps_set (i := 2) sc_take.nd rfl (Or.inl rfl) (pe_ifExp (pt_cmpR op_ge (pv 2) pe_int (nomark _)) (pe_op op_mul pe_int (pv 2)) (pe_op op_sub (pe_op op_mul (pe_un un_neg pe_int) (pv 2)) pe_int)))
        (pss_cons (ps_asg (pe_op op_add (pe_ix ix_list (pv 0) pe_int (fun _ _ => rfl)) pe_int) (pg_sub (pv 0) pe_int set_list))
        (pss_cons (ps_asg (pe_call GM hr rfl gM FM.kp bM .nil pass0 (pa_cons (pe_op op_add (pe_ix ix_list (pv 0) pe_int (fun _ _ => rfl)) (pv 2)) pa_nil)) (pg_sub (pv 0) pe_int set_list))
        (pss_one (ps_asg (pe_ifExp (pt_cmpR op_ge (pv 2) (pe_op op_pow pe_int pe_int) (nomark _)) (pv 2)
           (pe_call GM hr rfl gM FM.kp bM .nil pass0 (pa_cons (pe_op op_add (pe_call GM hr rfl gM FM.kp bM .nil pass0 (pa_cons (pv 2) pa_nil)) (pe_ix ix_list (pv 0) pe_int (fun _ _ => rfl))) pa_nil))) (pg_sub (pv 0) pe_int set_list)))))))
        (pss_cons (ps_asg (pe_call GM hr rfl gM FM.kp bM .nil pass0 (pa_cons (pe_op op_add (pe_ix ix_list (pv 0) pe_int (fun _ _ => rfl)) pe_int) pa_nil)) (pg_sub (pv 0) pe_int set_list))
        (pss_one (ps_asg (pe_ix ix_list (pv 0) pe_int (fun _ _ => rfl)) (pg_sub (pv 0) pe_int set_list))))))
      pss_nil)
     (pss_cons (ps_set (i := 3) sc_take.nd rfl (Or.inl rfl) (pe_op op_mod (pe_callTy call_int1 rfl g1 (by decide +kernel) (pa_cons (pe_ix ix_list (pv 0) pe_int (fun _ _ => rfl)) pa_nil)) (pv 1)))
     (pss_cons (ps_asg (pe_op op_fdivW (pe_ix ix_list (pv 0) pe_int (fun _ _ => rfl)) (pv 1)) (pg_sub (pv 0) pe_int set_list))
     (pss_one (ps_ret (pv 3)))))), pure_take h⟩)
end
def d_is_whole : He.DefD := ⟨("is_whole", none), "is_whole", "is_whole", defArgs (top 4), defBody (top 4), defScope (top 4), [], []⟩
def d_common_divisor : He.DefD := ⟨("common_divisor", none), "common_divisor", "common_divisor", defArgs (top 7), defBody (top 7), defScope (top 7), [], []⟩
def d_is_ratio : He.DefD := ⟨("is_ratio", none), "is_ratio", "is_ratio", defArgs (top 8), defBody (top 8), defScope (top 8), [], []⟩
def d_ratio : He.DefD := ⟨("ratio", none), "ratio", "ratio", defArgs (top 9), defBody (top 9), defScope (top 9), [], []⟩
def d_plus : He.DefD := ⟨("plus", none), "plus", "plus", defArgs (top 10), defBody (top 10), defScope (top 10), [], []⟩
def d_minus : He.DefD := ⟨("minus", none), "minus", "minus", defArgs (top 11), defBody (top 11), defScope (top 11), [], []⟩
def d_times : He.DefD := ⟨("times", none), "times", "times", defArgs (top 12), defBody (top 12), defScope (top 12), [], []⟩
def d_less : He.DefD := ⟨("less", none), "less", "less", defArgs (top 13), defBody (top 13), defScope (top 13), [], []⟩
def d_sum_of : He.DefD := ⟨("sum_of", none), "sum_of", "sum_of", defArgs (top 14), defBody (top 14), defScope (top 14), [], []⟩
def d_is_offer : He.DefD := ⟨("is_offer", none), "is_offer", "is_offer", defArgs (top 16), defBody (top 16), defScope (top 16), [], []⟩
def d_are_intents : He.DefD := ⟨("are_intents", none), "are_intents", "are_intents", defArgs (top 19), defBody (top 19), defScope (top 19), [], []⟩
def d_are_intent_prices : He.DefD := ⟨("are_intent_prices", none), "are_intent_prices", "are_intent_prices", defArgs (top 20), defBody (top 20), defScope (top 20), [], []⟩
def d_first_fall : He.DefD := ⟨("first_fall", none), "first_fall", "first_fall", defArgs (top 21), defBody (top 21), defScope (top 21), [], []⟩
def d_prices_by : He.DefD := ⟨("prices_by", none), "prices_by", "prices_by", defArgs (top 22), defBody (top 22), defScope (top 22), [], []⟩
def d_intent_prices : He.DefD := ⟨("intent_prices", none), "intent_prices", "intent_prices", defArgs (top 23), defBody (top 23), defScope (top 23), [], []⟩
def d_least_intent_prices : He.DefD := ⟨("least_intent_prices", none), "least_intent_prices", "least_intent_prices", defArgs (top 24), defBody (top 24), defScope (top 24), [], []⟩
def d_taken_in : He.DefD := ⟨("taken_in", none), "taken_in", "taken_in", defArgs (top 25), defBody (top 25), defScope (top 25), [], []⟩
def d_best_cut : He.DefD := ⟨("best_cut", none), "best_cut", "best_cut", defArgs (top 26), defBody (top 26), defScope (top 26), [], []⟩
def d__law_mix : He.DefD := ⟨("_law_mix", none), "_law_mix", "_law_mix", defArgs (top 28), defBody (top 28), defScope (top 28), [], []⟩
def d__law_tape : He.DefD := ⟨("_law_tape", none), "_law_tape", "_law_tape", defArgs (top 29), defBody (top 29), defScope (top 29), [], []⟩
def d__law_take : He.DefD := ⟨("_law_take", none), "_law_take", "_law_take", defArgs (top 30), defBody (top 30), defScope (top 30), [], []⟩
def d__law_same : He.DefD := ⟨("_law_same", none), "_law_same", "_law_same", defArgs (top 31), defBody (top 31), defScope (top 31), [], []⟩
def d__law_ratio : He.DefD := ⟨("_law_ratio", none), "_law_ratio", "_law_ratio", defArgs (top 32), defBody (top 32), defScope (top 32), [], []⟩
def d__law_plus : He.DefD := ⟨("_law_plus", none), "_law_plus", "_law_plus", defArgs (top 33), defBody (top 33), defScope (top 33), [], []⟩
def d__law_minus : He.DefD := ⟨("_law_minus", none), "_law_minus", "_law_minus", defArgs (top 34), defBody (top 34), defScope (top 34), [], []⟩
def d__law_times : He.DefD := ⟨("_law_times", none), "_law_times", "_law_times", defArgs (top 35), defBody (top 35), defScope (top 35), [], []⟩
def d__law_less : He.DefD := ⟨("_law_less", none), "_law_less", "_law_less", defArgs (top 36), defBody (top 36), defScope (top 36), [], []⟩
def d__law_sum : He.DefD := ⟨("_law_sum", none), "_law_sum", "_law_sum", defArgs (top 37), defBody (top 37), defScope (top 37), [], []⟩
def d__law_max : He.DefD := ⟨("_law_max", none), "_law_max", "_law_max", defArgs (top 38), defBody (top 38), defScope (top 38), [], []⟩
def d__law_is_ratio : He.DefD := ⟨("_law_is_ratio", none), "_law_is_ratio", "_law_is_ratio", defArgs (top 39), defBody (top 39), defScope (top 39), [], []⟩
def d__law_small : He.DefD := ⟨("_law_small", none), "_law_small", "_law_small", defArgs (top 40), defBody (top 40), defScope (top 40), [], []⟩
def d__law_spoilt : He.DefD := ⟨("_law_spoilt", none), "_law_spoilt", "_law_spoilt", defArgs (top 41), defBody (top 41), defScope (top 41), [], []⟩
def d__law_are_intents : He.DefD := ⟨("_law_are_intents", none), "_law_are_intents", "_law_are_intents", defArgs (top 42), defBody (top 42), defScope (top 42), [], []⟩
def d__law_are_prices : He.DefD := ⟨("_law_are_prices", none), "_law_are_prices", "_law_are_prices", defArgs (top 43), defBody (top 43), defScope (top 43), [], []⟩
def d_law : He.DefD := ⟨("law", none), "law", "law", defArgs (top 44), defBody (top 44), defScope (top 44), [], []⟩
def fn : List He.DefD := [d_is_whole, d_common_divisor, d_is_ratio, d_ratio, d_plus, d_minus, d_times, d_less, d_sum_of, d_is_offer, d_are_intents, d_are_intent_prices, d_first_fall, d_prices_by, d_intent_prices, d_least_intent_prices, d_taken_in, d_best_cut, d__law_mix, d__law_tape, d__law_take, d__law_same, d__law_ratio, d__law_plus, d__law_minus, d__law_times, d__law_less, d__law_sum, d__law_max, d__law_is_ratio, d__law_small, d__law_spoilt, d__law_are_intents, d__law_are_prices, d_law]
def fa : List He.Fa := ([.glo "is_whole", .glo "common_divisor", .glo "is_ratio", .glo "ratio", .glo "plus", .glo "minus", .glo "times", .glo "less", .glo "sum_of", .glo "is_offer", .glo "are_intents", .glo "are_intent_prices", .glo "first_fall", .glo "prices_by", .glo "intent_prices", .glo "least_intent_prices", .glo "taken_in", .glo "best_cut", .glo "_law_mix", .glo "_law_tape"] : List He.Fa) ++ ([.glo "_law_take", .glo "_law_same", .glo "_law_ratio", .glo "_law_plus", .glo "_law_minus", .glo "_law_times", .glo "_law_less", .glo "_law_sum", .glo "_law_max", .glo "_law_is_ratio", .glo "_law_small", .glo "_law_spoilt", .glo "_law_are_intents", .glo "_law_are_prices", .glo "law", .free "ValueError", .free "abs", .free "all", .free "any", .free "bool"] : List He.Fa) ++ ([.free "enumerate", .free "int", .free "isinstance", .free "len", .free "list", .free "range", .free "str", .free "tuple", .free "zip", .glo "ZERO", .int "MAX_INTENTS" (30)] : List He.Fa)
def ex (K : PySem.W.Frag) : Bool := He.tupB K "ZERO" [.int (0), .int (1)]
def loose : List PySem.Str := ([("BandError" : PySem.Str), ("NotAllowed" : PySem.Str), ("is_whole" : PySem.Str), ("ZERO" : PySem.Str), ("common_divisor" : PySem.Str), ("is_ratio" : PySem.Str), ("ratio" : PySem.Str), ("plus" : PySem.Str), ("minus" : PySem.Str), ("times" : PySem.Str), ("less" : PySem.Str), ("sum_of" : PySem.Str), ("is_offer" : PySem.Str), ("MAX_INTENTS" : PySem.Str), ("are_intents" : PySem.Str), ("are_intent_prices" : PySem.Str), ("first_fall" : PySem.Str), ("prices_by" : PySem.Str), ("intent_prices" : PySem.Str), ("least_intent_prices" : PySem.Str)] : List PySem.Str) ++ ([("taken_in" : PySem.Str), ("best_cut" : PySem.Str), ("_law_mix" : PySem.Str), ("_law_tape" : PySem.Str), ("_law_take" : PySem.Str), ("_law_same" : PySem.Str), ("_law_ratio" : PySem.Str), ("_law_plus" : PySem.Str), ("_law_minus" : PySem.Str), ("_law_times" : PySem.Str), ("_law_less" : PySem.Str), ("_law_sum" : PySem.Str), ("_law_max" : PySem.Str), ("_law_is_ratio" : PySem.Str), ("_law_small" : PySem.Str), ("_law_spoilt" : PySem.Str), ("_law_are_intents" : PySem.Str), ("_law_are_prices" : PySem.Str)] : List PySem.Str)
abbrev R : PySem.W.OpenRow := PySem.W.OpenLaw.row PySem.Challenge.rw_taxbands_k86_whole_amounts_for_kinds
abbrev hk : PySem.W.Hook := He.hookX 4 fa fn [] [] ex
def ob (s : PySem.W.SharedT) : He.AlX := He.obsX 4 fa fn [] [] ex (HandSHeadRun.getT s)
theorem ob_eq (s : PySem.W.SharedT) : ob s = hk.obs s.abs := He.obsX_eq (HandSHeadRun.getT_eq s)
set_option maxHeartbeats 0 in
theorem run (w : World) : HandSHeadRun.RunEq R (PySem.W.view R.prog [44]) hk ob 20000 loose w := by
  intro os
  kernel_rfl
section
variable {w : World} {K : PySem.W.Frag} {h : Heap} {mg : PySem.Str → Option Value} {base : Heap}
abbrev Y (w : World) (K : PySem.W.Frag) (mg : PySem.Str → Option Value) (base : Heap) : Sys Tp := ⟨(PySem.Challenge.rw_taxbands_k86_whole_amounts_for_kinds).prog, w, K, mg, base, P, tpBo, ar, fr⟩
theorem okY (X : K.In h) (G : h.Ns mainGlobals mg) (c : He.SaysX fa fn [] [] ex w h K) : (Y w K mg base).Ok := by
  refine ⟨fun x hx => ?_, fun x d hx => ?_⟩
  · have hx : x ∈ frT := by simpa [fr] using hx
    simp only [frT, List.mem_append, List.mem_cons, List.not_mem_nil, or_false] at hx
    rcases hx with rfl | rfl | rfl | rfl | rfl | rfl | rfl | rfl | rfl | rfl | rfl | rfl | rfl | rfl
    · exact He.free_ok X G ((He.SaysT.d c.t).fact 35 (f := .free "ValueError") rfl)
    · exact He.free_ok X G ((He.SaysT.d c.t).fact 36 (f := .free "abs") rfl)
    · exact He.free_ok X G ((He.SaysT.d c.t).fact 37 (f := .free "all") rfl)
    · exact He.free_ok X G ((He.SaysT.d c.t).fact 38 (f := .free "any") rfl)
    · exact He.free_ok X G ((He.SaysT.d c.t).fact 39 (f := .free "bool") rfl)
    · exact He.free_ok X G ((He.SaysT.d c.t).fact 40 (f := .free "enumerate") rfl)
    · exact He.free_ok X G ((He.SaysT.d c.t).fact 41 (f := .free "int") rfl)
    · exact He.free_ok X G ((He.SaysT.d c.t).fact 42 (f := .free "isinstance") rfl)
    · exact He.free_ok X G ((He.SaysT.d c.t).fact 43 (f := .free "len") rfl)
    · exact He.free_ok X G ((He.SaysT.d c.t).fact 44 (f := .free "list") rfl)
    · exact He.free_ok X G ((He.SaysT.d c.t).fact 45 (f := .free "range") rfl)
    · exact He.free_ok X G ((He.SaysT.d c.t).fact 46 (f := .free "str") rfl)
    · exact He.free_ok X G ((He.SaysT.d c.t).fact 47 (f := .free "tuple") rfl)
    · exact He.free_ok X G ((He.SaysT.d c.t).fact 48 (f := .free "zip") rfl)
  · have hx := lookup_mem (show glT.lookup x = some d from hx)
    simp only [glT, List.mem_append, List.mem_cons, List.not_mem_nil, or_false, Prod.mk.injEq] at hx
    rcases hx with ⟨rfl, rfl⟩ | ⟨rfl, rfl⟩
    · exact gl_tup (He.glo_ok X G ((He.SaysT.d c.t).fact 49 (f := .glo "ZERO") rfl)) (fun H => He.tupB_ok (c.more : ex K = true) H) (by intro bp B; repeat (first | exact RepL.nil | refine RepL.cons (by simp only [Rep]; rfl) ?_))
    · exact gl_int (He.int_ok X G ((He.SaysT.d c.t).fact 50 (f := .int "MAX_INTENTS" (30)) rfl))
theorem k_is_whole (X : K.In h) (G : h.Ns mainGlobals mg) (c : He.SaysX fa fn [] [] ex w h K) : FnFact (Y w K mg base) "is_whole" f_is_whole := by
  obtain ⟨fd, F⟩ := (He.SaysT.d c.t).def_ 0 (d := d_is_whole) rfl
  exact ⟨_, fd, _, _, _, He.glo_ok X G ((He.SaysT.d c.t).fact 0 (f := .glo "is_whole") rfl), F, by decide +kernel, c_is_whole, F.bindsN (ps := ["value"]) fun _ _ _ _ _ _ us hl => match us, hl with | [_], _ => rfl, by decide⟩
theorem k_common_divisor (X : K.In h) (G : h.Ns mainGlobals mg) (c : He.SaysX fa fn [] [] ex w h K) : FnFact (Y w K mg base) "common_divisor" f_common_divisor := by
  obtain ⟨fd, F⟩ := (He.SaysT.d c.t).def_ 1 (d := d_common_divisor) rfl
  exact ⟨_, fd, _, _, _, He.glo_ok X G ((He.SaysT.d c.t).fact 1 (f := .glo "common_divisor") rfl), F, by decide +kernel, c_common_divisor, F.bindsN (ps := ["a", "b"]) fun _ _ _ _ _ _ us hl => match us, hl with | [_, _], _ => rfl, by decide⟩
theorem k_is_ratio (X : K.In h) (G : h.Ns mainGlobals mg) (c : He.SaysX fa fn [] [] ex w h K) : FnFact (Y w K mg base) "is_ratio" f_is_ratio := by
  obtain ⟨fd, F⟩ := (He.SaysT.d c.t).def_ 2 (d := d_is_ratio) rfl
  exact ⟨_, fd, _, _, _, He.glo_ok X G ((He.SaysT.d c.t).fact 2 (f := .glo "is_ratio") rfl), F, by decide +kernel, c_is_ratio, F.bindsN (ps := ["value"]) fun _ _ _ _ _ _ us hl => match us, hl with | [_], _ => rfl, by decide⟩
theorem k_ratio (X : K.In h) (G : h.Ns mainGlobals mg) (c : He.SaysX fa fn [] [] ex w h K) : FnFact (Y w K mg base) "ratio" f_ratio := by
  obtain ⟨fd, F⟩ := (He.SaysT.d c.t).def_ 3 (d := d_ratio) rfl
  exact ⟨_, fd, _, _, _, He.glo_ok X G ((He.SaysT.d c.t).fact 3 (f := .glo "ratio") rfl), F, by decide +kernel, c_ratio, F.bindsN (ps := ["p", "q"]) fun _ _ _ _ _ _ us hl => match us, hl with | [_, _], _ => rfl, by decide⟩
theorem k_plus (X : K.In h) (G : h.Ns mainGlobals mg) (c : He.SaysX fa fn [] [] ex w h K) : FnFact (Y w K mg base) "plus" f_plus := by
  obtain ⟨fd, F⟩ := (He.SaysT.d c.t).def_ 4 (d := d_plus) rfl
  exact ⟨_, fd, _, _, _, He.glo_ok X G ((He.SaysT.d c.t).fact 4 (f := .glo "plus") rfl), F, by decide +kernel, c_plus, F.bindsN (ps := ["one", "other"]) fun _ _ _ _ _ _ us hl => match us, hl with | [_, _], _ => rfl, by decide⟩
theorem k_minus (X : K.In h) (G : h.Ns mainGlobals mg) (c : He.SaysX fa fn [] [] ex w h K) : FnFact (Y w K mg base) "minus" f_minus := by
  obtain ⟨fd, F⟩ := (He.SaysT.d c.t).def_ 5 (d := d_minus) rfl
  exact ⟨_, fd, _, _, _, He.glo_ok X G ((He.SaysT.d c.t).fact 5 (f := .glo "minus") rfl), F, by decide +kernel, c_minus, F.bindsN (ps := ["one", "other"]) fun _ _ _ _ _ _ us hl => match us, hl with | [_, _], _ => rfl, by decide⟩
theorem k_times (X : K.In h) (G : h.Ns mainGlobals mg) (c : He.SaysX fa fn [] [] ex w h K) : FnFact (Y w K mg base) "times" f_times := by
  obtain ⟨fd, F⟩ := (He.SaysT.d c.t).def_ 6 (d := d_times) rfl
  exact ⟨_, fd, _, _, _, He.glo_ok X G ((He.SaysT.d c.t).fact 6 (f := .glo "times") rfl), F, by decide +kernel, c_times, F.bindsN (ps := ["one", "other"]) fun _ _ _ _ _ _ us hl => match us, hl with | [_, _], _ => rfl, by decide⟩
theorem k_less (X : K.In h) (G : h.Ns mainGlobals mg) (c : He.SaysX fa fn [] [] ex w h K) : FnFact (Y w K mg base) "less" f_less := by
  obtain ⟨fd, F⟩ := (He.SaysT.d c.t).def_ 7 (d := d_less) rfl
  exact ⟨_, fd, _, _, _, He.glo_ok X G ((He.SaysT.d c.t).fact 7 (f := .glo "less") rfl), F, by decide +kernel, c_less, F.bindsN (ps := ["one", "other"]) fun _ _ _ _ _ _ us hl => match us, hl with | [_, _], _ => rfl, by decide⟩
theorem k_sum_of (X : K.In h) (G : h.Ns mainGlobals mg) (c : He.SaysX fa fn [] [] ex w h K) : FnFact (Y w K mg base) "sum_of" f_sum_of := by
  obtain ⟨fd, F⟩ := (He.SaysT.d c.t).def_ 8 (d := d_sum_of) rfl
  exact ⟨_, fd, _, _, _, He.glo_ok X G ((He.SaysT.d c.t).fact 8 (f := .glo "sum_of") rfl), F, by decide +kernel, c_sum_of, F.bindsN (ps := ["ratios"]) fun _ _ _ _ _ _ us hl => match us, hl with | [_], _ => rfl, by decide⟩
theorem k_is_offer (X : K.In h) (G : h.Ns mainGlobals mg) (c : He.SaysX fa fn [] [] ex w h K) : FnFact (Y w K mg base) "is_offer" f_is_offer := by
  obtain ⟨fd, F⟩ := (He.SaysT.d c.t).def_ 9 (d := d_is_offer) rfl
  exact ⟨_, fd, _, _, _, He.glo_ok X G ((He.SaysT.d c.t).fact 9 (f := .glo "is_offer") rfl), F, by decide +kernel, c_is_offer, F.bindsN (ps := ["value"]) fun _ _ _ _ _ _ us hl => match us, hl with | [_], _ => rfl, by decide⟩
theorem k_are_intents (X : K.In h) (G : h.Ns mainGlobals mg) (c : He.SaysX fa fn [] [] ex w h K) : FnFact (Y w K mg base) "are_intents" f_are_intents := by
  obtain ⟨fd, F⟩ := (He.SaysT.d c.t).def_ 10 (d := d_are_intents) rfl
  exact ⟨_, fd, _, _, _, He.glo_ok X G ((He.SaysT.d c.t).fact 10 (f := .glo "are_intents") rfl), F, by decide +kernel, c_are_intents, F.bindsN (ps := ["value"]) fun _ _ _ _ _ _ us hl => match us, hl with | [_], _ => rfl, by decide⟩
theorem k_are_intent_prices (X : K.In h) (G : h.Ns mainGlobals mg) (c : He.SaysX fa fn [] [] ex w h K) : FnFact (Y w K mg base) "are_intent_prices" f_are_intent_prices := by
  obtain ⟨fd, F⟩ := (He.SaysT.d c.t).def_ 11 (d := d_are_intent_prices) rfl
  exact ⟨_, fd, _, _, _, He.glo_ok X G ((He.SaysT.d c.t).fact 11 (f := .glo "are_intent_prices") rfl), F, by decide +kernel, c_are_intent_prices, F.bindsN (ps := ["intents", "value"]) fun _ _ _ _ _ _ us hl => match us, hl with | [_, _], _ => rfl, by decide⟩
theorem k_first_fall (X : K.In h) (G : h.Ns mainGlobals mg) (c : He.SaysX fa fn [] [] ex w h K) : FnFact (Y w K mg base) "first_fall" f_first_fall := by
  obtain ⟨fd, F⟩ := (He.SaysT.d c.t).def_ 12 (d := d_first_fall) rfl
  exact ⟨_, fd, _, _, _, He.glo_ok X G ((He.SaysT.d c.t).fact 12 (f := .glo "first_fall") rfl), F, by decide +kernel, c_first_fall, F.bindsN (ps := ["intents"]) fun _ _ _ _ _ _ us hl => match us, hl with | [_], _ => rfl, by decide⟩
theorem k_prices_by (X : K.In h) (G : h.Ns mainGlobals mg) (c : He.SaysX fa fn [] [] ex w h K) : FnFact (Y w K mg base) "prices_by" f_prices_by := by
  obtain ⟨fd, F⟩ := (He.SaysT.d c.t).def_ 13 (d := d_prices_by) rfl
  exact ⟨_, fd, _, _, _, He.glo_ok X G ((He.SaysT.d c.t).fact 13 (f := .glo "prices_by") rfl), F, by decide +kernel, c_prices_by, F.bindsN (ps := ["intents", "first", "ahead"]) fun _ _ _ _ _ _ us hl => match us, hl with | [_, _, _], _ => rfl, by decide⟩
theorem k_intent_prices (X : K.In h) (G : h.Ns mainGlobals mg) (c : He.SaysX fa fn [] [] ex w h K) : FnFact (Y w K mg base) "intent_prices" f_intent_prices := by
  obtain ⟨fd, F⟩ := (He.SaysT.d c.t).def_ 14 (d := d_intent_prices) rfl
  exact ⟨_, fd, _, _, _, He.glo_ok X G ((He.SaysT.d c.t).fact 14 (f := .glo "intent_prices") rfl), F, by decide +kernel, c_intent_prices, F.bindsN (ps := ["intents"]) fun _ _ _ _ _ _ us hl => match us, hl with | [_], _ => rfl, by decide⟩
theorem k_least_intent_prices (X : K.In h) (G : h.Ns mainGlobals mg) (c : He.SaysX fa fn [] [] ex w h K) : FnFact (Y w K mg base) "least_intent_prices" f_least_intent_prices := by
  obtain ⟨fd, F⟩ := (He.SaysT.d c.t).def_ 15 (d := d_least_intent_prices) rfl
  exact ⟨_, fd, _, _, _, He.glo_ok X G ((He.SaysT.d c.t).fact 15 (f := .glo "least_intent_prices") rfl), F, by decide +kernel, c_least_intent_prices, F.bindsN (ps := ["intents"]) fun _ _ _ _ _ _ us hl => match us, hl with | [_], _ => rfl, by decide⟩
theorem k_taken_in (X : K.In h) (G : h.Ns mainGlobals mg) (c : He.SaysX fa fn [] [] ex w h K) : FnFact (Y w K mg base) "taken_in" f_taken_in := by
  obtain ⟨fd, F⟩ := (He.SaysT.d c.t).def_ 16 (d := d_taken_in) rfl
  exact ⟨_, fd, _, _, _, He.glo_ok X G ((He.SaysT.d c.t).fact 16 (f := .glo "taken_in") rfl), F, by decide +kernel, c_taken_in, F.bindsN (ps := ["shares", "prices"]) fun _ _ _ _ _ _ us hl => match us, hl with | [_, _], _ => rfl, by decide⟩
theorem k_best_cut (X : K.In h) (G : h.Ns mainGlobals mg) (c : He.SaysX fa fn [] [] ex w h K) : FnFact (Y w K mg base) "best_cut" f_best_cut := by
  obtain ⟨fd, F⟩ := (He.SaysT.d c.t).def_ 17 (d := d_best_cut) rfl
  exact ⟨_, fd, _, _, _, He.glo_ok X G ((He.SaysT.d c.t).fact 17 (f := .glo "best_cut") rfl), F, by decide +kernel, c_best_cut, F.bindsN (ps := ["intents", "shares"]) fun _ _ _ _ _ _ us hl => match us, hl with | [_, _], _ => rfl, by decide⟩
theorem k__law_same (X : K.In h) (G : h.Ns mainGlobals mg) (c : He.SaysX fa fn [] [] ex w h K) : FnFact (Y w K mg base) "_law_same" f__law_same := by
  obtain ⟨fd, F⟩ := (He.SaysT.d c.t).def_ 21 (d := d__law_same) rfl
  exact ⟨_, fd, _, _, _, He.glo_ok X G ((He.SaysT.d c.t).fact 21 (f := .glo "_law_same") rfl), F, by decide +kernel, c__law_same, F.bindsN (ps := ["a", "b"]) fun _ _ _ _ _ _ us hl => match us, hl with | [_, _], _ => rfl, by decide⟩
theorem k__law_ratio (X : K.In h) (G : h.Ns mainGlobals mg) (c : He.SaysX fa fn [] [] ex w h K) : FnFact (Y w K mg base) "_law_ratio" f__law_ratio := by
  obtain ⟨fd, F⟩ := (He.SaysT.d c.t).def_ 22 (d := d__law_ratio) rfl
  exact ⟨_, fd, _, _, _, He.glo_ok X G ((He.SaysT.d c.t).fact 22 (f := .glo "_law_ratio") rfl), F, by decide +kernel, c__law_ratio, F.bindsN (ps := ["p", "q"]) fun _ _ _ _ _ _ us hl => match us, hl with | [_, _], _ => rfl, by decide⟩
theorem k__law_plus (X : K.In h) (G : h.Ns mainGlobals mg) (c : He.SaysX fa fn [] [] ex w h K) : FnFact (Y w K mg base) "_law_plus" f__law_plus := by
  obtain ⟨fd, F⟩ := (He.SaysT.d c.t).def_ 23 (d := d__law_plus) rfl
  exact ⟨_, fd, _, _, _, He.glo_ok X G ((He.SaysT.d c.t).fact 23 (f := .glo "_law_plus") rfl), F, by decide +kernel, c__law_plus, F.bindsN (ps := ["one", "other"]) fun _ _ _ _ _ _ us hl => match us, hl with | [_, _], _ => rfl, by decide⟩
theorem k__law_minus (X : K.In h) (G : h.Ns mainGlobals mg) (c : He.SaysX fa fn [] [] ex w h K) : FnFact (Y w K mg base) "_law_minus" f__law_minus := by
  obtain ⟨fd, F⟩ := (He.SaysT.d c.t).def_ 24 (d := d__law_minus) rfl
  exact ⟨_, fd, _, _, _, He.glo_ok X G ((He.SaysT.d c.t).fact 24 (f := .glo "_law_minus") rfl), F, by decide +kernel, c__law_minus, F.bindsN (ps := ["one", "other"]) fun _ _ _ _ _ _ us hl => match us, hl with | [_, _], _ => rfl, by decide⟩
theorem k__law_times (X : K.In h) (G : h.Ns mainGlobals mg) (c : He.SaysX fa fn [] [] ex w h K) : FnFact (Y w K mg base) "_law_times" f__law_times := by
  obtain ⟨fd, F⟩ := (He.SaysT.d c.t).def_ 25 (d := d__law_times) rfl
  exact ⟨_, fd, _, _, _, He.glo_ok X G ((He.SaysT.d c.t).fact 25 (f := .glo "_law_times") rfl), F, by decide +kernel, c__law_times, F.bindsN (ps := ["one", "other"]) fun _ _ _ _ _ _ us hl => match us, hl with | [_, _], _ => rfl, by decide⟩
theorem k__law_less (X : K.In h) (G : h.Ns mainGlobals mg) (c : He.SaysX fa fn [] [] ex w h K) : FnFact (Y w K mg base) "_law_less" f__law_less := by
  obtain ⟨fd, F⟩ := (He.SaysT.d c.t).def_ 26 (d := d__law_less) rfl
  exact ⟨_, fd, _, _, _, He.glo_ok X G ((He.SaysT.d c.t).fact 26 (f := .glo "_law_less") rfl), F, by decide +kernel, c__law_less, F.bindsN (ps := ["one", "other"]) fun _ _ _ _ _ _ us hl => match us, hl with | [_, _], _ => rfl, by decide⟩
theorem k__law_sum (X : K.In h) (G : h.Ns mainGlobals mg) (c : He.SaysX fa fn [] [] ex w h K) : FnFact (Y w K mg base) "_law_sum" f__law_sum := by
  obtain ⟨fd, F⟩ := (He.SaysT.d c.t).def_ 27 (d := d__law_sum) rfl
  exact ⟨_, fd, _, _, _, He.glo_ok X G ((He.SaysT.d c.t).fact 27 (f := .glo "_law_sum") rfl), F, by decide +kernel, c__law_sum, F.bindsN (ps := ["ratios"]) fun _ _ _ _ _ _ us hl => match us, hl with | [_], _ => rfl, by decide⟩
theorem k__law_max (X : K.In h) (G : h.Ns mainGlobals mg) (c : He.SaysX fa fn [] [] ex w h K) : FnFact (Y w K mg base) "_law_max" f__law_max := by
  obtain ⟨fd, F⟩ := (He.SaysT.d c.t).def_ 28 (d := d__law_max) rfl
  exact ⟨_, fd, _, _, _, He.glo_ok X G ((He.SaysT.d c.t).fact 28 (f := .glo "_law_max") rfl), F, by decide +kernel, c__law_max, F.bindsN (ps := ["ratios"]) fun _ _ _ _ _ _ us hl => match us, hl with | [_], _ => rfl, by decide⟩
theorem k__law_is_ratio (X : K.In h) (G : h.Ns mainGlobals mg) (c : He.SaysX fa fn [] [] ex w h K) : FnFact (Y w K mg base) "_law_is_ratio" f__law_is_ratio := by
  obtain ⟨fd, F⟩ := (He.SaysT.d c.t).def_ 29 (d := d__law_is_ratio) rfl
  exact ⟨_, fd, _, _, _, He.glo_ok X G ((He.SaysT.d c.t).fact 29 (f := .glo "_law_is_ratio") rfl), F, by decide +kernel, c__law_is_ratio, F.bindsN (ps := ["value"]) fun _ _ _ _ _ _ us hl => match us, hl with | [_], _ => rfl, by decide⟩
theorem k__law_small (X : K.In h) (G : h.Ns mainGlobals mg) (c : He.SaysX fa fn [] [] ex w h K) : FnFact (Y w K mg base) "_law_small" f__law_small := by
  obtain ⟨fd, F⟩ := (He.SaysT.d c.t).def_ 30 (d := d__law_small) rfl
  exact ⟨_, fd, _, _, _, He.glo_ok X G ((He.SaysT.d c.t).fact 30 (f := .glo "_law_small") rfl), F, by decide +kernel, c__law_small, F.bindsN (ps := ["tape", "top"]) fun _ _ _ _ _ _ us hl => match us, hl with | [_, _], _ => rfl, by decide⟩
theorem k__law_spoilt (X : K.In h) (G : h.Ns mainGlobals mg) (c : He.SaysX fa fn [] [] ex w h K) : FnFact (Y w K mg base) "_law_spoilt" f__law_spoilt := by
  obtain ⟨fd, F⟩ := (He.SaysT.d c.t).def_ 31 (d := d__law_spoilt) rfl
  exact ⟨_, fd, _, _, _, He.glo_ok X G ((He.SaysT.d c.t).fact 31 (f := .glo "_law_spoilt") rfl), F, by decide +kernel, c__law_spoilt, F.bindsN (ps := ["tape", "value"]) fun _ _ _ _ _ _ us hl => match us, hl with | [_, _], _ => rfl, by decide⟩
theorem k__law_are_intents (X : K.In h) (G : h.Ns mainGlobals mg) (c : He.SaysX fa fn [] [] ex w h K) : FnFact (Y w K mg base) "_law_are_intents" f__law_are_intents := by
  obtain ⟨fd, F⟩ := (He.SaysT.d c.t).def_ 32 (d := d__law_are_intents) rfl
  exact ⟨_, fd, _, _, _, He.glo_ok X G ((He.SaysT.d c.t).fact 32 (f := .glo "_law_are_intents") rfl), F, by decide +kernel, c__law_are_intents, F.bindsN (ps := ["value"]) fun _ _ _ _ _ _ us hl => match us, hl with | [_], _ => rfl, by decide⟩
theorem k__law_are_prices (X : K.In h) (G : h.Ns mainGlobals mg) (c : He.SaysX fa fn [] [] ex w h K) : FnFact (Y w K mg base) "_law_are_prices" f__law_are_prices := by
  obtain ⟨fd, F⟩ := (He.SaysT.d c.t).def_ 33 (d := d__law_are_prices) rfl
  exact ⟨_, fd, _, _, _, He.glo_ok X G ((He.SaysT.d c.t).fact 33 (f := .glo "_law_are_prices") rfl), F, by decide +kernel, c__law_are_prices, F.bindsN (ps := ["intents", "value"]) fun _ _ _ _ _ _ us hl => match us, hl with | [_, _], _ => rfl, by decide⟩
theorem k__law_take (X : K.In h) (G : h.Ns mainGlobals mg) (c : He.SaysX fa fn [] [] ex w h K) : PrimFact (Y w K mg base) "_law_take" 2 := by
  obtain ⟨fd, F⟩ := (He.SaysT.d c.t).def_ 20 (d := d__law_take) rfl
  obtain ⟨fdM, FM⟩ := (He.SaysT.d c.t).def_ 18 (d := d__law_mix) rfl
  have g1 := He.free_ok X G ((He.SaysT.d c.t).fact 41 (f := .free "int") rfl)
  have g2 := He.free_ok X G ((He.SaysT.d c.t).fact 43 (f := .free "len") rfl)
  exact ⟨_, fd, ["tape", "many"], He.glo_ok X G ((He.SaysT.d c.t).fact 20 (f := .glo "_law_take") rfl), F.kp, F.bindsN fun _ _ _ _ _ _ us hl => match us, hl with | [_, _], _ => rfl, rfl, fun k hk => ((ok_take F FM (He.glo_ok X G ((He.SaysT.d c.t).fact 18 (f := .glo "_law_mix") rfl)) g1 g2).mono (by omega)).imp fun vs H Q E z => prim_take rfl rfl hk z⟩
theorem fns (X : K.In h) (G : h.Ns mainGlobals mg) (c : He.SaysX fa fn [] [] ex w h K) : FnsOk (Y w K mg base) := by
  intro x n hx
  have hx := lookup_mem (show arT.lookup x = some n from hx)
  simp only [arT, List.mem_append, List.mem_cons, List.not_mem_nil, or_false, Prod.mk.injEq] at hx
  rcases hx with ((⟨rfl, rfl⟩ | ⟨rfl, rfl⟩ | ⟨rfl, rfl⟩ | ⟨rfl, rfl⟩ | ⟨rfl, rfl⟩ | ⟨rfl, rfl⟩ | ⟨rfl, rfl⟩ | ⟨rfl, rfl⟩ | ⟨rfl, rfl⟩ | ⟨rfl, rfl⟩ | ⟨rfl, rfl⟩ | ⟨rfl, rfl⟩ | ⟨rfl, rfl⟩ | ⟨rfl, rfl⟩ | ⟨rfl, rfl⟩ | ⟨rfl, rfl⟩ | ⟨rfl, rfl⟩ | ⟨rfl, rfl⟩ | ⟨rfl, rfl⟩ | ⟨rfl, rfl⟩) | (⟨rfl, rfl⟩ | ⟨rfl, rfl⟩ | ⟨rfl, rfl⟩ | ⟨rfl, rfl⟩ | ⟨rfl, rfl⟩ | ⟨rfl, rfl⟩ | ⟨rfl, rfl⟩ | ⟨rfl, rfl⟩ | ⟨rfl, rfl⟩ | ⟨rfl, rfl⟩ | ⟨rfl, rfl⟩ | ⟨rfl, rfl⟩))
  · exact .inr ⟨rfl, f_is_whole, rfl, rfl, k_is_whole X G c⟩
  · exact .inr ⟨rfl, f_common_divisor, rfl, rfl, k_common_divisor X G c⟩
  · exact .inr ⟨rfl, f_is_ratio, rfl, rfl, k_is_ratio X G c⟩
  · exact .inr ⟨rfl, f_ratio, rfl, rfl, k_ratio X G c⟩
  · exact .inr ⟨rfl, f_plus, rfl, rfl, k_plus X G c⟩
  · exact .inr ⟨rfl, f_minus, rfl, rfl, k_minus X G c⟩
  · exact .inr ⟨rfl, f_times, rfl, rfl, k_times X G c⟩
  · exact .inr ⟨rfl, f_less, rfl, rfl, k_less X G c⟩
  · exact .inr ⟨rfl, f_sum_of, rfl, rfl, k_sum_of X G c⟩
  · exact .inr ⟨rfl, f_is_offer, rfl, rfl, k_is_offer X G c⟩
  · exact .inr ⟨rfl, f_are_intents, rfl, rfl, k_are_intents X G c⟩
  · exact .inr ⟨rfl, f_are_intent_prices, rfl, rfl, k_are_intent_prices X G c⟩
  · exact .inr ⟨rfl, f_first_fall, rfl, rfl, k_first_fall X G c⟩
  · exact .inr ⟨rfl, f_prices_by, rfl, rfl, k_prices_by X G c⟩
  · exact .inr ⟨rfl, f_intent_prices, rfl, rfl, k_intent_prices X G c⟩
  · exact .inr ⟨rfl, f_least_intent_prices, rfl, rfl, k_least_intent_prices X G c⟩
  · exact .inr ⟨rfl, f_taken_in, rfl, rfl, k_taken_in X G c⟩
  · exact .inr ⟨rfl, f_best_cut, rfl, rfl, k_best_cut X G c⟩
  · exact .inr ⟨rfl, f__law_same, rfl, rfl, k__law_same X G c⟩
  · exact .inr ⟨rfl, f__law_ratio, rfl, rfl, k__law_ratio X G c⟩
  · exact .inr ⟨rfl, f__law_plus, rfl, rfl, k__law_plus X G c⟩
  · exact .inr ⟨rfl, f__law_minus, rfl, rfl, k__law_minus X G c⟩
  · exact .inr ⟨rfl, f__law_times, rfl, rfl, k__law_times X G c⟩
  · exact .inr ⟨rfl, f__law_less, rfl, rfl, k__law_less X G c⟩
  · exact .inr ⟨rfl, f__law_sum, rfl, rfl, k__law_sum X G c⟩
  · exact .inr ⟨rfl, f__law_max, rfl, rfl, k__law_max X G c⟩
  · exact .inr ⟨rfl, f__law_is_ratio, rfl, rfl, k__law_is_ratio X G c⟩
  · exact .inr ⟨rfl, f__law_small, rfl, rfl, k__law_small X G c⟩
  · exact .inr ⟨rfl, f__law_spoilt, rfl, rfl, k__law_spoilt X G c⟩
  · exact .inr ⟨rfl, f__law_are_intents, rfl, rfl, k__law_are_intents X G c⟩
  · exact .inr ⟨rfl, f__law_are_prices, rfl, rfl, k__law_are_prices X G c⟩
  · exact .inl ⟨⟨_, rfl⟩, k__law_take X G c⟩
def Main : Prop := ∀ b, ∃ ρ' b', exs P.gl (PL.call P 200) f_law.body (.un :: .im .box :: List.replicate (f_law.names.length - 2) .un) b = .ok (.rt (.bl true), ρ') b'
theorem facts (Hm : Main) {f : Addr} (X : K.In h) (G : h.Ns mainGlobals mg) (hfa : mg ("law" : PySem.Str) = some (.ref f)) (c : He.SaysX fa fn [] [] ex w h K) :
    ∃ fd : FuncData, (∀ (s : Shared) (v : Value), BindsTo s fd ⟨[v], []⟩ [("script", v)]) ∧ ∀ base : Heap, K.In base → base.Ns mainGlobals mg → FnOk (PySem.Challenge.rw_taxbands_k86_whole_amounts_for_kinds).prog w K mg base CX0 201 f fd ["script"] (spLaw K) := by
  obtain ⟨fd, F⟩ := (He.SaysT.d c.t).def_ 34 (d := d_law) rfl
  obtain ⟨fdT, FT⟩ := (He.SaysT.d c.t).def_ 19 (d := d__law_tape) rfl
  have e := hfa.symm.trans (He.glo_ok X G ((He.SaysT.d c.t).fact 34 (f := .glo "law") rfl))
  cases e
  have b := FunD.bindsA (ps := ["script"]) F fun _ _ _ _ _ _ us hl => match us, hl with | [_], _ => rfl
  exact ⟨fd, fun s v => b s [v] rfl, fun base _ _ => law_fn (Y := Y w K mg base) (k := 199) (okY X G c) (fns X G c) (ok_tape FT (He.free_ok X G ((He.SaysT.d c.t).fact 44 (f := .free "list") rfl)) (He.free_ok X G ((He.SaysT.d c.t).fact 43 (f := .free "len") rfl))) (tf := "_law_tape") (tn := "tape") (He.glo_ok X G ((He.SaysT.d c.t).fact 19 (f := .glo "_law_tape") rfl)) FT.kp (FT.bindsN fun _ _ _ _ _ _ us hl => match us, hl with | [_], _ => rfl)
    (fun a ns H Q E hS hl q => ⟨a, ns, rfl, hS, by omega, fun bp bq H' e1 e2 _ => q bp bq ⟨ns, 0, 0, 1 + ns.length⟩ H' e1 e2⟩) (fl := f_law) (ms := f_law.names.drop 2) F rfl (by decide +kernel) c_law (by decide +kernel) (by decide +kernel) (by decide +kernel) (by decide +kernel) Hm⟩
end
end K86
open PySem PySem.W PySem.Calls PyProof.Rows
theorem K86.holds_of (Hm : K86.Main) : PySem.Challenge.rw_taxbands_k86_whole_amounts_for_kinds.Holds := by
  w_on; o_law
  refine HandSHeadRun.head_any (r := OpenLaw.row PySem.Challenge.rw_taxbands_k86_whole_amounts_for_kinds) (q := view (OpenLaw.row PySem.Challenge.rw_taxbands_k86_whole_amounts_for_kinds).prog [44]) (H := K86.hk) (ob := K86.ob) (M := 20000) (loose := K86.loose) (d := HandSHeadRun.topDef (OpenLaw.row PySem.Challenge.rw_taxbands_k86_whole_amounts_for_kinds).prog 44) (kwd := []) K86.ob_eq
    (by kernel_rfl) (fun s => by kernel_rfl) K86.run (by kernel_rfl) (by kernel_rfl) (by kernel_rfl) (by rfl) (by first | assumption | decide +kernel) (by decide +kernel) ⟨rfl, rfl, rfl, rfl, rfl, by decide +kernel⟩ ?hw ?hc
  case hw => w_witness2
  case hc =>
    refine L2.walk_ofE (l := PySem.Challenge.rw_taxbands_k86_whole_amounts_for_kinds) (n := 63) (k := 201) (x := "script") (CX := L2.CX0) rfl (by decide) (by kernel_rfl) ⟨rfl, by decide, by decide⟩ ?F (fun _ _ _ _ z => z)
    intro w mg fa h Y G hmg0
    obtain ⟨K, KX, c⟩ := Y
    have hmg : mg ("law" : PySem.Str) = some (.ref fa) := by
      have e : (HandSHeadRun.topDef (OpenLaw.row PySem.Challenge.rw_taxbands_k86_whole_amounts_for_kinds).prog 44).name = ("law" : PySem.Str) := by kernel_rfl
      rw [← e]
      exact hmg0
    obtain ⟨fd, hb, hF⟩ := K86.facts Hm KX G hmg c
    exact ⟨K, fd, PL.spLaw K, KX, hb, fun H a ns hl _ hS => ⟨a, ns, rfl, hl, hS, fun _ => rfl⟩, hF⟩

theorem PySem.Challenge.cw_taxbands_k86_whole_amounts_for_kinds_holds : PySem.Challenge.rw_taxbands_k86_whole_amounts_for_kinds.Holds := by
  exact K86.holds_of K86.main
