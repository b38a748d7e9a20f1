import PyProof.Rows.All
import Wide.All
import OpenK.AllK
import Wide.FinOn
import HandS.ForMost
import HandS.Flow
import HandS.Style
import HandS.TupAny
import HandS.TupMul
import HandS.Gcd
import HandS.Wide
import HandS.IsInst
import HandS.Zip
import HandS.Walk
import HandS.Exc
import HandS.ExcOwn
import HandS.CallSlots
import HandS.Words
import HandS.Codes
import PySem.Challenge.RW_heldinbits_k04_tag_sums
set_option Elab.async false
set_option linter.all false
set_option maxRecDepth 100000
/-! Mi0: a little language over plain data: its data, its terms, what they come to. -/
namespace Mi

/-- data: what is frozen (never changes again) -/
inductive D where
  | non
  | bl (b : Bool)
  | int (i : Int)
  | str (s : List Nat)
  | tup (xs : List D)
  | lst (xs : List D)
  /-- a list that is read alone (the script) -/
  | ro (xs : List D)
  /-- a dict: its keys, its values -/
  | dic (ks vs : List D)
  deriving Inhabited

/-- what an expression gives: frozen data; a new list that nobody else knows; the list that a name holds -/
inductive Val where
  | imm (d : D)
  | tmp (d : D)
  | brw (i : Nat)
/-- what a name holds: frozen data; a list of its own (t: 0, or one more than the parameter that lent it) -/
inductive Slot where
  | imm (d : D)
  | own (t : Nat) (d : D)
abbrev Env := List (Option Slot)

structure Exn where
  cls : Nat
  args : List D

inductive Res (α : Type) where
  | ok (a : α) (ρ : Env)
  | exn (x : Exn) (ρ : Env)
  | stuck
def Res.bind {α β : Type} : Res α → (α → Env → Res β) → Res β
  | .ok a ρ, f => f a ρ
  | .exn x ρ, _ => .exn x ρ
  | .stuck, _ => .stuck

inductive Flow where
  | nx | bk | ct
  | rt (v : Val)

/-- a call's end: (its own new list?, the value), what the lent lists have become -/
inductive CRes where
  | ok (o : Bool) (d : D) (outs : List D)
  | exn (x : Exn) (outs : List D)
  | stuck

inductive BOp where
  | add | sub | mul | fdiv | mod | pow | shl | shr | band | bor | bxor
inductive COp where
  | eq | ne | lt | le | gt | ge | inn | nin | iss | isn
inductive UOp where
  | neg | inv
inductive BId where
  | len | max | min | sum | abs | int | str | list | tuple | gcd
inductive MId where
  | startswith
inductive MuId where
  | append
inductive ItK where
  | seq | rng | zip | enum
inductive TyId where
  | int | bool | str | tuple | list
inductive Tg where
  | nm (i : Nat)
  | fl (is : List Nat)

mutual
inductive E where
  | var (i : Nat)
  | pk (i : Nat)
  | con (d : D)
  | bin (op : BOp) (a b : E)
  | un (op : UOp) (a : E)
  | cmp (op : COp) (a b : E)
  | chn (op op' : COp) (a b c : E)
  | bool (isAnd : Bool) (es : L)
  | not (a : E)
  | ife (c a b : E)
  | tup (es : L)
  | lst (es : L)
  | sub (o i : E)
  | slc (hasLo hasHi : Bool) (o lo hi : E)
  | call (f : Nat) (es : L)
  | blt (b : BId) (es : L)
  | isi (a : E) (t : TyId)
  | mth (m : MId) (o : E) (es : L)
  | mut (m : MuId) (i : Nat) (es : L)
  | lc (own : List Nat) (tg : Tg) (k : ItK) (its : L) (cs : L) (elt : E)
inductive L where
  | nil
  | cons (e : E) (es : L)
end

inductive S where
  | nil
  | seq (s r : S)
  | asg (i : Nat) (e : E)
  | unp (is : List Nat) (e : E)
  | seti (i : Nat) (ix e : E)
  | exp (e : E)
  | ret (e : E)
  | retv (i : Nat)
  | retn
  | ife (c : E) (a b : S)
  | for_ (tg : Tg) (k : ItK) (its : L) (body : S)
  | whl (c : E) (body : S)
  | brk | cnt | pas

/-- a def: how many parameters, which of them are lent, how many names, its body -/
structure Fn where
  np : Nat
  lent : List Bool
  ns : Nat
  body : S

/-! ### data -/
abbrev LIM : Nat := 16777216
mutual
def D.eqv : D → D → Bool
  | .non, .non => true
  | .bl a, .bl b => a == b
  | .bl a, .int j => (if a then 1 else 0) == j
  | .int i, .bl b => i == (if b then 1 else 0)
  | .int i, .int j => i == j
  | .str x, .str y => x == y
  | .lst xs, .lst ys => D.eqvs xs ys
  | .tup xs, .tup ys => D.eqvs xs ys
  | _, _ => false
def D.eqvs : List D → List D → Bool
  | [], [] => true
  | x :: xs, y :: ys => D.eqv x y && D.eqvs xs ys
  | _, _ => false
end
mutual
/-- may be compared: at most n deep -/
def D.okd : D → Nat → Bool
  | .non, _ => true
  | .bl _, _ => true
  | .int _, _ => true
  | .str _, _ => true
  | .tup xs, n + 1 => D.okds xs n
  | .lst xs, n + 1 => D.okds xs n
  | _, _ => false
def D.okds : List D → Nat → Bool
  | [], _ => true
  | x :: xs, n => D.okd x n && D.okds xs n
end
def D.flat : D → Bool
  | .non => true
  | .bl _ => true
  | .int _ => true
  | .str _ => true
  | _ => false
def D.truth : D → Option Bool
  | .non => some false
  | .bl b => some b
  | .int i => some (i != 0)
  | .str s => if s.length ≤ LIM then some (!s.isEmpty) else none
  | .tup xs => some (!xs.isEmpty)
  | .lst xs => some (!xs.isEmpty)
  | .ro xs => some (!xs.isEmpty)
  | .dic _ _ => none
def D.items : D → Option (List D)
  | .tup xs => some xs
  | .lst xs => some xs
  | .ro xs => some xs
  | _ => none
def D.ints : List D → Option (List Int)
  | [] => some []
  | .int i :: r => (D.ints r).map (i :: ·)
  | _ :: _ => none
/-- the place of an index of any sign -/
def ixOf (n : Nat) (i : Int) : Option Nat :=
  if 0 ≤ i then (if i < (n : Int) then some i.toNat else none) else if -(n : Int) ≤ i then some (i + n).toNat else none
/-- a slice's bound -/
def cutAt (n : Nat) (i : Int) : Nat := if i < 0 then (i + n).toNat else min i.toNat n
def cut {α : Type} (xs : List α) (lo hi : Option Int) : List α :=
  let a := match lo with | some i => cutAt xs.length i | none => 0
  let b := match hi with | some i => cutAt xs.length i | none => xs.length
  (xs.drop a).take (b - a)
def maxI : Int → List Int → Int
  | m, [] => m
  | m, x :: r => maxI (if x > m then x else m) r
def minI : Int → List Int → Int
  | m, [] => m
  | m, x :: r => minI (if x < m then x else m) r

/-! ### operators, built-ins -/
def mulOk (i j : Int) : Bool := decide (i.natAbs < 2 ^ 64) || decide (j.natAbs < 2 ^ 64) || (decide (i.natAbs < 2 ^ 4000) && decide (j.natAbs < 2 ^ 4000))
def app2 (op : BOp) (x y : D) : Option Val :=
  match op with
  | .add => match x, y with
    | .int i, .int j => some (.imm (.int (i + j)))
    | .str a, .str b => if a.length + b.length ≤ LIM then some (.imm (.str (a ++ b))) else none
    | .lst a, .lst b => if a.length + b.length ≤ LIM then some (.tmp (.lst (a ++ b))) else none
    | .tup a, .tup b => if a.length + b.length ≤ LIM then some (.imm (.tup (a ++ b))) else none
    | _, _ => none
  | .sub => match x, y with
    | .int i, .int j => some (.imm (.int (i - j)))
    | _, _ => none
  | .mul => match x, y with
    | .int i, .int j => if mulOk i j then some (.imm (.int (i * j))) else none
    | _, _ => none
  | .fdiv => match x, y with
    | .int i, .int j => if 0 < j ∧ j.natAbs < 2 ^ 4000 then some (.imm (.int (i / j))) else none
    | _, _ => none
  | .mod => match x, y with
    | .int i, .int j => if 0 < j then some (.imm (.int (i % j))) else none
    | _, _ => none
  | .pow => match x, y with
    | .int i, .int j => if 0 ≤ j ∧ j ≤ 1000000 ∧ i.natAbs < 2 ^ 64 then some (.imm (.int (i ^ j.toNat))) else none
    | _, _ => none
  | .shl => match x, y with
    | .int i, .int j => if 0 ≤ j ∧ j ≤ 1000000 ∧ i.natAbs < 2 ^ 64 then some (.imm (.int (i * 2 ^ j.toNat))) else none
    | _, _ => none
  | .shr => match x, y with
    | .int i, .int j => if 0 ≤ j then some (.imm (.int (i / 2 ^ j.toNat))) else none
    | _, _ => none
  | _ => none
def app1 (op : UOp) (x : D) : Option Val :=
  match op, x with
  | .neg, .int i => some (.imm (.int (-i)))
  | _, _ => none
def appC (op : COp) (x y : D) : Option Bool :=
  match op with
  | .eq => if x.okd 60 && y.okd 60 then some (x.eqv y) else none
  | .ne => if x.okd 60 && y.okd 60 then some (!x.eqv y) else none
  | .lt => match x, y with
    | .int i, .int j => some (decide (i < j))
    | _, _ => none
  | .le => match x, y with
    | .int i, .int j => some (decide (i ≤ j))
    | _, _ => none
  | .gt => match x, y with
    | .int i, .int j => some (decide (j < i))
    | _, _ => none
  | .ge => match x, y with
    | .int i, .int j => some (decide (j ≤ i))
    | _, _ => none
  | .inn => match y with
    | .lst ys => if x.flat && ys.all D.flat then some (ys.any fun z => z.eqv x) else none
    | .tup ys => if x.flat && ys.all D.flat then some (ys.any fun z => z.eqv x) else none
    | _ => none
  | .nin => match y with
    | .lst ys => if x.flat && ys.all D.flat then some (!ys.any fun z => z.eqv x) else none
    | .tup ys => if x.flat && ys.all D.flat then some (!ys.any fun z => z.eqv x) else none
    | _ => none
  | .iss => match x, y with
    | .non, .non => some true
    | _, .non => some false
    | .bl a, .bl b => some (decide (a = b))
    | _, _ => none
  | .isn => match x, y with
    | .non, .non => some false
    | _, .non => some true
    | .bl a, .bl b => some (!decide (a = b))
    | _, _ => none
def appB (b : BId) (ds : List D) : Option Val :=
  match b with
  | .len => match ds with
    | [.str s] => if s.length ≤ LIM then some (.imm (.int s.length)) else none
    | [.tup xs] => some (.imm (.int xs.length))
    | [.lst xs] => some (.imm (.int xs.length))
    | [.ro xs] => some (.imm (.int xs.length))
    | _ => none
  | .max => match ds with
    | [.lst xs] => match D.ints xs with
      | some (i :: r) => some (.imm (.int (maxI i r)))
      | _ => none
    | [.int i, .int j] => some (.imm (.int (if j > i then j else i)))
    | _ => none
  | .min => match ds with
    | [.lst xs] => match D.ints xs with
      | some (i :: r) => some (.imm (.int (minI i r)))
      | _ => none
    | [.int i, .int j] => some (.imm (.int (if j < i then j else i)))
    | _ => none
  | .sum => match ds with
    | [.lst xs] => match D.ints xs with
      | some r => some (.imm (.int r.sum))
      | _ => none
    | _ => none
  | .abs => match ds with
    | [.int i] => some (.imm (.int (if i < 0 then -i else i)))
    | _ => none
  | .int => match ds with
    | [.int i] => some (.imm (.int i))
    | [.bl k] => some (.imm (.int (if k then 1 else 0)))
    | _ => none
  | .str => none
  | .list => match ds with
    | [.lst xs] => some (.tmp (.lst xs))
    | [.tup xs] => some (.tmp (.lst xs))
    | [.ro xs] => some (.tmp (.lst xs))
    | _ => none
  | .tuple => match ds with
    | [.lst xs] => some (.imm (.tup xs))
    | [.tup xs] => some (.imm (.tup xs))
    | _ => none
  | .gcd => match ds with
    | [.int i, .int j] => some (.imm (.int ((Nat.gcd i.natAbs j.natAbs : Nat) : Int)))
    | _ => none
def appM (m : MId) (o : D) (ds : List D) : Option Val :=
  match m with
  | .startswith => match o, ds with
    | .str a, [.str b] => some (.imm (.bl (b.isPrefixOf a)))
    | _, _ => none
/-- has it such a method? -/
def tyM (m : MId) (o : D) : Bool :=
  match m with
  | .startswith => match o with
    | .str _ => true
    | _ => false
/-- what a list becomes, and what the call gives -/
def appMu (m : MuId) (o : D) (ds : List D) : Option (D × D) :=
  match m with
  | .append => match o, ds with
    | .lst xs, [d] => if xs.length < LIM then some (.lst (xs ++ [d]), .non) else none
    | _, _ => none
def isTy (d : D) (t : TyId) : Bool :=
  match d, t with
  | .int _, .int => true
  | .bl _, .int => true
  | .bl _, .bool => true
  | .str _, .str => true
  | .tup _, .tuple => true
  | .lst _, .list => true
  | .ro _, .list => true
  | _, _ => false
def subD (o i : D) : Option D :=
  match o, i with
  | .str s, .int k => if s.length ≤ LIM then match ixOf s.length k with
    | some j => match s[j]? with
      | some c => some (.str [c])
      | none => none
    | none => none else none
  | .tup xs, .int k => match ixOf xs.length k with
    | some j => xs[j]?
    | none => none
  | .lst xs, .int k => match ixOf xs.length k with
    | some j => xs[j]?
    | none => none
  | .ro xs, .int k => match ixOf xs.length k with
    | some j => xs[j]?
    | none => none
  | _, _ => none
def slcD (o : D) (lo hi : Option Int) : Option Val :=
  match o with
  | .str s => if s.length ≤ LIM then some (.imm (.str (cut s lo hi))) else none
  | .tup xs => some (.imm (.tup (cut xs lo hi)))
  | .lst xs => some (.tmp (.lst (cut xs lo hi)))
  | .ro xs => some (.tmp (.lst (cut xs lo hi)))
  | _ => none
def zipD : List D → List D → List D
  | x :: xs, y :: ys => .tup [x, y] :: zipD xs ys
  | _, _ => []
def enumD : Nat → List D → List D
  | i, x :: xs => .tup [.int i, x] :: enumD (i + 1) xs
  | _, [] => []
def rngD (lo hi : Int) : List D := (List.range (hi - lo).toNat).map fun i : Nat => D.int (lo + (i : Int))
abbrev B62 : Int := 4611686018427387904
/-- within the bounds of a range (told so that the kernel stops at a name at once) -/
def inR : Int → Bool
  | .ofNat m => Nat.blt m 4611686018427387904
  | .negSucc m => Nat.blt m 4611686018427387904
theorem inR_of {n : Int} (h : inR n = true) : -B62 ≤ n ∧ n < B62 := by
  cases n with
  | ofNat m =>
    have q : m < 4611686018427387904 := by simpa [inR, Nat.blt_eq] using h
    show -(4611686018427387904 : Int) ≤ (m : Int) ∧ (m : Int) < 4611686018427387904
    omega
  | negSucc m =>
    have q : m < 4611686018427387904 := by simpa [inR, Nat.blt_eq] using h
    show -(4611686018427387904 : Int) ≤ Int.negSucc m ∧ Int.negSucc m < 4611686018427387904
    omega
theorem inR_to {n : Int} (h : -1000000000000 ≤ n) (h2 : n ≤ 1000000000000) : inR n = true := by
  cases n with
  | ofNat m =>
    have e : (Int.ofNat m) = (m : Int) := rfl
    rw [e] at h2
    have q : m < 4611686018427387904 := by omega
    simpa [inR, Nat.blt_eq] using q
  | negSucc m =>
    have q : m < 4611686018427387904 := by omega
    simpa [inR, Nat.blt_eq] using q
def itemsOf (k : ItK) (ds : List D) : Option (List D) :=
  match k with
  | .seq => match ds with
    | [.lst xs] => some xs
    | [.tup xs] => some xs
    | [.ro xs] => some xs
    | [.str s] => some (s.map fun c => .str [c])
    | _ => none
  | .rng => match ds with
    | [.int n] => if inR n then some (rngD 0 n) else none
    | [.int a, .int b] => if inR a && inR b then some (rngD a b) else none
    | _ => none
  | .zip => match ds with
    | [.lst a, .lst b] => some (zipD a b)
    | [.tup a, .tup b] => some (zipD a b)
    | _ => none
  | .enum => match ds with
    | [.lst xs] => some (enumD 0 xs)
    | _ => none

/-! ### the environment -/
def getS (ρ : Env) (i : Nat) : Option Slot := (ρ[i]?).join
def setS (ρ : Env) (i : Nat) (s : Slot) : Env := ρ.set i (some s)
/-- what a value comes to where it is used at once -/
def rv (ρ : Env) : Val → Option D
  | .imm d => some d
  | .tmp d => some d
  | .brw i => match getS ρ i with
    | some (.imm d) => some d
    | some (.own _ d) => some d
    | none => none
def rvs (ρ : Env) : List Val → Option (List D)
  | [] => some []
  | v :: vs => match rv ρ v, rvs ρ vs with
    | some d, some ds => some (d :: ds)
    | _, _ => none
def imms : List Val → Option (List D)
  | [] => some []
  | .imm d :: vs => (imms vs).map (d :: ·)
  | _ :: _ => none
def wipeS (ρ : Env) : List Nat → Env
  | [] => ρ
  | v :: vs => (wipeS ρ vs).set v none
/-- the block's own names as they were -/
def backS (ρ0 ρ : Env) : List Nat → Env
  | [] => ρ
  | v :: vs => (backS ρ0 ρ vs).set v (ρ0[v]?).join
def setAll (ρ : Env) : List Nat → List D → Option Env
  | [], [] => some ρ
  | i :: is, d :: ds => setAll (setS ρ i (.imm d)) is ds
  | _, _ => none
def tgSet (ρ : Env) (tg : Tg) (d : D) : Option Env :=
  match tg with
  | .nm i => some (setS ρ i (.imm d))
  | .fl is => match d with
    | .tup ds => setAll ρ is ds
    | _ => none

/-! ### calls -/
def argsOf (ρ : Env) : List Val → Option (List (Bool × D))
  | [] => some []
  | .imm d :: vs => (argsOf ρ vs).map ((false, d) :: ·)
  | .brw i :: vs => match getS ρ i with
    | some (.own _ d) => (argsOf ρ vs).map ((true, d) :: ·)
    | _ => none
  | .tmp _ :: _ => none
/-- no list is lent twice -/
def lentOf : List Val → List Nat
  | [] => []
  | .brw i :: vs => i :: lentOf vs
  | _ :: vs => lentOf vs
def backOwn (ρ : Env) : List Nat → List D → Option Env
  | [], [] => some ρ
  | i :: is, d :: ds => match getS ρ i with
    | some (.own t _) => backOwn (setS ρ i (.own t d)) is ds
    | _ => none
  | _, _ => none
def callRes (ρ : Env) (vs : List Val) : CRes → Res Val
  | .ok o d outs => match backOwn ρ (lentOf vs) outs with
    | some ρ' => .ok (if o then .tmp d else .imm d) ρ'
    | none => .stuck
  | .exn x outs => match backOwn ρ (lentOf vs) outs with
    | some ρ' => .exn x ρ'
    | none => .stuck
  | .stuck => .stuck

/-! ### loops -/
def loopF (f : D → Env → Res Flow) : List D → Env → Res Flow
  | [], ρ => .ok .nx ρ
  | x :: xs, ρ => match f x ρ with
    | .ok .nx ρ' => loopF f xs ρ'
    | .ok .ct ρ' => loopF f xs ρ'
    | .ok .bk ρ' => .ok .nx ρ'
    | .ok (.rt v) ρ' => .ok (.rt v) ρ'
    | .exn x ρ' => .exn x ρ'
    | .stuck => .stuck
def loopC (f : D → Env → Res (Option D)) : List D → List D → Env → Res (List D)
  | [], acc, ρ => .ok acc ρ
  | x :: xs, acc, ρ => match f x ρ with
    | .ok none ρ' => loopC f xs acc ρ'
    | .ok (some d) ρ' => if acc.length < LIM then loopC f xs (acc ++ [d]) ρ' else .stuck
    | .exn _ _ => .stuck
    | .stuck => .stuck
abbrev FUEL : Nat := 2 ^ 64
def loopW (c : Env → Res Bool) (f : Env → Res Flow) : Nat → Env → Res Flow
  | 0, _ => .stuck
  | n + 1, ρ => match c ρ with
    | .ok true ρ1 => match f ρ1 with
      | .ok .nx ρ' => loopW c f n ρ'
      | .ok .ct ρ' => loopW c f n ρ'
      | .ok .bk ρ' => .ok .nx ρ'
      | .ok (.rt v) ρ' => .ok (.rt v) ρ'
      | .exn x ρ' => .exn x ρ'
      | .stuck => .stuck
    | .ok false ρ1 => .ok .nx ρ1
    | .exn x ρ1 => .exn x ρ1
    | .stuck => .stuck

/-! ### expressions -/
def ofD (ρ : Env) : Option D → Res Val
  | some d => .ok (.imm d) ρ
  | none => .stuck
def ofV (ρ : Env) : Option Val → Res Val
  | some v => .ok v ρ
  | none => .stuck
def ofB (ρ : Env) : Option Bool → Res Bool
  | some b => .ok b ρ
  | none => .stuck
def two (ρ : Env) (a b : Val) (f : D → D → Option Val) : Res Val :=
  match rv ρ a, rv ρ b with
  | some x, some y => ofV ρ (f x y)
  | _, _ => .stuck
def twoB (ρ : Env) (a b : Val) (f : D → D → Option Bool) : Res Bool :=
  match rv ρ a, rv ρ b with
  | some x, some y => ofB ρ (f x y)
  | _, _ => .stuck
def asInt (ρ : Env) (v : Val) : Option Int :=
  match rv ρ v with
  | some (.int i) => some i
  | _ => none
def bV (b : Bool) : Val := .imm (.bl b)
/-- the value as it is, or its truth -/
def tst (t : Bool) (v : Val) (ρ : Env) : Res Val :=
  if t then match rv ρ v with
    | some d => match d.truth with
      | some k => .ok (bV k) ρ
      | none => .stuck
    | none => .stuck
  else .ok v ρ
def kOf (v : Val) (ρ : Env) : Res Bool :=
  match v with
  | .imm (.bl k) => .ok k ρ
  | _ => .stuck
def frz : Val → Val
  | .tmp d => .imm d
  | v => v
section
variable (C : Nat → List (Bool × D) → CRes)
mutual
/-- t: as a test (then it gives a bool) -/
def ev (t : Bool) : E → Env → Res Val
  | .var i, ρ => match getS ρ i with
    | some (.imm d) => tst t (.imm d) ρ
    | some (.own _ d) => tst t (.imm d) (setS ρ i (.imm d))
    | none => .stuck
  | .pk i, ρ => match getS ρ i with
    | some (.imm d) => tst t (.imm d) ρ
    | some (.own _ _) => tst t (.brw i) ρ
    | none => .stuck
  | .con d, ρ => tst t (.imm d) ρ
  | .bin op a b, ρ => ((ev false a ρ).bind fun x ρ1 => (ev false b ρ1).bind fun y ρ2 => two ρ2 x y (app2 op)).bind (tst t)
  | .un op a, ρ => ((ev false a ρ).bind fun x ρ1 => match rv ρ1 x with
    | some d => ofV ρ1 (app1 op d)
    | none => .stuck).bind (tst t)
  | .cmp op a b, ρ => (ev false a ρ).bind fun x ρ1 => (ev false b ρ1).bind fun y ρ2 => (twoB ρ2 x y (appC op)).bind fun k ρ3 => .ok (bV k) ρ3
  | .chn op op' a b c, ρ => (ev false a ρ).bind fun x ρ1 => (ev false b ρ1).bind fun y ρ2 => (twoB ρ2 x y (appC op)).bind fun k ρ3 =>
    if k then (ev false c ρ3).bind fun z ρ4 => (twoB ρ4 y z (appC op')).bind fun k' ρ5 => .ok (bV k') ρ5 else .ok (bV false) ρ3
  | .bool isAnd es, ρ => evB t isAnd es ρ
  | .not a, ρ => (((ev t a ρ).bind (tst true)).bind kOf).bind fun k ρ1 => .ok (bV (!k)) ρ1
  | .ife c a b, ρ => ((ev true c ρ).bind kOf).bind fun k ρ1 => if k then ev t a ρ1 else ev t b ρ1
  | .tup es, ρ => ((evs es ρ).bind fun vs ρ1 => match imms vs with
    | some ds => if ds.length ≤ LIM then .ok (.imm (.tup ds)) ρ1 else .stuck
    | none => .stuck).bind (tst t)
  | .lst es, ρ => ((evs es ρ).bind fun vs ρ1 => match imms vs with
    | some ds => if ds.length ≤ LIM then .ok (.tmp (.lst ds)) ρ1 else .stuck
    | none => .stuck).bind (tst t)
  | .sub o i, ρ => ((ev false o ρ).bind fun x ρ1 => (ev false i ρ1).bind fun y ρ2 => match rv ρ2 x, rv ρ2 y with
    | some d, some e => ofD ρ2 (subD d e)
    | _, _ => .stuck).bind (tst t)
  | .slc hl hh o lo hi, ρ => ((ev false o ρ).bind fun x ρ1 =>
    (if hl then (ev false lo ρ1).bind fun y ρ2 => (match asInt ρ2 y with | some i => .ok (some i) ρ2 | none => .stuck) else .ok none ρ1).bind fun l ρ2 =>
    (if hh then (ev false hi ρ2).bind fun z ρ3 => (match asInt ρ3 z with | some i => .ok (some i) ρ3 | none => .stuck) else .ok none ρ2).bind fun h ρ3 =>
      match rv ρ3 x with
      | some d => ofV ρ3 (slcD d l h)
      | none => .stuck).bind (tst t)
  | .call f es, ρ => ((evs es ρ).bind fun vs ρ1 => match argsOf ρ1 vs with
    | some as => if (lentOf vs).Nodup then callRes ρ1 vs (C f as) else .stuck
    | none => .stuck).bind (tst t)
  | .blt b es, ρ => ((evs es ρ).bind fun vs ρ1 => match rvs ρ1 vs with
    | some ds => ofV ρ1 (appB b ds)
    | none => .stuck).bind (tst t)
  | .isi a ty, ρ => ((ev false a ρ).bind fun x ρ1 => match rv ρ1 x with
    | some d => .ok (bV (isTy d ty)) ρ1
    | none => .stuck)
  | .mth m o es, ρ => ((ev false o ρ).bind fun x ρ1 => match rv ρ1 x with
    | some d0 => if tyM m d0 then (evs es ρ1).bind fun vs ρ2 => match rv ρ2 x, rvs ρ2 vs with
      | some d, some ds => ofV ρ2 (appM m d ds)
      | _, _ => .stuck else .stuck
    | none => .stuck).bind (tst t)
  | .mut m i es, ρ => ((match getS ρ i with
    | some (.own _ (.lst _)) => (evs es ρ).bind fun vs ρ1 => match getS ρ1 i, imms vs with
      | some (.own tk d), some ds => match appMu m d ds with
        | some (d', r) => .ok (.imm r) (setS ρ1 i (.own tk d'))
        | none => .stuck
      | _, _ => .stuck
    | _ => .stuck : Res Val)).bind (tst t)
  | .lc own tg k its cs elt, ρ => ((evs its ρ).bind fun vs ρ1 => match imms vs with
    | some ds => match itemsOf k ds with
      | some xs => (loopC (fun x ρ' => match tgSet ρ' tg x with
          | some ρ2 => (evC cs ρ2).bind fun k ρ3 => if k then (ev false elt ρ3).bind fun v ρ4 => (match v with | .imm d => .ok (some d) (wipeS ρ4 own) | .tmp d => .ok (some d) (wipeS ρ4 own) | .brw _ => .stuck) else .ok none (wipeS ρ3 own)
          | none => .stuck) xs [] (wipeS ρ1 own)).bind fun acc ρ2 => .ok (.tmp (.lst acc)) (backS ρ1 ρ2 own)
      | none => .stuck
    | none => .stuck).bind (tst t)
/-- arguments, items: new lists are frozen -/
def evs : L → Env → Res (List Val)
  | .nil, ρ => .ok [] ρ
  | .cons e es, ρ => (ev false e ρ).bind fun v ρ1 => (evs es ρ1).bind fun vs ρ2 => .ok (frz v :: vs) ρ2
/-- and, or: by truth -/
def evB (t : Bool) (isAnd : Bool) : L → Env → Res Val
  | .nil, _ => .stuck
  | .cons e es, ρ => match es with
    | .nil => ev t e ρ
    | .cons _ _ => (ev t e ρ).bind fun v ρ1 => match v with
      | .brw _ => .stuck
      | v => match rv ρ1 v with
        | some d => match d.truth with
          | some k => if k = isAnd then evB t isAnd es ρ1 else .ok v ρ1
          | none => .stuck
        | none => .stuck
/-- a comprehension's tests -/
def evC : L → Env → Res Bool
  | .nil, ρ => .ok true ρ
  | .cons e es, ρ => ((ev true e ρ).bind kOf).bind fun k ρ1 => if k then evC es ρ1 else .ok false ρ1
end
abbrev evT (e : E) (ρ : Env) : Res Bool := (ev C true e ρ).bind kOf

/-! ### statements -/
def exS : S → Env → Res Flow
  | .nil, ρ => .ok .nx ρ
  | .seq s r, ρ => match exS s ρ with
    | .ok .nx ρ1 => exS r ρ1
    | x => x
  | .asg i e, ρ => (ev C false e ρ).bind fun v ρ1 => match v with
    | .imm d => .ok .nx (setS ρ1 i (.imm d))
    | .tmp d => .ok .nx (setS ρ1 i (.own 0 d))
    | .brw _ => .stuck
  | .unp is e, ρ => (ev C false e ρ).bind fun v ρ1 => match v with
    | .imm d => match tgSet ρ1 (.fl is) d with
      | some ρ2 => .ok .nx ρ2
      | none => .stuck
    | _ => .stuck
  | .seti i ix e, ρ => (ev C false e ρ).bind fun v ρ1 => match getS ρ1 i with
    | some (.own _ (.lst _)) => (ev C false ix ρ1).bind fun y ρ2 => match v, asInt ρ2 y, getS ρ2 i with
      | .imm d, some k, some (.own t (.lst xs)) => match ixOf xs.length k with
        | some j => .ok .nx (setS ρ2 i (.own t (.lst (xs.set j d))))
        | none => .stuck
      | _, _, _ => .stuck
    | _ => .stuck
  | .exp e, ρ => (ev C false e ρ).bind fun _ ρ1 => .ok .nx ρ1
  | .ret e, ρ => (ev C false e ρ).bind fun v ρ1 => match v with
    | .brw _ => .stuck
    | v => .ok (.rt v) ρ1
  | .retv i, ρ => match getS ρ i with
    | some (.imm d) => .ok (.rt (.imm d)) ρ
    | some (.own 0 d) => .ok (.rt (.tmp d)) (ρ.set i none)
    | _ => .stuck
  | .retn, ρ => .ok (.rt (.imm .non)) ρ
  | .ife c a b, ρ => (evT C c ρ).bind fun k ρ1 => if k then exS a ρ1 else exS b ρ1
  | .for_ tg k its body, ρ => (evs C its ρ).bind fun vs ρ1 => match imms vs with
    | some ds => match itemsOf k ds with
      | some xs => loopF (fun x ρ' => match tgSet ρ' tg x with
          | some ρ2 => exS body ρ2
          | none => .stuck) xs ρ1
      | none => .stuck
    | none => .stuck
  | .whl c body, ρ => loopW (evT C c) (exS body) FUEL ρ
  | .brk, ρ => .ok .bk ρ
  | .cnt, ρ => .ok .ct ρ
  | .pas, ρ => .ok .nx ρ
end

/-! ### defs -/
def startS : Nat → List (Bool × D) → Env
  | _, [] => []
  | i, (o, d) :: as => some (if o then .own (i + 1) d else .imm d) :: startS (i + 1) as
/-- what the lent lists have become -/
def outsOf (ρ : Env) : Nat → List (Bool × D) → Option (List D)
  | _, [] => some []
  | i, (false, _) :: as => outsOf ρ (i + 1) as
  | i, (true, _) :: as => match getS ρ i with
    | some (.own t d) => if t = i + 1 then (outsOf ρ (i + 1) as).map (d :: ·) else none
    | _ => none
def fin (as : List (Bool × D)) (o : Bool) (d : D) (ρ : Env) : CRes :=
  match outsOf ρ 0 as with
  | some outs => .ok o d outs
  | none => .stuck
def finE (as : List (Bool × D)) (x : Exn) (ρ : Env) : CRes :=
  match outsOf ρ 0 as with
  | some outs => .exn x outs
  | none => .stuck
def runFn (C : Nat → List (Bool × D) → CRes) (fn : Fn) (as : List (Bool × D)) : CRes :=
  if as.length = fn.np ∧ as.map (·.1) = fn.lent ∧ fn.np ≤ fn.ns then
    match exS C fn.body (startS 0 as ++ List.replicate (fn.ns - fn.np) none) with
    | .ok .nx ρ => fin as false .non ρ
    | .ok (.rt (.imm d)) ρ => fin as false d ρ
    | .ok (.rt (.tmp d)) ρ => fin as true d ρ
    | .exn x ρ => finE as x ρ
    | _ => .stuck
  else .stuck
abbrev Tab := Nat → Option Fn
def callF (T : Tab) : Nat → Nat → List (Bool × D) → CRes
  | 0, _, _ => .stuck
  | n + 1, f, as => match T f with
    | some fn => runFn (callF T n) fn as
    | none => .stuck
end Mi

set_option maxRecDepth 100000
set_option maxHeartbeats 1000000
/-! Mi1: how data stand in the abstract heap; what grows; the weakest readings. -/
namespace Mi
open PySem PySem.Spec PyProof.Rows L2

abbrev Frag := PySem.W.Frag
def Sub (F H : Hp) : Prop := ∀ a o, F a = some o → H a = some o
theorem Sub.refl (F : Hp) : Sub F F := fun _ _ h => h
theorem Sub.trans {F G H : Hp} (a : Sub F G) (b : Sub G H) : Sub F H := fun x o h => b x o (a x o h)
theorem Sub.rd {F H : Hp} {a : Addr} {u : HO} (e : Sub F H) (h : Rd F a u) : Rd H a u := by
  rcases h with h | ⟨o, h⟩
  · exact .inl (e a _ h)
  · exact .inr ⟨o, e a _ h⟩
theorem Sub.l {K : Frag} {F H : Hp} {a : Addr} {xs : List V} (e : Sub F H) (h : SqL K F a xs) : SqL K H a xs := by
  rcases h with h | h
  · exact .inl (e.rd h)
  · exact .inr h
theorem Sub.t {K : Frag} {F H : Hp} {a : Addr} {xs : List V} (e : Sub F H) (h : SqT K F a xs) : SqT K H a xs := by
  rcases h with h | h
  · exact .inl (e.rd h)
  · exact .inr h
theorem Sub.put {F H : Hp} {p : Addr} {o : HO} (e : Sub F H) (h : F p = none) : Sub F (upd H p o) := fun a u ha => by
  rw [upd_ne (ne_of_none ha h)]
  exact e a u ha
theorem Sub.put2 {F H : Hp} {p : Addr} {o : HO} (e : Sub F H) : Sub (upd F p o) (upd H p o) := fun a u ha => by
  by_cases q : a = p
  · subst q
    rw [upd_same] at ha ⊢
    exact ha
  · rw [upd_ne q] at ha ⊢
    exact e a u ha
theorem Sub.new {H : Hp} {p : Addr} {o : HO} (h : H p = none) : Sub H (upd H p o) := Sub.put (Sub.refl H) h

/-! ### data -/
def sv (s : List Nat) : Str := ⟨s.toArray⟩
def okS (s : List Nat) : Prop := ∀ c ∈ s, c < 0x110000
theorem sv_len (s : List Nat) : (sv s).length = s.length := by simp [sv, Str.length]
theorem sv_app (a b : List Nat) : sv a ++ sv b = sv (a ++ b) := by
  show Str.mk _ = Str.mk _
  show Str.mk (a.toArray ++ b.toArray) = _
  rw [List.append_toArray]
theorem sv_inj {a b : List Nat} (h : sv a = sv b) : a = b := by
  have : a.toArray = b.toArray := congrArg Str.cps h
  simpa using congrArg Array.toList this

mutual
inductive Rep (K : Frag) (F : Hp) : V → D → Prop
  | non : Rep K F .non .non
  | bl (b : Bool) : Rep K F (.bl b) (.bl b)
  | int (i : Int) : Rep K F (.int i) (.int i)
  | str (s : List Nat) : okS s → Rep K F (.str (sv s)) (.str s)
  | tup {a : Addr} {vs : List V} {ds : List D} : F a = some (.tup vs) → Reps K F vs ds → Rep K F (.ref a) (.tup ds)
  | lst {a : Addr} {vs : List V} {ds : List D} : F a = some (.lst vs) → Reps K F vs ds → Rep K F (.ref a) (.lst ds)
  | ro {a : Addr} {vs : List V} {ds : List D} : SqL K F a vs → Reps K F vs ds → Rep K F (.ref a) (.ro ds)
inductive Reps (K : Frag) (F : Hp) : List V → List D → Prop
  | nil : Reps K F [] []
  | cons {v : V} {vs : List V} {d : D} {ds : List D} : Rep K F v d → Reps K F vs ds → Reps K F (v :: vs) (d :: ds)
end
section
variable {K : Frag} {F F' H : Hp} {v : V} {d : D} {vs : List V} {ds : List D}
mutual
theorem Rep.mono (e : Sub F F') : ∀ {v : V} {d : D}, Rep K F v d → Rep K F' v d
  | _, _, .non => .non
  | _, _, .bl b => .bl b
  | _, _, .int i => .int i
  | _, _, .str s h => .str s h
  | _, _, .tup h r => .tup (e _ _ h) (Reps.mono e r)
  | _, _, .lst h r => .lst (e _ _ h) (Reps.mono e r)
  | _, _, .ro h r => .ro (e.l h) (Reps.mono e r)
theorem Reps.mono (e : Sub F F') : ∀ {vs : List V} {ds : List D}, Reps K F vs ds → Reps K F' vs ds
  | _, _, .nil => .nil
  | _, _, .cons h r => .cons (Rep.mono e h) (Reps.mono e r)
end
theorem Reps.length : ∀ {vs : List V} {ds : List D}, Reps K F vs ds → vs.length = ds.length
  | _, _, .nil => rfl
  | _, _, .cons _ r => congrArg Nat.succ (Reps.length r)
theorem Reps.get : ∀ {vs : List V} {ds : List D} {i : Nat} {d : D}, Reps K F vs ds → ds[i]? = some d → ∃ v, vs[i]? = some v ∧ Rep K F v d
  | _, _, _, _, .nil, e => by simp at e
  | _, _, 0, _, .cons r _, e => by simp at e; subst e; exact ⟨_, rfl, r⟩
  | _, _, i + 1, d, .cons _ t, e => by
    obtain ⟨v, h1, h2⟩ := Reps.get (i := i) (d := d) t (by simpa using e)
    exact ⟨v, by simpa using h1, h2⟩
theorem Reps.getV : ∀ {vs : List V} {ds : List D} {i : Nat} {v : V}, Reps K F vs ds → vs[i]? = some v → ∃ d, ds[i]? = some d ∧ Rep K F v d
  | _, _, _, _, .nil, e => by simp at e
  | _, _, 0, _, .cons r _, e => by simp at e; subst e; exact ⟨_, rfl, r⟩
  | _, _, i + 1, v, .cons _ t, e => by
    obtain ⟨d, h1, h2⟩ := Reps.getV (i := i) (v := v) t (by simpa using e)
    exact ⟨d, by simpa using h1, h2⟩
theorem Reps.append : ∀ {vs ws : List V} {ds es : List D}, Reps K F vs ds → Reps K F ws es → Reps K F (vs ++ ws) (ds ++ es)
  | _, _, _, _, .nil, s => s
  | _, _, _, _, .cons r t, s => .cons r (Reps.append t s)
theorem Reps.take : ∀ {vs : List V} {ds : List D} (n : Nat), Reps K F vs ds → Reps K F (vs.take n) (ds.take n)
  | _, _, 0, _ => .nil
  | _, _, _ + 1, .nil => .nil
  | _, _, n + 1, .cons r t => .cons r (Reps.take n t)
theorem Reps.drop : ∀ {vs : List V} {ds : List D} (n : Nat), Reps K F vs ds → Reps K F (vs.drop n) (ds.drop n)
  | _, _, 0, r => r
  | _, _, _ + 1, .nil => .nil
  | _, _, n + 1, .cons _ t => Reps.drop n t
theorem Reps.set {v : V} {d : D} (r : Rep K F v d) : ∀ {vs : List V} {ds : List D} (i : Nat), Reps K F vs ds → Reps K F (vs.set i v) (ds.set i d)
  | _, _, _, .nil => .nil
  | _, _, 0, .cons _ t => .cons r t
  | _, _, i + 1, .cons q t => .cons q (Reps.set r i t)
theorem Reps.one {v : V} {d : D} (h : Rep K F v d) : Reps K F [v] [d] := .cons h .nil
theorem Reps.ints : ∀ {vs : List V} {ds : List D} {ns : List Int}, Reps K F vs ds → D.ints ds = some ns → vs = ns.map V.int
  | _, _, _, .nil, e => by
    simp only [D.ints, Option.some.injEq] at e
    subst e; rfl
  | _, _, ns, .cons (d := d) r t, e => by
    cases r with
    | int i =>
      simp only [D.ints, Option.map_eq_some_iff] at e
      obtain ⟨ms, e1, e2⟩ := e
      subst e2
      rw [Reps.ints t e1]; rfl
    | _ => simp [D.ints] at e
end

/-- an object of its own: a list whose items are frozen -/
def OwnAt (K : Frag) (F H : Hp) (p : Addr) : D → Prop
  | .lst ds => ∃ vs, H p = some (.lst vs) ∧ Reps K F vs ds
  | _ => False
theorem OwnAt.there {K : Frag} {F H : Hp} {p : Addr} {d : D} (h : OwnAt K F H p d) : H p ≠ none := by
  cases d with
  | lst ds =>
    obtain ⟨vs, e, _⟩ := h
    rw [e]; exact fun z => by cases z
  | _ => exact h.elim
theorem OwnAt.mono {K : Frag} {F F' H H' : Hp} {p : Addr} {d : D} (e : Sub F F') (k : ∀ o, H p = some o → H' p = some o) (h : OwnAt K F H p d) : OwnAt K F' H' p d := by
  cases d with
  | lst ds =>
    obtain ⟨vs, e1, r⟩ := h
    exact ⟨vs, k _ e1, r.mono e⟩
  | _ => exact h.elim
/-- it is frozen -/
theorem OwnAt.freeze {K : Frag} {F H : Hp} {p : Addr} {d : D} (h : OwnAt K F H p d) (hp : F p = none) (s : Sub F H) :
    ∃ F', Sub F F' ∧ Sub F' H ∧ (∀ b, F b = none → F' b ≠ none → b = p) ∧ Rep K F' (.ref p) d := by
  cases d with
  | lst ds =>
    obtain ⟨vs, e, r⟩ := h
    have s1 : Sub F (upd F p (.lst vs)) := Sub.new hp
    refine ⟨upd F p (.lst vs), s1, fun a o ha => ?_, fun b hb hn => ?_, .lst upd_same (r.mono s1)⟩
    · by_cases q : a = p
      · subst q
        rw [upd_same] at ha; cases ha; exact e
      · rw [upd_ne q] at ha; exact s a o ha
    · refine Decidable.byContradiction fun q => hn ?_
      rw [upd_ne q]; exact hb
  | _ => exact h.elim

/-- what can be read now -/
def PR (K : Frag) (F H : Hp) (v : V) (d : D) : Prop := Rep K F v d ∨ ∃ p, v = .ref p ∧ OwnAt K F H p d
section
variable {K : Frag} {F H : Hp} {v : V}
theorem PR.non (h : PR K F H v .non) : v = .non := by
  rcases h with h | ⟨_, _, h⟩
  · cases h; rfl
  · exact h.elim
theorem PR.bl {b : Bool} (h : PR K F H v (.bl b)) : v = .bl b := by
  rcases h with h | ⟨_, _, h⟩
  · cases h; rfl
  · exact h.elim
theorem PR.int {i : Int} (h : PR K F H v (.int i)) : v = .int i := by
  rcases h with h | ⟨_, _, h⟩
  · cases h; rfl
  · exact h.elim
theorem PR.str {s : List Nat} (h : PR K F H v (.str s)) : v = .str (sv s) ∧ okS s := by
  rcases h with h | ⟨_, _, h⟩
  · cases h; exact ⟨rfl, by assumption⟩
  · exact h.elim
theorem PR.tup {ds : List D} (h : PR K F H v (.tup ds)) (s : Sub F H) : ∃ a vs, v = .ref a ∧ SqT K H a vs ∧ F a = some (.tup vs) ∧ Reps K F vs ds := by
  rcases h with h | ⟨_, _, h⟩
  · cases h with
    | tup h r => exact ⟨_, _, rfl, s.t (.of h), h, r⟩
  · exact h.elim
theorem PR.lst {ds : List D} (h : PR K F H v (.lst ds)) (s : Sub F H) : ∃ a vs, v = .ref a ∧ H a = some (.lst vs) ∧ Reps K F vs ds := by
  rcases h with h | ⟨p, rfl, h⟩
  · cases h with
    | lst h r => exact ⟨_, _, rfl, s _ _ h, r⟩
  · obtain ⟨vs, e, r⟩ := h
    exact ⟨p, vs, rfl, e, r⟩
theorem PR.ro {ds : List D} (h : PR K F H v (.ro ds)) (s : Sub F H) : ∃ a vs, v = .ref a ∧ SqL K H a vs ∧ Reps K F vs ds := by
  rcases h with h | ⟨_, _, h⟩
  · cases h with
    | ro h r => exact ⟨_, _, rfl, s.l h, r⟩
  · exact h.elim
theorem PR.nodic {ks vs : List D} (h : PR K F H v (.dic ks vs)) : False := by
  rcases h with h | ⟨_, _, h⟩
  · cases h
  · exact h.elim
end

/-! ### names -/
def LentOk (Bs : List (Option Addr)) (t : Nat) (p : Addr) : Prop :=
  match t with
  | 0 => some p ∉ Bs
  | k + 1 => Bs[k]? = some (some p)
/-- a slot: what the frame holds, what it is, the list of its own that it holds; Bs: what was lent -/
def SlotR (K : Frag) (F H : Hp) (Bs : List (Option Addr)) (x : Option V) (s : Option Slot) (a : Option Addr) : Prop :=
  match s with
  | none => a = none
  | some (.imm d) => a = none ∧ ∃ v, x = some v ∧ Rep K F v d
  | some (.own t d) => ∃ p, a = some p ∧ x = some (.ref p) ∧ OwnAt K F H p d ∧ F p = none ∧ LentOk Bs t p
structure Sim (K : Frag) (Bs : List (Option Addr)) (F : Hp) (A : Nat → Option Addr) (σ : L2.St) (H : Hp) (ρ : Env) : Prop where
  len : σ.length = ρ.length
  sl : ∀ i, SlotR K F H Bs (σ[i]?).join (getS ρ i) (A i)
  sub : Sub F H
  inj : ∀ i j p, A i = some p → A j = some p → i = j
  lnt : ∀ p, some p ∈ Bs → H p ≠ none
/-- from one state to a later one -/
structure Grow (F : Hp) (A : Nat → Option Addr) (H : Hp) (F' : Hp) (A' : Nat → Option Addr) (H' : Hp) : Prop where
  fs : Sub F F'
  keep : ∀ b o, H b = some o → (∀ i, A i ≠ some b) → H' b = some o
  dom : ∀ b, H b ≠ none → H' b ≠ none
  fn : ∀ b, F b = none → F' b ≠ none → H b = none ∨ ∃ i, A i = some b
  an : ∀ i p, A' i = some p → H p = none ∨ ∃ j, A j = some p
theorem Grow.refl (F : Hp) (A : Nat → Option Addr) (H : Hp) : Grow F A H F A H :=
  ⟨Sub.refl F, fun _ _ h _ => h, fun _ h => h, fun _ h n => absurd h n, fun i _ h => .inr ⟨i, h⟩⟩
theorem Grow.trans {F F1 F2 H H1 H2 : Hp} {A A1 A2 : Nat → Option Addr} (g : Grow F A H F1 A1 H1) (k : Grow F1 A1 H1 F2 A2 H2) : Grow F A H F2 A2 H2 := by
  refine ⟨g.fs.trans k.fs, fun b o h n => ?_, fun b h => k.dom b (g.dom b h), fun b h n => ?_, fun i p h => ?_⟩
  · refine k.keep b o (g.keep b o h n) fun i e => ?_
    rcases g.an i b e with z | ⟨j, z⟩
    · rw [h] at z; cases z
    · exact n j z
  · by_cases q : F1 b = none
    · rcases k.fn b q n with z | ⟨i, z⟩
      · refine .inl (Decidable.byContradiction fun w => g.dom b w z)
      · exact g.an i b z
    · exact g.fn b h q
  · rcases k.an i p h with z | ⟨j, z⟩
    · refine .inl (Decidable.byContradiction fun w => g.dom p w z)
    · exact g.an j p z
/-- what an operation brings: new objects alone -/
structure New (F H F' H' : Hp) : Prop where
  fs : Sub F F'
  hs : Sub H H'
  fh : Sub F' H'
  fn : ∀ b, F b = none → F' b ≠ none → H b = none
theorem New.refl {F H : Hp} (s : Sub F H) : New F H F H := ⟨Sub.refl F, Sub.refl H, s, fun _ h n => absurd h n⟩
/-- a new object, not frozen -/
theorem New.obj {F H : Hp} {p : Addr} {o : HO} (s : Sub F H) (h : H p = none) : New F H F (upd H p o) :=
  ⟨Sub.refl F, Sub.new h, s.trans (Sub.new h), fun _ h n => absurd h n⟩
/-- .. frozen -/
theorem New.frz {F H : Hp} {p : Addr} {o : HO} (s : Sub F H) (h : H p = none) : New F H (upd F p o) (upd H p o) := by
  have hf : F p = none := by
    cases e : F p with
    | none => rfl
    | some u => rw [s p u e] at h; cases h
  refine ⟨Sub.new hf, Sub.new h, s.put2, fun b hb hn => ?_⟩
  by_cases q : b = p
  · subst q; exact h
  · rw [upd_ne q] at hn; exact absurd hb hn
theorem Sub.none {F H : Hp} {p : Addr} (s : Sub F H) (h : H p = none) : F p = none := by
  cases e : F p with
  | none => rfl
  | some u => rw [s p u e] at h; cases h
section
variable {K : Frag} {Bs : List (Option Addr)} {F F' H H' : Hp} {A : Nat → Option Addr} {σ : L2.St} {ρ : Env}
theorem Sim.own {i t : Nat} {d : D} (S : Sim K Bs F A σ H ρ) (h : getS ρ i = some (.own t d)) : ∃ p, A i = some p ∧ (σ[i]?).join = some (.ref p) ∧ OwnAt K F H p d ∧ F p = none ∧ LentOk Bs t p := by
  have q := S.sl i
  rw [h] at q
  exact q
theorem Sim.imm {i : Nat} {d : D} (S : Sim K Bs F A σ H ρ) (h : getS ρ i = some (.imm d)) : A i = none ∧ ∃ v, (σ[i]?).join = some v ∧ Rep K F v d := by
  have q := S.sl i
  rw [h] at q
  exact q
theorem Sim.ownA {i : Nat} {p : Addr} (S : Sim K Bs F A σ H ρ) (h : A i = some p) : H p ≠ none ∧ F p = none ∧ ∃ t d, getS ρ i = some (.own t d) := by
  have q := S.sl i
  cases e : getS ρ i with
  | none => rw [e] at q; have q' : A i = none := q; rw [h] at q'; cases q'
  | some s =>
    rw [e] at q
    cases s with
    | imm d => have q' := q.1; rw [h] at q'; cases q'
    | own t d =>
      obtain ⟨p', e1, _, o, f, _⟩ := q
      rw [h] at e1; cases e1
      exact ⟨o.there, f, t, d, rfl⟩
theorem SlotR.mono {x : Option V} {s : Option Slot} {a : Option Addr} (h : SlotR K F H Bs x s a) (e : Sub F F') (k : ∀ p, a = some p → (∀ o, H p = some o → H' p = some o) ∧ F' p = none) : SlotR K F' H' Bs x s a := by
  cases s with
  | none => exact h
  | some s =>
    cases s with
    | imm d =>
      obtain ⟨h1, v, h2, h3⟩ := h
      exact ⟨h1, v, h2, h3.mono e⟩
    | own t d =>
      obtain ⟨p, h1, h2, h3, h4, h5⟩ := h
      exact ⟨p, h1, h2, h3.mono e (k p h1).1, (k p h1).2, h5⟩
theorem Sim.new (S : Sim K Bs F A σ H ρ) (n : New F H F' H') : Sim K Bs F' A σ H' ρ := by
  refine ⟨S.len, fun i => (S.sl i).mono n.fs fun p h => ⟨fun o => n.hs p o, ?_⟩, n.fh, S.inj, fun p h z => ?_⟩
  · have q := S.ownA h
    refine Decidable.byContradiction fun w => q.1 (n.fn p q.2.1 w)
  · cases e : H p with
    | none => exact S.lnt p h e
    | some o => rw [n.hs p o e] at z; cases z
theorem Grow.new (n : New F H F' H') : Grow F A H F' A H' :=
  ⟨n.fs, fun b o h _ => n.hs b o h, fun b h z => by
    cases e : H b with
    | none => exact h e
    | some o => (rw [n.hs b o e] at z; cases z), fun b h w => .inl (n.fn b h w), fun i p h => .inr ⟨i, h⟩⟩

/-- a value: H0 is the heap ahead of it -/
def RV (K : Frag) (F : Hp) (A : Nat → Option Addr) (σ : L2.St) (H H0 : Hp) (v : V) : Val → Prop
  | .imm d => Rep K F v d
  | .tmp d => ∃ p, v = .ref p ∧ OwnAt K F H p d ∧ F p = none ∧ (∀ i, A i ≠ some p) ∧ H0 p = none
  | .brw i => (σ[i]?).join = some v
/-- what an operation gives -/
def VR (K : Frag) (F H H0 : Hp) (v : V) : Val → Prop
  | .imm d => Rep K F v d
  | .tmp d => ∃ p, v = .ref p ∧ OwnAt K F H p d ∧ F p = none ∧ H0 p = none
  | .brw _ => False
theorem RV.keep {F1 F2 H1 H2 H0 : Hp} {A1 A2 : Nat → Option Addr} {v : V} {val : Val} (g : Grow F1 A1 H1 F2 A2 H2) (h : RV K F1 A1 σ H1 H0 v val) : RV K F2 A2 σ H2 H0 v val := by
  cases val with
  | imm d => exact Rep.mono g.fs h
  | brw i => exact h
  | tmp d =>
    obtain ⟨p, rfl, o, f, a, z⟩ := h
    have ht := o.there
    refine ⟨p, rfl, o.mono g.fs fun u hu => g.keep p u hu a, ?_, fun i e => ?_, z⟩
    · refine Decidable.byContradiction fun w => ?_
      rcases g.fn p f w with q | ⟨i, q⟩
      · exact ht q
      · exact a i q
    · rcases g.an i p e with q | ⟨j, q⟩
      · exact ht q
      · exact a j q
theorem RV.back {H0 H1 : Hp} {v : V} {val : Val} (k : ∀ b, H0 b ≠ none → H1 b ≠ none) (h : RV K F A σ H H1 v val) : RV K F A σ H H0 v val := by
  cases val with
  | imm d => exact h
  | brw i => exact h
  | tmp d =>
    obtain ⟨p, e, o, f, a, z⟩ := h
    exact ⟨p, e, o, f, a, Decidable.byContradiction fun w => k p w z⟩
theorem VR.rv {H0 : Hp} {v : V} {val : Val} (S : Sim K Bs F A σ H ρ) (n : New F H F' H') (k : ∀ b, H0 b ≠ none → H b ≠ none) (h : VR K F' H' H v val) : RV K F' A σ H' H0 v val := by
  cases val with
  | imm d => exact h
  | brw i => exact h.elim
  | tmp d =>
    obtain ⟨p, e, o, f, z⟩ := h
    exact ⟨p, e, o, f, fun i w => (S.ownA w).1 z, Decidable.byContradiction fun w => k p w z⟩
/-- read at once -/
theorem RV.pr {H0 : Hp} {v : V} {val : Val} {d : D} (S : Sim K Bs F A σ H ρ) (h : RV K F A σ H H0 v val) (e : rv ρ val = some d) : PR K F H v d := by
  cases val with
  | imm d' =>
    simp only [rv, Option.some.injEq] at e
    subst e; exact .inl h
  | tmp d' =>
    simp only [rv, Option.some.injEq] at e
    subst e
    obtain ⟨p, rfl, o, _⟩ := h
    exact .inr ⟨p, rfl, o⟩
  | brw i =>
    have h' : (σ[i]?).join = some v := h
    simp only [rv] at e
    split at e
    · rename_i d' q
      cases e
      obtain ⟨_, v', h1, h2⟩ := S.imm q
      rw [h'] at h1; cases h1
      exact .inl h2
    · rename_i t d' q
      cases e
      obtain ⟨p, _, h1, h2, _⟩ := S.own q
      rw [h'] at h1; cases h1
      exact .inr ⟨p, rfl, h2⟩
    · cases e
end

/-! ### the weakest readings -/
section
variable (X : Cx)
def wE (e : Expr) : TE := fun σ H Q => ∀ (pins : List (Addr × Obj)) (s : Shared), Inv X pins σ H s → wpAny (model X.prog X.w) X.A (eval e X.env) (EP X pins σ Q) X.xe s
def wT (e : Expr) : TT := fun σ H Q => ∀ (pins : List (Addr × Obj)) (s : Shared), Inv X pins σ H s → wpAny (model X.prog X.w) X.A (isTrue e X.env (eval e X.env)) (TP X pins σ Q) X.xe s
def wW (e : Expr) : TT := fun σ H Q => ∀ (whole : Sem Value) (pins : List (Addr × Obj)) (s : Shared), Inv X pins σ H s → wpAny (model X.prog X.w) X.A (isTrue e X.env whole) (TP X pins σ Q) X.xe s
def wA (es : List Expr) : TA := fun σ H Q => ∀ (pos : Pos) (pins : List (Addr × Obj)) (s : Shared), Inv X pins σ H s → wpAny (model X.prog X.w) X.A (spliced (backTo pos (starEach es X.env))) (AP X pins σ Q) X.xe s
def wS (st : Stmt) : TS := fun D σ H => ∀ (pins : List (Addr × Obj)) (s : Shared), Inv X pins σ H s → wpAny (model X.prog X.w) X.A (exec st X.env) (SP X pins D) X.xe s
def wSs (st : List Stmt) : TS := fun D σ H => ∀ (pins : List (Addr × Obj)) (s : Shared), Inv X pins σ H s → wpAny (model X.prog X.w) X.A (execs st X.env) (SP X pins D) X.xe s
end
section
variable {X : Cx} {e : Expr} {es : List Expr} {st : Stmt} {sts : List Stmt}
theorem pe_w : PE X e (wE X e) := ⟨fun pins s σ H Q I h => h pins s I⟩
theorem pt_w : PT X e (wT X e) := ⟨fun pins s σ H Q I h => h pins s I⟩
theorem pw_w : PW X e (wW X e) := ⟨fun wh pins s σ H Q I h => h wh pins s I⟩
theorem pa_w : PA X es (wA X es) := ⟨fun pos pins s σ H Q I h => h pos pins s I⟩
theorem ps_w : PS X st (wS X st) := ⟨fun pins s σ H D I h => h pins s I⟩
theorem pss_w : PSs X sts (wSs X sts) := ⟨fun pins s σ H D I h => h pins s I⟩
theorem w_of {t : TE} {σ : L2.St} {H : Hp} {Q : VK} (h : PE X e t) (q : t σ H Q) : wE X e σ H Q := fun pins s I => h.run pins s σ H Q I q
theorem wt_of {t : TT} {σ : L2.St} {H : Hp} {Q : Bool → Hp → Prop} (h : PT X e t) (q : t σ H Q) : wT X e σ H Q := fun pins s I => h.run pins s σ H Q I q
theorem ww_of {t : TT} {σ : L2.St} {H : Hp} {Q : Bool → Hp → Prop} (h : PW X e t) (q : t σ H Q) : wW X e σ H Q := fun wh pins s I => h.run wh pins s σ H Q I q
theorem wa_of {t : TA} {σ : L2.St} {H : Hp} {Q : List V → Hp → Prop} (h : PA X es t) (q : t σ H Q) : wA X es σ H Q := fun pos pins s I => h.run pos pins s σ H Q I q
theorem ws_of {t : TS} {σ : L2.St} {H : Hp} {D : Ends} (h : PS X st t) (q : t D σ H) : wS X st D σ H := fun pins s I => h.run pins s σ H D I q
theorem wss_of {t : TS} {σ : L2.St} {H : Hp} {D : Ends} (h : PSs X sts t) (q : t D σ H) : wSs X sts D σ H := fun pins s I => h.run pins s σ H D I q
/-- whatever rule serves -/
def anyOp (X : Cx) (f : Value → Value → Sem Value) : R2 := fun x y H Q => ∃ r : R2, OpR X f r ∧ r x y H Q
theorem anyOp_ok {f : Value → Value → Sem Value} : OpR X f (anyOp X f) := fun pins s σ H x y v u Q I rx ry ⟨r, h, q⟩ => h pins s σ H x y v u Q I rx ry q
def anyUn (X : Cx) (f : Value → Sem Value) : V → Hp → VK → Prop := fun x H Q => ∃ r : V → Hp → VK → Prop, UnR X f r ∧ r x H Q
theorem anyUn_ok {f : Value → Sem Value} : UnR X f (anyUn X f) := fun pins s σ H x v Q I rx ⟨r, h, q⟩ => h pins s σ H x v Q I rx q
def anyCall (X : Cx) (f : Value) : List V → Hp → VK → Prop := fun xs H Q => ∃ r : List V → Hp → VK → Prop, CallR X f r ∧ r xs H Q
theorem anyCall_ok {f : Value} : CallR X f (anyCall X f) := fun pins s σ H xs us Q I rx ⟨r, h, q⟩ => h pins s σ H xs us Q I rx q
def anyMt (X : Cx) (id : String) : V → List V → Hp → VK → Prop := fun x xs H Q => ∃ r : V → List V → Hp → VK → Prop, MtR X id r ∧ r x xs H Q
theorem anyMt_ok {id : String} : MtR X id (anyMt X id) := fun pins s σ H x xs v us Q I rx rs ⟨r, h, q⟩ => h pins s σ H x xs v us Q I rx rs q
def anyIx (X : Cx) : R2 := fun x y H Q => ∃ r : R2, IxR X r ∧ r x y H Q
theorem anyIx_ok : IxR X (anyIx X) := fun va sl pins s σ H x y v u Q I rx ry ⟨r, h, q⟩ => h va sl pins s σ H x y v u Q I rx ry q
def anySl (X : Cx) : V → Option Int → Option Int → Hp → VK → Prop := fun x lo hi H Q => ∃ r : V → Option Int → Option Int → Hp → VK → Prop, SlR X r ∧ r x lo hi H Q
theorem anySl_ok : SlR X (anySl X) := fun pins s σ H x v vl vu lo hi sl Q I rx hs pl pu ⟨r, h, q⟩ => h pins s σ H x v vl vu lo hi sl Q I rx hs pl pu q
end
end Mi

set_option maxRecDepth 100000
set_option maxHeartbeats 2000000
/-! Mi2: each operation of the little language is what the machine does. -/
namespace Mi
open PySem PySem.Spec PyProof.Rows L2

/-! ### == -/
mutual
def D.py : D → PyData
  | .non => .none
  | .bl b => .bool b
  | .int i => .int i
  | .str s => .str (sv s)
  | .tup xs => .tuple (D.pys xs)
  | .lst xs => .list (D.pys xs)
  | .ro xs => .list (D.pys xs)
  | .dic _ _ => .none
def D.pys : List D → List PyData
  | [] => []
  | x :: xs => x.py :: D.pys xs
end
mutual
theorem py_eqv : ∀ (x y : D) (n m : Nat), x.okd n = true → y.okd m = true → PyData.eqv x.py y.py = x.eqv y
  | .non, y, n, m, _, h => by cases y <;> simp_all [D.py, D.eqv, PyData.eqv, D.okd]
  | .bl b, y, n, m, _, h => by cases y <;> simp_all [D.py, D.eqv, PyData.eqv, D.okd]
  | .int i, y, n, m, _, h => by cases y <;> simp_all [D.py, D.eqv, PyData.eqv, D.okd]
  | .str s, y, n, m, _, h => by
    cases y <;> simp_all [D.py, D.eqv, PyData.eqv, D.okd]
    rename_i t
    rw [Bool.eq_iff_iff]
    simp only [beq_iff_eq]
    exact ⟨sv_inj, fun e => by rw [e]⟩
  | .tup xs, y, n, m, h1, h => by
    cases y <;> try (simp_all [D.py, D.eqv, PyData.eqv, D.okd]; done)
    rename_i ys
    cases n with
    | zero => simp [D.okd] at h1
    | succ n => cases m with
      | zero => simp [D.okd] at h
      | succ m =>
        simp only [D.okd] at h1 h
        simp only [D.py, D.eqv, PyData.eqv]
        exact pys_eqv xs ys n m h1 h
  | .lst xs, y, n, m, h1, h => by
    cases y <;> try (simp_all [D.py, D.eqv, PyData.eqv, D.okd]; done)
    rename_i ys
    cases n with
    | zero => simp [D.okd] at h1
    | succ n => cases m with
      | zero => simp [D.okd] at h
      | succ m =>
        simp only [D.okd] at h1 h
        simp only [D.py, D.eqv, PyData.eqv]
        exact pys_eqv xs ys n m h1 h
  | .ro xs, y, n, m, h1, h => by simp [D.okd] at h1
  | .dic _ _, y, n, m, h1, h => by simp [D.okd] at h1
theorem pys_eqv : ∀ (xs ys : List D) (n m : Nat), D.okds xs n = true → D.okds ys m = true → PyData.eqvAll (D.pys xs) (D.pys ys) = D.eqvs xs ys
  | [], [], _, _, _, _ => by simp [D.pys, PyData.eqvAll, D.eqvs]
  | [], _ :: _, _, _, _, _ => by simp [D.pys, PyData.eqvAll, D.eqvs]
  | _ :: _, [], _, _, _, _ => by simp [D.pys, PyData.eqvAll, D.eqvs]
  | x :: xs, y :: ys, n, m, h1, h2 => by
    simp only [D.okds, Bool.and_eq_true] at h1 h2
    simp only [D.pys, PyData.eqvAll, D.eqvs]
    rw [py_eqv x y n m h1.1 h2.1, pys_eqv xs ys n m h1.2 h2.2]
end
theorem strOk_of {s : List Nat} (h : okS s) : PyData.strOk (sv s) = true := by
  unfold PyData.strOk sv
  simp only [List.all_toArray, List.all_eq_true, decide_eq_true_eq]
  exact h
mutual
theorem Rep.dp {K : Frag} {F H : Hp} (s : Sub F H) : ∀ {v : V} {d : D} (n : Nat), Rep K F v d → d.okd n = true → Dp K H v d.py ∧ d.py.canLay0 = true ∧ d.py.depth ≤ n
  | _, _, n, .non, _ => ⟨by simpa only [D.py] using Dp.non, by simp [D.py, PyData.canLay0], by simp [D.py, PyData.depth]⟩
  | _, _, n, .bl b, _ => ⟨by simpa only [D.py] using Dp.bl b, by simp [D.py, PyData.canLay0], by simp [D.py, PyData.depth]⟩
  | _, _, n, .int i, _ => ⟨by simpa only [D.py] using Dp.int i, by simp [D.py, PyData.canLay0], by simp [D.py, PyData.depth]⟩
  | _, _, n, .str x h, _ => ⟨by simpa only [D.py] using Dp.str (sv x), by simpa [D.py, PyData.canLay0] using strOk_of h, by simp [D.py, PyData.depth]⟩
  | _, _, 0, .tup _ _, e => by simp [D.okd] at e
  | _, _, n + 1, .tup h r, e => by
    simp only [D.okd] at e
    obtain ⟨h1, h2, h3⟩ := Reps.dp s n r e
    simp only [D.py, PyData.canLay0, PyData.depth]
    exact ⟨.tup (s.t (.of h)) h1, h2, by omega⟩
  | _, _, 0, .lst _ _, e => by simp [D.okd] at e
  | _, _, n + 1, .lst h r, e => by
    simp only [D.okd] at e
    obtain ⟨h1, h2, h3⟩ := Reps.dp s n r e
    simp only [D.py, PyData.canLay0, PyData.depth]
    exact ⟨.lst (.of (s _ _ h)) h1, h2, by omega⟩
  | _, _, 0, .ro _ _, e => by simp [D.okd] at e
  | _, _, n + 1, .ro _ _, e => by simp [D.okd] at e
theorem Reps.dp {K : Frag} {F H : Hp} (s : Sub F H) : ∀ {vs : List V} {ds : List D} (n : Nat), Reps K F vs ds → D.okds ds n = true → DpAll K H vs (D.pys ds) ∧ PyData.canLayAll0 (D.pys ds) = true ∧ PyData.depthAll (D.pys ds) ≤ n
  | _, _, n, .nil, _ => by simp only [D.pys, PyData.canLayAll0, PyData.depthAll]; exact ⟨.nil, trivial, Nat.zero_le _⟩
  | _, _, n, .cons h r, e => by
    simp only [D.okds, Bool.and_eq_true] at e
    obtain ⟨a1, a2, a3⟩ := Rep.dp s n h e.1
    obtain ⟨b1, b2, b3⟩ := Reps.dp s n r e.2
    simp only [D.pys, PyData.canLayAll0, PyData.depthAll, Bool.and_eq_true]
    exact ⟨.cons a1 b1, ⟨a2, b2⟩, by omega⟩
end
theorem PR.dp {K : Frag} {F H : Hp} {v : V} {d : D} {n : Nat} (s : Sub F H) (h : PR K F H v d) (e : d.okd n = true) : Dp K H v d.py ∧ d.py.canLay0 = true ∧ d.py.depth ≤ n := by
  rcases h with h | ⟨p, rfl, h⟩
  · exact h.dp s n e
  · cases d with
    | lst ds =>
      obtain ⟨vs, h1, r⟩ := h
      cases n with
      | zero => simp [D.okd] at e
      | succ n =>
        simp only [D.okd] at e
        obtain ⟨a1, a2, a3⟩ := r.dp s n e
        simp only [D.py, PyData.canLay0, PyData.depth]
        exact ⟨.lst (.of h1) a1, a2, by omega⟩
    | _ => exact h.elim
theorem PR.shaped {K : Frag} {F H : Hp} {v : V} {d : D} (s : Sub F H) (h : PR K F H v d) (e : d.okd 60 = true) : Dp K H v d.py ∧ SeqAt.shaped d.py = true := by
  obtain ⟨a, b, c⟩ := h.dp s e
  refine ⟨a, ?_⟩
  unfold SeqAt.shaped
  rw [b, Bool.true_and, decide_eq_true_eq]
  omega

/-! ### flat things -/
theorem PR.flatV {K : Frag} {F H : Hp} {v : V} {d : D} (h : PR K F H v d) (e : d.flat = true) : flatV v = true := by
  cases d with
  | non => rw [h.non]; rfl
  | bl b => rw [h.bl]; rfl
  | int i => rw [h.int]; rfl
  | str s => rw [h.str.1]; rfl
  | _ => simp [D.flat] at e
theorem eqV_of {K : Frag} {F H G I : Hp} {v w : V} {d e : D} (h : PR K F H v d) (k : PR K G I w e) (hf : d.flat = true) (kf : e.flat = true) : eqV v w = d.eqv e := by
  cases d with
  | non => rw [h.non]; cases e <;> first | (rw [k.non]; simp [eqV, D.eqv]; done) | (rw [k.bl]; simp [eqV, D.eqv]; done) | (rw [k.int]; simp [eqV, D.eqv]; done) | (rw [k.str.1]; simp [eqV, D.eqv]; done) | (simp [D.flat] at kf)
  | bl b => rw [h.bl]; cases e <;> first | (rw [k.non]; simp [eqV, D.eqv]; done) | (rw [k.bl]; simp [eqV, D.eqv]; done) | (rw [k.int]; simp [eqV, D.eqv]; done) | (rw [k.str.1]; simp [eqV, D.eqv]; done) | (simp [D.flat] at kf)
  | int i => rw [h.int]; cases e <;> first | (rw [k.non]; simp [eqV, D.eqv]; done) | (rw [k.bl]; simp [eqV, D.eqv]; done) | (rw [k.int]; simp [eqV, D.eqv]; done) | (rw [k.str.1]; simp [eqV, D.eqv]; done) | (simp [D.flat] at kf)
  | str s =>
    rw [h.str.1]
    cases e with
    | str t =>
      rw [k.str.1]
      simp only [eqV, D.eqv]
      rw [Bool.eq_iff_iff]
      simp only [beq_iff_eq]
      exact ⟨sv_inj, fun e => by rw [e]⟩
    | non => rw [k.non]; simp [eqV, D.eqv]
    | bl b => rw [k.bl]; simp [eqV, D.eqv]
    | int i => rw [k.int]; simp [eqV, D.eqv]
    | _ => simp [D.flat] at kf
  | _ => simp [D.flat] at hf
theorem Reps.flat {K : Frag} {F : Hp} : ∀ {vs : List V} {ds : List D}, Reps K F vs ds → ds.all D.flat = true → vs.all L2.flatV = true
  | _, _, .nil, _ => rfl
  | _, _, .cons h r, e => by
    rw [List.all_cons, Bool.and_eq_true] at e ⊢
    exact ⟨PR.flatV (H := F) (.inl h) e.1, Reps.flat r e.2⟩
theorem Reps.inV {K : Frag} {F H G : Hp} {x : V} {d : D} (k : PR K G H x d) (kf : d.flat = true) : ∀ {vs : List V} {ds : List D}, Reps K F vs ds → ds.all D.flat = true → L2.inV x vs = ds.any fun z => z.eqv d
  | _, _, .nil, _ => rfl
  | v :: vs, e :: es, .cons h r, f => by
    rw [List.all_cons, Bool.and_eq_true] at f
    have q := Reps.inV k kf r f.2
    unfold L2.inV at q ⊢
    rw [List.any_cons, List.any_cons, eqV_of (H := F) (.inl h) k f.1 kf, q]

/-! ### + - * .. -/
def BOp.op : BOp → Operator
  | .add => .Add | .sub => .Sub | .mul => .Mult | .fdiv => .FloorDiv | .mod => .Mod | .pow => .Pow | .shl => .LShift | .shr => .RShift | .band => .BitAnd | .bor => .BitOr | .bxor => .BitXor
def COp.op : COp → CmpOp
  | .eq => .Eq | .ne => .NotEq | .lt => .Lt | .le => .LtE | .gt => .Gt | .ge => .GtE | .inn => .In | .nin => .NotIn | .iss => .Is | .isn => .IsNot
def UOp.op : UOp → UnaryOp
  | .neg => .USub | .inv => .Invert
theorem LIM_eq : LIM = sizeLine := by decide
section
variable {X : Cx} {F H : Hp} {x y : V} {d e : D} {val : Val} {Q : VK}
/-- what is wanted of a result -/
abbrev Want (X : Cx) (F H : Hp) (val : Val) (Q : VK) : Prop := ∀ v F' H', New F H F' H' → VR X.K F' H' H v val → Q v H'
theorem Want.imm {r : D} {v : V} (s : Sub F H) (k : Want X F H (.imm r) Q) (h : Rep X.K F v r) : Q v H := k v F H (.refl s) h
theorem Want.lst {ds : List D} {vs : List V} (s : Sub F H) (k : Want X F H (.tmp (.lst ds)) Q) (r : Reps X.K F vs ds) : ∀ p, H p = none → Q (.ref p) (upd H p (.lst vs)) := fun p hp =>
  k (.ref p) F (upd H p (.lst vs)) (.obj s hp) ⟨p, rfl, ⟨vs, upd_same, r⟩, s.none hp, hp⟩
theorem Want.tup {ds : List D} {vs : List V} (s : Sub F H) (k : Want X F H (.imm (.tup ds)) Q) (r : Reps X.K F vs ds) : ∀ p, H p = none → Q (.ref p) (upd H p (.tup vs)) := fun p hp =>
  k (.ref p) (upd F p (.tup vs)) (upd H p (.tup vs)) (.frz s hp) (Rep.tup upd_same (r.mono (New.frz s hp).fs))
theorem okS_app {a b : List Nat} (ha : okS a) (hb : okS b) : okS (a ++ b) := fun c hc => by
  rcases List.mem_append.mp hc with h | h
  · exact ha c h
  · exact hb c h
theorem app2_ok {op : BOp} (h : app2 op d e = some val) (s : Sub F H) (px : PR X.K F H x d) (py : PR X.K F H y e) (k : Want X F H val Q) : anyOp X (binaryOp op.op) x y H Q := by
  cases op with
  | add =>
    simp only [app2] at h
    split at h
    · cases h
      exact ⟨_, op_add, _, _, px.int, py.int, k.imm s (.int _)⟩
    · split at h
      · cases h
        rename_i a b hl
        refine ⟨_, op_add_str, sv a, sv b, px.str.1, py.str.1, by rw [sv_len, sv_len, ← LIM_eq]; exact hl, ?_⟩
        rw [sv_app]
        exact k.imm s (.str _ (okS_app px.str.2 py.str.2))
      · cases h
    · split at h
      · cases h
        rename_i a b hl
        obtain ⟨p, vs, rfl, e1, r1⟩ := px.lst s
        obtain ⟨q, ws, rfl, e2, r2⟩ := py.lst s
        refine ⟨_, op_cat, p, q, vs, ws, rfl, rfl, e1, e2, by rw [r1.length, r2.length, ← LIM_eq]; exact hl, k.lst s (r1.append r2)⟩
      · cases h
    · split at h
      · cases h
        rename_i a b hl
        obtain ⟨p, vs, rfl, e1, f1, r1⟩ := px.tup s
        obtain ⟨q, ws, rfl, e2, f2, r2⟩ := py.tup s
        refine ⟨_, op_catA, p, q, vs, ws, rfl, rfl, e1, e2, by rw [r1.length, r2.length, ← LIM_eq]; exact hl, fun z => ?_, fun _ z => ?_, fun _ _ => k.tup s (r1.append r2)⟩
        · subst z
          cases r1
          exact k.imm s (.tup f2 r2)
        · subst z
          cases r2
          exact k.imm s (.tup f1 (by rw [List.append_nil]; exact r1))
      · cases h
    · cases h
  | sub =>
    simp only [app2] at h
    split at h
    · cases h
      exact ⟨_, op_sub, _, _, px.int, py.int, k.imm s (.int _)⟩
    · cases h
  | mul =>
    simp only [app2] at h
    split at h
    · split at h
      · cases h
        rename_i i j hm
        unfold mulOk at hm
        rw [Bool.or_eq_true, Bool.or_eq_true, Bool.and_eq_true, decide_eq_true_eq, decide_eq_true_eq, decide_eq_true_eq, decide_eq_true_eq] at hm
        rcases hm with (hm | hm) | hm
        · exact ⟨_, op_mul, i, j, px.int, py.int, .inl (by omega), k.imm s (.int _)⟩
        · exact ⟨_, op_mul, i, j, px.int, py.int, .inr (by omega), k.imm s (.int _)⟩
        · exact ⟨_, op_mulW, i, j, px.int, py.int, wide_mul hm.1 hm.2 (by decide) (by decide) (by decide), k.imm s (.int _)⟩
      · cases h
    · cases h
  | fdiv =>
    simp only [app2] at h
    split at h
    · split at h
      · cases h
        rename_i i j hm
        exact ⟨_, op_fdivW, i, j, px.int, py.int, wide_div hm.1 hm.2 (by decide) (by decide), k.imm s (.int _)⟩
      · cases h
    · cases h
  | mod =>
    simp only [app2] at h
    split at h
    · split at h
      · cases h
        rename_i i j hm
        exact ⟨_, op_mod, i, j, px.int, py.int, hm, k.imm s (.int _)⟩
      · cases h
    · cases h
  | pow =>
    simp only [app2] at h
    split at h
    · split at h
      · cases h
        rename_i i j hm
        exact ⟨_, op_pow, i, j, px.int, py.int, hm, k.imm s (.int _)⟩
      · cases h
    · cases h
  | shl =>
    simp only [app2] at h
    split at h
    · split at h
      · cases h
        rename_i i j hm
        exact ⟨_, op_shl, i, j, px.int, py.int, hm, k.imm s (.int _)⟩
      · cases h
    · cases h
  | shr =>
    simp only [app2] at h
    split at h
    · split at h
      · cases h
        rename_i i j hm
        exact ⟨_, op_shr, i, j, px.int, py.int, hm, k.imm s (.int _)⟩
      · cases h
    · cases h
  | _ => simp [app2] at h
theorem app1_ok {op : UOp} (h : app1 op d = some val) (s : Sub F H) (px : PR X.K F H x d) (k : Want X F H val Q) : anyUn X (unaryOp op.op) x H Q := by
  unfold app1 at h
  split at h
  · cases h
    exact ⟨_, un_neg, _, px.int, k.imm s (.int _)⟩
  · cases h
theorem PR.notNon {v : V} (h : PR X.K F H v d) (hd : d ≠ .non) : v ≠ .non := by
  intro z
  subst z
  rcases h with h | ⟨_, z, _⟩
  · cases h; exact hd rfl
  · cases z
theorem appC_ok {op : COp} {b : Bool} (hu : X.A.units + 64 < cLine) (h : appC op d e = some b) (s : Sub F H) (px : PR X.K F H x d) (py : PR X.K F H y e) (k : Q (.bl b) H) : anyOp X (compareOp op.op) x y H Q := by
  cases op with
  | eq =>
    simp only [appC] at h
    split at h
    · cases h
      rename_i hq
      rw [Bool.and_eq_true] at hq
      obtain ⟨a1, a2⟩ := px.shaped s hq.1
      obtain ⟨b1, b2⟩ := py.shaped s hq.2
      refine ⟨_, op_eqD hu, _, _, a1, b1, a2, b2, ?_⟩
      rw [py_eqv _ _ _ _ hq.1 hq.2]
      exact k
    · cases h
  | ne =>
    simp only [appC] at h
    split at h
    · cases h
      rename_i hq
      rw [Bool.and_eq_true] at hq
      obtain ⟨a1, a2⟩ := px.shaped s hq.1
      obtain ⟨b1, b2⟩ := py.shaped s hq.2
      refine ⟨_, op_neD hu, _, _, a1, b1, a2, b2, ?_⟩
      rw [py_eqv _ _ _ _ hq.1 hq.2]
      exact k
    · cases h
  | lt =>
    simp only [appC] at h
    split at h
    · cases h
      exact ⟨_, op_lt, _, _, px.int, py.int, k⟩
    · cases h
  | le =>
    simp only [appC] at h
    split at h
    · cases h
      exact ⟨_, op_le, _, _, px.int, py.int, k⟩
    · cases h
  | gt =>
    simp only [appC] at h
    split at h
    · cases h
      exact ⟨_, op_gt, _, _, px.int, py.int, k⟩
    · cases h
  | ge =>
    simp only [appC] at h
    split at h
    · cases h
      exact ⟨_, op_ge, _, _, px.int, py.int, k⟩
    · cases h
  | inn =>
    simp only [appC] at h
    split at h
    · split at h
      · cases h
        rename_i ys hq
        rw [Bool.and_eq_true] at hq
        obtain ⟨a, vs, rfl, e1, r⟩ := py.lst s
        refine ⟨_, op_in_seq, a, vs, rfl, .inl (.of e1), px.flatV hq.1, r.flat hq.2, ?_⟩
        rw [if_neg Bool.false_ne_true, r.inV px hq.1 hq.2]
        exact k
      · cases h
    · split at h
      · cases h
        rename_i ys hq
        rw [Bool.and_eq_true] at hq
        obtain ⟨a, vs, rfl, e1, _, r⟩ := py.tup s
        refine ⟨_, op_in_seq, a, vs, rfl, .inr e1, px.flatV hq.1, r.flat hq.2, ?_⟩
        rw [if_neg Bool.false_ne_true, r.inV px hq.1 hq.2]
        exact k
      · cases h
    · cases h
  | nin =>
    simp only [appC] at h
    split at h
    · split at h
      · cases h
        rename_i ys hq
        rw [Bool.and_eq_true] at hq
        obtain ⟨a, vs, rfl, e1, r⟩ := py.lst s
        refine ⟨_, op_notIn_seq, a, vs, rfl, .inl (.of e1), px.flatV hq.1, r.flat hq.2, ?_⟩
        rw [if_pos rfl, r.inV px hq.1 hq.2]
        exact k
      · cases h
    · split at h
      · cases h
        rename_i ys hq
        rw [Bool.and_eq_true] at hq
        obtain ⟨a, vs, rfl, e1, _, r⟩ := py.tup s
        refine ⟨_, op_notIn_seq, a, vs, rfl, .inr e1, px.flatV hq.1, r.flat hq.2, ?_⟩
        rw [if_pos rfl, r.inV px hq.1 hq.2]
        exact k
      · cases h
    · cases h
  | iss =>
    simp only [appC] at h
    split at h
    · cases h
      refine ⟨_, op_isN, py.non, ?_⟩
      rw [px.non]
      exact k
    · cases h
      rename_i hne
      refine ⟨_, op_isN, py.non, ?_⟩
      rw [decide_eq_false (px.notNon fun z => hne z)]
      exact k
    · cases h
      exact ⟨_, op_isBl, _, _, px.bl, py.bl, k⟩
    · cases h
  | isn =>
    simp only [appC] at h
    split at h
    · cases h
      refine ⟨_, op_notN, py.non, ?_⟩
      rw [px.non]
      exact k
    · cases h
      rename_i hne
      refine ⟨_, op_notN, py.non, ?_⟩
      rw [decide_eq_false (px.notNon fun z => hne z)]
      exact k
    · cases h
      exact ⟨_, op_notBl, _, _, px.bl, py.bl, k⟩
    · cases h
theorem truth_ok {b : Bool} (h : d.truth = some b) (s : Sub F H) (px : PR X.K F H x d) : TruV X.K x H b := by
  cases d with
  | non => cases h; rw [px.non]; rfl
  | bl c => cases h; rw [px.bl]; rfl
  | int i => cases h; rw [px.int]; rfl
  | str t =>
    simp only [D.truth] at h
    split at h
    · cases h
      rename_i hl
      rw [px.str.1]
      refine ⟨by rw [sv_len, ← LIM_eq]; exact hl, ?_⟩
      rw [sv_len]
      cases t <;> simp
      omega
    · cases h
  | tup ds =>
    cases h
    obtain ⟨a, vs, rfl, e1, _, r⟩ := px.tup s
    exact .inr (.inl ⟨vs, e1, by cases r <;> rfl⟩)
  | lst ds =>
    cases h
    obtain ⟨a, vs, rfl, e1, r⟩ := px.lst s
    exact .inl ⟨vs, .of e1, by cases r <;> rfl⟩
  | ro ds =>
    cases h
    obtain ⟨a, vs, rfl, e1, r⟩ := px.ro s
    exact .inl ⟨vs, e1, by cases r <;> rfl⟩
  | dic _ _ => cases h
end
end Mi

set_option maxRecDepth 100000
set_option maxHeartbeats 2000000
/-! Mi3: subscripts, slices, built-ins, methods. -/
namespace Mi
open PySem PySem.Spec PyProof.Rows L2
section
variable {X : Cx} {F H : Hp} {x y : V} {d e : D} {val : Val} {Q : VK}
theorem atI_of {α : Type} {xs : List α} {k : Int} {j : Nat} {v : α} (h : ixOf xs.length k = some j) (e : xs[j]? = some v) : atI xs k = some v := by
  unfold atI
  rw [show ixN xs.length k = some j from h]
  exact e
theorem subD_ok {r : D} (h : subD d e = some r) (s : Sub F H) (px : PR X.K F H x d) (py : PR X.K F H y e) (k : Want X F H (.imm r) Q) : anyIx X x y H Q := by
  unfold subD at h
  split at h
  · rename_i t i
    split at h
    · rename_i hl
      split at h
      · rename_i j hj
        split at h
        · rename_i c hc
          cases h
          refine ⟨_, ix_str, sv t, i, c, px.str.1, py.int, by rw [sv_len, ← LIM_eq]; exact hl, ?_, ?_⟩
          · refine atI_of (j := j) ?_ ?_
            · simpa [sv] using hj
            · simpa [sv] using hc
          · exact k.imm s (.str [c] fun b hb => px.str.2 b (by
              rw [List.mem_singleton] at hb
              rw [hb]; exact List.mem_of_getElem? hc))
        · cases h
      · cases h
    · cases h
  · rename_i xs i
    split at h
    · rename_i j hj
      obtain ⟨a, vs, rfl, e1, f1, r1⟩ := px.tup s
      obtain ⟨v, hv, rv⟩ := r1.get h
      exact ⟨_, ix_tup, a, vs, i, v, rfl, py.int, e1, atI_of (by rw [r1.length]; exact hj) hv, k.imm s rv⟩
    · cases h
  · rename_i xs i
    split at h
    · rename_i j hj
      obtain ⟨a, vs, rfl, e1, r1⟩ := px.lst s
      obtain ⟨v, hv, rv⟩ := r1.get h
      exact ⟨_, ix_list, a, vs, i, v, rfl, py.int, .of e1, atI_of (by rw [r1.length]; exact hj) hv, k.imm s rv⟩
    · cases h
  · rename_i xs i
    split at h
    · rename_i j hj
      obtain ⟨a, vs, rfl, e1, r1⟩ := px.ro s
      obtain ⟨v, hv, rv⟩ := r1.get h
      exact ⟨_, ix_list, a, vs, i, v, rfl, py.int, e1, atI_of (by rw [r1.length]; exact hj) hv, k.imm s rv⟩
    · cases h
  · cases h

/-! ### slices -/
theorem cut_eq {α : Type} (xs : List α) (lo hi : Option Int) : cut xs lo hi = (xs.drop (HT.sIx xs.length 0 lo)).take (HT.sIx xs.length xs.length hi - HT.sIx xs.length 0 lo) := by
  unfold cut
  cases lo <;> cases hi <;> rfl
theorem Reps.cut {K : Frag} {F : Hp} {vs : List V} {ds : List D} (r : Reps K F vs ds) (lo hi : Option Int) : Reps K F (cutV vs lo hi) (Mi.cut ds lo hi) := by
  rw [cut_eq]
  unfold cutV
  rw [r.length]
  exact (r.drop _).take _
theorem okS_cut {t : List Nat} (h : okS t) (lo hi : Option Int) : okS (cut t lo hi) := fun c hc => by
  rw [cut_eq] at hc
  exact h c (List.mem_of_mem_drop (List.mem_of_mem_take hc))
theorem slcD_ok {lo hi : Option Int} (h : slcD d lo hi = some val) (s : Sub F H) (px : PR X.K F H x d) (k : Want X F H val Q) : anySl X x lo hi H Q := by
  unfold slcD at h
  split at h
  · rename_i t
    split at h
    · rename_i hl
      cases h
      refine ⟨_, sl_str, sv t, px.str.1, by rw [sv_len, ← LIM_eq]; exact hl, ?_⟩
      have e : cutS (sv t) lo hi = sv (cut t lo hi) := by
        rw [cut_eq]
        show Str.mk _ = Str.mk _
        have e1 : (sv t).length = t.length := sv_len t
        have e2 : (sv t).cps.toList = t := by simp [sv]
        rw [e1, e2]
      rw [e]
      exact k.imm s (.str _ (okS_cut px.str.2 lo hi))
    · cases h
  · rename_i xs
    cases h
    obtain ⟨a, vs, rfl, e1, f1, r1⟩ := px.tup s
    refine ⟨_, sl_tupA, a, vs, rfl, e1, fun w => ?_, fun _ => k.tup s (r1.cut lo hi)⟩
    refine k.imm s (.tup f1 ?_)
    have e : cut xs lo hi = xs := by
      rw [cut_eq, ← r1.length, w.1, w.2, r1.length]
      simp
    rw [e]
    exact r1
  · rename_i xs
    cases h
    obtain ⟨a, vs, rfl, e1, r1⟩ := px.lst s
    exact ⟨_, sl_list, a, vs, rfl, .of e1, k.lst s (r1.cut lo hi)⟩
  · rename_i xs
    cases h
    obtain ⟨a, vs, rfl, e1, r1⟩ := px.ro s
    exact ⟨_, sl_list, a, vs, rfl, e1, k.lst s (r1.cut lo hi)⟩
  · cases h

/-! ### built-ins -/
theorem maxI_spec : ∀ (r : List Int) (m : Int), (maxI m r = m ∨ maxI m r ∈ r) ∧ m ≤ maxI m r ∧ ∀ y ∈ r, y ≤ maxI m r
  | [], m => ⟨.inl rfl, Int.le_refl _, fun y hy => by cases hy⟩
  | x :: r, m => by
    obtain ⟨h1, h2, h3⟩ := maxI_spec r (if x > m then x else m)
    simp only [maxI]
    refine ⟨?_, ?_, fun y hy => ?_⟩
    · rcases h1 with h1 | h1
      · rw [h1]
        split
        · exact .inr (List.mem_cons_self ..)
        · exact .inl rfl
      · exact .inr (List.mem_cons_of_mem _ h1)
    · refine Int.le_trans ?_ h2
      split <;> omega
    · rcases List.mem_cons.mp hy with e | hy
      · subst e
        refine Int.le_trans ?_ h2
        split <;> omega
      · exact h3 y hy
theorem minI_spec : ∀ (r : List Int) (m : Int), (minI m r = m ∨ minI m r ∈ r) ∧ minI m r ≤ m ∧ ∀ y ∈ r, minI m r ≤ y
  | [], m => ⟨.inl rfl, Int.le_refl _, fun y hy => by cases hy⟩
  | x :: r, m => by
    obtain ⟨h1, h2, h3⟩ := minI_spec r (if x < m then x else m)
    simp only [minI]
    refine ⟨?_, ?_, fun y hy => ?_⟩
    · rcases h1 with h1 | h1
      · rw [h1]
        split
        · exact .inr (List.mem_cons_self ..)
        · exact .inl rfl
      · exact .inr (List.mem_cons_of_mem _ h1)
    · refine Int.le_trans h2 ?_
      split <;> omega
    · rcases List.mem_cons.mp hy with e | hy
      · subst e
        refine Int.le_trans h2 ?_
        split <;> omega
      · exact h3 y hy
def PRs (K : Frag) (F H : Hp) : List V → List D → Prop
  | [], [] => True
  | v :: vs, d :: ds => PR K F H v d ∧ PRs K F H vs ds
  | _, _ => False
theorem PRs.one {K : Frag} {F H : Hp} {vs : List V} {d : D} (h : PRs K F H vs [d]) : ∃ v, vs = [v] ∧ PR K F H v d := by
  cases vs with
  | nil => exact h.elim
  | cons v vs => cases vs with
    | nil => exact ⟨v, rfl, h.1⟩
    | cons w vs => exact h.2.elim
theorem PRs.two {K : Frag} {F H : Hp} {vs : List V} {d e : D} (h : PRs K F H vs [d, e]) : ∃ v w, vs = [v, w] ∧ PR K F H v d ∧ PR K F H w e := by
  cases vs with
  | nil => exact h.elim
  | cons v vs =>
    obtain ⟨w, rfl, h2⟩ := PRs.one h.2
    exact ⟨v, w, rfl, h.1, h2⟩
/-- what stands behind a built-in's name -/
def BId.bv : BId → Value
  | .len => .builtin "len" | .max => .builtin "max" | .min => .builtin "min" | .sum => .builtin "sum" | .abs => .builtin "abs" | .int => .type "int" | .str => .type "str" | .list => .type "list" | .tuple => .type "tuple" | .gcd => .builtin "math.gcd"
theorem appB_ok {b : BId} {ds : List D} {vs : List V} (hc : X.calm = true) (h : appB b ds = some val) (s : Sub F H) (ps : PRs X.K F H vs ds) (k : Want X F H val Q) : anyCall X b.bv vs H Q := by
  cases b with
  | len =>
    simp only [appB] at h
    split at h
    · split at h
      · cases h
        rename_i t hl
        obtain ⟨v, rfl, p⟩ := ps.one
        rw [p.str.1]
        refine ⟨_, call_len_str, _, rfl, by rw [sv_len, ← LIM_eq]; exact hl, ?_⟩
        rw [sv_len]
        exact k.imm s (.int _)
      · cases h
    · cases h
      obtain ⟨v, rfl, p⟩ := ps.one
      obtain ⟨a, vs, rfl, e1, f1, r1⟩ := p.tup s
      refine ⟨_, call_len_seq, a, vs, rfl, .inr e1, ?_⟩
      rw [r1.length]
      exact k.imm s (.int _)
    · cases h
      obtain ⟨v, rfl, p⟩ := ps.one
      obtain ⟨a, vs, rfl, e1, r1⟩ := p.lst s
      refine ⟨_, call_len_seq, a, vs, rfl, .inl (.of e1), ?_⟩
      rw [r1.length]
      exact k.imm s (.int _)
    · cases h
      obtain ⟨v, rfl, p⟩ := ps.one
      obtain ⟨a, vs, rfl, e1, r1⟩ := p.ro s
      refine ⟨_, call_len_seq, a, vs, rfl, .inl e1, ?_⟩
      rw [r1.length]
      exact k.imm s (.int _)
    · cases h
  | max =>
    simp only [appB] at h
    split at h
    · split at h
      · cases h
        rename_i xs i r hi
        obtain ⟨v, rfl, p⟩ := ps.one
        obtain ⟨a, vs, rfl, e1, r1⟩ := p.lst s
        have ev := r1.ints hi
        subst ev
        refine ⟨_, cr_max hc, a, _, rfl, .of e1, by simp, fun m hm hle => ?_⟩
        obtain ⟨h1, h2, h3⟩ := maxI_spec r i
        have e : m = maxI i r := by
          have q1 : maxI i r ≤ m := hle _ (by
            rcases h1 with h1 | h1
            · rw [h1]; exact List.mem_cons_self ..
            · exact List.mem_cons_of_mem _ h1)
          have q2 : m ≤ maxI i r := by
            rcases List.mem_cons.mp hm with e | e
            · rw [e]; exact h2
            · exact h3 m e
          omega
        rw [e]
        exact k.imm s (.int _)
      · cases h
    · cases h
      obtain ⟨v, w, rfl, p, q⟩ := ps.two
      rw [p.int, q.int]
      exact ⟨_, call_max2 hc, _, _, rfl, k.imm s (.int _)⟩
    · cases h
  | min =>
    simp only [appB] at h
    split at h
    · split at h
      · cases h
        rename_i xs i r hi
        obtain ⟨v, rfl, p⟩ := ps.one
        obtain ⟨a, vs, rfl, e1, r1⟩ := p.lst s
        have ev := r1.ints hi
        subst ev
        refine ⟨_, cr_min hc, a, _, rfl, .of e1, by simp, fun m hm hle => ?_⟩
        obtain ⟨h1, h2, h3⟩ := minI_spec r i
        have e : m = minI i r := by
          have q1 : m ≤ minI i r := hle _ (by
            rcases h1 with h1 | h1
            · rw [h1]; exact List.mem_cons_self ..
            · exact List.mem_cons_of_mem _ h1)
          have q2 : minI i r ≤ m := by
            rcases List.mem_cons.mp hm with e | e
            · rw [e]; exact h2
            · exact h3 m e
          omega
        rw [e]
        exact k.imm s (.int _)
      · cases h
    · cases h
      obtain ⟨v, w, rfl, p, q⟩ := ps.two
      rw [p.int, q.int]
      exact ⟨_, call_min2 hc, _, _, rfl, k.imm s (.int _)⟩
    · cases h
  | sum =>
    simp only [appB] at h
    split at h
    · split at h
      · cases h
        rename_i xs r hi
        obtain ⟨v, rfl, p⟩ := ps.one
        obtain ⟨a, vs, rfl, e1, r1⟩ := p.lst s
        have ev := r1.ints hi
        subst ev
        exact ⟨_, cr_sum hc, a, _, rfl, .of e1, k.imm s (.int _)⟩
      · cases h
    · cases h
  | abs =>
    simp only [appB] at h
    split at h
    · cases h
      obtain ⟨v, rfl, p⟩ := ps.one
      rw [p.int]
      exact ⟨_, call_abs, _, rfl, k.imm s (.int _)⟩
    · cases h
  | int =>
    simp only [appB] at h
    split at h
    · cases h
      obtain ⟨v, rfl, p⟩ := ps.one
      rw [p.int]
      exact ⟨_, call_int1, .inl ⟨_, rfl, k.imm s (.int _)⟩⟩
    · cases h
      obtain ⟨v, rfl, p⟩ := ps.one
      rw [p.bl]
      exact ⟨_, call_int1, .inr ⟨_, rfl, k.imm s (.int _)⟩⟩
    · cases h
  | str => simp [appB] at h
  | list =>
    simp only [appB] at h
    split at h
    · cases h
      obtain ⟨v, rfl, p⟩ := ps.one
      obtain ⟨a, vs, rfl, e1, r1⟩ := p.lst s
      exact ⟨_, call_list_of, a, vs, rfl, .inl (.of e1), k.lst s r1⟩
    · cases h
      obtain ⟨v, rfl, p⟩ := ps.one
      obtain ⟨a, vs, rfl, e1, f1, r1⟩ := p.tup s
      exact ⟨_, call_list_of, a, vs, rfl, .inr e1, k.lst s r1⟩
    · cases h
      obtain ⟨v, rfl, p⟩ := ps.one
      obtain ⟨a, vs, rfl, e1, r1⟩ := p.ro s
      exact ⟨_, call_list_of, a, vs, rfl, .inl e1, k.lst s r1⟩
    · cases h
  | tuple =>
    simp only [appB] at h
    split at h
    · cases h
      obtain ⟨v, rfl, p⟩ := ps.one
      obtain ⟨a, vs, rfl, e1, r1⟩ := p.lst s
      exact ⟨_, call_tuple_of, a, vs, rfl, .inl ⟨.of e1, k.tup s r1⟩⟩
    · cases h
      obtain ⟨v, rfl, p⟩ := ps.one
      obtain ⟨a, vs, rfl, e1, f1, r1⟩ := p.tup s
      exact ⟨_, call_tuple_of, a, vs, rfl, .inr ⟨e1, k.imm s (.tup f1 r1)⟩⟩
    · cases h
  | gcd =>
    simp only [appB] at h
    split at h
    · cases h
      obtain ⟨v, w, rfl, p, q⟩ := ps.two
      rw [p.int, q.int]
      exact ⟨_, cr_gcd, _, _, rfl, k.imm s (.int _)⟩
    · cases h

/-! ### isinstance -/
def tyNm : D → String
  | .non => "NoneType" | .bl _ => "bool" | .int _ => "int" | .str _ => "str" | .tup _ => "tuple" | .lst _ => "list" | .ro _ => "list" | .dic _ _ => "dict"
def TyId.nm : TyId → String
  | .int => "int" | .bool => "bool" | .str => "str" | .tuple => "tuple" | .list => "list"
theorem kit_all (d : D) (t : TyId) (h : ∀ ks vs, d ≠ .dic ks vs) : kitB (tyNm d) t.nm = some (isTy d t) := by
  cases d with
  | dic ks vs => exact absurd rfl (h ks vs)
  | _ => cases t <;> (simp only [tyNm, TyId.nm, isTy]; decide +kernel)
theorem PR.tyX {K : Frag} {F H : Hp} {x : V} {d : D} (s : Sub F H) (p : PR K F H x d) : TyX K H x (.type (tyNm d)) := by
  cases d with
  | non => rw [p.non]; exact .base .non
  | bl b => rw [p.bl]; exact .base (.bl b)
  | int i => rw [p.int]; exact .base (.int i)
  | str t => rw [p.str.1]; exact .base (.str _)
  | tup ds =>
    obtain ⟨a, vs, rfl, e1, _, r1⟩ := p.tup s
    rcases e1 with (e1 | ⟨o, e1⟩) | ⟨o, its, n, e1, e2, _⟩
    · exact .base (.tup e1)
    · exact .fTuple e1
    · exact .kTuple e1 e2
  | lst ds =>
    obtain ⟨a, vs, rfl, e1, r1⟩ := p.lst s
    exact .base (.lst e1)
  | ro ds =>
    obtain ⟨a, vs, rfl, e1, r1⟩ := p.ro s
    rcases e1 with (e1 | ⟨o, e1⟩) | ⟨o, its, n, e1, e2, _⟩
    · exact .base (.lst e1)
    · exact .base (.frz e1)
    · exact .kList e1 e2
  | dic _ _ => exact p.nodic.elim
theorem PR.ndic {K : Frag} {F H : Hp} {x : V} {d : D} (p : PR K F H x d) : ∀ ks vs, d ≠ .dic ks vs := fun ks vs e => by
  subst e
  exact p.nodic
theorem isi_ok {t : TyId} (s : Sub F H) (p : PR X.K F H x d) (q : Q (.bl (isTy d t)) H) : anyCall X (.builtin "isinstance") [x, .ty t.nm] H Q :=
  ⟨_, call_isi, x, .ty t.nm, _, .type t.nm, _, rfl, .ty _, p.tyX s, kit_ty (kit_all d t p.ndic), q⟩

/-! ### methods of texts -/
def MId.ty : MId → String
  | .startswith => "str"
def MId.id : MId → String
  | .startswith => "str.startswith"
theorem isPrefixOf_take : ∀ (b a : List Nat), b.isPrefixOf a = (a.take b.length == b)
  | [], a => by simp
  | x :: b, [] => by simp
  | x :: b, y :: a => by
    rw [List.isPrefixOf_cons₂, isPrefixOf_take b a]
    simp only [List.length_cons, List.take_succ_cons, List.cons_beq_cons]
    rw [show (x == y) = (y == x) from Bool.beq_comm]
theorem startswith_eq (a b : List Nat) : Txt.startswith (sv a) (sv b) = b.isPrefixOf a := by
  rw [isPrefixOf_take]
  unfold Txt.startswith
  rw [StrLaws.subAt_eq, sv_len, sv_len]
  have e1 : (sv a).cps.toList = a := by simp [sv]
  have e2 : (sv b).cps.toList = b := by simp [sv]
  rw [e1, e2, List.drop_zero]
  by_cases hl : 0 + b.length ≤ a.length
  · rw [decide_eq_true hl, Bool.true_and]
  · rw [decide_eq_false hl, Bool.false_and]
    refine (beq_eq_false_iff_ne.mpr fun e => hl ?_).symm
    have := congrArg List.length e
    rw [List.length_take] at this
    omega
theorem appM_ok {m : MId} {ds : List D} {vs : List V} (hc : X.calm = true) (h : appM m d ds = some val) (s : Sub F H) (px : PR X.K F H x d) (ps : PRs X.K F H vs ds) (k : Want X F H val Q) : anyMt X m.id x vs H Q := by
  cases m with
  | startswith =>
    simp only [appM] at h
    split at h
    · cases h
      rename_i a b
      obtain ⟨v, rfl, p⟩ := ps.one
      refine ⟨_, mt_startswith, sv a, sv b, px.str.1, by rw [p.str.1], ?_⟩
      rw [startswith_eq]
      exact k.imm s (.bl _)
    · cases h
theorem tyM_ok {m : MId} (h : tyM m d = true) (px : PR X.K F H x d) : tyV X.K m.ty x H := by
  cases m with
  | startswith =>
    simp only [tyM] at h
    split at h
    · rw [px.str.1]; rfl
    · cases h
end
end Mi

set_option maxRecDepth 100000
set_option maxHeartbeats 2000000
/-! Mi4: the look that holds a term against the text; contexts; what is walked. -/
namespace Mi
open PySem PySem.Spec PyProof.Rows L2

/-- what the law's text gives: the defs' names, the built-ins' names that it uses, whether it has math.gcd -/
structure Pa where
  nm : List Str
  bn : List Str
  gcd : Bool

/-! ### the look -/
def vis (sc : Scope) (x : Str) : Bool :=
  match sc.names.lookup x with
  | some .local => true
  | some .cell => true
  | some .free => true
  | _ => false
def glb (sc : Scope) (x : Str) : Bool :=
  match sc.names.lookup x with
  | some .globalImplicit => true
  | _ => false
def plainNm (x : Str) : Bool := !(x == ("__debug__" : Str)) && !(x == ("__classdict__" : Str)) && !decide (x = "__name__")
def nameOk (N : List Str) (sc : Scope) (i : Nat) (x : Str) : Bool := decide (N[i]? = some x) && vis sc x && plainNm x
def glbOk (sc : Scope) (x : Str) : Bool := glb sc x && plainNm x
def bltOk (P : Pa) (sc : Scope) (x : Str) : Bool := glbOk sc x && P.bn.contains x
def conOk : D → Const → Bool
  | .non, .none => true
  | .bl b, .bool c => b == c
  | .int i, .int j => i == j
  | .str s, .str x => decide (x = sv s) && s.all (fun c => decide (c < 0x110000))
  | _, _ => false
def starred : Expr → Bool
  | .Starred _ _ => true
  | _ => false
def isSet : Expr → Bool
  | .Set _ _ _ => true
  | _ => false
def isSlice : Expr → Bool
  | .Slice _ _ _ _ => true
  | _ => false
def bareCall : Expr → Bool
  | .Call (.Name _ _) [] [] _ => true
  | _ => false
def BId.nm : BId → Str
  | .len => "len" | .max => "max" | .min => "min" | .sum => "sum" | .abs => "abs" | .int => "int" | .str => "str" | .list => "list" | .tuple => "tuple" | .gcd => "gcd"
def Pa.has (P : Pa) : BId → Bool
  | .gcd => P.gcd
  | b => P.bn.contains b.nm
def TyId.sn : TyId → Str
  | .int => "int" | .bool => "bool" | .str => "str" | .tuple => "tuple" | .list => "list"
def MId.nm : MId → Str
  | .startswith => "startswith"
def MuId.nm : MuId → Str
  | .append => "append"
def nameAt (N : List Str) (i : Nat) : Str := (N[i]?).getD ""
def ownOf (N : List Str) (own : List Nat) : List (Str × Nat) := own.map fun i => (nameAt N i, i)
/-- a name that may be stored: fnb: which cells are the block's own -/
def locOk (N : List Str) (sc : Scope) (fnb : Str → Bool) (i : Nat) (x : Str) : Bool := decide (N[i]? = some x) &&
  match sc.names.lookup x with
  | some .local => true
  | some .cell => fnb x
  | _ => false
def okNms (N : List Str) (sc : Scope) (fnb : Str → Bool) : List Nat → List Expr → Bool
  | [], [] => true
  | i :: is, .Name x _ :: es => locOk N sc fnb i x && okNms N sc fnb is es
  | _, _ => false
def okTg (N : List Str) (sc : Scope) (fnb : Str → Bool) : Tg → Expr → Bool
  | .nm i, .Name x _ => locOk N sc fnb i x
  | .fl is, .Tuple es _ _ => okNms N sc fnb is es
  | _, _ => false
def tgIx : Tg → List Nat
  | .nm i => [i]
  | .fl is => is
def isTupE : Expr → Bool
  | .Tuple _ _ _ => true
  | _ => false
/-- the walked thing's own form: what is asked of its arguments -/
def itArgs (P : Pa) (sc : Scope) (k : ItK) (tg iter : Expr) : Option (List Expr) :=
  match k, iter with
  | .seq, e => if isSet e then none else some [e]
  | .rng, .Call (.Name x _) [a] [] _ => if x = "range" ∧ bltOk P sc x = true then some [a] else none
  | .rng, .Call (.Name x _) [a, b] [] _ => if x = "range" ∧ bltOk P sc x = true then some [a, b] else none
  | .zip, .Call (.Name x _) [a, b] [] _ => if x = "zip" ∧ bltOk P sc x = true ∧ isTupE tg = true then some [a, b] else none
  | .enum, .Call (.Name x _) [a] [] _ => if x = "enumerate" ∧ bltOk P sc x = true ∧ isTupE tg = true then some [a] else none
  | _, _ => none
section
variable (P : Pa) (N : List Str)
mutual
def okE (sc : Scope) : E → Expr → Bool
  | .var i, .Name x _ => nameOk N sc i x
  | .pk i, .Name x _ => nameOk N sc i x
  | .con d, .Constant c _ _ => conOk d c
  | .bin op a b, .BinOp l o r _ => decide (o = op.op) && okE sc a l && okE sc b r
  | .un op a, .UnaryOp o x _ => decide (o = op.op) && okE sc a x
  | .cmp op a b, .Compare l [o] [r] _ => decide (o = op.op) && okE sc a l && okE sc b r && !isSet r
  | .chn op op' a b c, .Compare l [o, o'] [r, r'] _ => decide (o = op.op) && decide (o' = op'.op) && okE sc a l && okE sc b r && okE sc c r' && !isSet r && !isSet r'
  | .bool isAnd es, .BoolOp o xs _ => decide (o = if isAnd then .And else .Or) && okL sc es xs && !xs.isEmpty
  | .not a, .UnaryOp .Not x _ => okE sc a x
  | .ife c a b, .IfExp t x y _ => okE sc c t && okE sc a x && okE sc b y
  | .tup es, .Tuple xs _ _ => okL sc es xs
  | .lst es, .List xs _ => okL sc es xs
  | .sub o i, .Subscript x y _ => okE sc o x && okE sc i y && !isSlice y
  | .slc hl hh o lo hi, .Subscript x (.Slice l h none _) _ => okE sc o x &&
      (match hl, l with | true, some e => okE sc lo e | false, none => true | _, _ => false) && (match hh, h with | true, some e => okE sc hi e | false, none => true | _, _ => false)
  | .call f es, .Call (.Name x _) xs [] _ => decide (P.nm[f]? = some x) && glbOk sc x && okL sc es xs
  | .blt b es, .Call (.Name x _) xs [] _ => decide (x = b.nm) && glbOk sc x && P.has b && okL sc es xs && !xs.isEmpty
  | .isi a t, .Call (.Name x _) [e, .Name y _] [] _ => decide (x = "isinstance") && bltOk P sc x && decide (y = t.sn) && bltOk P sc y && okE sc a e && !starred e
  | .mth m o es, .Call (.Attribute x n ap) xs [] p => decide (n = m.nm) && okE sc o x && okL sc es xs && !bareCall x && (ap.endLine == p.line) && !xs.isEmpty && decide (xs.length < 30)
  | .mut m i es, .Call (.Attribute (.Name x _) n ap) xs [] p => decide (n = m.nm) && nameOk N sc i x && okL sc es xs && (ap.endLine == p.line) && !xs.isEmpty && decide (xs.length < 30)
  | .lc own tg k its cs elt, .ListComp e [⟨t, it, ifs, 0⟩] scope _ =>
      blkC N sc scope (ownOf N own) && okTg N (relS scope sc) (fun x => scope.names.lookup x == some .cell) tg t && (tgIx tg).all own.contains &&
      (match itArgs P sc k t it with | some xs => okL sc its xs | none => false) && okL (relS scope sc) cs ifs && decide (ifs.length ≤ 1) && okE (relS scope sc) elt e
  | _, _ => false
def okL (sc : Scope) : L → List Expr → Bool
  | .nil, [] => true
  | .cons e es, x :: xs => okE sc e x && !starred x && okL sc es xs
  | _, _ => false
end
end

/-! ### contexts -/
section
variable (K : Frag)
/-- an exception: its class, its own dict -/
def XR (Cl : Nat → Value × List Str) (F H : Hp) (x : Exn) (c : Value) (d : Option Addr) : Prop :=
  c = (Cl x.cls).1 ∧ ∃ a vs, d = some a ∧ H a = some (.xd ((Cl x.cls).2.zip vs)) ∧ Reps K F vs x.args ∧ vs.length = (Cl x.cls).2.length
/-- arguments as they are handed in: bs: the lists that are lent -/
inductive ArgsR (F H : Hp) : List V → List (Bool × D) → List (Option Addr) → Prop
  | nil : ArgsR F H [] [] []
  | imm {v : V} {d : D} {vs : List V} {as : List (Bool × D)} {bs : List (Option Addr)} : Rep K F v d → ArgsR F H vs as bs → ArgsR F H (v :: vs) ((false, d) :: as) (none :: bs)
  | own {p : Addr} {d : D} {vs : List V} {as : List (Bool × D)} {bs : List (Option Addr)} : OwnAt K F H p d → F p = none → ArgsR F H vs as bs → ArgsR F H (.ref p :: vs) ((true, d) :: as) (some p :: bs)
/-- what the lent lists have become -/
inductive OutsR (F H : Hp) : List (Option Addr) → List D → Prop
  | nil : OutsR F H [] []
  | none {bs : List (Option Addr)} {ds : List D} : OutsR F H bs ds → OutsR F H (none :: bs) ds
  | some {p : Addr} {d : D} {bs : List (Option Addr)} {ds : List D} : OwnAt K F H p d → F p = Option.none → OutsR F H bs ds → OutsR F H (some p :: bs) (d :: ds)
/-- from a call to its end -/
structure CGrow (F : Hp) (bs : List (Option Addr)) (H F' H' : Hp) : Prop where
  fs : Sub F F'
  fh : Sub F' H'
  keep : ∀ b o, H b = some o → some b ∉ bs → H' b = some o
  dom : ∀ b, H b ≠ none → H' b ≠ none
  fn : ∀ b, F b = none → F' b ≠ none → H b = none
def distinct (bs : List (Option Addr)) : Prop := (bs.filterMap id).Nodup
def KC (Cl : Nat → Value × List Str) (F : Hp) (bs : List (Option Addr)) (H : Hp) (r : CRes) (Q : VK) (E : XK) : Prop :=
  match r with
  | .ok o d outs => ∀ v F' H', CGrow F bs H F' H' → OutsR K F' H' bs outs → (if o then ∃ p, v = .ref p ∧ OwnAt K F' H' p d ∧ F' p = none ∧ H p = none else Rep K F' v d) → Q v H'
  | .exn x outs => ∀ c dd F' H', CGrow F bs H F' H' → OutsR K F' H' bs outs → XR K Cl F' H' x c dd → E c dd H'
  | .stuck => False
/-- a def's promise -/
def spF (Cl : Nat → Value × List Str) (C : List (Bool × D) → CRes) (np : Nat) : Sp := fun vs H Q E => vs.length = np ∧ ∃ F as bs, Sub F H ∧ ArgsR K F H vs as bs ∧ distinct bs ∧ KC K Cl F bs H (C as) Q E
end
/-- the def that stands behind a name may be called -/
def CallOk (X : Cx) (Cl : Nat → Value × List Str) (C : Nat → List (Bool × D) → CRes) (f : Nat) (x : Str) : Prop :=
  ∃ addr fd n ps, X.mg x = some (.ref addr) ∧ PySem.W.keepIn X.K (.ref addr) = true ∧ Binds X.K fd ps [] ∧ FnOk X.prog X.w X.K X.mg X.base (CX X.prog X.w) n addr fd ps (spF X.K Cl (C f) ps.length) ∧ Room n X.A ∧ ∀ as, C f as ≠ .stuck → as.length = ps.length
structure Ctx (P : Pa) (Cl : Nat → Value × List Str) (C : Nat → List (Bool × D) → CRes) (N : List Str) (sc : Scope) (W : WX) (X : Cx) : Prop where
  hN : X.N = N
  nd : N.Nodup
  hsc : X.env.scope = sc
  calm : X.calm = true
  units : X.A.units + 64 < cLine
  pass : PassesOwn (model X.prog X.w) X.A X.env X.xe
  takes : Takes X W
  calls : ∀ f x, P.nm[f]? = some x → CallOk X Cl C f x
  blt : ∀ x, x ∈ P.bn → X.mg x = none
  gcd : P.gcd = true → X.mg "gcd" = some (.builtin "math.gcd")

/-! ### what is wanted behind a run of the little language -/
section
variable (X : Cx) (Cl : Nat → Value × List Str) (W : WX) (Bs : List (Option Addr))
def KX {α : Type} (F : Hp) (A : Nat → Option Addr) (σ : L2.St) (H : Hp) (r : Res α) (Pp : α → Env → Hp → (Nat → Option Addr) → Hp → Prop) : Prop :=
  match r with
  | .ok a ρ' => ∀ F' A' H', Sim X.K Bs F' A' σ H' ρ' → Grow F A H F' A' H' → Pp a ρ' F' A' H'
  | .exn x ρ' => ∀ c d F' A' H', Sim X.K Bs F' A' σ H' ρ' → Grow F A H F' A' H' → XR X.K Cl F' H' x c d → W c d σ H'
  | .stuck => False
end
section
variable {X : Cx} {Cl : Nat → Value × List Str} {W : WX} {Bs : List (Option Addr)} {F : Hp} {A : Nat → Option Addr} {σ : L2.St} {H : Hp} {α β : Type}
theorem KX.bind {r : Res α} {g : α → Env → Res β} {Pp : β → Env → Hp → (Nat → Option Addr) → Hp → Prop} (h : KX X Cl W Bs F A σ H (r.bind g) Pp) :
    KX X Cl W Bs F A σ H r fun a ρ1 F1 A1 H1 => KX X Cl W Bs F1 A1 σ H1 (g a ρ1) Pp := by
  cases r with
  | ok a ρ1 =>
    intro F1 A1 H1 S1 G1
    have h' : KX X Cl W Bs F A σ H (g a ρ1) Pp := h
    cases e : g a ρ1 with
    | ok b ρ2 =>
      rw [e] at h'
      exact fun F2 A2 H2 S2 G2 => h' F2 A2 H2 S2 (G1.trans G2)
    | exn x ρ2 =>
      rw [e] at h'
      exact fun c d F2 A2 H2 S2 G2 => h' c d F2 A2 H2 S2 (G1.trans G2)
    | stuck =>
      rw [e] at h'
      exact h'
  | exn x ρ1 => exact h
  | stuck => exact h
theorem KX.imp {r : Res α} {Pp Pq : α → Env → Hp → (Nat → Option Addr) → Hp → Prop} (h : KX X Cl W Bs F A σ H r Pp)
    (k : ∀ a ρ' F' A' H', Sim X.K Bs F' A' σ H' ρ' → Grow F A H F' A' H' → Pp a ρ' F' A' H' → Pq a ρ' F' A' H') : KX X Cl W Bs F A σ H r Pq := by
  cases r with
  | ok a ρ1 => exact fun F1 A1 H1 S1 G1 => k a ρ1 F1 A1 H1 S1 G1 (h F1 A1 H1 S1 G1)
  | exn x ρ1 => exact h
  | stuck => exact h
/-- it has come: now -/
theorem KX.now {a : α} {ρ : Env} {Pp : α → Env → Hp → (Nat → Option Addr) → Hp → Prop} (S : Sim X.K Bs F A σ H ρ) (h : KX X Cl W Bs F A σ H (.ok a ρ) Pp) : Pp a ρ F A H := h F A H S (Grow.refl _ _ _)
theorem KX.new {a : α} {ρ : Env} {F' H' : Hp} {Pp : α → Env → Hp → (Nat → Option Addr) → Hp → Prop} (S : Sim X.K Bs F A σ H ρ) (n : New F H F' H') (h : KX X Cl W Bs F A σ H (.ok a ρ) Pp) : Pp a ρ F' A H' :=
  h F' A H' (S.new n) (Grow.new n)

/-- a value is wanted -/
abbrev PV (X : Cx) (σ : L2.St) (H : Hp) (Q : VK) : Val → Env → Hp → (Nat → Option Addr) → Hp → Prop := fun val _ F' A' H' => ∀ v, RV X.K F' A' σ H' H v val → Q v H'
/-- a truth is wanted -/
abbrev PB (Q : Bool → Hp → Prop) : Val → Env → Hp → (Nat → Option Addr) → Hp → Prop := fun val _ _ _ H' => ∀ k, val = bV k → Q k H'
/-- arguments -/
inductive RVs (K : Frag) (F : Hp) (A : Nat → Option Addr) (σ : L2.St) : List V → List Val → Prop
  | nil : RVs K F A σ [] []
  | imm {v : V} {d : D} {vs : List V} {vals : List Val} : Rep K F v d → RVs K F A σ vs vals → RVs K F A σ (v :: vs) (.imm d :: vals)
  | brw {v : V} {i : Nat} {vs : List V} {vals : List Val} : (σ[i]?).join = some v → RVs K F A σ vs vals → RVs K F A σ (v :: vs) (.brw i :: vals)
theorem RVs.mono {K : Frag} {F F' : Hp} {A A' : Nat → Option Addr} {σ : L2.St} (e : Sub F F') {vs : List V} {vals : List Val} (h : RVs K F A σ vs vals) : RVs K F' A' σ vs vals := by
  induction h with
  | nil => exact .nil
  | imm r _ ih => exact .imm (r.mono e) ih
  | brw r _ ih => exact .brw r ih
abbrev PVs (X : Cx) (σ : L2.St) (Q : List V → Hp → Prop) : List Val → Env → Hp → (Nat → Option Addr) → Hp → Prop := fun vals _ F' A' H' => ∀ vs, RVs X.K F' A' σ vs vals → Q vs H'
theorem RVs.prs {K : Frag} {ρ : Env} {vs : List V} {vals : List Val} {ds : List D} (S : Sim K Bs F A σ H ρ) (h : RVs K F A σ vs vals) (e : rvs ρ vals = some ds) : PRs K F H vs ds := by
  induction h generalizing ds with
  | nil =>
    simp only [rvs, Option.some.injEq] at e
    subst e; trivial
  | imm r _ ih =>
    simp only [rvs] at e
    split at e
    · rename_i d ds' e1 e2
      cases e
      refine ⟨?_, ih e2⟩
      simp only [rv, Option.some.injEq] at e1
      subst e1; exact .inl r
    · cases e
  | @brw v i vs vals r _ ih =>
    simp only [rvs] at e
    split at e
    · rename_i d ds' e1 e2
      cases e
      exact ⟨RV.pr (H0 := H) (val := .brw i) S r e1, ih e2⟩
    · cases e
theorem RVs.imms {K : Frag} {vs : List V} {vals : List Val} {ds : List D} (h : RVs K F A σ vs vals) (e : Mi.imms vals = some ds) : Reps K F vs ds := by
  induction h generalizing ds with
  | nil =>
    simp only [Mi.imms, Option.some.injEq] at e
    subst e; exact .nil
  | imm r _ ih =>
    simp only [Mi.imms, Option.map_eq_some_iff] at e
    obtain ⟨ds', e1, e2⟩ := e
    subst e2
    exact .cons r (ih e1)
  | brw r _ _ => simp [Mi.imms] at e

/-! ### what is walked -/
/-- the weakest reading of a walked thing -/
def wI (X : Cx) (tg iter : Expr) : TI := fun σ H R => ∀ (pins : List (Addr × Obj)) (s : Shared), Inv X pins σ H s → wpAny (model X.prog X.w) X.A (eval iter X.env) (fun v s1 => wpAny (model X.prog X.w) X.A (pyIter v) (PIE X pins σ tg R) X.xe s1) X.xe s
theorem pi_w {tg iter : Expr} : PI X tg iter (wI X tg iter) := ⟨fun pins s σ H R I h => h pins s I⟩
theorem wi_of {tg iter : Expr} {wi : TI} {R : It → Hp → Prop} (h : PI X tg iter wi) (q : wi σ H R) : wI X tg iter σ H R := fun pins s I => h.run pins s σ H R I q
/-- it gives these data, one behind the other, while F stands -/
structure JW (K : Frag) (F : Hp) (J : It) (xs : List D) : Prop where
  goes : ∀ i H, i < xs.length → Sub F H → J.go i H
  stops : ∀ H, Sub F H → J.stop xs.length H
  yields : ∀ i H x H' F1, i < xs.length → Sub F F1 → Sub F1 H → J.yld i H x H' → ∃ F2 d, New F1 H F2 H' ∧ xs[i]? = some d ∧ Rep K F2 x d
theorem Rep.itl {K : Frag} {a : Addr} {vs : List V} {ds : List D} (h : SqL K F a vs) (r : Reps K F vs ds) : JW K F (Itl K a) ds := by
  have hl := r.length
  refine ⟨fun i H' hi s => ?_, fun H' s => ⟨vs, s.l h, by omega⟩, fun i H' x H2 F1 hi s s1 y => ?_⟩
  · exact ⟨vs, vs[i]'(by omega), s.l h, List.getElem?_eq_getElem (by omega)⟩
  · obtain ⟨e, y⟩ := y
    subst e
    obtain ⟨d, e1, rd⟩ := (r.mono s).getV (y vs ((s.trans s1).l h))
    exact ⟨F1, d, .refl s1, e1, rd⟩
theorem Rep.itt {K : Frag} {a : Addr} {vs : List V} {ds : List D} (h : SqT K F a vs) (r : Reps K F vs ds) : JW K F (Itt K a) ds := by
  have hl := r.length
  refine ⟨fun i H' hi s => ?_, fun H' s => ⟨vs, s.t h, by omega⟩, fun i H' x H2 F1 hi s s1 y => ?_⟩
  · exact ⟨vs, vs[i]'(by omega), s.t h, List.getElem?_eq_getElem (by omega)⟩
  · obtain ⟨e, y⟩ := y
    subst e
    obtain ⟨d, e1, rd⟩ := (r.mono s).getV (y vs ((s.trans s1).t h))
    exact ⟨F1, d, .refl s1, e1, rd⟩
theorem its_jw {K : Frag} {t : List Nat} (h : okS t) : JW K F (Its (sv t)) (t.map fun c => D.str [c]) := by
  have hsz : (sv t).cps.size = t.length := by simp [sv]
  refine ⟨fun i H' hi _ => ?_, fun H' _ => ?_, fun i H' x H2 F1 hi s s1 y => ?_⟩
  · rw [List.length_map] at hi
    exact (walk_str (z := sv t)).goes i H' (by rw [hsz]; exact hi) trivial
  · rw [List.length_map, ← hsz]
    exact (walk_str (z := sv t)).stops H' trivial
  · rw [List.length_map] at hi
    obtain ⟨e, c, e1, e2⟩ := (walk_str (z := sv t)).yields i H' x H2 (by rw [hsz]; exact hi) trivial y
    subst e
    have e3 : t[i]? = some c := by simpa [sv] using e1
    refine ⟨F1, .str [c], .refl s1, by rw [List.getElem?_map, e3]; rfl, ?_⟩
    rw [e2]
    exact .str [c] fun b hb => h b (by
      rw [List.mem_singleton] at hb
      rw [hb]; exact List.mem_of_getElem? e3)
theorem itr_jw {K : Frag} (lo hi : Int) : JW K F (Itr lo (hi - lo).toNat) (rngD lo hi) := by
  have hl : (rngD lo hi).length = (hi - lo).toNat := by simp [rngD]
  refine ⟨fun i H' h _ => ?_, fun H' _ => ?_, fun i H' x H2 F1 h s s1 y => ?_⟩
  · rw [hl] at h
    exact (walk_range (lo := lo)).goes i H' h trivial
  · rw [hl]
    exact (walk_range (lo := lo)).stops H' trivial
  · rw [hl] at h
    obtain ⟨e, e2⟩ := (walk_range (lo := lo)).yields i H' x H2 h trivial y
    subst e
    refine ⟨F1, .int (lo + i), .refl s1, by simp [rngD, h], ?_⟩
    rw [e2]
    exact .int _
theorem zipD_get : ∀ (as bs : List D) (i : Nat), (zipD as bs)[i]? = match as[i]?, bs[i]? with | some a, some b => some (.tup [a, b]) | _, _ => none
  | [], _, i => by simp [zipD]
  | _ :: _, [], i => by
    simp only [zipD, List.getElem?_nil]
    split <;> simp_all
  | a :: as, b :: bs, 0 => by simp [zipD]
  | a :: as, b :: bs, i + 1 => by simp [zipD, zipD_get as bs i]
theorem zipD_length : ∀ (as bs : List D), (zipD as bs).length = min as.length bs.length
  | [], _ => by simp [zipD]
  | _ :: _, [] => by simp [zipD]
  | a :: as, b :: bs => by
    simp only [zipD, List.length_cons, zipD_length as bs]
    omega
theorem enumD_get : ∀ (as : List D) (n i : Nat), (enumD n as)[i]? = (as[i]?).map fun a => .tup [.int ((n + i : Nat) : Int), a]
  | [], n, i => by simp [enumD]
  | a :: as, n, 0 => by simp [enumD]
  | a :: as, n, i + 1 => by
    simp only [enumD, List.getElem?_cons_succ]
    rw [enumD_get as (n + 1) i, show n + 1 + i = n + (i + 1) by omega]
theorem enumD_length : ∀ (as : List D) (n : Nat), (enumD n as).length = as.length
  | [], n => rfl
  | a :: as, n => by simp [enumD, enumD_length as (n + 1)]
/-- a new pair -/
theorem pair_new {K : Frag} {F1 H1 : Hp} {T : Addr} {x y : V} {a b : D} (s : Sub F1 H1) (n : H1 T = none) (ra : Rep K F1 x a) (rb : Rep K F1 y b) :
    ∃ F2, New F1 H1 F2 (upd H1 T (.tup [x, y])) ∧ Rep K F2 (.ref T) (.tup [a, b]) := by
  refine ⟨_, New.frz s n, .tup upd_same ?_⟩
  have e := (New.frz (o := HO.tup [x, y]) s n).fs
  exact .cons (ra.mono e) (.cons (rb.mono e) .nil)
theorem itz_jw {K : Frag} {a b : Addr} {vs ws : List V} {ds es : List D} (h : SqL K F a vs) (r : Reps K F vs ds) (k : SqL K F b ws) (q : Reps K F ws es) : JW K F (Itz K a b) (zipD ds es) := by
  have h1 := r.length
  have h2 := q.length
  have hl := zipD_length ds es
  have W := walk_zip (K := K) (a := a) (b := b) (xs := vs) (ys := ws) (n := (zipD ds es).length) (by rw [hl, h1, h2])
  refine ⟨fun i H' hi s => W.goes i H' hi ⟨s.l h, s.l k⟩, fun H' s => W.stops H' ⟨s.l h, s.l k⟩, fun i H' x H2 F1 hi s s1 y => ?_⟩
  obtain ⟨T, u, v, e1, e2, e3, e4, e5⟩ := W.yields i H' x H2 hi ⟨(s.trans s1).l h, (s.trans s1).l k⟩ y
  subst e1 e3
  obtain ⟨d, e6, rd⟩ := (r.mono s).getV e4
  obtain ⟨e, e7, re⟩ := (q.mono s).getV e5
  obtain ⟨F2, n2, r2⟩ := pair_new s1 e2 rd re
  exact ⟨F2, _, n2, by rw [zipD_get, e6, e7], r2⟩
theorem itzT_jw {K : Frag} {a b : Addr} {vs ws : List V} {ds es : List D} (h : SqT K F a vs) (r : Reps K F vs ds) (k : SqT K F b ws) (q : Reps K F ws es) : JW K F (RZ.ItzT K a b) (zipD ds es) := by
  have h1 := r.length
  have h2 := q.length
  have hl := zipD_length ds es
  refine ⟨fun i H' hi s => ?_, fun H' s => ?_, fun i H' x H2 F1 hi s s1 y => ?_⟩
  · exact ⟨vs, ws, vs[i]'(by omega), ws[i]'(by omega), s.t h, s.t k, List.getElem?_eq_getElem (by omega), List.getElem?_eq_getElem (by omega)⟩
  · exact ⟨vs, ws, s.t h, s.t k, by omega⟩
  · obtain ⟨T, u, v, e1, e2, e3, e4, e5⟩ := y
    subst e1 e3
    obtain ⟨d, e6, rd⟩ := (r.mono s).getV (e4 vs ((s.trans s1).t h))
    obtain ⟨e, e7, re⟩ := (q.mono s).getV (e5 ws ((s.trans s1).t k))
    obtain ⟨F2, n2, r2⟩ := pair_new s1 e2 rd re
    exact ⟨F2, _, n2, by rw [zipD_get, e6, e7], r2⟩
theorem ite_jw {K : Frag} {a : Addr} {vs : List V} {ds : List D} (h : SqL K F a vs) (r : Reps K F vs ds) : JW K F (Ite K a) (enumD 0 ds) := by
  have h1 := r.length
  have hl := enumD_length ds 0
  have W := walk_enum (K := K) (a := a) (xs := vs)
  refine ⟨fun i H' hi s => W.goes i H' (by omega) (s.l h), fun H' s => by rw [hl, ← h1]; exact W.stops H' (s.l h), fun i H' x H2 F1 hi s s1 y => ?_⟩
  obtain ⟨T, u, v, e1, e2, e3, e4, e5⟩ := W.yields i H' x H2 (by omega) ((s.trans s1).l h) y
  subst e1 e3
  cases e4
  obtain ⟨d, e6, rd⟩ := (r.mono s).getV e5
  obtain ⟨F2, n2, r2⟩ := pair_new s1 e2 (.int (i : Nat)) rd
  refine ⟨F2, _, n2, ?_, r2⟩
  rw [enumD_get, e6, Nat.zero_add]
  rfl
end
end Mi

set_option maxRecDepth 100000
set_option maxHeartbeats 2000000
/-! Mi5: expressions: one lemma a form. -/
namespace Mi
open PySem PySem.Spec PyProof.Rows L2

theorem star_cons {x : Expr} {xs : List Expr} {env : PySem.Env} (h : starred x = false) : starEach (x :: xs) env = (false, eval x env) :: starEach xs env := by
  cases x <;> first | rfl | (simp [starred] at h)
theorem attr_plain {o : Expr} {n : Str} {env : PySem.Env} (h : bareCall o = false) (whole : Sem Value) : attributeBase o n env whole = whole := by
  unfold attributeBase
  split
  · simp [bareCall] at h
  · rfl
theorem behind_plain {op : CmpOp} {b : Expr} (h : isSet b = false) : behindInMarks op b = false := by
  cases b <;> first | rfl | (simp [isSet] at h)
theorem folded_plain {e : Expr} {env : PySem.Env} (h : isSet e = false) (x : Value) : foldedSetIterable e env x = pure x := by
  cases e <;> first | rfl | (simp [isSet] at h)
theorem plainIx_of {b : Expr} (h : isSlice b = false) : PlainIx b := by
  cases b <;> first | (intro o i; rfl) | (simp [isSlice] at h)

section
variable (X : Cx) (Cl : Nat → Value × List Str) (W : WX) (Bs : List (Option Addr))
def SE (x : Expr) (f : Env → Res Val) : Prop := ∀ F A σ H ρ Q, Sim X.K Bs F A σ H ρ → KX X Cl W Bs F A σ H (f ρ) (PV X σ H Q) → wE X x σ H Q
def ST (x : Expr) (f : Env → Res Val) : Prop := ∀ F A σ H ρ Q, Sim X.K Bs F A σ H ρ → KX X Cl W Bs F A σ H (f ρ) (PB Q) → wT X x σ H Q
/-- a test whatever its whole is -/
def SW (x : Expr) (f : Env → Res Val) : Prop := ∀ F A σ H ρ Q, Sim X.K Bs F A σ H ρ → KX X Cl W Bs F A σ H (f ρ) (PB Q) → wW X x σ H Q
def SA (xs : List Expr) (f : Env → Res (List Val)) : Prop := ∀ F A σ H ρ Q, Sim X.K Bs F A σ H ρ → KX X Cl W Bs F A σ H (f ρ) (PVs X σ Q) → wA X xs σ H Q
end
section
variable {X : Cx} {Cl : Nat → Value × List Str} {W : WX} {Bs : List (Option Addr)}

/-! ### states -/
theorem KX.bindF {α β : Type} {F : Hp} {A : Nat → Option Addr} {σ : L2.St} {H : Hp} {r : Res α} {g : α → Env → Res β} {Pp : β → Env → Hp → (Nat → Option Addr) → Hp → Prop} (h : KX X Cl W Bs F A σ H (r.bind g) Pp) :
    KX X Cl W Bs F A σ H r fun a ρ1 _ A1 H1 => ∀ F1', Sim X.K Bs F1' A1 σ H1 ρ1 → Grow F A H F1' A1 H1 → KX X Cl W Bs F1' A1 σ H1 (g a ρ1) Pp := by
  have q := h.bind
  cases r with
  | ok a ρ1 => exact fun F1 A1 H1 S1 G1 F1' S1' G1' => q F1' A1 H1 S1' G1'
  | exn x ρ1 => exact q
  | stuck => exact q
/-- a new list is frozen -/
theorem Sim.freezeT {F F' H H0 : Hp} {A A1 : Nat → Option Addr} {σ : L2.St} {ρ : Env} {F0 : Hp} {p : Addr} (S : Sim X.K Bs F A1 σ H ρ) (G : Grow F0 A H0 F A1 H) (s1 : Sub F F') (s2 : Sub F' H) (e : ∀ b, F b = none → F' b ≠ none → b = p)
    (na : ∀ i, A1 i ≠ some p) (n0 : H0 p = none) : Sim X.K Bs F' A1 σ H ρ ∧ Grow F0 A H0 F' A1 H := by
  refine ⟨⟨S.len, fun i => (S.sl i).mono s1 fun q h => ⟨fun _ z => z, Decidable.byContradiction fun w => ?_⟩, s2, S.inj, S.lnt⟩, ⟨G.fs.trans s1, G.keep, G.dom, fun b h w => ?_, G.an⟩⟩
  · have z := e q (S.ownA h).2.1 w
    subst z
    exact na i h
  · by_cases q : F b = none
    · have z := e b q w
      subst z
      exact .inl n0
    · exact G.fn b h q
theorem getS_set {ρ : Env} {i j : Nat} {s : Slot} (hi : i < ρ.length) : getS (setS ρ i s) j = if j = i then some s else getS ρ j := by
  unfold getS setS
  by_cases e : j = i
  · subst e
    rw [List.getElem?_set_self hi, if_pos rfl]
    rfl
  · rw [List.getElem?_set_ne (Ne.symm e), if_neg e]
theorem getS_lt {ρ : Env} {i : Nat} {s : Slot} (h : getS ρ i = some s) : i < ρ.length := by
  unfold getS at h
  refine Decidable.byContradiction fun z => ?_
  rw [List.getElem?_eq_none (by omega)] at h
  cases h
theorem joinS {σ : L2.St} {i : Nat} {v : V} (h : (σ[i]?).join = some v) : σ[i]? = some (some v) := by
  cases e : σ[i]? with
  | none => rw [e] at h; cases h
  | some o =>
    rw [e] at h
    cases o with
    | none => cases h
    | some w => cases h; rfl
/-- a list of a name's own is frozen -/
theorem Sim.freezeS {F H : Hp} {A : Nat → Option Addr} {σ : L2.St} {ρ : Env} {i t : Nat} {d : D} (S : Sim X.K Bs F A σ H ρ) (h : getS ρ i = some (.own t d)) :
    ∃ F' v, Sim X.K Bs F' (fun j => if j = i then none else A j) σ H (setS ρ i (.imm d)) ∧ Grow F A H F' (fun j => if j = i then none else A j) H ∧ (σ[i]?).join = some v ∧ Rep X.K F' v d := by
  obtain ⟨p, hA, hσ, ho, hF, _⟩ := S.own h
  obtain ⟨F', s1, s2, e, r⟩ := ho.freeze hF S.sub
  have hi := getS_lt h
  refine ⟨F', .ref p, ⟨by rw [S.len]; unfold setS; rw [List.length_set], fun j => ?_, s2, fun a b q h1 h2 => ?_, S.lnt⟩, ⟨s1, fun b o z _ => z, fun b z => z, fun b z w => .inr ⟨i, by rw [e b z w]; exact hA⟩, fun j q z => ?_⟩, hσ, r⟩
  · rw [getS_set hi]
    by_cases z : j = i
    · subst z
      rw [if_pos rfl, if_pos rfl]
      exact ⟨rfl, .ref p, hσ, r⟩
    · rw [if_neg z, if_neg z]
      refine (S.sl j).mono s1 fun q hq => ⟨fun _ w => w, Decidable.byContradiction fun w => ?_⟩
      have y := e q (S.ownA hq).2.1 w
      subst y
      exact z (S.inj j i q hq hA)
  · by_cases z1 : a = i
    · simp only [z1, if_true] at h1; cases h1
    · by_cases z2 : b = i
      · simp only [z2, if_true] at h2; cases h2
      · simp only [z1, z2, if_false] at h1 h2
        exact S.inj a b q h1 h2
  · by_cases z1 : j = i
    · simp only [z1, if_true] at z; cases z
    · simp only [z1, if_false] at z
      exact .inr ⟨j, z⟩

/-! ### values, tests -/
theorem bind_id {r : Res Val} : r.bind (tst false) = r := by
  cases r <;> rfl
theorem SE.core {x : Expr} {f : Env → Res Val} (h : SE X Cl W Bs x f) : SE X Cl W Bs x fun ρ => (f ρ).bind (tst false) := fun F A σ H ρ Q S k => h F A σ H ρ Q S (by
  have e : ((f ρ).bind (tst false)) = f ρ := bind_id
  rw [← e]
  exact k)
theorem SE.test {x : Expr} {f : Env → Res Val} (h : SE X Cl W Bs x f) (he : ∀ whole, isTrue x X.env whole = (do let v ← whole; standAt x.pos; holding [v] (truthy v))) : ST X Cl W Bs x fun ρ => (f ρ).bind (tst true) := by
  intro F A σ H ρ Q S k
  refine wt_of (pt_truth pe_w he) (h F A σ H ρ _ S (k.bind.imp fun val ρ1 F1 A1 H1 S1 G1 h1 v rv => ?_))
  unfold tst at h1
  rw [if_pos rfl] at h1
  split at h1
  · rename_i d e
    split at h1
    · rename_i b eb
      exact ⟨b, truth_ok eb S1.sub (rv.pr S1 e), h1.now S1 b rfl⟩
    · exact h1.elim
  · exact h1.elim
/-- both ways at once -/
def Both (X : Cx) (Cl : Nat → Value × List Str) (W : WX) (Bs : List (Option Addr)) (x : Expr) (f : Bool → Env → Res Val) : Prop := SE X Cl W Bs x (f false) ∧ ST X Cl W Bs x (f true)
theorem Both.of {x : Expr} {f : Env → Res Val} (h : SE X Cl W Bs x f) (he : ∀ whole, isTrue x X.env whole = (do let v ← whole; standAt x.pos; holding [v] (truthy v))) : Both X Cl W Bs x fun t ρ => (f ρ).bind (tst t) := ⟨h.core, h.test he⟩

/-! ### names, constants -/
theorem nameOk_of {N : List Str} {sc : Scope} {i : Nat} {x : Str} (h : nameOk N sc i x = true) : N[i]? = some x ∧ Vis sc x ∧ (x == ("__debug__" : Str)) = false ∧ (x == ("__classdict__" : Str)) = false := by
  unfold nameOk plainNm at h
  simp only [Bool.and_eq_true, decide_eq_true_eq, Bool.not_eq_true'] at h
  refine ⟨h.1.1, ?_, h.2.1.1, h.2.1.2⟩
  have v := h.1.2
  unfold vis at v
  split at v
  · exact .inl (by assumption)
  · exact .inr (.inl (by assumption))
  · exact .inr (.inr (by assumption))
  · cases v
theorem glbOk_of {sc : Scope} {x : Str} (h : glbOk sc x = true) : sc.names.lookup x = some .globalImplicit ∧ (x == ("__debug__" : Str)) = false ∧ x ≠ "__name__" := by
  unfold glbOk glb plainNm at h
  simp only [Bool.and_eq_true, decide_eq_true_eq, Bool.not_eq_true', decide_eq_false_iff_not] at h
  refine ⟨?_, h.2.1.1, h.2.2⟩
  have v := h.1
  split at v
  · assumption
  · cases v
theorem res_tst (t : Bool) (r : Res Val) : (match r with | .ok v ρ => tst t v ρ | .exn x ρ => .exn x ρ | .stuck => .stuck) = r.bind (tst t) := by
  cases r <;> rfl
theorem se_var {N : List Str} {sc : Scope} {P : Pa} {C : Nat → List (Bool × D) → CRes} (cx : Ctx P Cl C N sc W X) {i : Nat} {x : Str} {pos : Pos} (h : nameOk N sc i x = true) :
    SE X Cl W Bs (.Name x pos) fun ρ => match getS ρ i with
      | some (.imm d) => .ok (.imm d) ρ
      | some (.own _ d) => .ok (.imm d) (setS ρ i (.imm d))
      | none => .stuck := by
  obtain ⟨h1, h2, h3, h4⟩ := nameOk_of h
  have hp : PE X (.Name x pos) (tVar i) := pe_var (by rw [cx.hN]; exact h1) (by rw [cx.hsc]; exact h2) h3 h4
  intro F A σ H ρ Q S k
  refine w_of hp ?_
  dsimp only at k
  split at k
  · rename_i d e
    obtain ⟨_, v, hv, r⟩ := S.imm e
    exact ⟨v, joinS hv, k.now S v r⟩
  · rename_i t d e
    obtain ⟨F', v, S', G, hv, r⟩ := S.freezeS e
    exact ⟨v, joinS hv, k F' _ H S' G v r⟩
  · exact k.elim
theorem se_pk {N : List Str} {sc : Scope} {P : Pa} {C : Nat → List (Bool × D) → CRes} (cx : Ctx P Cl C N sc W X) {i : Nat} {x : Str} {pos : Pos} (h : nameOk N sc i x = true) :
    SE X Cl W Bs (.Name x pos) fun ρ => match getS ρ i with
      | some (.imm d) => .ok (.imm d) ρ
      | some (.own _ _) => .ok (.brw i) ρ
      | none => .stuck := by
  obtain ⟨h1, h2, h3, h4⟩ := nameOk_of h
  have hp : PE X (.Name x pos) (tVar i) := pe_var (by rw [cx.hN]; exact h1) (by rw [cx.hsc]; exact h2) h3 h4
  intro F A σ H ρ Q S k
  refine w_of hp ?_
  dsimp only at k
  split at k
  · rename_i d e
    obtain ⟨_, v, hv, r⟩ := S.imm e
    exact ⟨v, joinS hv, k.now S v r⟩
  · rename_i t d e
    obtain ⟨p, _, hv, _⟩ := S.own e
    exact ⟨_, joinS hv, k.now S _ hv⟩
  · exact k.elim
theorem se_con {d : D} {c : Const} {j : Nat} {pos : Pos} (h : conOk d c = true) : SE X Cl W Bs (.Constant c j pos) fun ρ => .ok (.imm d) ρ := by
  intro F A σ H ρ Q S k
  unfold conOk at h
  split at h
  · exact w_of pe_non (k.now S _ .non)
  · rw [← eq_of_beq h]
    exact w_of pe_bl (k.now S _ (.bl _))
  · rw [← eq_of_beq h]
    exact w_of pe_int (k.now S _ (.int _))
  · rename_i s x
    rw [Bool.and_eq_true, decide_eq_true_eq, List.all_eq_true] at h
    rw [h.1]
    exact w_of pe_str (k.now S _ (.str s fun c hc => of_decide_eq_true (h.2 c hc)))
  · cases h

/-! ### operators -/
theorem se_bin {op : BOp} {a b : Expr} {pos : Pos} {fa fb : Env → Res Val} (ha : SE X Cl W Bs a fa) (hb : SE X Cl W Bs b fb) :
    SE X Cl W Bs (.BinOp a op.op b pos) fun ρ => (fa ρ).bind fun x ρ1 => (fb ρ1).bind fun y ρ2 => two ρ2 x y (app2 op) := by
  intro F A σ H ρ Q S k
  refine w_of (pe_op anyOp_ok pe_w pe_w) (ha F A σ H ρ _ S (k.bind.imp fun vx ρ1 F1 A1 H1 S1 G1 h1 x rx => ?_))
  refine hb F1 A1 σ H1 ρ1 _ S1 (h1.bind.imp fun vy ρ2 F2 A2 H2 S2 G2 h2 y ry => ?_)
  unfold two at h2
  split at h2
  · rename_i d e ed ee
    cases ea : app2 op d e with
    | none => rw [ea] at h2; exact h2.elim
    | some val =>
      rw [ea] at h2
      refine app2_ok ea S2.sub ((rx.keep G2).pr S2 ed) (ry.pr S2 ee) fun v F' H' n vr => ?_
      exact h2.new S2 n v (vr.rv S2 n fun b z => G2.dom b (G1.dom b z))
  · exact h2.elim
theorem se_un {op : UOp} {a : Expr} {pos : Pos} {fa : Env → Res Val} (ha : SE X Cl W Bs a fa) :
    SE X Cl W Bs (.UnaryOp op.op a pos) fun ρ => (fa ρ).bind fun x ρ1 => match rv ρ1 x with
      | some d => ofV ρ1 (app1 op d)
      | none => .stuck := by
  intro F A σ H ρ Q S k
  refine w_of (pe_un anyUn_ok pe_w) (ha F A σ H ρ _ S (k.bind.imp fun vx ρ1 F1 A1 H1 S1 G1 h1 x rx => ?_))
  split at h1
  · rename_i d ed
    cases ea : app1 op d with
    | none => rw [ea] at h1; exact h1.elim
    | some val =>
      rw [ea] at h1
      refine app1_ok ea S1.sub (rx.pr S1 ed) fun v F' H' n vr => ?_
      exact h1.new S1 n v (vr.rv S1 n fun b z => G1.dom b z)
  · exact h1.elim
theorem cmp_core {op : COp} (hu : X.A.units + 64 < cLine) {F A σ H ρ} {x y : V} {vx vy : Val} {H0 H1 : Hp} {Pp : Bool → Env → Hp → (Nat → Option Addr) → Hp → Prop} {Q : VK} (S : Sim X.K Bs F A σ H ρ) (rx : RV X.K F A σ H H0 x vx) (ry : RV X.K F A σ H H1 y vy)
    (k : KX X Cl W Bs F A σ H (twoB ρ vx vy (appC op)) Pp) (q : ∀ b, Pp b ρ F A H → Q (.bl b) H) : anyOp X (compareOp op.op) x y H Q := by
  unfold twoB at k
  split at k
  · rename_i d e ed ee
    cases ea : appC op d e with
    | none => rw [ea] at k; exact k.elim
    | some b =>
      rw [ea] at k
      exact appC_ok hu ea S.sub (rx.pr S ed) (ry.pr S ee) (q b (KX.now S k))
  · exact k.elim
/-- a comparison's run, its truth handed on -/
def fCmp (op : COp) (fa fb : Env → Res Val) : Env → Res Val := fun ρ => (fa ρ).bind fun x ρ1 => (fb ρ1).bind fun y ρ2 => (twoB ρ2 x y (appC op)).bind fun k ρ3 => .ok (bV k) ρ3
theorem se_cmp {op : COp} {a b : Expr} {pos : Pos} {fa fb : Env → Res Val} (hu : X.A.units + 64 < cLine) (hs : isSet b = false) (ha : SE X Cl W Bs a fa) (hb : SE X Cl W Bs b fb) : SE X Cl W Bs (.Compare a [op.op] [b] pos) (fCmp op fa fb) := by
  intro F A σ H ρ Q S k
  refine w_of (pe_cmpR anyOp_ok pe_w pe_w (behind_plain hs)) (ha F A σ H ρ _ S (k.bind.imp fun vx ρ1 F1 A1 H1 S1 G1 h1 x rx => ?_))
  refine hb F1 A1 σ H1 ρ1 _ S1 (h1.bind.imp fun vy ρ2 F2 A2 H2 S2 G2 h2 y ry => ?_)
  exact cmp_core hu S2 (rx.keep G2) ry h2.bind fun b h3 => h3.now S2 _ (.bl b)
theorem st_cmp {op : COp} {a b : Expr} {pos : Pos} {fa fb : Env → Res Val} (hu : X.A.units + 64 < cLine) (hs : isSet b = false) (ha : SE X Cl W Bs a fa) (hb : SE X Cl W Bs b fb) : ST X Cl W Bs (.Compare a [op.op] [b] pos) (fCmp op fa fb) := by
  intro F A σ H ρ Q S k
  refine wt_of (pt_cmpR anyOp_ok pe_w pe_w (behind_plain hs)) (ha F A σ H ρ _ S (k.bind.imp fun vx ρ1 F1 A1 H1 S1 G1 h1 x rx => ?_))
  refine hb F1 A1 σ H1 ρ1 _ S1 (h1.bind.imp fun vy ρ2 F2 A2 H2 S2 G2 h2 y ry => ?_)
  exact cmp_core hu S2 (rx.keep G2) ry h2.bind fun b h3 => ⟨b, rfl, h3.now S2 b rfl⟩
def fChn (op op' : COp) (fa fb fc : Env → Res Val) : Env → Res Val := fun ρ => (fa ρ).bind fun x ρ1 => (fb ρ1).bind fun y ρ2 => (twoB ρ2 x y (appC op)).bind fun k ρ3 =>
    if k then (fc ρ3).bind fun z ρ4 => (twoB ρ4 y z (appC op')).bind fun k' ρ5 => .ok (bV k') ρ5 else .ok (bV false) ρ3
theorem last_plain {o o' : CmpOp} {b c : Expr} (h : isSet c = false) : lastMarks [o, o'] [b, c] = false := by
  show lastMarks [o'] [c] = false
  exact behind_plain h
theorem se_chn {op op' : COp} {a b c : Expr} {pos : Pos} {fa fb fc : Env → Res Val} (hu : X.A.units + 64 < cLine) (hs : isSet c = false) (ha : SE X Cl W Bs a fa) (hb : SE X Cl W Bs b fb) (hc : SE X Cl W Bs c fc) :
    SE X Cl W Bs (.Compare a [op.op, op'.op] [b, c] pos) (fChn op op' fa fb fc) := by
  intro F A σ H ρ Q S k
  refine w_of (pe_chain anyOp_ok anyOp_ok pe_w pe_w pe_w (last_plain hs)) (ha F A σ H ρ _ S (k.bind.imp fun vx ρ1 F1 A1 H1 S1 G1 h1 x rx => ?_))
  refine hb F1 A1 σ H1 ρ1 _ S1 (h1.bind.imp fun vy ρ2 F2 A2 H2 S2 G2 h2 y ry => ?_)
  refine cmp_core hu S2 (rx.keep G2) ry h2.bind fun b h3 => ⟨b, rfl, ?_⟩
  cases b with
  | false => exact h3.now S2 _ (.bl false)
  | true =>
    rw [if_pos rfl] at h3 ⊢
    refine hc F2 A2 σ H2 ρ2 _ S2 (h3.bind.imp fun vz ρ4 F4 A4 H4 S4 G4 h4 z rz => ?_)
    exact cmp_core hu S4 (ry.keep G4) rz h4.bind fun b h5 => h5.now S4 _ (.bl b)
theorem st_chn {op op' : COp} {a b c : Expr} {pos : Pos} {fa fb fc : Env → Res Val} (hu : X.A.units + 64 < cLine) (hs : isSet c = false) (ha : SE X Cl W Bs a fa) (hb : SE X Cl W Bs b fb) (hc : SE X Cl W Bs c fc) :
    ST X Cl W Bs (.Compare a [op.op, op'.op] [b, c] pos) (fChn op op' fa fb fc) := by
  intro F A σ H ρ Q S k
  refine wt_of (pt_chain anyOp_ok anyOp_ok pe_w pe_w pe_w (last_plain hs)) (ha F A σ H ρ _ S (k.bind.imp fun vx ρ1 F1 A1 H1 S1 G1 h1 x rx => ?_))
  refine hb F1 A1 σ H1 ρ1 _ S1 (h1.bind.imp fun vy ρ2 F2 A2 H2 S2 G2 h2 y ry => ?_)
  refine cmp_core hu S2 (rx.keep G2) ry h2.bind fun b h3 => ⟨b, rfl, ?_⟩
  cases b with
  | false => exact ⟨false, rfl, h3.now S2 false rfl⟩
  | true =>
    rw [if_pos rfl] at h3 ⊢
    refine hc F2 A2 σ H2 ρ2 _ S2 (h3.bind.imp fun vz ρ4 F4 A4 H4 S4 G4 h4 z rz => ?_)
    exact cmp_core hu S4 (ry.keep G4) rz h4.bind fun b h5 => ⟨b, rfl, h5.now S4 b rfl⟩

/-! ### not, if -/
theorem kOf_ok {α : Type} {F A σ H ρ} {val : Val} {g : Bool → Env → Res α} {Pp : α → Env → Hp → (Nat → Option Addr) → Hp → Prop} (h : KX X Cl W Bs F A σ H ((kOf val ρ).bind g) Pp) : ∃ k, val = bV k ∧ KX X Cl W Bs F A σ H (g k ρ) Pp := by
  unfold kOf at h
  split at h
  · exact ⟨_, rfl, h⟩
  · exact h.elim
theorem bind_assoc' {α β γ : Type} (r : Res α) (f : α → Env → Res β) (g : β → Env → Res γ) : (r.bind f).bind g = r.bind fun a ρ => (f a ρ).bind g := by
  cases r <;> rfl
theorem tst_ok {α : Type} {F A σ H ρ} {val : Val} {g : Bool → Env → Res α} {Pp : α → Env → Hp → (Nat → Option Addr) → Hp → Prop} (h : KX X Cl W Bs F A σ H (((tst true val ρ).bind kOf).bind g) Pp) :
    ∃ d k, rv ρ val = some d ∧ d.truth = some k ∧ KX X Cl W Bs F A σ H (g k ρ) Pp := by
  unfold tst at h
  rw [if_pos rfl] at h
  split at h
  · rename_i d e
    split at h
    · rename_i k ek
      exact ⟨d, k, e, ek, h⟩
    · exact h.elim
  · exact h.elim
theorem se_not {a : Expr} {pos : Pos} {fa : Env → Res Val} (ha : SE X Cl W Bs a fa) : SE X Cl W Bs (.UnaryOp .Not a pos) fun ρ => (((fa ρ).bind (tst true)).bind kOf).bind fun k ρ1 => .ok (bV (!k)) ρ1 := by
  intro F A σ H ρ Q S k
  dsimp only at k
  rw [bind_assoc', bind_assoc'] at k
  refine w_of (pe_notT pe_w) (ha F A σ H ρ _ S (k.bind.imp fun val ρ1 F1 A1 H1 S1 G1 h1 v rv => ?_))
  rw [← bind_assoc'] at h1
  obtain ⟨d, k, e, ek, h2⟩ := tst_ok h1
  exact ⟨k, truth_ok ek S1.sub (rv.pr S1 e), h2.now S1 _ (.bl _)⟩
theorem st_not {a : Expr} {pos : Pos} {fa : Env → Res Val} (ha : ST X Cl W Bs a fa) : ST X Cl W Bs (.UnaryOp .Not a pos) fun ρ => (((fa ρ).bind (tst true)).bind kOf).bind fun k ρ1 => .ok (bV (!k)) ρ1 := by
  intro F A σ H ρ Q S k
  dsimp only at k
  rw [bind_assoc', bind_assoc'] at k
  refine wt_of (pt_not pt_w) (ha F A σ H ρ _ S (k.bind.imp fun val ρ1 F1 A1 H1 S1 G1 h1 b eb => ?_))
  rw [← bind_assoc'] at h1
  obtain ⟨d, k, e, ek, h2⟩ := tst_ok h1
  subst eb
  cases e
  cases ek
  exact h2.now S1 _ rfl
theorem se_ife {c a b : Expr} {pos : Pos} {fc fa fb : Env → Res Val} (hc : ST X Cl W Bs c fc) (ha : SE X Cl W Bs a fa) (hb : SE X Cl W Bs b fb) :
    SE X Cl W Bs (.IfExp c a b pos) fun ρ => ((fc ρ).bind kOf).bind fun k ρ1 => if k then fa ρ1 else fb ρ1 := by
  intro F A σ H ρ Q S k
  dsimp only at k
  rw [bind_assoc'] at k
  refine w_of (pe_ifExp pt_w pe_w pe_w) (hc F A σ H ρ _ S (k.bind.imp fun val ρ1 F1 A1 H1 S1 G1 h1 b eb => ?_))
  obtain ⟨b', e, h2⟩ := kOf_ok h1
  rw [eb] at e
  cases e
  have h3 : ∀ (f : Env → Res Val), KX X Cl W Bs F1 A1 σ H1 (f ρ1) (PV X σ H Q) → KX X Cl W Bs F1 A1 σ H1 (f ρ1) (PV X σ H1 Q) := fun f h => h.imp fun v ρ' F' A' H' S' G' q x rx => q x (rx.back fun b z => G1.dom b z)
  cases b with
  | true => exact ha F1 A1 σ H1 ρ1 Q S1 (h3 fa h2)
  | false => exact hb F1 A1 σ H1 ρ1 Q S1 (h3 fb h2)
theorem st_ife {c a b : Expr} {pos : Pos} {fc fa fb : Env → Res Val} (hc : ST X Cl W Bs c fc) (ha : ST X Cl W Bs a fa) (hb : ST X Cl W Bs b fb) :
    ST X Cl W Bs (.IfExp c a b pos) fun ρ => ((fc ρ).bind kOf).bind fun k ρ1 => if k then fa ρ1 else fb ρ1 := by
  intro F A σ H ρ Q S k
  dsimp only at k
  rw [bind_assoc'] at k
  refine wt_of (t := fun σ H Q => wT X c σ H fun k H1 => if k then wT X a σ H1 Q else wT X b σ H1 Q) ⟨fun pins s σ H Q I h => ?_⟩ (hc F A σ H ρ _ S (k.bind.imp fun val ρ1 F1 A1 H1 S1 G1 h1 b eb => ?_))
  · refine isTrue_IfExp (thn (h pins s I) fun k s1 ⟨H1, I1, q⟩ => ?_)
    cases k with
    | true => exact q pins s1 I1
    | false => exact q pins s1 I1
  · obtain ⟨b', e, h2⟩ := kOf_ok h1
    rw [eb] at e
    cases e
    cases b with
    | true => exact ha F1 A1 σ H1 ρ1 Q S1 h2
    | false => exact hb F1 A1 σ H1 ρ1 Q S1 h2

/-! ### arguments, displays -/
theorem sa_nil : SA X Cl W Bs [] fun ρ => .ok [] ρ := fun F A σ H ρ Q S k => wa_of pa_nil (k.now S [] .nil)
theorem sa_cons {e : Expr} {es : List Expr} {fe : Env → Res Val} {fes : Env → Res (List Val)} (hs : starred e = false) (he : SE X Cl W Bs e fe) (hes : SA X Cl W Bs es fes) :
    SA X Cl W Bs (e :: es) fun ρ => (fe ρ).bind fun v ρ1 => (fes ρ1).bind fun vs ρ2 => .ok (frz v :: vs) ρ2 := by
  intro F A σ H ρ Q S k
  refine wa_of (pa_cons pe_w pa_w (star_cons hs)) (he F A σ H ρ _ S (k.bindF.imp fun val ρ1 F1 A1 H1 S1 G1 h1 v rv => ?_))
  have go : ∀ F1' val', Sim X.K Bs F1' A1 σ H1 ρ1 → Grow F A H F1' A1 H1 → frz val = val' → (∀ F2 A2 vs vals, Sub F1' F2 → RVs X.K F2 A2 σ vs vals → RVs X.K F2 A2 σ (v :: vs) (val' :: vals)) → wA X es σ H1 fun xs H2 => Q (v :: xs) H2 := by
    intro F1' val' S1' G1' ev hv
    refine hes F1' A1 σ H1 ρ1 _ S1' ((h1 F1' S1' G1').bind.imp fun vals ρ2 F2 A2 H2 S2 G2 h2 vs rvs => ?_)
    rw [ev] at h2
    exact h2.now S2 _ (hv F2 A2 vs vals G2.fs rvs)
  cases val with
  | imm d => exact go F1 _ S1 G1 rfl fun F2 A2 vs vals s r => .imm (Rep.mono s rv) r
  | brw i => exact go F1 _ S1 G1 rfl fun F2 A2 vs vals s r => .brw rv r
  | tmp d =>
    obtain ⟨p, rfl, o, hf, na, n0⟩ := rv
    obtain ⟨F', s1, s2, e, r'⟩ := o.freeze hf S1.sub
    obtain ⟨S1', G1'⟩ := S1.freezeT G1 s1 s2 e na n0
    exact go F' _ S1' G1' rfl fun F2 A2 vs vals s r => .imm (r'.mono s) r
theorem se_tup {es : List Expr} {j : Nat} {pos : Pos} {fes : Env → Res (List Val)} (h : SA X Cl W Bs es fes) :
    SE X Cl W Bs (.Tuple es j pos) fun ρ => (fes ρ).bind fun vs ρ1 => match imms vs with
      | some ds => if ds.length ≤ LIM then .ok (.imm (.tup ds)) ρ1 else .stuck
      | none => .stuck := by
  intro F A σ H ρ Q S k
  refine w_of (pe_tup pa_w) (h F A σ H ρ _ S (k.bind.imp fun vals ρ1 F1 A1 H1 S1 G1 h1 vs rvs => ?_))
  try dsimp only at h1
  split at h1
  · rename_i ds e
    split at h1
    · rename_i hl
      have r := rvs.imms e
      refine ⟨by rw [r.length, ← LIM_eq]; exact hl, fun p hp => ?_⟩
      have n := New.frz (o := HO.tup vs) S1.sub hp
      exact h1.new S1 n _ (Rep.tup upd_same (r.mono n.fs))
    · exact h1.elim
  · exact h1.elim
theorem se_lst {es : List Expr} {pos : Pos} {fes : Env → Res (List Val)} (h : SA X Cl W Bs es fes) :
    SE X Cl W Bs (.List es pos) fun ρ => (fes ρ).bind fun vs ρ1 => match imms vs with
      | some ds => if ds.length ≤ LIM then .ok (.tmp (.lst ds)) ρ1 else .stuck
      | none => .stuck := by
  intro F A σ H ρ Q S k
  refine w_of (pe_lst pa_w) (h F A σ H ρ _ S (k.bind.imp fun vals ρ1 F1 A1 H1 S1 G1 h1 vs rvs => ?_))
  try dsimp only at h1
  split at h1
  · rename_i ds e
    split at h1
    · rename_i hl
      have r := rvs.imms e
      refine ⟨by rw [r.length, ← LIM_eq]; exact hl, fun p hp => ?_⟩
      have n := New.obj (o := HO.lst vs) S1.sub hp
      refine h1.new S1 n _ ⟨p, rfl, ⟨vs, upd_same, r⟩, S1.sub.none hp, fun i w => (S1.ownA w).1 hp, Decidable.byContradiction fun w => G1.dom p w hp⟩
    · exact h1.elim
  · exact h1.elim

/-! ### subscripts -/
theorem se_sub {a b : Expr} {pos : Pos} {fa fb : Env → Res Val} (hi : isSlice b = false) (ha : SE X Cl W Bs a fa) (hb : SE X Cl W Bs b fb) :
    SE X Cl W Bs (.Subscript a b pos) fun ρ => (fa ρ).bind fun x ρ1 => (fb ρ1).bind fun y ρ2 => match rv ρ2 x, rv ρ2 y with
      | some d, some e => ofD ρ2 (subD d e)
      | _, _ => .stuck := by
  intro F A σ H ρ Q S k
  refine w_of (pe_ix anyIx_ok pe_w pe_w (plainIx_of hi)) (ha F A σ H ρ _ S (k.bind.imp fun vx ρ1 F1 A1 H1 S1 G1 h1 x rx => ?_))
  refine hb F1 A1 σ H1 ρ1 _ S1 (h1.bind.imp fun vy ρ2 F2 A2 H2 S2 G2 h2 y ry => ?_)
  try dsimp only at h2
  split at h2
  · rename_i d e ed ee
    cases ea : subD d e with
    | none => rw [ea] at h2; exact h2.elim
    | some r =>
      rw [ea] at h2
      refine subD_ok ea S2.sub ((rx.keep G2).pr S2 ed) (ry.pr S2 ee) fun v F' H' n vr => ?_
      exact h2.new S2 n v (vr.rv S2 n fun b z => G2.dom b (G1.dom b z))
  · exact h2.elim
/-- a slice's part -/
def wO (X : Cx) (e : Option Expr) : TO := fun σ H Q => ∀ (pins : List (Addr × Obj)) (s : Shared), Inv X pins σ H s → wpAny (model X.prog X.w) X.A (evalPart e X.env) (fun u s' => ∃ o H', Inv X pins σ H' s' ∧ IsPart u o ∧ Q o H') X.xe s
theorem po_w {e : Option Expr} : PO X e (wO X e) := ⟨fun pins s σ H Q I h => h pins s I⟩
theorem wo_of {e : Option Expr} {t : TO} {σ H Q} (h : PO X e t) (q : t σ H Q) : wO X e σ H Q := fun pins s I => h.run pins s σ H Q I q
def SO (X : Cx) (Cl : Nat → Value × List Str) (W : WX) (Bs : List (Option Addr)) (e : Option Expr) (f : Env → Res (Option Int)) : Prop :=
  ∀ F A σ H ρ Q, Sim X.K Bs F A σ H ρ → KX X Cl W Bs F A σ H (f ρ) (fun o _ _ _ H' => Q o H') → wO X e σ H Q
def fPart (has : Bool) (f : Env → Res Val) : Env → Res (Option Int) := fun ρ1 => if has then (f ρ1).bind fun y ρ2 => (match asInt ρ2 y with | some i => .ok (some i) ρ2 | none => .stuck) else .ok none ρ1
theorem so_none {f : Env → Res Val} : SO X Cl W Bs none (fPart false f) := fun F A σ H ρ Q S k => wo_of po_none (k.now S)
theorem so_some {e : Expr} {f : Env → Res Val} (h : SE X Cl W Bs e f) : SO X Cl W Bs (some e) (fPart true f) := by
  intro F A σ H ρ Q S k
  have k' : KX X Cl W Bs F A σ H ((f ρ).bind fun y ρ2 => (match asInt ρ2 y with | some i => .ok (some i) ρ2 | none => .stuck)) (fun o _ _ _ H' => Q o H') := k
  refine wo_of (po_some pe_w) (h F A σ H ρ _ S (k'.bind.imp fun vy ρ1 F1 A1 H1 S1 G1 h1 y ry => ?_))
  try dsimp only at h1
  split at h1
  · rename_i i e
    unfold asInt at e
    split at e
    · rename_i j ej
      cases e
      exact ⟨i, (ry.pr S1 ej).int, h1.now S1⟩
    · cases e
  · exact h1.elim
theorem se_slc {a : Expr} {lo hi : Option Expr} {pos p2 : Pos} {fa : Env → Res Val} {fl fh : Env → Res (Option Int)} (ha : SE X Cl W Bs a fa) (hl : SO X Cl W Bs lo fl) (hh : SO X Cl W Bs hi fh) :
    SE X Cl W Bs (.Subscript a (.Slice lo hi none p2) pos) fun ρ => (fa ρ).bind fun x ρ1 => (fl ρ1).bind fun l ρ2 => (fh ρ2).bind fun h ρ3 => match rv ρ3 x with
      | some d => ofV ρ3 (slcD d l h)
      | none => .stuck := by
  intro F A σ H ρ Q S k
  refine w_of (pe_slice anySl_ok pe_w po_w po_w) (ha F A σ H ρ _ S (k.bind.imp fun vx ρ1 F1 A1 H1 S1 G1 h1 x rx => ?_))
  refine hl F1 A1 σ H1 ρ1 _ S1 (h1.bind.imp fun l ρ2 F2 A2 H2 S2 G2 h2 => ?_)
  refine hh F2 A2 σ H2 ρ2 _ S2 (h2.bind.imp fun h ρ3 F3 A3 H3 S3 G3 h3 => ?_)
  try dsimp only at h3
  split at h3
  · rename_i d ed
    cases ea : slcD d l h with
    | none => rw [ea] at h3; exact h3.elim
    | some val =>
      rw [ea] at h3
      refine slcD_ok ea S3.sub (((rx.keep G2).keep G3).pr S3 ed) fun v F' H' n vr => ?_
      exact h3.new S3 n v (vr.rv S3 n fun b z => G3.dom b (G2.dom b (G1.dom b z)))
  · exact h3.elim
end
end Mi

set_option maxRecDepth 100000
set_option maxHeartbeats 2000000
/-! Mi6: calls, methods, and, or. -/
namespace Mi
open PySem PySem.Spec PyProof.Rows L2
section
variable {X : Cx} {Cl : Nat → Value × List Str} {W : WX} {Bs : List (Option Addr)}

theorem any_plain {P : Pa} {N : List Str} {sc : Scope} {pos : Pos} {env : PySem.Env} : ∀ {es : L} {xs : List Expr}, okL P N sc es xs = true → (backTo pos (starEach xs env)).any (·.1) = false
  | .nil, [], _ => rfl
  | .nil, _ :: _, h => by simp [okL] at h
  | .cons _ _, [], h => by simp [okL] at h
  | .cons e es, x :: xs, h => by
    simp only [okL, Bool.and_eq_true, Bool.not_eq_true'] at h
    rw [star_cons h.1.2]
    unfold backTo
    rw [List.map_cons, List.any_cons]
    show (false || _) = false
    rw [Bool.false_or]
    exact any_plain h.2
theorem all_plain {P : Pa} {N : List Str} {sc : Scope} {pos : Pos} {env : PySem.Env} : ∀ {es : L} {xs : List Expr}, okL P N sc es xs = true → (backTo pos (starEach xs env)).all (fun x => !x.1) = true
  | .nil, [], _ => rfl
  | .nil, _ :: _, h => by simp [okL] at h
  | .cons _ _, [], h => by simp [okL] at h
  | .cons e es, x :: xs, h => by
    simp only [okL, Bool.and_eq_true, Bool.not_eq_true'] at h
    rw [star_cons h.1.2]
    unfold backTo
    rw [List.map_cons, List.all_cons]
    show (true && _) = true
    rw [Bool.true_and]
    exact all_plain h.2

/-! ### built-in functions -/
theorem ty_id {b : BId} : (∃ s, b.bv = .builtin s) ∨ ∃ s, b.bv = .type s := by
  cases b <;> first | exact .inl ⟨_, rfl⟩ | exact .inr ⟨_, rfl⟩
theorem boot_bv {b : BId} (h : b ≠ .gcd) : bootBuiltins b.nm = some b.bv := by
  cases b <;> first | exact absurd rfl h | (simp only [BId.nm, BId.bv]; decide +kernel)
theorem blt_pe {N : List Str} {sc : Scope} {P : Pa} {C : Nat → List (Bool × D) → CRes} (cx : Ctx P Cl C N sc W X) {b : BId} {e : Expr} {es : List Expr} {p pos : Pos} (hg : glbOk sc b.nm = true) (hb : P.has b = true)
    (hs : starred e = false) (hpl : (backTo pos (starEach es X.env)).any (·.1) = false) : PE X (.Call (.Name b.nm p) (e :: es) [] pos) (tCB (anyCall X b.bv) (wA X (e :: es))) := by
  obtain ⟨g1, g2, g3⟩ := glbOk_of hg
  have hgl : Gl X b.nm := by show X.env.scope.names.lookup b.nm = _; rw [cx.hsc]; exact g1
  by_cases z : b = .gcd
  · subst z
    exact pe_callBfun (id := "math.gcd") anyCall_ok hgl (cx.gcd hb) pa_w g2 (star_cons hs) hpl
  · have hm : X.mg b.nm = none := cx.blt _ (by
      cases b <;> first | exact absurd rfl z | (exact List.contains_iff_mem.mp hb))
    have hv := boot_bv z
    rcases ty_id (b := b) with ⟨s, e1⟩ | ⟨s, e1⟩
    · rw [e1] at hv ⊢
      exact pe_callB anyCall_ok hgl hm hv pa_w g3 g2 (star_cons hs) hpl
    · rw [e1] at hv ⊢
      exact pe_callTy anyCall_ok hgl hm hv pa_w g3 g2 (star_cons hs) hpl
theorem se_blt {N : List Str} {sc : Scope} {P : Pa} {C : Nat → List (Bool × D) → CRes} (cx : Ctx P Cl C N sc W X) {b : BId} {xs : List Expr} {p pos : Pos} {fes : Env → Res (List Val)} {es : L} (hg : glbOk sc b.nm = true) (hb : P.has b = true)
    (hl : okL P N sc es xs = true) (hn : xs ≠ []) (h : SA X Cl W Bs xs fes) :
    SE X Cl W Bs (.Call (.Name b.nm p) xs [] pos) fun ρ => (fes ρ).bind fun vs ρ1 => match rvs ρ1 vs with
      | some ds => ofV ρ1 (appB b ds)
      | none => .stuck := by
  cases xs with
  | nil => exact absurd rfl hn
  | cons e xs =>
    cases es with
    | nil => simp [okL] at hl
    | cons ie es =>
      simp only [okL, Bool.and_eq_true, Bool.not_eq_true'] at hl
      intro F A σ H ρ Q S k
      refine w_of (blt_pe cx hg hb hl.1.2 (any_plain hl.2)) (h F A σ H ρ _ S (k.bind.imp fun vals ρ1 F1 A1 H1 S1 G1 h1 vs rvs => ?_))
      try dsimp only at h1
      split at h1
      · rename_i ds ed
        cases ea : appB b ds with
        | none => rw [ea] at h1; exact h1.elim
        | some val =>
          rw [ea] at h1
          refine appB_ok cx.calm ea S1.sub (rvs.prs S1 ed) fun v F' H' n vr => ?_
          exact h1.new S1 n v (vr.rv S1 n fun b z => G1.dom b z)
      · exact h1.elim
theorem sn_ty {t : TyId} : bootBuiltins t.sn = some (.type t.nm) := by
  cases t <;> (simp only [TyId.sn, TyId.nm]; decide +kernel)
theorem bltOk_of {P : Pa} {sc : Scope} {x : Str} (h : bltOk P sc x = true) : glbOk sc x = true ∧ x ∈ P.bn := by
  unfold bltOk at h
  rw [Bool.and_eq_true] at h
  exact ⟨h.1, List.contains_iff_mem.mp h.2⟩
theorem boot_isi : bootBuiltins "isinstance" = some (.builtin "isinstance") := by decide +kernel
theorem se_isi {N : List Str} {sc : Scope} {P : Pa} {C : Nat → List (Bool × D) → CRes} (cx : Ctx P Cl C N sc W X) {t : TyId} {a : Expr} {p p2 pos : Pos} {fa : Env → Res Val} (hg : bltOk P sc "isinstance" = true) (ht : bltOk P sc t.sn = true) (hs : starred a = false) (ha : SE X Cl W Bs a fa) :
    SE X Cl W Bs (.Call (.Name "isinstance" p) [a, .Name t.sn p2] [] pos) fun ρ => (fa ρ).bind fun x ρ1 => match rv ρ1 x with
      | some d => .ok (bV (isTy d t)) ρ1
      | none => .stuck := by
  obtain ⟨h1, h2⟩ := bltOk_of hg
  obtain ⟨h3, h4⟩ := bltOk_of ht
  obtain ⟨g1, g2, g3⟩ := glbOk_of h1
  obtain ⟨g4, g5, g6⟩ := glbOk_of h3
  intro F A σ H ρ Q S k
  refine w_of (pe_callB (id := "isinstance") anyCall_ok (by show X.env.scope.names.lookup _ = _; rw [cx.hsc]; exact g1) (cx.blt _ h2) boot_isi
    (pa_cons pe_w (pa_cons (pe_bltn (v := .ty t.nm) (by show X.env.scope.names.lookup _ = _; rw [cx.hsc]; exact g4) (cx.blt _ h4) sn_ty rfl g6 g5) pa_nil rfl) (star_cons hs)) g3 g2 (star_cons hs) rfl) ?_
  refine ha F A σ H ρ _ S (k.bind.imp fun vx ρ1 F1 A1 H1 S1 G1 h1 x rx => ?_)
  try dsimp only at h1
  split at h1
  · rename_i d ed
    exact isi_ok S1.sub (rx.pr S1 ed) (h1.now S1 _ (.bl _))
  · exact h1.elim

/-! ### methods -/
theorem mid_ty {m : MId} : PlainAttrs m.ty ∧ PySem.Slot m.ty m.nm m.id ∧ typeOf (.builtin m.id) = pure (.type "method_descriptor") := by
  cases m
  exact ⟨PySem.F.plainAttrs_str, PySem.F.slot_str_startswith, PySem.F.type_str_startswith⟩
theorem few_plain {P : Pa} {N : List Str} {sc : Scope} {pos : Pos} {env : PySem.Env} {es : L} {xs : List Expr} (h : okL P N sc es xs = true) (hl : xs.length < 30) :
    ((backTo pos (starEach xs env)).all (fun x => !x.1) && (backToKw pos (keywordEach [] env)).all (fun x => x.1.isSome) && decide (xs.length + ([] : List Keyword).length + (if ([] : List Keyword).isEmpty then 0 else 1) < 30)) = true := by
  rw [all_plain h]
  simp [backToKw, keywordEach]
  exact hl
theorem se_mth {N : List Str} {sc : Scope} {P : Pa} {C : Nat → List (Bool × D) → CRes} (cx : Ctx P Cl C N sc W X) {m : MId} {o : Expr} {xs : List Expr} {ap pos : Pos} {fo : Env → Res Val} {fes : Env → Res (List Val)} {es : L} (hb : bareCall o = false) (hline : (ap.endLine == pos.line) = true)
    (hl : okL P N sc es xs = true) (hn : xs ≠ []) (h30 : xs.length < 30) (ho : SE X Cl W Bs o fo) (h : SA X Cl W Bs xs fes) :
    SE X Cl W Bs (.Call (.Attribute o m.nm ap) xs [] pos) fun ρ => (fo ρ).bind fun x ρ1 => match rv ρ1 x with
      | some d0 => if tyM m d0 then (fes ρ1).bind fun vs ρ2 => match rv ρ2 x, rvs ρ2 vs with
        | some d, some ds => ofV ρ2 (appM m d ds)
        | _, _ => .stuck else .stuck
      | none => .stuck := by
  cases xs with
  | nil => exact absurd rfl hn
  | cons e xs =>
    cases es with
    | nil => simp [okL] at hl
    | cons ie es =>
      have hl2 := hl
      simp only [okL, Bool.and_eq_true, Bool.not_eq_true'] at hl
      obtain ⟨t1, t2, t3⟩ := mid_ty (m := m)
      intro F A σ H ρ Q S k
      refine w_of (pe_bm t1 t2 t3 anyMt_ok pe_w pa_w (attr_plain hb _) (few_plain hl2 h30) hline (star_cons hl.1.2) (any_plain hl.2)) (ho F A σ H ρ _ S (k.bind.imp fun vx ρ1 F1 A1 H1 S1 G1 h1 x rx => ?_))
      try dsimp only at h1
      split at h1
      · rename_i d0 e0
        split at h1
        · rename_i ht
          refine ⟨tyM_ok ht (rx.pr S1 e0), h F1 A1 σ H1 ρ1 _ S1 (h1.bind.imp fun vals ρ2 F2 A2 H2 S2 G2 h2 vs rvs => ?_)⟩
          try dsimp only at h2
          split at h2
          · rename_i d ds ed eds
            cases ea : appM m d ds with
            | none => rw [ea] at h2; exact h2.elim
            | some val =>
              rw [ea] at h2
              refine appM_ok cx.calm ea S2.sub ((rx.keep G2).pr S2 ed) (rvs.prs S2 eds) fun v F' H' n vr => ?_
              exact h2.new S2 n v (vr.rv S2 n fun b z => G2.dom b (G1.dom b z))
          · exact h2.elim
        · exact h1.elim
      · exact h1.elim

/-! ### a list of a name's own is changed -/
theorem Sim.write {F H : Hp} {A : Nat → Option Addr} {σ : L2.St} {ρ : Env} {i t : Nat} {d d' : D} {p : Addr} {o : HO} (S : Sim X.K Bs F A σ H ρ) (h : getS ρ i = some (.own t d)) (hA : A i = some p) (n : OwnAt X.K F (upd H p o) p d') :
    Sim X.K Bs F A σ (upd H p o) (setS ρ i (.own t d')) ∧ Grow F A H F A (upd H p o) := by
  obtain ⟨p', hA', hσ, ho, hF, hl⟩ := S.own h
  rw [hA] at hA'; cases hA'
  have hi := getS_lt h
  have sub : Sub F (upd H p o) := S.sub.put hF
  refine ⟨⟨by rw [S.len]; unfold setS; rw [List.length_set], fun j => ?_, sub, S.inj, fun q hq z => ?_⟩, ⟨.refl F, fun b u hb hn => ?_, fun b hb z => ?_, fun b z w => absurd z w, fun j q hq => .inr ⟨j, hq⟩⟩⟩
  · rw [getS_set hi]
    by_cases z : j = i
    · subst z
      rw [if_pos rfl]
      exact ⟨p, hA, hσ, n, hF, hl⟩
    · rw [if_neg z]
      refine (S.sl j).mono (.refl F) fun q hq => ⟨fun u hu => ?_, (S.ownA hq).2.1⟩
      rw [upd_ne (fun w => z (S.inj j i p (by rw [← w]; exact hq) hA))]
      exact hu
  · by_cases w : q = p
    · subst w; rw [upd_same] at z; cases z
    · rw [upd_ne w] at z; exact S.lnt q hq z
  · rw [upd_ne (fun w => hn i (by rw [hA, w]))]
    exact hb
  · by_cases w : b = p
    · subst w; rw [upd_same] at z; cases z
    · rw [upd_ne w] at z; exact hb z
def MuId.id : MuId → String
  | .append => "list.append"
theorem muid_ty {m : MuId} : PySem.Slot "list" m.nm m.id ∧ typeOf (.builtin m.id) = pure (.type "method_descriptor") := by
  cases m
  exact ⟨PySem.F.slot_list_append, PySem.F.type_list_append⟩
theorem appMu_ok {m : MuId} {F H : Hp} {A : Nat → Option Addr} {σ : L2.St} {ρ : Env} {i t : Nat} {d d' r : D} {ds : List D} {vs : List V} {v : V} {Q : VK} (S : Sim X.K Bs F A σ H ρ) (h : getS ρ i = some (.own t d)) (hv : (σ[i]?).join = some v) (e : appMu m d ds = some (d', r)) (rs : Reps X.K F vs ds)
    (k : ∀ H', Sim X.K Bs F A σ H' (setS ρ i (.own t d')) → Grow F A H F A H' → ∀ w, Rep X.K F w r → Q w H') : anyMt X m.id v vs H Q := by
  obtain ⟨p, hA, hσ, ho, hF, hl⟩ := S.own h
  rw [hv] at hσ; cases hσ
  cases m with
  | append =>
    simp only [appMu] at e
    split at e
    · split at e
      · cases e
        rename_i xs y hlt
        obtain ⟨ws, e1, r1⟩ := ho
        cases rs with
        | cons ry rn =>
          cases rn
          refine ⟨_, mt_append, p, ws, _, rfl, rfl, e1, by rw [r1.length, ← LIM_eq]; exact hlt, ?_⟩
          have n : OwnAt X.K F (upd H p (.lst (ws ++ [_]))) p (.lst (xs ++ [y])) := ⟨_, upd_same, r1.append (.one ry)⟩
          obtain ⟨S', G'⟩ := S.write h hA n
          exact k _ S' G' _ .non
      · cases e
    · cases e
theorem se_mut {N : List Str} {sc : Scope} {P : Pa} {C : Nat → List (Bool × D) → CRes} (cx : Ctx P Cl C N sc W X) {m : MuId} {i : Nat} {x : Str} {xs : List Expr} {p ap pos : Pos} {fes : Env → Res (List Val)} {es : L} (hx : nameOk N sc i x = true) (hline : (ap.endLine == pos.line) = true)
    (hl : okL P N sc es xs = true) (hn : xs ≠ []) (h30 : xs.length < 30) (h : SA X Cl W Bs xs fes) :
    SE X Cl W Bs (.Call (.Attribute (.Name x p) m.nm ap) xs [] pos) fun ρ => match getS ρ i with
      | some (.own _ (.lst _)) => (fes ρ).bind fun vs ρ1 => match getS ρ1 i, imms vs with
        | some (.own tk d), some ds => match appMu m d ds with
          | some (d', r) => .ok (.imm r) (setS ρ1 i (.own tk d'))
          | none => .stuck
        | _, _ => .stuck
      | _ => .stuck := by
  cases xs with
  | nil => exact absurd rfl hn
  | cons e xs =>
    cases es with
    | nil => simp [okL] at hl
    | cons ie es =>
      have hl2 := hl
      simp only [okL, Bool.and_eq_true, Bool.not_eq_true'] at hl
      obtain ⟨t2, t3⟩ := muid_ty (m := m)
      obtain ⟨h1, h2, h3, h4⟩ := nameOk_of hx
      intro F A σ H ρ Q S k
      dsimp only at k
      split at k
      · rename_i tk0 ds0 e0
        obtain ⟨q, hA, hσ, ho, hF, _⟩ := S.own e0
        obtain ⟨ws, eq1, _⟩ := ho
        refine w_of (pe_bm PySem.F.plainAttrs_list t2 t3 anyMt_ok (pe_var (by rw [cx.hN]; exact h1) (by rw [cx.hsc]; exact h2) h3 h4) pa_w (attr_plain rfl _) (few_plain hl2 h30) hline (star_cons hl.1.2) (any_plain hl.2))
          ⟨.ref q, joinS hσ, .inl ⟨rfl, ws, .of eq1⟩, h F A σ H ρ _ S (k.bind.imp fun vals ρ1 F1 A1 H1 S1 G1 h1 vs rvs => ?_)⟩
        try dsimp only at h1
        split at h1
        · rename_i tk d ds e1 eds
          split at h1
          · rename_i d' r ea
            refine appMu_ok S1 e1 hσ ea (rvs.imms eds) fun H' S' G' w rw' => ?_
            exact h1 F1 A1 H' S' G' w rw'
          · exact h1.elim
        · exact h1.elim
      · exact k.elim

/-! ### and, or -/
theorem KX.base {F H0 H : Hp} {A : Nat → Option Addr} {σ : L2.St} {r : Res Val} {Q : VK} (k : ∀ b, H0 b ≠ none → H b ≠ none) (h : KX X Cl W Bs F A σ H r (PV X σ H0 Q)) : KX X Cl W Bs F A σ H r (PV X σ H Q) :=
  h.imp fun v ρ' F' A' H' S' G' q x rx => q x (rx.back k)
def fRest (isAnd : Bool) (fr : Env → Res Val) : Val → Env → Res Val := fun v ρ1 => match v with
  | .brw _ => .stuck
  | v => match rv ρ1 v with
    | some d => match d.truth with
      | some k => if k = isAnd then fr ρ1 else .ok v ρ1
      | none => .stuck
    | none => .stuck
def fBool (isAnd : Bool) (fa fr : Env → Res Val) : Env → Res Val := fun ρ => (fa ρ).bind (fRest isAnd fr)
theorem fBool_ok {isAnd : Bool} {fr : Env → Res Val} {v : Val} {F A σ H ρ} {Pp : Val → Env → Hp → (Nat → Option Addr) → Hp → Prop} (h : KX X Cl W Bs F A σ H (fRest isAnd fr v ρ) Pp) : ∃ d k, rv ρ v = some d ∧ d.truth = some k ∧ KX X Cl W Bs F A σ H (if k = isAnd then fr ρ else .ok v ρ) Pp := by
  cases v with
  | brw i => exact h.elim
  | imm d =>
    refine ⟨d, ?_⟩
    have h' : KX X Cl W Bs F A σ H (match d.truth with
      | some k => if k = isAnd then fr ρ else .ok (.imm d) ρ
      | none => .stuck) Pp := h
    cases e : d.truth with
    | none => rw [e] at h'; exact h'.elim
    | some k => rw [e] at h'; exact ⟨k, rfl, rfl, h'⟩
  | tmp d =>
    refine ⟨d, ?_⟩
    have h' : KX X Cl W Bs F A σ H (match d.truth with
      | some k => if k = isAnd then fr ρ else .ok (.tmp d) ρ
      | none => .stuck) Pp := h
    cases e : d.truth with
    | none => rw [e] at h'; exact h'.elim
    | some k => rw [e] at h'; exact ⟨k, rfl, rfl, h'⟩
def bop (isAnd : Bool) : BoolOp := if isAnd then .And else .Or
theorem se_bool1 {isAnd : Bool} {a : Expr} {pos : Pos} {fa : Env → Res Val} (ha : SE X Cl W Bs a fa) : SE X Cl W Bs (.BoolOp (bop isAnd) [a] pos) fa := fun F A σ H ρ Q S k => w_of (pe_one pe_w) (ha F A σ H ρ Q S k)
theorem se_bool2 {isAnd : Bool} {a b : Expr} {rest : List Expr} {pos : Pos} {fa fr : Env → Res Val} (ha : SE X Cl W Bs a fa) (hr : SE X Cl W Bs (.BoolOp (bop isAnd) (b :: rest) pos) fr) : SE X Cl W Bs (.BoolOp (bop isAnd) (a :: b :: rest) pos) (fBool isAnd fa fr) := by
  intro F A σ H ρ Q S k
  have main : wE X a σ H fun x H1 => ∃ kk, TruV X.K x H1 kk ∧ (kk = isAnd → wE X (.BoolOp (bop isAnd) (b :: rest) pos) σ H1 Q) ∧ (¬ kk = isAnd → Q x H1) := by
    refine ha F A σ H ρ _ S (k.bind.imp fun val ρ1 F1 A1 H1 S1 G1 h1 v rv => ?_)
    obtain ⟨d, kk, e, ek, h2⟩ := fBool_ok h1
    refine ⟨kk, truth_ok ek S1.sub (rv.pr S1 e), fun z => ?_, fun z => ?_⟩
    · rw [if_pos z] at h2
      exact hr F1 A1 σ H1 ρ1 Q S1 (h2.base fun b w => G1.dom b w)
    · rw [if_neg z] at h2
      exact h2.now S1 v rv
  cases isAnd with
  | true =>
    refine w_of (pe_andT (ta := fun σ' H' Q' => σ' = σ ∧ H' = H ∧ wE X a σ H Q') (tb := wE X _) ⟨fun pins s σ' H' Q' I q => ?_⟩ pe_w) ?_
    · obtain ⟨rfl, rfl, q⟩ := q
      exact q pins s I
    · refine ⟨rfl, rfl, fun pins s I => thn (main pins s I) fun u s' ⟨v, H', I', r, kk, t, q1, q2⟩ => ⟨v, H', I', r, kk, t, ?_⟩⟩
      cases kk with
      | true => exact q1 rfl
      | false => exact q2 (by decide)
  | false =>
    refine w_of (pe_orT (ta := fun σ' H' Q' => σ' = σ ∧ H' = H ∧ wE X a σ H Q') (tb := wE X _) ⟨fun pins s σ' H' Q' I q => ?_⟩ pe_w) ?_
    · obtain ⟨rfl, rfl, q⟩ := q
      exact q pins s I
    · refine ⟨rfl, rfl, fun pins s I => thn (main pins s I) fun u s' ⟨v, H', I', r, kk, t, q1, q2⟩ => ⟨v, H', I', r, kk, t, ?_⟩⟩
      cases kk with
      | true => exact q2 (by decide)
      | false => exact q1 rfl
theorem sw_bool1 {isAnd : Bool} {a : Expr} {pos : Pos} {fa : Env → Res Val} (ha : ST X Cl W Bs a fa) : SW X Cl W Bs (.BoolOp (bop isAnd) [a] pos) fa := by
  intro F A σ H ρ Q S k
  cases isAnd with
  | true => exact ww_of (pw_and1 pt_w) (ha F A σ H ρ Q S k)
  | false => exact ww_of (pw_or1 pt_w) (ha F A σ H ρ Q S k)
theorem sw_bool2 {isAnd : Bool} {a b : Expr} {rest : List Expr} {pos : Pos} {fa fr : Env → Res Val} (ha : ST X Cl W Bs a fa) (hr : SW X Cl W Bs (.BoolOp (bop isAnd) (b :: rest) pos) fr) : SW X Cl W Bs (.BoolOp (bop isAnd) (a :: b :: rest) pos) (fBool isAnd fa fr) := by
  intro F A σ H ρ Q S k
  have main : wT X a σ H fun c H1 => (c = isAnd → wW X (.BoolOp (bop isAnd) (b :: rest) pos) σ H1 Q) ∧ (¬ c = isAnd → Q c H1) := by
    refine ha F A σ H ρ _ S (k.bind.imp fun val ρ1 F1 A1 H1 S1 G1 h1 c ec => ?_)
    obtain ⟨d, kk, e, ek, h2⟩ := fBool_ok h1
    subst ec
    cases e
    cases ek
    refine ⟨fun z => ?_, fun z => ?_⟩
    · rw [if_pos z] at h2
      exact hr F1 A1 σ H1 ρ1 Q S1 h2
    · rw [if_neg z] at h2
      exact h2.now S1 _ rfl
  cases isAnd with
  | true =>
    refine ww_of (pw_and (tA := fun σ' H' Q' => σ' = σ ∧ H' = H ∧ wT X a σ H Q') (tB' := wW X _) ⟨fun pins s σ' H' Q' I q => ?_⟩ pw_w) ?_
    · obtain ⟨rfl, rfl, q⟩ := q
      exact q pins s I
    · refine ⟨rfl, rfl, fun pins s I => thn (main pins s I) fun c s' ⟨H', I', q1, q2⟩ => ⟨H', I', ?_⟩⟩
      cases c with
      | true => exact q1 rfl
      | false => exact q2 (by decide)
  | false =>
    refine ww_of (pw_or (tA := fun σ' H' Q' => σ' = σ ∧ H' = H ∧ wT X a σ H Q') (tB' := wW X _) ⟨fun pins s σ' H' Q' I q => ?_⟩ pw_w) ?_
    · obtain ⟨rfl, rfl, q⟩ := q
      exact q pins s I
    · refine ⟨rfl, rfl, fun pins s I => thn (main pins s I) fun c s' ⟨H', I', q1, q2⟩ => ⟨H', I', ?_⟩⟩
      cases c with
      | true => exact q2 (by decide)
      | false => exact q1 rfl

/-! ### a call of a def -/
def bsOf (A : Nat → Option Addr) : List Val → List (Option Addr)
  | [] => []
  | .brw i :: vs => A i :: bsOf A vs
  | _ :: vs => none :: bsOf A vs
theorem args_ok {F H : Hp} {A : Nat → Option Addr} {σ : L2.St} {ρ : Env} (S : Sim X.K Bs F A σ H ρ) : ∀ {vals : List Val} {vs : List V} {as : List (Bool × D)}, RVs X.K F A σ vs vals → argsOf ρ vals = some as →
    ArgsR X.K F H vs as (bsOf A vals) ∧ as.length = vs.length ∧ (∀ i ∈ lentOf vals, ∃ p, A i = some p) ∧ (bsOf A vals).filterMap id = (lentOf vals).filterMap A
  | _, _, as, .nil, e => by
    simp only [argsOf, Option.some.injEq] at e
    subst e
    exact ⟨.nil, rfl, fun i hi => (by cases hi), rfl⟩
  | _, _, as, .imm (vals := vals) r t, e => by
    simp only [argsOf, Option.map_eq_some_iff] at e
    obtain ⟨as', e1, rfl⟩ := e
    obtain ⟨h1, h2, h3, h4⟩ := args_ok S t e1
    exact ⟨.imm r h1, congrArg Nat.succ h2, h3, by simpa [bsOf, lentOf] using h4⟩
  | _, _, as, .brw (i := i) r t, e => by
    simp only [argsOf] at e
    split at e
    · rename_i tk d hd
      simp only [Option.map_eq_some_iff] at e
      obtain ⟨as', e1, rfl⟩ := e
      obtain ⟨h1, h2, h3, h4⟩ := args_ok S t e1
      obtain ⟨p, hA, hσ, ho, hF, _⟩ := S.own hd
      rw [r] at hσ; cases hσ
      simp only [bsOf, lentOf]
      rw [hA]
      refine ⟨.own ho hF h1, congrArg Nat.succ h2, fun j hj => ?_, ?_⟩
      · rcases List.mem_cons.mp hj with e | hj
        · subst e; exact ⟨p, hA⟩
        · exact h3 j hj
      · rw [List.filterMap_cons, List.filterMap_cons, hA]
        simpa using h4
    · cases e
theorem nodup_map {A : Nat → Option Addr} (inj : ∀ i j p, A i = some p → A j = some p → i = j) : ∀ {is : List Nat}, is.Nodup → (is.filterMap A).Nodup
  | [], _ => by simp
  | i :: is, h => by
    rw [List.nodup_cons] at h
    rw [List.filterMap_cons]
    have ih := nodup_map inj h.2
    split
    · exact ih
    · rename_i p hp
      refine List.nodup_cons.mpr ⟨fun hm => ?_, ih⟩
      obtain ⟨j, hj, e⟩ := List.mem_filterMap.mp hm
      exact h.1 (by rw [inj i j p hp e]; exact hj)
/-- the slots behind a call -/
inductive LentR (K : Frag) (Bs : List (Option Addr)) (F H : Hp) (A : Nat → Option Addr) (σ : L2.St) (ρ : Env) : List Nat → List D → Prop
  | nil : LentR K Bs F H A σ ρ [] []
  | cons {i t : Nat} {p : Addr} {d d0 : D} {is : List Nat} {ds : List D} : getS ρ i = some (.own t d0) → A i = some p → (σ[i]?).join = some (.ref p) → LentOk Bs t p → OwnAt K F H p d → F p = none → LentR K Bs F H A σ ρ is ds → LentR K Bs F H A σ ρ (i :: is) (d :: ds)
theorem lent_ok {F F' H H' : Hp} {A : Nat → Option Addr} {σ : L2.St} {ρ : Env} (S : Sim X.K Bs F A σ H ρ) : ∀ {vals : List Val} {vs : List V} {as : List (Bool × D)} {outs : List D}, RVs X.K F A σ vs vals → argsOf ρ vals = some as → OutsR X.K F' H' (bsOf A vals) outs → LentR X.K Bs F' H' A σ ρ (lentOf vals) outs
  | _, _, as, outs, .nil, e, o => by
    cases o
    exact .nil
  | _, _, as, outs, .imm (vals := vals) r t, e, o => by
    simp only [argsOf, Option.map_eq_some_iff] at e
    obtain ⟨as', e1, rfl⟩ := e
    simp only [bsOf] at o
    cases o with
    | none o =>
      have q := lent_ok S t e1 o
      exact q
  | _, _, as, outs, .brw (i := i) r t, e, o => by
    simp only [argsOf] at e
    split at e
    · rename_i tk d hd
      simp only [Option.map_eq_some_iff] at e
      obtain ⟨as', e1, rfl⟩ := e
      obtain ⟨p, hA, hσ, ho, hF, hl⟩ := S.own hd
      simp only [bsOf] at o
      rw [hA] at o
      cases o with
      | some o1 o2 o => exact .cons hd hA hσ hl o1 o2 (lent_ok S t e1 o)
    · cases e
theorem back_ok {F H : Hp} {A : Nat → Option Addr} {σ : L2.St} : ∀ {is : List Nat} {outs : List D} {ρ ρ' : Env}, backOwn ρ is outs = some ρ' → is.Nodup → (∀ j, j ∉ is → SlotR X.K F H Bs (σ[j]?).join (getS ρ j) (A j)) → LentR X.K Bs F H A σ ρ is outs →
    (∀ j, SlotR X.K F H Bs (σ[j]?).join (getS ρ' j) (A j)) ∧ ρ'.length = ρ.length
  | [], outs, ρ, ρ', e, _, h, l => by
    cases l
    simp only [backOwn, Option.some.injEq] at e
    subst e
    exact ⟨fun j => h j (by simp), rfl⟩
  | i :: is, outs, ρ, ρ', e, nd, h, l => by
    cases l with
    | cons h1 h2 h3 h4 h5 h6 l =>
      rename_i t p d d0 ds
      rw [List.nodup_cons] at nd
      simp only [backOwn, h1] at e
      have hi := getS_lt h1
      have lr : ∀ {js : List Nat} {es : List D}, i ∉ js → LentR X.K Bs F H A σ ρ js es → LentR X.K Bs F H A σ (setS ρ i (.own t d)) js es := by
        intro js es hn l
        induction l with
        | nil => exact .nil
        | @cons j t' p' d' d0' js es a1 a2 a3 a4 a5 a6 _ ih =>
          rw [List.mem_cons, not_or] at hn
          exact .cons (by rw [getS_set hi, if_neg (fun z => hn.1 z.symm)]; exact a1) a2 a3 a4 a5 a6 (ih hn.2)
      have hq : ∀ j, j ∉ is → SlotR X.K F H Bs (σ[j]?).join (getS (setS ρ i (.own t d)) j) (A j) := by
        intro j hj
        rw [getS_set hi]
        by_cases z : j = i
        · subst z
          rw [if_pos rfl]
          exact ⟨p, h2, h3, h5, h6, h4⟩
        · rw [if_neg z]
          exact h j (by
            rw [List.mem_cons, not_or]
            exact ⟨z, hj⟩)
      obtain ⟨q1, q2⟩ := back_ok e nd.2 hq (lr nd.1 l)
      exact ⟨q1, by rw [q2]; unfold setS; rw [List.length_set]⟩
theorem mem_bsOf {A : Nat → Option Addr} {p : Addr} : ∀ {vals : List Val}, some p ∈ bsOf A vals → ∃ i ∈ lentOf vals, A i = some p
  | [], h => by cases h
  | .brw i :: vs, h => by
    simp only [bsOf] at h
    rcases List.mem_cons.mp h with e | h
    · exact ⟨i, List.mem_cons_self .., e.symm⟩
    · obtain ⟨j, hj, e⟩ := mem_bsOf h
      exact ⟨j, List.mem_cons_of_mem _ hj, e⟩
  | .imm _ :: vs, h => by
    simp only [bsOf] at h
    rcases List.mem_cons.mp h with e | h
    · cases e
    · have q := mem_bsOf h
      exact q
  | .tmp _ :: vs, h => by
    simp only [bsOf] at h
    rcases List.mem_cons.mp h with e | h
    · cases e
    · have q := mem_bsOf h
      exact q
/-- the state behind a call -/
theorem Sim.called {F F' H H' : Hp} {A : Nat → Option Addr} {σ : L2.St} {ρ ρ' : Env} {vals : List Val} {vs : List V} {as : List (Bool × D)} {outs : List D} (S : Sim X.K Bs F A σ H ρ) (rs : RVs X.K F A σ vs vals) (ea : argsOf ρ vals = some as) (nd : (lentOf vals).Nodup)
    (g : CGrow F (bsOf A vals) H F' H') (o : OutsR X.K F' H' (bsOf A vals) outs) (eb : backOwn ρ (lentOf vals) outs = some ρ') : Sim X.K Bs F' A σ H' ρ' ∧ Grow F A H F' A H' := by
  have hq : ∀ j, j ∉ lentOf vals → SlotR X.K F' H' Bs (σ[j]?).join (getS ρ j) (A j) := by
    intro j hj
    refine (S.sl j).mono g.fs fun p hp => ⟨fun u hu => g.keep p u hu fun hm => ?_, Decidable.byContradiction fun w => ?_⟩
    · obtain ⟨i, hi, e⟩ := mem_bsOf hm
      exact hj (by rw [S.inj j i p hp e]; exact hi)
    · exact (S.ownA hp).1 (g.fn p (S.ownA hp).2.1 w)
  obtain ⟨q1, q2⟩ := back_ok eb nd hq (lent_ok S rs ea o)
  refine ⟨⟨by rw [q2]; exact S.len, q1, g.fh, S.inj, fun p hp => g.dom p (S.lnt p hp)⟩, ⟨g.fs, fun b u hb hn => g.keep b u hb fun hm => ?_, g.dom, fun b z w => .inl (g.fn b z w), fun i p h => .inr ⟨i, h⟩⟩⟩
  obtain ⟨i, _, e⟩ := mem_bsOf hm
  exact hn i e
theorem call_core {F F0 H H0 : Hp} {A A0 : Nat → Option Addr} {σ : L2.St} {ρ : Env} {vals : List Val} {vs : List V} {as : List (Bool × D)} {np : Nat} {Cf : List (Bool × D) → CRes} {Q : VK} (S : Sim X.K Bs F A σ H ρ) (G : Grow F0 A0 H0 F A H) (rs : RVs X.K F A σ vs vals) (ea : argsOf ρ vals = some as) (nd : (lentOf vals).Nodup)
    (hlen : ∀ as, Cf as ≠ .stuck → as.length = np) (k : KX X Cl W Bs F A σ H (callRes ρ vals (Cf as)) (PV X σ H0 Q)) : spF X.K Cl Cf np vs H Q (WE W σ) := by
  obtain ⟨a1, a2, a3, a4⟩ := args_ok S rs ea
  have hns : Cf as ≠ .stuck := fun z => by
    rw [z] at k; exact k.elim
  refine ⟨by rw [← a2]; exact hlen as hns, F, as, bsOf A vals, S.sub, a1, ?_, ?_⟩
  · show List.Nodup _
    rw [a4]
    exact nodup_map S.inj nd
  · cases ec : Cf as with
    | stuck => exact absurd ec hns
    | ok o d outs =>
      rw [ec] at k
      unfold callRes at k
      dsimp only at k
      intro v F' H' g ho hv
      split at k
      · rename_i ρ' eb
        obtain ⟨S', G'⟩ := S.called rs ea nd g ho eb
        refine k F' A H' S' G' v ?_
        cases o with
        | false => exact hv
        | true =>
          obtain ⟨p, e, h1, h2, h3⟩ := hv
          exact ⟨p, e, h1, h2, fun i w => (S.ownA w).1 h3, Decidable.byContradiction fun w => G.dom p w h3⟩
      · exact k.elim
    | exn x outs =>
      rw [ec] at k
      unfold callRes at k
      dsimp only at k
      intro c dd F' H' g ho hx
      split at k
      · rename_i ρ' eb
        obtain ⟨S', G'⟩ := S.called rs ea nd g ho eb
        exact k c dd F' A H' S' G' hx
      · exact k.elim
theorem call_fin {P : Pa} {C : Nat → List (Bool × D) → CRes} {f np : Nat} (hlen : ∀ as, C f as ≠ .stuck → as.length = np) {F A σ H Q F1 A1 H1 ρ1 vals vs} (S1 : Sim X.K Bs F1 A1 σ H1 ρ1) (G1 : Grow F A H F1 A1 H1) (rs : RVs X.K F1 A1 σ vs vals)
    (h1 : KX X Cl W Bs F1 A1 σ H1 (match argsOf ρ1 vals with
      | some as => if (lentOf vals).Nodup then callRes ρ1 vals (C f as) else .stuck
      | none => .stuck) (PV X σ H Q)) : spF X.K Cl (C f) np vs H1 Q (WE W σ) := by
  split at h1
  · rename_i as ea
    split at h1
    · rename_i nd
      exact call_core S1 G1 rs ea nd hlen h1
    · exact h1.elim
  · exact h1.elim
theorem se_call0 {N : List Str} {sc : Scope} {P : Pa} {C : Nat → List (Bool × D) → CRes} (cx : Ctx P Cl C N sc W X) {f : Nat} {x : Str} {p pos : Pos} (hf : P.nm[f]? = some x) (hg : glbOk sc x = true) :
    SE X Cl W Bs (.Call (.Name x p) [] [] pos) fun ρ => (Res.ok (α := List Val) [] ρ).bind fun vs ρ1 => match argsOf ρ1 vs with
      | some as => if (lentOf vs).Nodup then callRes ρ1 vs (C f as) else .stuck
      | none => .stuck := by
  obtain ⟨addr, fd, n, ps, hm, hk, hb, hF, hr, hlen⟩ := cx.calls f x hf
  obtain ⟨g1, g2, g3⟩ := glbOk_of hg
  have hgl : Gl X x := by show X.env.scope.names.lookup x = _; rw [cx.hsc]; exact g1
  intro F A σ H ρ Q S k
  have q : spF X.K Cl (C f) ps.length [] H Q (WE W σ) := call_fin (P := P) hlen (vals := []) S (Grow.refl F A H) .nil k
  exact fun pins s I => wpAny_Call_Name_kw (ld_glob I hgl hm (PySem.W.callWith_K0 I.kIn hk (run_fnS (us := []) hF hr hb (passAt cx.takes σ) I .nil q)) g2)
theorem se_call {N : List Str} {sc : Scope} {P : Pa} {C : Nat → List (Bool × D) → CRes} (cx : Ctx P Cl C N sc W X) {f : Nat} {x : Str} {e : Expr} {xs : List Expr} {p pos : Pos} {fes : Env → Res (List Val)} {es : L} (hf : P.nm[f]? = some x) (hg : glbOk sc x = true) (hl : okL P N sc es (e :: xs) = true) (h : SA X Cl W Bs (e :: xs) fes) :
    SE X Cl W Bs (.Call (.Name x p) (e :: xs) [] pos) fun ρ => (fes ρ).bind fun vs ρ1 => match argsOf ρ1 vs with
      | some as => if (lentOf vs).Nodup then callRes ρ1 vs (C f as) else .stuck
      | none => .stuck := by
  obtain ⟨addr, fd, n, ps, hm, hk, hb, hF, hr, hlen⟩ := cx.calls f x hf
  obtain ⟨g1, g2, g3⟩ := glbOk_of hg
  have hgl : Gl X x := by show X.env.scope.names.lookup x = _; rw [cx.hsc]; exact g1
  intro F A σ H ρ Q S k
  cases es with
  | nil => simp [okL] at hl
  | cons ie es =>
    simp only [okL, Bool.and_eq_true, Bool.not_eq_true'] at hl
    refine w_of (pe_callS hF hr hgl hm hk hb (passAt cx.takes) pa_w g2 (star_cons hl.1.2) (any_plain hl.2)) ?_
    exact h F A σ H ρ _ S (k.bind.imp fun vals ρ1 F1 A1 H1 S1 G1 h1 vs rs => call_fin (P := P) hlen S1 G1 rs h1)
end
end Mi

set_option maxRecDepth 100000
set_option maxHeartbeats 2000000
/-! Mi7: targets, what is walked, comprehensions; every term. -/
namespace Mi
open PySem PySem.Spec PyProof.Rows L2

/-! ### slots -/
theorem getS_put {ρ : Env} {i j : Nat} {s : Option Slot} : getS (ρ.set i s) j = if j = i ∧ i < ρ.length then s else getS ρ j := by
  unfold getS
  by_cases e : j = i
  · subst e
    by_cases hl : j < ρ.length
    · rw [List.getElem?_set_self hl, if_pos ⟨rfl, hl⟩]
      cases s <;> rfl
    · rw [if_neg (fun z => hl z.2), List.getElem?_eq_none (by rw [List.length_set]; omega), List.getElem?_eq_none (by omega)]
  · rw [List.getElem?_set_ne (Ne.symm e), if_neg (fun z => e z.1)]
theorem getS_ge {ρ : Env} {i : Nat} (h : ρ.length ≤ i) : getS ρ i = none := by
  unfold getS
  rw [List.getElem?_eq_none h]
  rfl
section
variable {K : Frag} {Bs : List (Option Addr)} {F H : Hp} {A : Nat → Option Addr} {σ : L2.St} {ρ : Env}
theorem Sim.put (S : Sim K Bs F A σ H ρ) (i : Nat) {o : Option V} {s : Option Slot} (h : SlotR K F H Bs o s none) :
    Sim K Bs F (fun j => if j = i then none else A j) (σ.set i o) H (ρ.set i s) ∧ Grow F A H F (fun j => if j = i then none else A j) H := by
  refine ⟨⟨by rw [List.length_set, List.length_set]; exact S.len, fun j => ?_, S.sub, fun a b q h1 h2 => ?_, S.lnt⟩, ⟨.refl F, fun b o z _ => z, fun b z => z, fun b z w => absurd z w, fun j q z => ?_⟩⟩
  · rw [getS_put]
    by_cases e : j = i
    · subst e
      rw [if_pos rfl]
      by_cases hl : j < ρ.length
      · rw [if_pos ⟨rfl, hl⟩, List.getElem?_set_self (by rw [S.len]; exact hl)]
        exact h
      · rw [if_neg (fun z => hl z.2), getS_ge (by omega)]
        exact rfl
    · rw [if_neg e, if_neg (fun z => e z.1), List.getElem?_set_ne (Ne.symm e)]
      exact S.sl j
  · by_cases z1 : a = i
    · simp only [z1, if_true] at h1; cases h1
    · by_cases z2 : b = i
      · simp only [z2, if_true] at h2; cases h2
      · simp only [z1, z2, if_false] at h1 h2
        exact S.inj a b q h1 h2
  · by_cases z1 : j = i
    · simp only [z1, if_true] at z; cases z
    · simp only [z1, if_false] at z
      exact .inr ⟨j, z⟩
theorem Sim.setI {v : V} {d : D} (S : Sim K Bs F A σ H ρ) (i : Nat) (r : Rep K F v d) :
    Sim K Bs F (fun j => if j = i then none else A j) (σ.set i (some v)) H (setS ρ i (.imm d)) ∧ Grow F A H F (fun j => if j = i then none else A j) H := S.put i (s := some (.imm d)) ⟨rfl, v, rfl, r⟩
theorem wipe_get : ∀ {vs : List Nat} {σ : L2.St} {i : Nat}, (wipe σ vs)[i]? = if i ∈ vs then (σ[i]?).map (fun _ => none) else σ[i]?
  | [], σ, i => by simp [wipe]
  | v :: vs, σ, i => by
    unfold wipe
    by_cases e : i = v
    · subst e
      rw [if_pos (List.mem_cons_self ..)]
      by_cases hl : i < σ.length
      · rw [List.getElem?_set_self (by rw [wipe_length]; exact hl), List.getElem?_eq_getElem hl]
        rfl
      · rw [List.getElem?_eq_none (by rw [List.length_set, wipe_length]; omega), List.getElem?_eq_none (by omega)]
        rfl
    · rw [List.getElem?_set_ne (Ne.symm e), wipe_get]
      by_cases m : i ∈ vs
      · rw [if_pos m, if_pos (List.mem_cons_of_mem _ m)]
      · rw [if_neg m, if_neg (by rw [List.mem_cons]; exact fun z => z.elim e m)]
theorem wipe_same {vs : List Nat} {σ τ : L2.St} (hl : σ.length = τ.length) (h : ∀ i, i ∉ vs → σ[i]? = τ[i]?) : wipe σ vs = wipe τ vs := by
  refine List.ext_getElem? fun i => ?_
  rw [wipe_get, wipe_get]
  by_cases m : i ∈ vs
  · rw [if_pos m, if_pos m]
    by_cases l : i < σ.length
    · rw [List.getElem?_eq_getElem l, List.getElem?_eq_getElem (by omega)]
      rfl
    · rw [List.getElem?_eq_none (by omega), List.getElem?_eq_none (by omega)]
  · rw [if_neg m, if_neg m]
    exact h i m
theorem backS_length {ρ0 ρ : Env} : ∀ {vs : List Nat}, (backS ρ0 ρ vs).length = ρ.length
  | [] => rfl
  | v :: vs => by
    unfold backS
    rw [List.length_set]
    exact backS_length
theorem getS_backS {ρ0 ρ : Env} (hl : ρ0.length = ρ.length) : ∀ {vs : List Nat} {i : Nat}, getS (backS ρ0 ρ vs) i = if i ∈ vs then getS ρ0 i else getS ρ i
  | [], i => by simp [backS]
  | v :: vs, i => by
    unfold backS
    rw [getS_put, backS_length, getS_backS hl]
    by_cases e : i = v
    · subst e
      rw [if_pos (List.mem_cons_self ..)]
      by_cases h : i < ρ.length
      · rw [if_pos ⟨rfl, h⟩]
        rfl
      · rw [if_neg (fun z => h z.2), getS_ge (ρ := ρ) (by omega), getS_ge (ρ := ρ0) (by omega)]
        simp
    · rw [if_neg (fun z => e z.1)]
      by_cases m : i ∈ vs
      · rw [if_pos m, if_pos (List.mem_cons_of_mem _ m)]
      · rw [if_neg m, if_neg (by rw [List.mem_cons]; exact fun z => z.elim e m)]
/-- names forgotten -/
theorem Sim.wiped (S : Sim K Bs F A σ H ρ) : ∀ (own : List Nat), ∃ A', Sim K Bs F A' (wipe σ own) H (wipeS ρ own) ∧ Grow F A H F A' H ∧ ∀ j p, A' j = some p → j ∉ own ∧ A j = some p
  | [] => ⟨A, S, Grow.refl _ _ _, fun j p h => ⟨by simp, h⟩⟩
  | v :: own => by
    obtain ⟨A', S', G', hA⟩ := S.wiped own
    obtain ⟨S2, G2⟩ := S'.put v (o := none) (s := none) rfl
    refine ⟨_, S2, G'.trans G2, fun j p h => ?_⟩
    by_cases e : j = v
    · simp only [e, if_true] at h; cases h
    · simp only [e, if_false] at h
      obtain ⟨h1, h2⟩ := hA j p h
      exact ⟨by rw [List.mem_cons]; exact fun z => z.elim e h1, h2⟩
/-- .. and come back -/
theorem Sim.back {F' H' : Hp} {A0 A' : Nat → Option Addr} {ρ' : Env} {own : List Nat} (S : Sim K Bs F A σ H ρ) (hA : ∀ j p, A0 j = some p → j ∉ own ∧ A j = some p) (S' : Sim K Bs F' A' (wipe σ own) H' ρ') (G : Grow F A0 H F' A' H') :
    Sim K Bs F' (fun j => if j ∈ own then A j else A' j) σ H' (backS ρ ρ' own) ∧ Grow F A H F' (fun j => if j ∈ own then A j else A' j) H' := by
  have hl : ρ.length = ρ'.length := by rw [← S.len, ← S'.len, wipe_length]
  have nA : ∀ i p, i ∈ own → A i = some p → ∀ j, A0 j ≠ some p := fun i p m h j z => by
    obtain ⟨h1, h2⟩ := hA j p z
    exact h1 (by rw [S.inj j i p h2 h]; exact m)
  refine ⟨⟨by rw [backS_length, ← hl]; exact S.len, fun i => ?_, S'.sub, fun i j p h1 h2 => ?_, S'.lnt⟩, ⟨G.fs, fun b o z n => G.keep b o z fun i w => n i (hA i b w).2, G.dom, fun b z w => ?_, fun i p h => ?_⟩⟩
  · rw [getS_backS hl]
    by_cases m : i ∈ own
    · rw [if_pos m, if_pos m]
      refine (S.sl i).mono G.fs fun p h => ⟨fun o z => G.keep p o z (nA i p m h), Decidable.byContradiction fun w => ?_⟩
      rcases G.fn p (S.ownA h).2.1 w with z | ⟨j, z⟩
      · exact (S.ownA h).1 z
      · exact nA i p m h j z
    · rw [if_neg m, if_neg m]
      have q := S'.sl i
      rw [wipe_get, if_neg m] at q
      exact q
  · have key : ∀ i j, i ∈ own → j ∉ own → A i = some p → A' j = some p → False := fun i j mi mj h1 h2 => by
      rcases G.an j p h2 with z | ⟨k, z⟩
      · exact (S.ownA h1).1 z
      · exact nA i p mi h1 k z
    by_cases mi : i ∈ own
    · by_cases mj : j ∈ own
      · simp only [mi, mj, if_true] at h1 h2
        exact S.inj i j p h1 h2
      · simp only [mi, mj, if_true, if_false] at h1 h2
        exact (key i j mi mj h1 h2).elim
    · by_cases mj : j ∈ own
      · simp only [mi, mj, if_true, if_false] at h1 h2
        exact (key j i mj mi h2 h1).elim
      · simp only [mi, mj, if_false] at h1 h2
        exact S'.inj i j p h1 h2
  · rcases G.fn b z w with q | ⟨i, q⟩
    · exact .inl q
    · exact .inr ⟨i, (hA i b q).2⟩
  · by_cases m : i ∈ own
    · simp only [m, if_true] at h
      exact .inr ⟨i, h⟩
    · simp only [m, if_false] at h
      rcases G.an i p h with q | ⟨j, q⟩
      · exact .inl q
      · exact .inr ⟨j, (hA j p q).2⟩
/-- an object that no name holds is changed -/
theorem Sim.putD {p : Addr} {o : HO} (S : Sim K Bs F A σ H ρ) (hA : ∀ i, A i ≠ some p) (hF : F p = none) : Sim K Bs F A σ (upd H p o) ρ := by
  refine ⟨S.len, fun i => (S.sl i).mono (.refl F) fun q h => ⟨fun u hu => ?_, (S.ownA h).2.1⟩, S.sub.put hF, S.inj, fun q hq z => ?_⟩
  · rw [upd_ne (fun e => hA i (by rw [h, e]))]
    exact hu
  · by_cases w : q = p
    · subst w; rw [upd_same] at z; cases z
    · rw [upd_ne w] at z; exact S.lnt q hq z
theorem Grow.putD {F' H' : Hp} {A' : Nat → Option Addr} {p : Addr} {o : HO} (G : Grow F A H F' A' H') (h : H p = none) : Grow F A H F' A' (upd H' p o) := by
  refine ⟨G.fs, fun b u hb hn => ?_, fun b hb z => ?_, G.fn, G.an⟩
  · rw [upd_ne (fun e => by rw [e, h] at hb; cases hb)]
    exact G.keep b u hb hn
  · by_cases w : b = p
    · subst w; rw [upd_same] at z; cases z
    · rw [upd_ne w] at z; exact G.dom b hb z
end

/-! ### targets -/
def gAll : List Nat → TGs
  | [] => gNil
  | i :: is => gCons (gName i) (gAll is)
def gOf (K : Frag) : Tg → TG
  | .nm i => gName i
  | .fl is => gTup K is.length (gAll is)
section
variable {X : Cx} {N : List Str} {sc : Scope} {fnb : Str → Bool}
theorem locOk_of {i : Nat} {x : Str} (h : locOk N sc fnb i x = true) : N[i]? = some x ∧ Loc sc x ∧ (fnb x = true ∨ sc.names.lookup x = some .local) := by
  unfold locOk at h
  rw [Bool.and_eq_true, decide_eq_true_eq] at h
  obtain ⟨h1, h2⟩ := h
  refine ⟨h1, ?_⟩
  split at h2
  · rename_i e
    exact ⟨.inl e, .inr e⟩
  · rename_i e
    exact ⟨.inr e, .inl h2⟩
  · cases h2
theorem assign_len {X : Cx} : ∀ {is : List Nat} {es : List Expr}, okNms N sc fnb is es = true → (assignEach es X.env).length = is.length ∧ (assignEach es X.env).findIdx? (·.1) = none
  | [], [], _ => ⟨rfl, rfl⟩
  | [], _ :: _, h => by simp [okNms] at h
  | _ :: _, [], h => by simp [okNms] at h
  | i :: is, e :: es, h => by
    cases e with
    | Name x p =>
      simp only [okNms, Bool.and_eq_true] at h
      obtain ⟨h1, h2⟩ := assign_len (X := X) h.2
      have e : assignEach (.Name x p :: es) X.env = (false, assign (.Name x p) X.env) :: assignEach es X.env := rfl
      rw [e]
      refine ⟨by rw [List.length_cons, List.length_cons, h1], ?_⟩
      rw [List.findIdx?_cons, h2]
      rfl
    | _ => simp [okNms] at h
theorem pgs_all (hN : X.N = N) (nd : N.Nodup) (hsc : X.env.scope = sc) (hfn : X.fn = fnb) : ∀ {is : List Nat} {es : List Expr}, okNms N sc fnb is es = true → PGs X es (gAll is)
  | [], [], _ => pgs_nil
  | [], _ :: _, h => by simp [okNms] at h
  | _ :: _, [], h => by simp [okNms] at h
  | i :: is, e :: es, h => by
    cases e with
    | Name x p =>
      simp only [okNms, Bool.and_eq_true] at h
      obtain ⟨h1, h2, h3⟩ := locOk_of h.1
      exact pgs_cons (pg_name (by rw [hN]; exact nd) (by rw [hN]; exact h1) (by rw [hsc]; exact h2) (by rw [hfn, hsc]; exact h3)) (pgs_all hN nd hsc hfn h.2) rfl
    | _ => simp [okNms] at h
theorem pg_of (hc : X.calm = true) (hN : X.N = N) (nd : N.Nodup) (hsc : X.env.scope = sc) (hfn : X.fn = fnb) {tg : Tg} {e : Expr} (h : okTg N sc fnb tg e = true) : PG X e (gOf X.K tg) := by
  unfold okTg at h
  split at h
  · obtain ⟨h1, h2, h3⟩ := locOk_of h
    exact pg_name (by rw [hN]; exact nd) (by rw [hN]; exact h1) (by rw [hsc]; exact h2) (by rw [hfn, hsc]; exact h3)
  · obtain ⟨h1, h2⟩ := assign_len (X := X) h
    exact pg_tup hc (pgs_all hN nd hsc hfn h) h1 h2
  · cases h
end
section
variable {K : Frag} {Bs : List (Option Addr)}
theorem gAll_ok {F H : Hp} {post : L2.St → Hp → Prop} : ∀ {is : List Nat} {ds : List D} {vs : List V} {A : Nat → Option Addr} {σ : L2.St} {ρ ρ2 : Env}, Sim K Bs F A σ H ρ → Reps K F vs ds → setAll ρ is ds = some ρ2 →
    (∀ σ' A', Sim K Bs F A' σ' H ρ2 → Grow F A H F A' H → σ'.length = σ.length → (∀ i, i ∉ is → σ'[i]? = σ[i]?) → post σ' H) → gAll is vs σ H post
  | [], ds, vs, A, σ, ρ, ρ2, S, r, e, k => by
    cases ds with
    | nil =>
      cases r
      simp only [setAll, Option.some.injEq] at e
      subst e
      exact ⟨rfl, k σ A S (Grow.refl _ _ _) rfl fun _ _ => rfl⟩
    | cons _ _ => simp [setAll] at e
  | i :: is, ds, vs, A, σ, ρ, ρ2, S, r, e, k => by
    cases r with
    | nil => simp [setAll] at e
    | cons r rs =>
      simp only [setAll] at e
      obtain ⟨S1, G1⟩ := S.setI i r
      refine ⟨_, _, rfl, gAll_ok S1 rs e fun σ' A' S' G' hl hn => k σ' A' S' (G1.trans G') (by rw [hl, List.length_set]) fun j hj => ?_⟩
      rw [List.mem_cons, not_or] at hj
      rw [hn j hj.2, List.getElem?_set_ne (fun z => hj.1 z.symm)]
theorem gOf_ok {F H : Hp} {post : L2.St → Hp → Prop} {tg : Tg} {d : D} {v : V} {A : Nat → Option Addr} {σ : L2.St} {ρ ρ2 : Env} (S : Sim K Bs F A σ H ρ) (r : Rep K F v d) (e : tgSet ρ tg d = some ρ2)
    (k : ∀ σ' A', Sim K Bs F A' σ' H ρ2 → Grow F A H F A' H → σ'.length = σ.length → (∀ i, i ∉ tgIx tg → σ'[i]? = σ[i]?) → post σ' H) : gOf K tg v σ H post := by
  cases tg with
  | nm i =>
    simp only [tgSet, Option.some.injEq] at e
    subst e
    obtain ⟨S1, G1⟩ := S.setI i r
    refine k _ _ S1 G1 (by rw [List.length_set]) fun j hj => ?_
    rw [List.getElem?_set_ne (fun z => hj (by rw [z]; exact List.mem_cons_self ..))]
  | fl is =>
    cases r with
    | tup h rs =>
      rename_i a vs ds
      simp only [tgSet] at e
      have hl : ∀ {is : List Nat} {ds : List D} {ρ : Env}, setAll ρ is ds = some ρ2 → ds.length = is.length := by
        intro is
        induction is with
        | nil =>
          intro ds ρ e
          cases ds with
          | nil => rfl
          | cons _ _ => simp [setAll] at e
        | cons i is ih =>
          intro ds ρ e
          cases ds with
          | nil => simp [setAll] at e
          | cons d ds =>
            simp only [setAll] at e
            exact congrArg Nat.succ (ih e)
      exact ⟨a, vs, rfl, S.sub.t (.of h), by rw [rs.length]; exact hl e, gAll_ok S rs e k⟩
    | _ => simp [tgSet] at e
end

/-! ### what is walked -/
section
variable {X : Cx} {tg : Expr} {pins : List (Addr × Obj)} {σ : L2.St} {H : Hp} {s : Shared} {R : It → Hp → Prop}
theorem it_lst {a : Addr} {xs : List V} (I : L2.Inv X pins σ H s) (hq : SqL X.K H a xs) (q : R (Itl X.K a) H) : wpAny (model X.prog X.w) X.A (pyIter (.ref a)) (PIE X pins σ tg R) X.xe s := by
  obtain ⟨its, rv, p, hz⟩ := I.list hq
  refine wpAny_pyIter_list p.isList ?_
  refine ⟨s.heap.objs.size, [s.heap.objs.size], _, _, H, rfl, I.kept (t' := s.toks) fun b o e => Heap.get?_push_of_some _ e, turn_list a _, ⟨_, Heap.get?_push_size _ rfl, rfl, rfl⟩, fun b hb => ?_, q⟩
  have e : b = s.heap.objs.size := by simpa using hb
  subst e
  exact I.fpOk (Nat.le_refl _) (I.hok.fresh (Nat.le_refl _))
theorem it_tup {a : Addr} {xs : List V} (I : L2.Inv X pins σ H s) (hq : SqT X.K H a xs) (q : R (Itt X.K a) H) : wpAny (model X.prog X.w) X.A (pyIter (.ref a)) (PIE X pins σ tg R) X.xe s := by
  obtain ⟨its, rv, p, hz⟩ := I.tuple hq
  refine wpAny_pyIter_tuple (show s.heap.IsTuple a its.toArray from p) ?_
  refine ⟨s.heap.objs.size, [s.heap.objs.size], _, _, H, rfl, I.kept (t' := s.toks) fun b o e => Heap.get?_push_of_some _ e, turn_tuple a _, ⟨_, Heap.get?_push_size _ rfl, rfl, rfl⟩, fun b hb => ?_, q⟩
  have e : b = s.heap.objs.size := by simpa using hb
  subst e
  exact I.fpOk (Nat.le_refl _) (I.hok.fresh (Nat.le_refl _))
theorem it_str {x : Str} {t : Tok} (I : L2.Inv X pins σ H s) (q : R (Its x) H) : wpAny (model X.prog X.w) X.A (pyIter (.str x t)) (PIE X pins σ tg R) X.xe s := by
  cases ha : x.cps.all (· < 128)
  · exact wpAny_pyIter_wide ha (pi_one (tk := s.toks) I _ (turn_str _ x t "str_iterator" (.inr rfl)) ⟨_, Heap.get?_push_size _ rfl, rfl, rfl⟩ q)
  · exact wpAny_pyIter_ascii ha (pi_one (tk := s.toks) I _ (turn_str _ x t "str_ascii_iterator" (.inl rfl)) ⟨_, Heap.get?_push_size _ rfl, rfl, rfl⟩ q)
end
section
variable {X : Cx} {Cl : Nat → Value × List Str} {W : WX} {Bs : List (Option Addr)}
theorem itemsSeq {K : Frag} {F H : Hp} {v : V} {d : D} {xs : List D} (r : Rep K F v d) (s : Sub F H) (e : itemsOf .seq [d] = some xs) {R : It → Hp → Prop} (k : ∀ J, JW K F J xs → R J H) :
    (∃ a vs, v = .ref a ∧ SqL K H a vs ∧ R (Itl K a) H) ∨ (∃ a vs, v = .ref a ∧ SqT K H a vs ∧ R (Itt K a) H) ∨ ∃ x, v = .str x ∧ R (Its x) H := by
  cases r with
  | lst h rs =>
    simp only [itemsOf, Option.some.injEq] at e
    subst e
    have h' := SqL.of (K := K) h
    exact .inl ⟨_, _, rfl, s.l h', k _ (Rep.itl h' rs)⟩
  | ro h rs =>
    simp only [itemsOf, Option.some.injEq] at e
    subst e
    exact .inl ⟨_, _, rfl, s.l h, k _ (Rep.itl h rs)⟩
  | tup h rs =>
    simp only [itemsOf, Option.some.injEq] at e
    subst e
    exact .inr (.inl ⟨_, _, rfl, s.t (.of h), k _ (Rep.itt (.of h) rs)⟩)
  | str t h =>
    simp only [itemsOf, Option.some.injEq] at e
    subst e
    exact .inr (.inr ⟨_, rfl, k _ (its_jw h)⟩)
  | _ => simp [itemsOf] at e
/-- what an iterable's run is to reach -/
abbrev PJ (X : Cx) (k : ItK) (R : It → Hp → Prop) : List Val → Env → Hp → (Nat → Option Addr) → Hp → Prop := fun vals _ F1 _ H1 => ∃ ds xs, imms vals = some ds ∧ itemsOf k ds = some xs ∧ ∀ J, JW X.K F1 J xs → R J H1
theorem wi_seq {tg e : Expr} {fe : Env → Res Val} (h : SE X Cl W Bs e fe) {F A σ H ρ R} (S : Sim X.K Bs F A σ H ρ)
    (k : KX X Cl W Bs F A σ H ((fe ρ).bind fun v ρ1 => (Res.ok (α := List Val) [] ρ1).bind fun vs ρ2 => .ok (frz v :: vs) ρ2) (PJ X .seq R)) : wI X tg e σ H R := by
  have q : wE X e σ H fun v H1 => (∃ a vs, v = .ref a ∧ SqL X.K H1 a vs ∧ R (Itl X.K a) H1) ∨ (∃ a vs, v = .ref a ∧ SqT X.K H1 a vs ∧ R (Itt X.K a) H1) ∨ ∃ x, v = .str x ∧ R (Its x) H1 := by
    refine h F A σ H ρ _ S (k.bindF.imp fun val ρ1 F1 A1 H1 S1 G1 h1 v rv => ?_)
    have go : ∀ F1' d, Sim X.K Bs F1' A1 σ H1 ρ1 → Grow F A H F1' A1 H1 → frz val = .imm d → Rep X.K F1' v d → (∃ a vs, v = .ref a ∧ SqL X.K H1 a vs ∧ R (Itl X.K a) H1) ∨ (∃ a vs, v = .ref a ∧ SqT X.K H1 a vs ∧ R (Itt X.K a) H1) ∨ ∃ x, v = .str x ∧ R (Its x) H1 := by
      intro F1' d S1' G1' ev r
      have h2 : KX X Cl W Bs F1' A1 σ H1 (.ok [frz val] ρ1) (PJ X .seq R) := h1 F1' S1' G1'
      obtain ⟨ds, xs, e1, e2, k2⟩ := h2.now S1'
      rw [ev] at e1
      cases e1
      exact itemsSeq r S1'.sub e2 k2
    cases val with
    | imm d => exact go F1 d S1 G1 rfl rv
    | brw i =>
      have h2 : KX X Cl W Bs F1 A1 σ H1 (.ok [.brw i] ρ1) (PJ X .seq R) := h1 F1 S1 G1
      obtain ⟨ds, xs, e1, e2, k2⟩ := h2.now S1
      cases e1
    | tmp d =>
      obtain ⟨p, rfl, o, hf, na, n0⟩ := rv
      obtain ⟨F', s1, s2, e, r'⟩ := o.freeze hf S1.sub
      obtain ⟨S1', G1'⟩ := S1.freezeT G1 s1 s2 e na n0
      exact go F' d S1' G1' rfl r'
  intro pins s I
  refine thn (q pins s I) fun u s1 ⟨v, H1, I1, r1, q1⟩ => ?_
  rcases q1 with ⟨a, vs, rfl, hq, q⟩ | ⟨a, vs, rfl, hq, q⟩ | ⟨x, rfl, q⟩
  · cases r1
    exact it_lst I1 hq q
  · cases r1
    exact it_tup I1 hq q
  · obtain ⟨t, rfl⟩ := r1
    exact it_str I1 q
theorem ints1 {K : Frag} {F : Hp} {vs : List V} {n : Int} (r : Reps K F vs [.int n]) : vs = [.int n] := by
  cases r with
  | cons r rr =>
    cases rr
    cases r
    rfl
theorem ints2 {K : Frag} {F : Hp} {vs : List V} {n m : Int} (r : Reps K F vs [.int n, .int m]) : vs = [.int n, .int m] := by
  cases r with
  | cons r rr =>
    cases r
    rw [ints1 rr]
theorem B62_eq : B62 = 2 ^ 62 := by decide
theorem okL_star {P : Pa} {N : List Str} {sc : Scope} {env : PySem.Env} : ∀ {es : L} {xs : List Expr}, okL P N sc es xs = true → starEach xs env = xs.map fun x => (false, eval x env)
  | .nil, [], _ => rfl
  | .nil, _ :: _, h => by simp [okL] at h
  | .cons _ _, [], h => by simp [okL] at h
  | .cons e es, x :: xs, h => by
    simp only [okL, Bool.and_eq_true, Bool.not_eq_true'] at h
    rw [star_cons h.1.2, okL_star h.2]
    rfl
theorem okL_tail {P : Pa} {N : List Str} {sc : Scope} {es : L} {x : Expr} {xs : List Expr} (h : okL P N sc es (x :: xs) = true) : ∃ es', okL P N sc es' xs = true := by
  cases es with
  | nil => simp [okL] at h
  | cons e es =>
    simp only [okL, Bool.and_eq_true, Bool.not_eq_true'] at h
    exact ⟨es, h.2⟩
def L.len : L → Nat
  | .nil => 0
  | .cons _ es => es.len + 1
theorem okL_len {P : Pa} {N : List Str} {sc : Scope} : ∀ {es : L} {xs : List Expr}, okL P N sc es xs = true → es.len = xs.length
  | .nil, [], _ => rfl
  | .nil, _ :: _, h => by simp [okL] at h
  | .cons _ _, [], h => by simp [okL] at h
  | .cons e es, x :: xs, h => by
    simp only [okL, Bool.and_eq_true, Bool.not_eq_true'] at h
    exact congrArg Nat.succ (okL_len h.2)
theorem evs_len {C : Nat → List (Bool × D) → CRes} : ∀ {es : L} {ρ ρ' : Env} {vals : List Val}, evs C es ρ = .ok vals ρ' → vals.length = es.len
  | .nil, ρ, ρ', vals, h => by
    simp only [evs, Res.ok.injEq] at h
    rw [← h.1]; rfl
  | .cons e es, ρ, ρ', vals, h => by
    simp only [evs] at h
    cases e1 : ev C false e ρ with
    | ok v ρ1 =>
      rw [e1] at h
      have h' : ((evs C es ρ1).bind fun vs ρ2 => .ok (frz v :: vs) ρ2) = .ok vals ρ' := h
      cases e2 : evs C es ρ1 with
      | ok vs ρ2 =>
        rw [e2] at h'
        cases h'
        exact congrArg Nat.succ (evs_len e2)
      | exn x ρ2 => rw [e2] at h'; cases h'
      | stuck => rw [e2] at h'; cases h'
    | exn x ρ1 => rw [e1] at h; cases h
    | stuck => rw [e1] at h; cases h
theorem KX.evs_len {C : Nat → List (Bool × D) → CRes} {es : L} {F A σ H ρ} {Pp : List Val → Env → Hp → (Nat → Option Addr) → Hp → Prop} (h : KX X Cl W Bs F A σ H (evs C es ρ) Pp) : KX X Cl W Bs F A σ H (evs C es ρ) fun vals ρ' F' A' H' => vals.length = es.len ∧ Pp vals ρ' F' A' H' := by
  cases e : evs C es ρ with
  | ok vals ρ1 =>
    rw [e] at h
    exact fun F' A' H' S G => ⟨Mi.evs_len e, h F' A' H' S G⟩
  | exn x ρ1 => rw [e] at h; exact h
  | stuck => rw [e] at h; exact h
theorem imms_len : ∀ {vals : List Val} {ds : List D}, imms vals = some ds → ds.length = vals.length
  | [], ds, h => by
    simp only [imms, Option.some.injEq] at h
    subst h
    rfl
  | .imm d :: vs, ds, h => by
    simp only [imms, Option.map_eq_some_iff] at h
    obtain ⟨ds', h1, rfl⟩ := h
    exact congrArg Nat.succ (imms_len h1)
  | .tmp _ :: _, _, h => by simp [imms] at h
  | .brw _ :: _, _, h => by simp [imms] at h
/-- an iterable -/
theorem wi_ok {N : List Str} {sc : Scope} {P : Pa} {C : Nat → List (Bool × D) → CRes} (cx : Ctx P Cl C N sc W X) {k : ItK} {tg iter : Expr} {xs : List Expr} {es : L} (hi : itArgs P sc k tg iter = some xs) (hl : okL P N sc es xs = true) (h : SA X Cl W Bs xs (evs C es))
    (h1 : ∀ x e, xs = [x] → es = .cons e .nil → SE X Cl W Bs x (ev C false e)) {F A σ H ρ R} (S : Sim X.K Bs F A σ H ρ) (kk : KX X Cl W Bs F A σ H (evs C es ρ) (PJ X k R)) : wI X tg iter σ H R ∧ isSet iter = false := by
  have hgl : ∀ y, bltOk P sc y = true → Gl X y ∧ X.mg y = none := fun y hy => by
    obtain ⟨q1, q2⟩ := bltOk_of hy
    exact ⟨by show X.env.scope.names.lookup y = _; rw [cx.hsc]; exact (glbOk_of q1).1, cx.blt y q2⟩
  have st := okL_star (env := X.env) hl
  unfold itArgs at hi
  split at hi
  · split at hi
    · cases hi
    · rename_i hs
      cases hi
      refine ⟨?_, by simpa using hs⟩
      cases es with
      | nil => simp [okL] at hl
      | cons e es =>
        cases es with
        | cons _ _ => simp [okL] at hl
        | nil => exact wi_seq (h1 _ e rfl rfl) S kk
  · split at hi
    · rename_i hb
      obtain ⟨rfl, hb⟩ := hb
      cases hi
      obtain ⟨g1, g2⟩ := hgl _ hb
      refine ⟨wi_of (pi_range1 g1 g2 pa_w st) (h F A σ H ρ _ S (kk.evs_len.imp fun vals ρ1 F1 A1 H1 S1 G1 q vs rs => ?_)), rfl⟩
      obtain ⟨el, ds, ys, e1, e2, k2⟩ := q
      have el2 := imms_len e1
      rw [el, okL_len hl] at el2
      have r := rs.imms e1
      simp only [itemsOf] at e2
      split at e2
      · split at e2
        · rename_i n hn
          cases e2
          have q := k2 _ (itr_jw 0 n)
          rw [Int.sub_zero] at q
          have hn := inR_of hn
          rw [B62_eq] at hn
          exact ⟨n, ints1 r, hn.1, hn.2, q⟩
        · cases e2
      · cases el2
      · cases e2
    · cases hi
  · split at hi
    · rename_i hb
      obtain ⟨rfl, hb⟩ := hb
      cases hi
      obtain ⟨g1, g2⟩ := hgl _ hb
      obtain ⟨es', hl'⟩ := okL_tail hl
      refine ⟨wi_of (pi_range2 g1 g2 pa_w st (okL_star hl')) (h F A σ H ρ _ S (kk.evs_len.imp fun vals ρ1 F1 A1 H1 S1 G1 q vs rs => ?_)), rfl⟩
      obtain ⟨el, ds, ys, e1, e2, k2⟩ := q
      have el2 := imms_len e1
      rw [el, okL_len hl] at el2
      have r := rs.imms e1
      simp only [itemsOf] at e2
      split at e2
      · cases el2
      · split at e2
        · rename_i n m hn
          cases e2
          rw [Bool.and_eq_true] at hn
          have hn1 := inR_of hn.1
          have hn2 := inR_of hn.2
          rw [B62_eq] at hn1 hn2
          exact ⟨n, m, ints2 r, ⟨hn1.1, hn1.2, hn2.1, hn2.2⟩, k2 _ (itr_jw n m)⟩
        · cases e2
      · cases e2
    · cases hi
  · split at hi
    · rename_i hb
      obtain ⟨rfl, hb, ht⟩ := hb
      cases hi
      obtain ⟨g1, g2⟩ := hgl _ hb
      obtain ⟨es', hl'⟩ := okL_tail hl
      unfold isTupE at ht
      split at ht
      · refine ⟨wi_of (RZ.pi_zipA g1 g2 pa_w (by rw [st, okL_star hl']; rfl) (any_plain hl')) (h F A σ H ρ _ S (kk.imp fun vals ρ1 F1 A1 H1 S1 G1 q vs rs => ?_)), rfl⟩
        obtain ⟨ds, ys, e1, e2, k2⟩ := q
        have r := rs.imms e1
        simp only [itemsOf] at e2
        split at e2
        · cases e2
          cases r with
          | cons r1 r =>
            cases r with
            | cons r2 r =>
              cases r
              cases r1 with
              | lst q1 q2 =>
                cases r2 with
                | lst q3 q4 =>
                  have q1 := SqL.of (K := X.K) q1
                  have q3 := SqL.of (K := X.K) q3
                  exact ⟨_, _, _, _, rfl, .inl ⟨S1.sub.l q1, S1.sub.l q3, k2 _ (itz_jw q1 q2 q3 q4)⟩⟩
        · cases e2
          cases r with
          | cons r1 r =>
            cases r with
            | cons r2 r =>
              cases r
              cases r1 with
              | tup q1 q2 =>
                cases r2 with
                | tup q3 q4 => exact ⟨_, _, _, _, rfl, .inr ⟨S1.sub.t (.of q1), S1.sub.t (.of q3), k2 _ (itzT_jw (.of q1) q2 (.of q3) q4)⟩⟩
        · cases e2
      · cases ht
    · cases hi
  · split at hi
    · rename_i hb
      obtain ⟨rfl, hb, ht⟩ := hb
      cases hi
      obtain ⟨g1, g2⟩ := hgl _ hb
      unfold isTupE at ht
      split at ht
      · refine ⟨wi_of (pi_enum g1 g2 pa_w st) (h F A σ H ρ _ S (kk.imp fun vals ρ1 F1 A1 H1 S1 G1 q vs rs => ?_)), rfl⟩
        obtain ⟨ds, ys, e1, e2, k2⟩ := q
        have r := rs.imms e1
        simp only [itemsOf] at e2
        split at e2
        · cases e2
          cases r with
          | cons r1 r =>
            cases r
            cases r1 with
            | lst q1 q2 =>
              have q1 := SqL.of (K := X.K) q1
              exact ⟨_, _, rfl, S1.sub.l q1, k2 _ (ite_jw q1 q2)⟩
        · cases e2
      · cases ht
    · cases hi
  · cases hi

/-! ### comprehensions -/
def WF : WX := fun _ _ _ _ => False
theorem ctx_blk {N : List Str} {sc : Scope} {P : Pa} {C : Nat → List (Bool × D) → CRes} (cx : Ctx P Cl C N sc W X) (scope : Scope) (s : Shared) (H : Hp) (C0 : Addr) (cl : List (Str × Addr)) (fp : List Addr) :
    Ctx P Cl C N (relS scope sc) WF (X.blk s H scope (compEnvC scope cl C0 X.env) fp) := by
  refine ⟨cx.hN, cx.nd, ?_, cx.calm, cx.units, PassesOwn.never, fun u s' h => ?_, cx.calls, cx.blt, cx.gcd⟩
  · rw [← cx.hsc]; rfl
  · obtain ⟨_, _, _, _, _, _, _, _, _, _, _, _, _, _, _, _, w⟩ := h
    exact w.elim
/-- a clause's tests: their run, and the text -/
inductive Tests (X : Cx) (Cl : Nat → Value × List Str) (Bs : List (Option Addr)) (scope : Scope) : List Expr → (Env → Res Bool) → Prop
  | none : Tests X Cl Bs scope [] fun ρ => .ok true ρ
  | one {c : Expr} {fe : Env → Res Val} : (∀ s H C0 cl fp, ST (X.blk s H scope (compEnvC scope cl C0 X.env) fp) Cl WF Bs c fe) → Tests X Cl Bs scope [c] fun ρ => ((fe ρ).bind kOf).bind fun k ρ1 => if k then .ok true ρ1 else .ok false ρ1
theorem Tests.ok {scope : Scope} {ifs : List Expr} {fc : Env → Res Bool} (t : Tests X Cl Bs scope ifs fc) : ∃ tt : TT, (∀ s H C0 cl fp, PTs (X.blk s H scope (compEnvC scope cl C0 X.env) fp) ifs tt) ∧
    ∀ F A σ H ρ Q b ρ', Sim X.K Bs F A σ H ρ → fc ρ = .ok b ρ' → (∀ F' A' H', Sim X.K Bs F' A' σ H' ρ' → Grow F A H F' A' H' → Q b H') → tt σ H Q := by
  cases t with
  | none =>
    refine ⟨tYes, fun _ _ _ _ _ => pts_nil, fun F A σ H ρ Q b ρ' S e k => ?_⟩
    cases e
    exact k F A H S (Grow.refl _ _ _)
  | @one c fe h =>
    refine ⟨fun σ H Q => ∀ s H0 C0 cl fp, wT (X.blk s H0 scope (compEnvC scope cl C0 X.env) fp) c σ H Q, fun s H0 C0 cl fp => pts_one ⟨fun pins s1 σ H Q I q => q s H0 C0 cl fp pins s1 I⟩, fun F A σ H ρ Q b ρ' S e k s H0 C0 cl fp => ?_⟩
    refine h s H0 C0 cl fp F A σ H ρ Q S ?_
    dsimp only at e
    cases e1 : fe ρ with
    | ok val ρ1 =>
      rw [e1] at e
      intro F' A' H' S' G' b' eb
      subst eb
      have e' : (if b' then Res.ok true ρ1 else .ok false ρ1) = .ok b ρ' := e
      cases b' with
      | true => cases e'; exact k F' A' H' S' G'
      | false => cases e'; exact k F' A' H' S' G'
    | exn x ρ1 => rw [e1] at e; cases e
    | stuck => rw [e1] at e; cases e
/-- one turn -/
def fTurn (own : List Nat) (tg : Tg) (fc : Env → Res Bool) (fe : Env → Res Val) : D → Env → Res (Option D) := fun x ρ' => match tgSet ρ' tg x with
  | some ρ2 => (fc ρ2).bind fun k ρ3 => if k then (fe ρ3).bind fun v ρ4 => (match v with | .imm d => .ok (some d) (wipeS ρ4 own) | .tmp d => .ok (some d) (wipeS ρ4 own) | .brw _ => .stuck) else .ok none (wipeS ρ3 own)
  | none => .stuck
/-- where a comprehension stands -/
def LcI (X : Cx) (Bs : List (Option Addr)) (own : List Nat) (f : D → Env → Res (Option D)) (xs : List D) (accE : List D) (ρE : Env) (D0 : Addr) (F1 : Hp) (A0 : Nat → Option Addr) (σ : L2.St) (H1 : Hp) (i : Nat) (H' : Hp) : Prop :=
  ∃ F' A' ρ' acc, Sim X.K Bs F' A' (wipe σ own) H' ρ' ∧ Grow F1 A0 H1 F' A' H' ∧ RV X.K F' A' σ H' H1 (.ref D0) (.tmp (.lst acc)) ∧ loopC f (xs.drop i) acc ρ' = .ok accE ρE
theorem RV.any {K : Frag} {F H H0 : Hp} {A : Nat → Option Addr} {σ τ : L2.St} {v : V} {d : D} (h : RV K F A σ H H0 v (.tmp d)) : RV K F A τ H H0 v (.tmp d) := h
theorem LIM_lt {n m : Nat} (h : n < LIM) (e : m = n) : m < sizeLine := by rw [e, ← LIM_eq]; exact h
/-- a name's slot is put back: the step's end -/
theorem lc_end {own : List Nat} {f : D → Env → Res (Option D)} {xs accE : List D} {ρE : Env} {D0 : Addr} {F1 : Hp} {A0 : Nat → Option Addr} {σ : L2.St} {H1 : Hp} {i : Nat} {F4 : Hp} {A4 : Nat → Option Addr} {σ4 : L2.St} {H4 : Hp} {ρ4 : Env} {acc : List D}
    (S : Sim X.K Bs F4 A4 σ4 H4 ρ4) (G : Grow F1 A0 H1 F4 A4 H4) (r : RV X.K F4 A4 σ H4 H1 (.ref D0) (.tmp (.lst acc))) (hw : wipe σ4 own = wipe σ own) (e : loopC f (xs.drop (i + 1)) acc (wipeS ρ4 own) = .ok accE ρE) : LcI X Bs own f xs accE ρE D0 F1 A0 σ H1 (i + 1) H4 := by
  obtain ⟨A5, S5, G5, _⟩ := S.wiped own
  rw [hw] at S5
  exact ⟨F4, A5, _, acc, S5, G.trans G5, r.keep G5, e⟩
theorem lc_more {F4 : Hp} {A4 : Nat → Option Addr} {σ σ4 : L2.St} {H4 F1 H1 : Hp} {A0 : Nat → Option Addr} {ρ4 : Env} {acc : List D} {D0 : Addr} {y : V} {d : D} (S : Sim X.K Bs F4 A4 σ4 H4 ρ4) (G : Grow F1 A0 H1 F4 A4 H4) (r : RV X.K F4 A4 σ H4 H1 (.ref D0) (.tmp (.lst acc))) (ry : Rep X.K F4 y d) (hl : acc.length < LIM) :
    ∃ ws, H4 D0 = some (.lst ws) ∧ ws.length < sizeLine ∧ Sim X.K Bs F4 A4 σ4 (upd H4 D0 (.lst (ws ++ [y]))) ρ4 ∧ Grow F1 A0 H1 F4 A4 (upd H4 D0 (.lst (ws ++ [y]))) ∧ RV X.K F4 A4 σ (upd H4 D0 (.lst (ws ++ [y]))) H1 (.ref D0) (.tmp (.lst (acc ++ [d]))) := by
  obtain ⟨p, ep, ⟨ws, e1, r1⟩, hF, hA, h0⟩ := r
  cases ep
  exact ⟨ws, e1, LIM_lt hl r1.length, S.putD hA hF, G.putD h0, D0, rfl, ⟨_, upd_same, r1.append (.one ry)⟩, hF, hA, h0⟩
theorem loopC_exn {f : D → Env → Res (Option D)} {x : Exn} {ρE : Env} : ∀ {xs acc : List D} {ρ : Env}, loopC f xs acc ρ = .exn x ρE → False
  | [], acc, ρ, h => by simp [loopC] at h
  | y :: xs, acc, ρ, h => by
    unfold loopC at h
    split at h
    · exact loopC_exn h
    · split at h
      · exact loopC_exn h
      · cases h
    · cases h
    · cases h
/-- an item's weakest reading, whatever the block -/
def wElt (X : Cx) (scope : Scope) (elt : Expr) : TE := fun σ H Q => ∀ s H0 C0 cl fp, wE (X.blk s H0 scope (compEnvC scope cl C0 X.env) fp) elt σ H Q
def fLc (C : Nat → List (Bool × D) → CRes) (own : List Nat) (tg : Tg) (k : ItK) (es : L) (fc : Env → Res Bool) (fe : Env → Res Val) : Env → Res Val := fun ρ => (evs C es ρ).bind fun vs ρ1 => match imms vs with
      | some ds => match itemsOf k ds with
        | some xs => (loopC (fTurn own tg fc fe) xs [] (wipeS ρ1 own)).bind fun acc ρ2 => .ok (.tmp (.lst acc)) (backS ρ1 ρ2 own)
        | none => .stuck
      | none => .stuck
theorem lc_t {N : List Str} {sc : Scope} {P : Pa} {C : Nat → List (Bool × D) → CRes} (cx : Ctx P Cl C N sc W X) {k : ItK} {tg : Tg} {own : List Nat} {te ite elt : Expr} {ifs xs : List Expr} {scope : Scope} {es : L} {fc : Env → Res Bool} {fe : Env → Res Val}
    (hb : blkC N sc scope (ownOf N own) = true) (ht : okTg N (relS scope sc) (fun x => scope.names.lookup x == some .cell) tg te = true) (hto : (tgIx tg).all own.contains = true) (hi : itArgs P sc k te ite = some xs) (hl : okL P N sc es xs = true)
    (h : SA X Cl W Bs xs (evs C es)) (h1 : ∀ x e, xs = [x] → es = .cons e .nil → SE X Cl W Bs x (ev C false e)) (hc : Tests X Cl Bs scope ifs fc) (he : ∀ s H C0 cl fp, SE (X.blk s H scope (compEnvC scope cl C0 X.env) fp) Cl WF Bs elt fe) (hs : isSet ite = false) :
    ∃ tt : TT, (∀ s H C0 cl fp, PTs (X.blk s H scope (compEnvC scope cl C0 X.env) fp) ifs tt) ∧ ∀ F A σ H ρ Q, Sim X.K Bs F A σ H ρ → KX X Cl W Bs F A σ H (fLc C own tg k es fc fe ρ) (PV X σ H Q) → tLc (wI X te ite) (gOf X.K tg) tt (wElt X scope elt) own σ H Q := by
  obtain ⟨tt, pts, htt⟩ := hc.ok
  refine ⟨tt, pts, fun F A σ H ρ Q S kk => ?_⟩
  refine (wi_ok cx hi hl h h1 S (kk.bind.imp fun vals ρ1 F1 A1 H1 S1 G1 q => ?_)).1
  split at q
  case h_2 => exact q.elim
  rename_i ds eds
  split at q
  case h_2 => exact q.elim
  rename_i ys eys
  refine ⟨ds, ys, eds, eys, fun J jw D0 hD => ?_⟩
  obtain ⟨A0, S0, G0, hA0⟩ := S1.wiped own
  cases el : loopC (fTurn own tg fc fe) ys [] (wipeS ρ1 own) with
  | exn x ρE => exact (loopC_exn el).elim
  | stuck => rw [el] at q; exact q.elim
  | ok accE ρE =>
    rw [el] at q
    refine ⟨fun i m H' => m = ys.length - i ∧ i ≤ ys.length ∧ LcI X Bs own (fTurn own tg fc fe) ys accE ρE D0 F1 A0 σ H1 i H', ⟨_, rfl, Nat.zero_le _, ?_⟩, ?_⟩
    · have n := New.obj (o := HO.lst []) S0.sub hD
      refine ⟨F1, A0, _, [], S0.new n, Grow.new n, ⟨D0, rfl, ⟨[], upd_same, .nil⟩, S0.sub.none hD, fun i w => (S0.ownA w).1 hD, hD⟩, ?_⟩
      rw [List.drop_zero]
      exact el
    · rintro i m H' ⟨rfl, hi', F', A', ρ', acc, S', G', r', e'⟩
      by_cases hlt : i < ys.length
      · refine .inr ⟨jw.goes i H' hlt (G'.fs.trans S'.sub), fun H'' => LcI X Bs own (fTurn own tg fc fe) ys accE ρE D0 F1 A0 σ H1 (i + 1) H'', fun H'' z => ⟨_, by omega, rfl, hlt, z⟩, fun xv H2 y => ?_⟩
        obtain ⟨F2, d, n2, ed, rd⟩ := jw.yields i H' xv H2 F' hlt G'.fs S'.sub y
        have S2 := S'.new n2
        have G2 : Grow F1 A0 H1 F2 A' H2 := G'.trans (Grow.new n2)
        have r2 := r'.keep (Grow.new n2)
        rw [List.drop_eq_getElem_cons hlt] at e'
        have ed' : ys[i] = d := by
          rw [List.getElem?_eq_getElem hlt] at ed
          exact Option.some.inj ed
        rw [ed'] at e'
        unfold loopC at e'
        have ef : ∃ o ρn, fTurn own tg fc fe d ρ' = .ok o ρn := by
          cases z : fTurn own tg fc fe d ρ' with
          | ok o ρn => exact ⟨o, ρn, rfl⟩
          | exn x ρn => rw [z] at e'; cases e'
          | stuck => rw [z] at e'; cases e'
        obtain ⟨o, ρn, ef⟩ := ef
        rw [ef] at e'
        unfold fTurn at ef
        cases et : tgSet ρ' tg d with
        | none => rw [et] at ef; cases ef
        | some ρ2 =>
          rw [et] at ef
          refine gOf_ok S2 rd et fun σ2 A2 S3 G3 hl3 hn3 => ?_
          have hw : wipe σ2 own = wipe (wipe σ own) own := wipe_same hl3 fun j hj => hn3 j fun z => hj (by
            have := List.all_eq_true.mp hto j z
            exact List.contains_iff_mem.mp this)
          have hww : wipe (wipe σ own) own = wipe σ own := wipe_same (wipe_length _ _) fun j hj => by rw [wipe_get, if_neg hj]
          refine ⟨by rw [hw, hww], ?_⟩
          have hw2 : wipe σ2 own = wipe σ own := hw.trans hww
          have G3' := G2.trans G3
          have r3 := r2.keep G3
          dsimp only at ef
          cases ec : fc ρ2 with
          | exn x ρ3 => rw [ec] at ef; cases ef
          | stuck => rw [ec] at ef; cases ef
          | ok b ρ3 =>
            rw [ec] at ef
            refine htt F2 A2 σ2 H2 ρ2 _ b ρ3 S3 ec fun F4 A4 H4 S4 G4 => ?_
            have r4 := r3.keep G4
            have G4' := G3'.trans G4
            cases b with
            | false =>
              have ef' : Res.ok none (wipeS ρ3 own) = .ok o ρn := ef
              cases ef'
              rw [if_neg (by decide)]
              exact lc_end S4 G4' r4.any hw2 e'
            | true =>
              rw [if_pos rfl]
              have ef' : ((fe ρ3).bind fun v ρ4 => (match v with | .imm d => Res.ok (some d) (wipeS ρ4 own) | .tmp d => .ok (some d) (wipeS ρ4 own) | .brw _ => .stuck)) = .ok o ρn := ef
              intro s9 H9 C9 cl9 fp9
              refine he s9 H9 C9 cl9 fp9 F4 A4 σ2 H4 ρ3 _ S4 ?_
              cases ee : fe ρ3 with
              | exn x ρ4 => rw [ee] at ef'; cases ef'
              | stuck => rw [ee] at ef'; cases ef'
              | ok v ρ4 =>
                rw [ee] at ef'
                intro F5 A5 H5 S5 G5 yv ry
                have r5 := r4.keep G5
                have G5' := G4'.trans G5
                cases v with
                | brw j => cases ef'
                | imm dy =>
                  cases ef'
                  have e' : (if acc.length < LIM then loopC (fTurn own tg fc fe) (ys.drop (i + 1)) (acc ++ [dy]) (wipeS ρ4 own) else .stuck) = .ok accE ρE := e'
                  split at e'
                  · rename_i hlim
                    obtain ⟨ws, q1, q2, q3, q4, q5⟩ := lc_more S5 G5' r5.any ry hlim
                    exact ⟨ws, q1, q2, lc_end q3 q4 q5 hw2 e'⟩
                  · cases e'
                | tmp dy =>
                  cases ef'
                  have e' : (if acc.length < LIM then loopC (fTurn own tg fc fe) (ys.drop (i + 1)) (acc ++ [dy]) (wipeS ρ4 own) else .stuck) = .ok accE ρE := e'
                  split at e'
                  · rename_i hlim
                    obtain ⟨p, rfl, op, hf, na, n0⟩ := ry
                    obtain ⟨F', s1, s2, e, ry'⟩ := op.freeze hf S5.sub
                    obtain ⟨S6, G6⟩ := S5.freezeT G5' s1 s2 e na (by
                      refine Decidable.byContradiction fun w => ?_
                      exact G4'.dom p w n0)
                    have r6 : RV X.K F' A5 σ H5 H1 (.ref D0) (.tmp (.lst acc)) := by
                      obtain ⟨p', ep, o', hf', na', h0'⟩ := r5
                      cases ep
                      refine ⟨D0, rfl, o'.mono s1 fun _ z => z, Decidable.byContradiction fun w => ?_, na', h0'⟩
                      have z := e D0 hf' w
                      subst z
                      obtain ⟨_, ep4, o4, _⟩ := r4
                      cases ep4
                      exact o4.there n0
                    obtain ⟨ws, q1, q2, q3, q4, q5⟩ := lc_more S6 G6 r6 ry' hlim
                    exact ⟨ws, q1, q2, lc_end q3 q4 q5 hw2 e'⟩
                  · cases e'
      · have hi2 : i = ys.length := by omega
        subst hi2
        refine .inl ⟨jw.stops H' (G'.fs.trans S'.sub), ?_⟩
        rw [List.drop_length] at e'
        cases e'
        obtain ⟨S9, G9⟩ := S1.back hA0 S' G'
        have q' : KX X Cl W Bs F1 A1 σ H1 (.ok (.tmp (.lst accE)) (backS ρ1 ρE own)) (PV X σ H Q) := q
        refine q' F' _ H' S9 G9 (.ref D0) ?_
        obtain ⟨p, ep, o', hf', na', h0'⟩ := r'
        cases ep
        refine ⟨D0, rfl, o', hf', fun j w => ?_, Decidable.byContradiction fun w => G1.dom D0 w h0'⟩
        by_cases m : j ∈ own
        · simp only [m, if_true] at w
          exact (S1.ownA w).1 h0'
        · simp only [m, if_false] at w
          exact na' j w
theorem blk_pg {N : List Str} {sc : Scope} {P : Pa} {C : Nat → List (Bool × D) → CRes} (cx : Ctx P Cl C N sc W X) {tg : Tg} {te : Expr} {scope : Scope} (ht : okTg N (relS scope sc) (fun x => scope.names.lookup x == some .cell) tg te = true) (s : Shared) (H : Hp) (C0 : Addr) (cl : List (Str × Addr)) (fp : List Addr) :
    PG (X.blk s H scope (compEnvC scope cl C0 X.env) fp) te (gOf X.K tg) := by
  have c2 := ctx_blk cx scope s H C0 cl fp
  exact pg_of c2.calm c2.hN cx.nd c2.hsc rfl ht
theorem pe_elt {scope : Scope} {elt : Expr} (s : Shared) (H : Hp) (C0 : Addr) (cl : List (Str × Addr)) (fp : List Addr) : PE (X.blk s H scope (compEnvC scope cl C0 X.env) fp) elt (wElt X scope elt) := ⟨fun pins s1 σ H' Q I q => q s H C0 cl fp pins s1 I⟩
theorem own_ix {N : List Str} {own : List Nat} : (ownOf N own).map (·.2) = own := by unfold ownOf; rw [List.map_map]; exact List.map_id _
theorem se_lc {N : List Str} {sc : Scope} {P : Pa} {C : Nat → List (Bool × D) → CRes} (cx : Ctx P Cl C N sc W X) {k : ItK} {tg : Tg} {own : List Nat} {te ite elt : Expr} {ifs xs : List Expr} {scope : Scope} {pos : Pos} {es : L} {fc : Env → Res Bool} {fe : Env → Res Val}
    (hb : blkC N sc scope (ownOf N own) = true) (ht : okTg N (relS scope sc) (fun x => scope.names.lookup x == some .cell) tg te = true) (hto : (tgIx tg).all own.contains = true) (hi : itArgs P sc k te ite = some xs) (hl : okL P N sc es xs = true)
    (h : SA X Cl W Bs xs (evs C es)) (h1 : ∀ x e, xs = [x] → es = .cons e .nil → SE X Cl W Bs x (ev C false e)) (hc : Tests X Cl Bs scope ifs fc) (he : ∀ s H C0 cl fp, SE (X.blk s H scope (compEnvC scope cl C0 X.env) fp) Cl WF Bs elt fe) (hs : isSet ite = false) :
    SE X Cl W Bs (.ListComp elt [⟨te, ite, ifs, 0⟩] scope pos) (fLc C own tg k es fc fe) := by
  intro F A σ H ρ Q S kk
  obtain ⟨tt, pts, q⟩ := lc_t cx hb ht hto hi hl h h1 hc he hs
  refine w_of (pe_lc cx.calm (by rw [cx.hN]; exact cx.nd) (pi_w (X := X) (tg := te) (iter := ite)) (blkOk_by (own := ownOf N own) (by rw [cx.hN, cx.hsc]; exact hb)) (blk_pg cx ht) pts pe_elt (folded_plain hs)) ?_
  rw [own_ix]
  exact q F A σ H ρ Q S kk

/-! ### every term -/
section
variable {P : Pa} {Cl : Nat → Value × List Str} {C : Nat → List (Bool × D) → CRes} {N : List Str}
/-- a list of terms -/
structure SL (X : Cx) (Cl : Nat → Value × List Str) (W : WX) (Bs : List (Option Addr)) (C : Nat → List (Bool × D) → CRes) (es : L) (xs : List Expr) : Prop where
  args : SA X Cl W Bs xs (evs C es)
  one : ∀ x e, xs = [x] → es = .cons e .nil → SE X Cl W Bs x (ev C false e) ∧ ST X Cl W Bs x (ev C true e)
  ands : xs ≠ [] → ∀ isAnd pos, SE X Cl W Bs (.BoolOp (bop isAnd) xs pos) (evB C false isAnd es) ∧ SW X Cl W Bs (.BoolOp (bop isAnd) xs pos) (evB C true isAnd es)
theorem SW.st {X : Cx} {W : WX} {Bs : List (Option Addr)} {x : Expr} {f : Env → Res Val} (h : SW X Cl W Bs x f) : ST X Cl W Bs x f := fun F A σ H ρ Q S k pins s I => h F A σ H ρ Q S k _ pins s I
theorem ev_var {i : Nat} {t : Bool} : ev C t (.var i) = fun ρ => (match getS ρ i with
      | some (.imm d) => Res.ok (Val.imm d) ρ
      | some (.own _ d) => .ok (Val.imm d) (setS ρ i (.imm d))
      | none => .stuck).bind (tst t) := by
  funext ρ
  unfold ev
  cases getS ρ i with
  | none => rfl
  | some s => cases s <;> rfl
theorem ev_pk {i : Nat} {t : Bool} : ev C t (.pk i) = fun ρ => (match getS ρ i with
      | some (.imm d) => Res.ok (Val.imm d) ρ
      | some (.own _ _) => .ok (Val.brw i) ρ
      | none => .stuck).bind (tst t) := by
  funext ρ
  unfold ev
  cases getS ρ i with
  | none => rfl
  | some s => cases s <;> rfl
theorem ev_isi {a : E} {ty : TyId} : ev C true (.isi a ty) = fun ρ => (ev C false (.isi a ty) ρ).bind (tst true) := by
  funext ρ
  unfold ev
  rw [bind_assoc']
  congr 1
  funext x ρ1
  split <;> rfl
theorem okSo {X : Cx} {W : WX} {Bs : List (Option Addr)} {sc : Scope} {hl : Bool} {lo : E} {l : Option Expr} (h : (match hl, l with | true, some e => okE P N sc lo e | false, none => true | _, _ => false) = true)
    (k : ∀ e, okE P N sc lo e = true → SE X Cl W Bs e (ev C false lo)) : SO X Cl W Bs l (fPart hl (ev C false lo)) := by
  cases hl with
  | true =>
    cases l with
    | none => cases h
    | some e => exact so_some (k e h)
  | false =>
    cases l with
    | none => exact so_none
    | some e => cases h
theorem opEq {α : Type} [DecidableEq α] {a b : α} (h : decide (a = b) = true) : a = b := of_decide_eq_true h
theorem itSet {sc : Scope} {k : ItK} {tg iter : Expr} {xs : List Expr} (h : itArgs P sc k tg iter = some xs) : isSet iter = false := by
  unfold itArgs at h
  split at h
  · split at h
    · cases h
    · rename_i z; simpa using z
  all_goals first | rfl | cases h
theorem tests_of {X : Cx} {Bs : List (Option Addr)} {sc scope : Scope} {cs : L} {ifs : List Expr} (h4 : okL P N (relS scope sc) cs ifs = true) (h5 : ifs.length ≤ 1) (hcs : ∀ s H C0 cl fp, SL (X.blk s H scope (compEnvC scope cl C0 X.env) fp) Cl WF Bs C cs ifs) :
    Tests X Cl Bs scope ifs (evC C cs) := by
  cases cs with
  | nil =>
    cases ifs with
    | cons _ _ => simp [okL] at h4
    | nil => exact Tests.none
  | cons e cs =>
    cases cs with
    | cons e2 cs2 =>
      have := okL_len h4
      rw [← this] at h5
      exact absurd h5 (by simp only [L.len]; omega)
    | nil =>
      cases ifs with
      | nil => simp [okL] at h4
      | cons y ys =>
        cases ys with
        | cons _ _ => simp [okL] at h4
        | nil => exact Tests.one fun s H C0 cl fp => ((hcs s H C0 cl fp).one _ _ rfl rfl).2
mutual
theorem sndE : ∀ (e : E) {X : Cx} {W : WX} {Bs : List (Option Addr)} {sc : Scope} {x : Expr}, Ctx P Cl C N sc W X → okE P N sc e x = true → SE X Cl W Bs x (ev C false e) ∧ ST X Cl W Bs x (ev C true e)
  | .var i, X, W, Bs, sc, x, cx, h => by
    unfold okE at h
    split at h <;> try contradiction
    rename_i heq
    cases heq
    rw [ev_var, ev_var]
    exact Both.of (se_var cx h) fun _ => rfl
  | .pk i, X, W, Bs, sc, x, cx, h => by
    unfold okE at h
    split at h <;> try contradiction
    rename_i heq
    cases heq
    rw [ev_pk, ev_pk]
    exact Both.of (se_pk cx h) fun _ => rfl
  | .con d, X, W, Bs, sc, x, cx, h => by
    unfold okE at h
    split at h <;> try contradiction
    rename_i heq
    cases heq
    obtain ⟨h1, h2⟩ := Both.of (X := X) (Cl := Cl) (W := W) (Bs := Bs) (se_con h) fun _ => rfl
    exact ⟨h1, h2⟩
  | .bin op a b, X, W, Bs, sc, x, cx, h => by
    unfold okE at h
    split at h <;> try contradiction
    rename_i heq
    cases heq
    rw [Bool.and_eq_true, Bool.and_eq_true] at h
    obtain ⟨⟨h0, h1⟩, h2⟩ := h
    cases opEq h0
    obtain ⟨q1, q2⟩ := Both.of (se_bin (sndE a (Bs := Bs) cx h1).1 (sndE b (Bs := Bs) cx h2).1) fun _ => rfl
    exact ⟨q1, q2⟩
  | .un op a, X, W, Bs, sc, x, cx, h => by
    unfold okE at h
    split at h <;> try contradiction
    rename_i heq
    cases heq
    rw [Bool.and_eq_true] at h
    obtain ⟨h0, h1⟩ := h
    cases opEq h0
    obtain ⟨q1, q2⟩ := Both.of (se_un (op := op) (sndE a (Bs := Bs) cx h1).1) fun _ => by cases op <;> rfl
    exact ⟨q1, q2⟩
  | .cmp op a b, X, W, Bs, sc, x, cx, h => by
    unfold okE at h
    split at h <;> try contradiction
    rename_i heq
    cases heq
    simp only [Bool.and_eq_true, Bool.not_eq_true'] at h
    obtain ⟨⟨⟨h0, h1⟩, h2⟩, h3⟩ := h
    cases opEq h0
    exact ⟨se_cmp cx.units h3 (sndE a cx h1).1 (sndE b cx h2).1, st_cmp cx.units h3 (sndE a cx h1).1 (sndE b cx h2).1⟩
  | .chn op op' a b c, X, W, Bs, sc, x, cx, h => by
    unfold okE at h
    split at h <;> try contradiction
    rename_i heq
    cases heq
    simp only [Bool.and_eq_true, Bool.not_eq_true'] at h
    obtain ⟨⟨⟨⟨⟨⟨h0, h00⟩, h1⟩, h2⟩, h3⟩, h4⟩, h5⟩ := h
    cases opEq h0
    cases opEq h00
    exact ⟨se_chn cx.units h5 (sndE a cx h1).1 (sndE b cx h2).1 (sndE c cx h3).1, st_chn cx.units h5 (sndE a cx h1).1 (sndE b cx h2).1 (sndE c cx h3).1⟩
  | .bool isAnd es, X, W, Bs, sc, x, cx, h => by
    unfold okE at h
    split at h <;> try contradiction
    rename_i heq
    cases heq
    simp only [Bool.and_eq_true, Bool.not_eq_true'] at h
    obtain ⟨⟨h0, h1⟩, h2⟩ := h
    cases opEq h0
    obtain ⟨q1, q2⟩ := (sndL es (Bs := Bs) cx h1).ands (by rintro rfl; cases h2) isAnd _
    exact ⟨q1, q2.st⟩
  | .not a, X, W, Bs, sc, x, cx, h => by
    unfold okE at h
    split at h <;> try contradiction
    rename_i heq
    cases heq
    exact ⟨se_not (sndE a cx h).1, st_not (sndE a cx h).2⟩
  | .ife c a b, X, W, Bs, sc, x, cx, h => by
    unfold okE at h
    split at h <;> try contradiction
    rename_i heq
    cases heq
    simp only [Bool.and_eq_true] at h
    obtain ⟨⟨h0, h1⟩, h2⟩ := h
    exact ⟨se_ife (sndE c cx h0).2 (sndE a cx h1).1 (sndE b cx h2).1, st_ife (sndE c cx h0).2 (sndE a cx h1).2 (sndE b cx h2).2⟩
  | .tup es, X, W, Bs, sc, x, cx, h => by
    unfold okE at h
    split at h <;> try contradiction
    rename_i heq
    cases heq
    obtain ⟨q1, q2⟩ := Both.of (se_tup (sndL es (Bs := Bs) cx h).args) fun _ => rfl
    exact ⟨q1, q2⟩
  | .lst es, X, W, Bs, sc, x, cx, h => by
    unfold okE at h
    split at h <;> try contradiction
    rename_i heq
    cases heq
    obtain ⟨q1, q2⟩ := Both.of (se_lst (sndL es (Bs := Bs) cx h).args) fun _ => rfl
    exact ⟨q1, q2⟩
  | .sub o i, X, W, Bs, sc, x, cx, h => by
    unfold okE at h
    split at h <;> try contradiction
    rename_i heq
    cases heq
    simp only [Bool.and_eq_true, Bool.not_eq_true'] at h
    obtain ⟨⟨h0, h1⟩, h2⟩ := h
    obtain ⟨q1, q2⟩ := Both.of (se_sub h2 (sndE o (Bs := Bs) cx h0).1 (sndE i (Bs := Bs) cx h1).1) fun _ => rfl
    exact ⟨q1, q2⟩
  | .slc hl hh o lo hi, X, W, Bs, sc, x, cx, h => by
    unfold okE at h
    split at h <;> try contradiction
    rename_i heq
    cases heq
    simp only [Bool.and_eq_true] at h
    obtain ⟨⟨h0, h1⟩, h2⟩ := h
    obtain ⟨q1, q2⟩ := Both.of (se_slc (sndE o (Bs := Bs) cx h0).1 (okSo h1 fun e he => (sndE lo cx he).1) (okSo h2 fun e he => (sndE hi cx he).1)) fun _ => rfl
    exact ⟨q1, q2⟩
  | .call f es, X, W, Bs, sc, x, cx, h => by
    unfold okE at h
    split at h <;> try contradiction
    rename_i xs _ heq
    cases heq
    simp only [Bool.and_eq_true, decide_eq_true_eq] at h
    obtain ⟨⟨h0, h1⟩, h2⟩ := h
    cases xs with
    | nil =>
      cases es with
      | cons _ _ => simp [okL] at h2
      | nil =>
        obtain ⟨q1, q2⟩ := Both.of (se_call0 (Bs := Bs) cx h0 h1) fun _ => rfl
        exact ⟨q1, q2⟩
    | cons e xs =>
      obtain ⟨q1, q2⟩ := Both.of (se_call cx h0 h1 h2 (sndL es (Bs := Bs) cx h2).args) fun _ => rfl
      exact ⟨q1, q2⟩
  | .blt b es, X, W, Bs, sc, x, cx, h => by
    unfold okE at h
    split at h <;> try contradiction
    rename_i xs _ heq
    cases heq
    simp only [Bool.and_eq_true, Bool.not_eq_true'] at h
    obtain ⟨⟨⟨⟨h0, h1⟩, h2⟩, h3⟩, h4⟩ := h
    cases opEq h0
    obtain ⟨q1, q2⟩ := Both.of (se_blt cx h1 h2 h3 (by rintro rfl; cases h4) (sndL es (Bs := Bs) cx h3).args) fun _ => rfl
    exact ⟨q1, q2⟩
  | .isi a ty, X, W, Bs, sc, x, cx, h => by
    unfold okE at h
    split at h <;> try contradiction
    rename_i heq
    cases heq
    simp only [Bool.and_eq_true, Bool.not_eq_true'] at h
    obtain ⟨⟨⟨⟨⟨h0, h1⟩, h2⟩, h3⟩, h4⟩, h5⟩ := h
    cases opEq h0
    cases opEq h2
    refine ⟨se_isi cx h1 h3 h5 (sndE a cx h4).1, ?_⟩
    rw [ev_isi]
    exact SE.test (f := ev C false (.isi a ty)) (se_isi cx h1 h3 h5 (sndE a cx h4).1) fun _ => rfl
  | .mth m o es, X, W, Bs, sc, x, cx, h => by
    unfold okE at h
    split at h <;> try contradiction
    rename_i heq
    cases heq
    simp only [Bool.and_eq_true, Bool.not_eq_true'] at h
    obtain ⟨⟨⟨⟨⟨⟨h0, h1⟩, h2⟩, h3⟩, h4⟩, h5⟩, h6⟩ := h
    cases opEq h0
    obtain ⟨q1, q2⟩ := Both.of (se_mth cx h3 h4 h2 (by rintro rfl; cases h5) (of_decide_eq_true h6) (sndE o (Bs := Bs) cx h1).1 (sndL es (Bs := Bs) cx h2).args) fun _ => rfl
    exact ⟨q1, q2⟩
  | .mut m i es, X, W, Bs, sc, x, cx, h => by
    unfold okE at h
    split at h <;> try contradiction
    rename_i heq
    cases heq
    simp only [Bool.and_eq_true, Bool.not_eq_true'] at h
    obtain ⟨⟨⟨⟨⟨h0, h1⟩, h2⟩, h4⟩, h5⟩, h6⟩ := h
    cases opEq h0
    obtain ⟨q1, q2⟩ := Both.of (se_mut cx h1 h4 h2 (by rintro rfl; cases h5) (of_decide_eq_true h6) (sndL es (Bs := Bs) cx h2).args) fun _ => rfl
    exact ⟨q1, q2⟩
  | .lc own tg k its cs elt, X, W, Bs, sc, x, cx, h => by
    unfold okE at h
    split at h <;> try contradiction
    rename_i ifs scope0 _ heq
    cases heq
    simp only [Bool.and_eq_true, decide_eq_true_eq] at h
    obtain ⟨⟨⟨⟨⟨⟨h0, h1⟩, h2⟩, h3⟩, h4⟩, h5⟩, h6⟩ := h
    split at h3
    case h_2 => cases h3
    rename_i xs hxs
    have hits := sndL its (Bs := Bs) cx h3
    have helt := fun s H C0 cl fp => (sndE elt (Bs := Bs) (ctx_blk cx scope0 s H C0 cl fp) h6).1
    have hcs := fun s H C0 cl fp => sndL cs (Bs := Bs) (ctx_blk cx scope0 s H C0 cl fp) h4
    obtain ⟨q1, q2⟩ := Both.of (se_lc cx h0 h1 h2 hxs h3 hits.args (fun x e z z' => (hits.one x e z z').1) (tests_of h4 h5 hcs) helt (itSet hxs)) fun _ => rfl
    exact ⟨q1, q2⟩
theorem sndL : ∀ (es : L) {X : Cx} {W : WX} {Bs : List (Option Addr)} {sc : Scope} {xs : List Expr}, Ctx P Cl C N sc W X → okL P N sc es xs = true → SL X Cl W Bs C es xs
  | .nil, X, W, Bs, sc, xs, cx, h => by
    cases xs with
    | cons _ _ => simp [okL] at h
    | nil =>
      refine ⟨?_, fun x e z => by (cases z), fun z => absurd rfl z⟩
      exact sa_nil
  | .cons e es, X, W, Bs, sc, xs, cx, h => by
    cases xs with
    | nil => simp [okL] at h
    | cons x xs =>
      simp only [okL, Bool.and_eq_true, Bool.not_eq_true'] at h
      obtain ⟨⟨h0, h1⟩, h2⟩ := h
      have he := fun {Bs : List (Option Addr)} => sndE e (Bs := Bs) cx h0
      have hes := sndL es (Bs := Bs) cx h2
      refine ⟨?_, fun y e' z z' => ?_, fun _ isAnd pos => ?_⟩
      · exact sa_cons h1 he.1 hes.args
      · cases z
        cases z'
        exact he
      · cases es with
        | nil =>
          cases xs with
          | cons _ _ => simp [okL] at h2
          | nil => exact ⟨se_bool1 he.1, sw_bool1 he.2⟩
        | cons e2 es2 =>
          cases xs with
          | nil => simp [okL] at h2
          | cons y ys =>
            obtain ⟨q1, q2⟩ := hes.ands (by simp) isAnd pos
            exact ⟨se_bool2 he.1 q1, sw_bool2 he.2 q2⟩
end
/-- a comprehension's parts -/
theorem sndLc {own : List Nat} {tg : Tg} {k : ItK} {its cs : L} {elt : E} {X : Cx} {W : WX} {Bs : List (Option Addr)} {sc : Scope} {e : Expr} {gs : List Comprehension} {scope : Scope} {pos : Pos} (cx : Ctx P Cl C N sc W X) (h : okE P N sc (.lc own tg k its cs elt) (.ListComp e gs scope pos) = true) :
    ∃ t it ifs tt, gs = [⟨t, it, ifs, 0⟩] ∧ blkC N sc scope (ownOf N own) = true ∧ okTg N (relS scope sc) (fun x => scope.names.lookup x == some .cell) tg t = true ∧ isSet it = false ∧
      (∀ s H C0 cl fp, PTs (X.blk s H scope (compEnvC scope cl C0 X.env) fp) ifs tt) ∧ ∀ F A σ H ρ Q, Sim X.K Bs F A σ H ρ → KX X Cl W Bs F A σ H (ev C false (.lc own tg k its cs elt) ρ) (PV X σ H Q) → tLc (wI X t it) (gOf X.K tg) tt (wElt X scope e) own σ H Q := by
  unfold okE at h
  split at h <;> try contradiction
  rename_i heq1 heq2
  cases heq1
  cases heq2
  simp only [Bool.and_eq_true, decide_eq_true_eq] at h
  obtain ⟨⟨⟨⟨⟨⟨h0, h1⟩, h2⟩, h3⟩, h4⟩, h5⟩, h6⟩ := h
  split at h3
  case h_2 => cases h3
  rename_i xs hxs
  have hits := sndL its (Bs := Bs) cx h3
  have helt := fun s H C0 cl fp => (sndE elt (Bs := Bs) (ctx_blk cx scope s H C0 cl fp) h6).1
  have hcs := fun s H C0 cl fp => sndL cs (Bs := Bs) (ctx_blk cx scope s H C0 cl fp) h4
  obtain ⟨tt, pts, q⟩ := lc_t cx h0 h1 h2 hxs h3 hits.args (fun x e z z' => (hits.one x e z z').1) (tests_of h4 h5 hcs) helt (itSet hxs)
  refine ⟨_, _, _, tt, rfl, h0, h1, itSet hxs, pts, fun F A σ H ρ Q S kk => q F A σ H ρ Q S ?_⟩
  have e : ev C false (.lc own tg k its cs elt) ρ = (fLc C own tg k its (evC C cs) (ev C false elt) ρ).bind (tst false) := rfl
  rw [e, bind_id] at kk
  exact kk
end
end
end Mi

set_option maxRecDepth 100000
set_option maxHeartbeats 2000000
/-! Mi8: statements. -/
namespace Mi
open PySem PySem.Spec PyProof.Rows L2

/-! ### the look -/
def isCompE : Expr → Bool
  | .ListComp _ _ _ _ => true
  | .SetComp _ _ _ _ => true
  | .DictComp _ _ _ _ _ => true
  | _ => false
section
variable (P : Pa) (N : List Str) (sc : Scope) (fnb : Str → Bool)
mutual
def okSt : S → Stmt → Bool
  | .asg i e, .Assign [.Name x _] v _ => locOk N sc fnb i x && okE P N sc e v
  | .unp is e, .Assign [.Tuple es _ _] v _ => okNms N sc fnb is es && okE P N sc e v && !isCompE v && !isTupE v
  | .seti i ix e, .Assign [.Subscript (.Name x _) j _] v _ => nameOk N sc i x && okE P N sc ix j && okE P N sc e v && !isCompE v && !isSlice j
  | .exp e, .Expr v _ => okE P N sc e v && !isCompE v
  | .pas, .Expr (.Constant (.str _) _ _) _ => true
  | .pas, .Pass _ => true
  | .ret e, .Return (some v) _ => okE P N sc e v
  | .retv i, .Return (some (.Name x _)) _ => nameOk N sc i x
  | .retn, .Return none _ => true
  | .ife c a b, .If t x y _ => okE P N sc c t && okSs a x && okSs b y
  | .for_ tg k its body, .For t it bd [] _ => okTg N sc fnb tg t && (match itArgs P sc k t it with | some xs => okL P N sc its xs | none => false) && okSs body bd
  | .whl c body, .While t bd [] _ => okE P N sc c t && okSs body bd
  | .brk, .Break _ => true
  | .cnt, .Continue _ => true
  | _, _ => false
def okSs : S → List Stmt → Bool
  | .nil, [] => true
  | .seq s r, st :: sts => okSt s st && okSs r sts
  | _, _ => false
end
end

/-! ### what is wanted -/
/-- what a def gives back: A, H: where it began -/
def RT (K : Frag) (Bs : List (Option Addr)) (A : Nat → Option Addr) (H F' : Hp) (A' : Nat → Option Addr) (H' : Hp) (x : V) : Val → Prop
  | .imm d => Rep K F' x d
  | .tmp d => ∃ p, x = .ref p ∧ OwnAt K F' H' p d ∧ F' p = none ∧ (∀ i, A' i ≠ some p) ∧ some p ∉ Bs ∧ (H p = none ∨ ∃ j, A j = some p)
  | .brw _ => False
section
variable (X : Cx) (Cl : Nat → Value × List Str) (W : WX) (Bs : List (Option Addr))
abbrev PT1 := Flow → Env → Hp → (Nat → Option Addr) → L2.St → Hp → Prop
def KS (F : Hp) (A : Nat → Option Addr) (H : Hp) (r : Res Flow) (Pp : PT1) : Prop :=
  match r with
  | .ok fl ρ' => ∀ F' A' σ' H', Sim X.K Bs F' A' σ' H' ρ' → Grow F A H F' A' H' → Pp fl ρ' F' A' σ' H'
  | .exn x ρ' => ∀ c d F' A' σ' H', Sim X.K Bs F' A' σ' H' ρ' → Grow F A H F' A' H' → XR X.K Cl F' H' x c d → W c d σ' H'
  | .stuck => False
def PD (A : Nat → Option Addr) (H : Hp) (D : Ends) : PT1 := fun fl _ F' A' σ' H' => match fl with
  | .nx => D.nx σ' H'
  | .bk => D.bk σ' H'
  | .ct => D.ct σ' H'
  | .rt v => ∀ x, RT X.K Bs A H F' A' H' x v → D.rt x H'
def SS (st : Stmt) (f : Env → Res Flow) : Prop := ∀ F A σ H ρ D, Sim X.K Bs F A σ H ρ → KS X Cl W Bs F A H (f ρ) (PD X Bs A H D) → wS X st D σ H
def SSs (sts : List Stmt) (f : Env → Res Flow) : Prop := ∀ F A σ H ρ D, Sim X.K Bs F A σ H ρ → KS X Cl W Bs F A H (f ρ) (PD X Bs A H D) → wSs X sts D σ H
end
section
variable {X : Cx} {Cl : Nat → Value × List Str} {W : WX} {Bs : List (Option Addr)} {F : Hp} {A : Nat → Option Addr} {σ : L2.St} {H : Hp}
theorem RT.back {K : Frag} {F1 H1 F' H' : Hp} {A1 A' : Nat → Option Addr} {x : V} {v : Val} (G : Grow F A H F1 A1 H1) (h : RT K Bs A1 H1 F' A' H' x v) : RT K Bs A H F' A' H' x v := by
  cases v with
  | imm d => exact h
  | brw i => exact h
  | tmp d =>
    obtain ⟨p, e, o, f, a, b, z⟩ := h
    refine ⟨p, e, o, f, a, b, ?_⟩
    rcases z with z | ⟨j, z⟩
    · exact .inl (Decidable.byContradiction fun w => G.dom p w z)
    · exact G.an j p z
theorem KS.shift {F1 H1 : Hp} {A1 : Nat → Option Addr} {r : Res Flow} {D : Ends} (G : Grow F A H F1 A1 H1) (h : KS X Cl W Bs F A H r (PD X Bs A H D)) : KS X Cl W Bs F1 A1 H1 r (PD X Bs A1 H1 D) := by
  cases r with
  | ok fl ρ =>
    intro F' A' σ' H' S' G'
    have q := h F' A' σ' H' S' (G.trans G')
    cases fl with
    | nx => exact q
    | bk => exact q
    | ct => exact q
    | rt v => exact fun x rx => q x (rx.back G)
  | exn x ρ => exact fun c d F' A' σ' H' S' G' => h c d F' A' σ' H' S' (G.trans G')
  | stuck => exact h
theorem KS.bind {α : Type} {r : Res α} {g : α → Env → Res Flow} {Pp : PT1} (h : KS X Cl W Bs F A H (r.bind g) Pp) : KX X Cl W Bs F A σ H r fun a ρ1 _ _ _ => KS X Cl W Bs F A H (g a ρ1) Pp := by
  cases r with
  | ok a ρ1 => exact fun F1 A1 H1 S1 G1 => h
  | exn x ρ1 => exact fun c d F' A' H' S' G' xr => h c d F' A' σ H' S' G' xr
  | stuck => exact h
theorem KX.ofX {α : Type} {r : Res α} {Pp : α → Env → Hp → (Nat → Option Addr) → Hp → Prop} (h : KX X Cl W Bs F A σ H r Pp) : KX X Cl W Bs F A σ H r Pp := h
theorem KS.now {fl : Flow} {ρ : Env} {Pp : PT1} {F' H' : Hp} {A' : Nat → Option Addr} {σ' : L2.St} (h : KS X Cl W Bs F A H (.ok fl ρ) Pp) (S : Sim X.K Bs F' A' σ' H' ρ) (G : Grow F A H F' A' H') : Pp fl ρ F' A' σ' H' := h F' A' σ' H' S G
theorem RV.rt {F1 H1 : Hp} {A1 : Nat → Option Addr} {ρ : Env} {x : V} {v : Val} (S : Sim X.K Bs F A σ H ρ) (r : RV X.K F1 A1 σ H1 H x v) (h : ∀ i, v ≠ .brw i) : RT X.K Bs A H F1 A1 H1 x v := by
  cases v with
  | imm d => exact r
  | brw i => exact absurd rfl (h i)
  | tmp d =>
    obtain ⟨p, e, o, f, a, z⟩ := r
    exact ⟨p, e, o, f, a, fun m => S.lnt p m z, .inl z⟩

/-! ### stores -/
/-- a new list gets a name -/
theorem Sim.own1 {F1 H1 : Hp} {A1 : Nat → Option Addr} {ρ ρ1 : Env} {x : V} {d : D} {i : Nat} (S : Sim X.K Bs F A σ H ρ) (S1 : Sim X.K Bs F1 A1 σ H1 ρ1) (G : Grow F A H F1 A1 H1) (r : RV X.K F1 A1 σ H1 H x (.tmp d)) :
    ∃ A', Sim X.K Bs F1 A' (σ.set i (some x)) H1 (setS ρ1 i (.own 0 d)) ∧ Grow F A H F1 A' H1 := by
  obtain ⟨p, rfl, o, f, na, z⟩ := r
  by_cases hi : i < ρ1.length
  · refine ⟨fun j => if j = i then some p else A1 j, ⟨by unfold setS; rw [List.length_set, List.length_set]; exact S1.len, fun j => ?_, S1.sub, fun a b q h1 h2 => ?_, S1.lnt⟩, ⟨G.fs, G.keep, G.dom, G.fn, fun j q h => ?_⟩⟩
    · rw [getS_set hi]
      by_cases e : j = i
      · subst e
        rw [if_pos rfl, if_pos rfl, List.getElem?_set_self (by rw [S1.len]; exact hi)]
        exact ⟨p, rfl, rfl, o, f, fun m => S.lnt p m z⟩
      · rw [if_neg e, if_neg e, List.getElem?_set_ne (Ne.symm e)]
        exact S1.sl j
    · by_cases z1 : a = i
      · by_cases z2 : b = i
        · rw [z1, z2]
        · simp only [z1, z2, if_true, if_false] at h1 h2
          cases h1
          exact absurd h2 (na b)
      · by_cases z2 : b = i
        · simp only [z1, z2, if_true, if_false] at h1 h2
          cases h2
          exact absurd h1 (na a)
        · simp only [z1, z2, if_false] at h1 h2
          exact S1.inj a b q h1 h2
    · by_cases e : j = i
      · simp only [e, if_true] at h
        cases h
        exact .inl z
      · simp only [e, if_false] at h
        exact G.an j q h
  · refine ⟨A1, ?_, G⟩
    have e1 : σ.set i (some (.ref p)) = σ := List.set_eq_of_length_le (by rw [S1.len]; omega)
    have e2 : setS ρ1 i (.own 0 d) = ρ1 := List.set_eq_of_length_le (by omega)
    rw [e1, e2]
    exact S1
def asgR (i : Nat) : Val → Env → Res Flow := fun v ρ1 => match v with
  | .imm d => .ok .nx (setS ρ1 i (.imm d))
  | .tmp d => .ok .nx (setS ρ1 i (.own 0 d))
  | .brw _ => .stuck
theorem asg_ok {F1 H1 : Hp} {A1 : Nat → Option Addr} {ρ ρ1 : Env} {x : V} {v : Val} {i : Nat} {D : Ends} (S : Sim X.K Bs F A σ H ρ) (S1 : Sim X.K Bs F1 A1 σ H1 ρ1) (G : Grow F A H F1 A1 H1) (r : RV X.K F1 A1 σ H1 H x v) (h : KS X Cl W Bs F A H (asgR i v ρ1) (PD X Bs A H D)) :
    D.nx (σ.set i (some x)) H1 := by
  cases v with
  | imm d =>
    obtain ⟨S2, G2⟩ := S1.setI i r
    exact KS.now h S2 (G.trans G2)
  | tmp d =>
    obtain ⟨A', S2, G2⟩ := Sim.own1 (i := i) S S1 G r
    exact KS.now h S2 G2
  | brw j => exact h.elim
theorem sw_plain {e : Expr} {o : Option Expr} {l : Nat} {env : PySem.Env} (h : isCompE e = false) : swapsWith e o l env = pure false := by
  cases e <;> first | rfl | (simp [isCompE] at h)
theorem sole_plain {t e : Expr} {l : Nat} {env : PySem.Env} (h : isCompE e = false) : swapsWithSole [t] e l env = pure false := by
  cases e <;> first | rfl | (simp [isCompE] at h)
theorem stores_plain {e t : Expr} {env : PySem.Env} (h : isTupE e = false) : swappedStores [t] e env = pure none := by
  cases e <;> first | (cases t <;> rfl) | (simp [isTupE] at h)
structure SX (P : Pa) (Cl : Nat → Value × List Str) (C : Nat → List (Bool × D) → CRes) (N : List Str) (sc : Scope) (fnb : Str → Bool) (W : WX) (X : Cx) : Prop extends Ctx P Cl C N sc W X where
  hfn : X.fn = fnb
  hk : sc.kind = .function
section
variable {P : Pa} {C : Nat → List (Bool × D) → CRes} {N : List Str} {sc : Scope} {fnb : Str → Bool}
theorem SX.loc (cx : SX P Cl C N sc fnb W X) {i : Nat} {x : Str} (h : locOk N sc fnb i x = true) : X.N[i]? = some x ∧ Loc X.env.scope x ∧ (X.fn x = true ∨ X.env.scope.names.lookup x = some .local) := by
  obtain ⟨h1, h2, h3⟩ := locOk_of h
  exact ⟨by rw [cx.hN]; exact h1, by rw [cx.hsc]; exact h2, by rw [cx.hfn, cx.hsc]; exact h3⟩
theorem ss_asg (cx : SX P Cl C N sc fnb W X) {i : Nat} {x : Str} {px pos : Pos} {v : Expr} {e : E} (h : locOk N sc fnb i x = true) (he : okE P N sc e v = true) : SS X Cl W Bs (.Assign [.Name x px] v pos) (exS C (.asg i e)) := by
  obtain ⟨h1, h2, h3⟩ := cx.loc h
  intro F A σ H ρ D S k
  have k' : KS X Cl W Bs F A H ((ev C false e ρ).bind (asgR i)) (PD X Bs A H D) := k
  have plain : swapsWith v (some (.Name x px)) pos.line X.env = pure false → wS X (.Assign [.Name x px] v pos) D σ H := fun hs => by
    refine ws_of (ps_set (by rw [cx.hN]; exact cx.nd) h1 h2 pe_w hs h3) ?_
    exact (sndE e cx.toCtx he).1 F A σ H ρ _ S (k'.bind.imp fun val ρ1 F1 A1 H1 S1 G1 q y ry => asg_ok S S1 G1 ry q)
  by_cases hc : isCompE v = false
  · exact plain (sw_plain hc)
  · unfold isCompE at hc
    split at hc
    · rename_i elt gs scope p
      by_cases hsw : (X.env.scope.names.lookup x = some .local ∧ (px.line == p.line) = true) ∧ (scope.names.any fun (n, k) => n == x && (k == .local || k == .cell)) = false
      · cases e with
        | lc own tg k its cs el =>
          obtain ⟨t, it, ifs, tt, rfl, q1, q2, q3, q4, q5⟩ := sndLc (Bs := Bs) cx.toCtx he
          refine ws_of (ps_setLc (own := ownOf N own) cx.calm (by rw [cx.hN]; exact cx.nd) h1 hsw.1.1 (sw_true (by rw [cx.hsc]; exact cx.hk) hsw.1.1 hsw.1.2 hsw.2) (pi_w (X := X) (tg := t) (iter := it)) (blkOk_by (by rw [cx.hN, cx.hsc]; exact q1)) (blk_pg cx.toCtx q2) q4 pe_elt (folded_plain q3)) ?_
          rw [own_ix]
          exact q5 F A σ H ρ _ S (k'.bind.imp fun val ρ1 F1 A1 H1 S1 G1 q y ry => asg_ok S S1 G1 ry q)
        | _ => unfold okE at he; cases he
      · refine plain ?_
        have e : swapsWith (.ListComp elt gs scope p) (some (.Name x px)) pos.line X.env = pure (X.env.blockKind == .function && X.env.kindOf x == some .local && px.line == p.line && !(scope.names.any fun (n, k) => n == x && (k == .local || k == .cell))) := rfl
        rw [e]
        congr 1
        refine Bool.eq_false_iff.mpr fun z => hsw ?_
        simp only [Bool.and_eq_true, Bool.not_eq_true'] at z
        exact ⟨⟨eq_of_beq z.1.1.2, z.1.2⟩, z.2⟩
    all_goals first
      | exact absurd rfl hc
      | (cases e <;> (unfold okE at he; cases he))
theorem ss_unp (cx : SX P Cl C N sc fnb W X) {is : List Nat} {es : List Expr} {k2 : Nat} {p2 pos : Pos} {v : Expr} {e : E} (h : okNms N sc fnb is es = true) (he : okE P N sc e v = true) (hc : isCompE v = false) (ht : isTupE v = false) :
    SS X Cl W Bs (.Assign [.Tuple es k2 p2] v pos) (exS C (.unp is e)) := by
  intro F A σ H ρ D S k
  have k' : KS X Cl W Bs F A H ((ev C false e ρ).bind fun v ρ1 => match v with
    | .imm d => match tgSet ρ1 (.fl is) d with
      | some ρ2 => .ok .nx ρ2
      | none => .stuck
    | _ => .stuck) (PD X Bs A H D) := k
  refine ws_of (ps_asg pe_w (pg_of (tg := .fl is) cx.calm cx.hN cx.nd cx.hsc cx.hfn h) (sole_plain hc) (stores_plain ht)) ?_
  refine (sndE e cx.toCtx he).1 F A σ H ρ _ S (k'.bind.imp fun val ρ1 F1 A1 H1 S1 G1 q y ry => ?_)
  cases val with
  | imm d =>
    have q' : KS X Cl W Bs F A H (match tgSet ρ1 (.fl is) d with
      | some ρ2 => .ok .nx ρ2
      | none => .stuck) (PD X Bs A H D) := q
    cases et : tgSet ρ1 (.fl is) d with
    | none => rw [et] at q'; exact q'.elim
    | some ρ2 =>
      rw [et] at q'
      exact gOf_ok S1 ry et fun σ' A' S' G' _ _ => KS.now q' S' (G1.trans G')
  | tmp d => exact q.elim
  | brw j => exact q.elim
theorem set_plain {x : Str} {j : Expr} {p p2 : Pos} {X : Cx} {to ti : TE} {t : TSet} (h : isSlice j = false) (ho : PE X (.Name x p) to) (hi : PE X j ti) (hs : PSet X t) : PG X (.Subscript (.Name x p) j p2) (gSub to ti t) := by
  cases j <;> first | exact pg_sub ho hi hs | (simp [isSlice] at h)
def setR (i : Nat) (v y : Val) (ρ2 : Env) : Res Flow := match v, asInt ρ2 y, getS ρ2 i with
  | .imm d, some k, some (.own t (.lst xs)) => match ixOf xs.length k with
    | some j => .ok .nx (setS ρ2 i (.own t (.lst (xs.set j d))))
    | none => .stuck
  | _, _, _ => .stuck
theorem ss_seti (cx : SX P Cl C N sc fnb W X) {i : Nat} {x : Str} {px p2 pos : Pos} {j v : Expr} {ix e : E} (h : nameOk N sc i x = true) (hix : okE P N sc ix j = true) (he : okE P N sc e v = true) (hc : isCompE v = false) (hj : isSlice j = false) :
    SS X Cl W Bs (.Assign [.Subscript (.Name x px) j p2] v pos) (exS C (.seti i ix e)) := by
  obtain ⟨h1, h2, h3, h4⟩ := nameOk_of h
  intro F A σ H ρ D S k
  have k' : KS X Cl W Bs F A H ((ev C false e ρ).bind fun v ρ1 => match getS ρ1 i with
    | some (.own _ (.lst _)) => (ev C false ix ρ1).bind fun y ρ2 => setR i v y ρ2
    | _ => .stuck) (PD X Bs A H D) := k
  refine ws_of (ps_asg pe_w (set_plain hj (pe_var (i := i) (by rw [cx.hN]; exact h1) (by rw [cx.hsc]; exact h2) h3 h4) pe_w set_list) (sole_plain hc) ?_) ?_
  · cases v <;> rfl
  refine (sndE e cx.toCtx he).1 F A σ H ρ _ S (k'.bind.imp fun val ρ1 F1 A1 H1 S1 G1 q y ry => ?_)
  split at q
  · rename_i t0 ds0 eg
    obtain ⟨p, hA, hσ, ho, hF, _⟩ := S1.own eg
    refine ⟨.ref p, joinS hσ, ?_⟩
    refine (sndE ix cx.toCtx hix).1 F1 A1 σ H1 ρ1 _ S1 ?_
    cases er : ev C false ix ρ1 with
    | stuck => rw [er] at q; exact q.elim
    | exn x' ρ2 =>
      rw [er] at q
      exact fun c d F' A' H' S' G' xr => q c d F' A' σ H' S' (G1.trans G') xr
    | ok yv ρ2 =>
      rw [er] at q
      intro F2 A2 H2 S2 G2 w rw'
      have q2 : KS X Cl W Bs F A H (setR i val yv ρ2) (PD X Bs A H D) := q
      unfold setR at q2
      split at q2
      · rename_i d kk t xs ek eg2
        split at q2
        · rename_i jj ej
          obtain ⟨p2, hA2, hσ2, ho2, hF2, _⟩ := S2.own eg2
          rw [hσ] at hσ2
          cases hσ2
          obtain ⟨ws, e1, r1⟩ := ho2
          have ew : w = .int kk := by
            unfold asInt at ek
            split at ek
            · rename_i i' ei
              cases ek
              exact (rw'.pr S2 ei).int
            · cases ek
          refine ⟨p, ws, kk, jj, rfl, ew, e1, by rw [r1.length]; exact ej, ?_⟩
          have ry2 : Rep X.K F2 y d := Rep.mono G2.fs ry
          obtain ⟨S3, G3⟩ := S2.write eg2 hA2 (d' := .lst (xs.set jj d)) (o := .lst (ws.set jj y)) ⟨_, upd_same, Reps.set ry2 jj r1⟩
          exact KS.now q2 S3 ((G1.trans G2).trans G3)
        · exact q2.elim
      · exact q2.elim
  · exact q.elim
theorem ss_exp (cx : SX P Cl C N sc fnb W X) {v : Expr} {e : E} {pos : Pos} (he : okE P N sc e v = true) (hc : isCompE v = false) : SS X Cl W Bs (.Expr v pos) (exS C (.exp e)) := by
  intro F A σ H ρ D S k
  have k' : KS X Cl W Bs F A H ((ev C false e ρ).bind fun _ ρ1 => .ok .nx ρ1) (PD X Bs A H D) := k
  refine ws_of (ps_expr pe_w (sw_plain hc)) ?_
  exact (sndE e cx.toCtx he).1 F A σ H ρ _ S (k'.bind.imp fun val ρ1 F1 A1 H1 S1 G1 q y ry => KS.now q S1 G1)
theorem ss_ret (cx : SX P Cl C N sc fnb W X) {v : Expr} {e : E} {pos : Pos} (he : okE P N sc e v = true) : SS X Cl W Bs (.Return (some v) pos) (exS C (.ret e)) := by
  intro F A σ H ρ D S k
  have k' : KS X Cl W Bs F A H ((ev C false e ρ).bind fun v ρ1 => match v with
    | .brw _ => .stuck
    | v => .ok (.rt v) ρ1) (PD X Bs A H D) := k
  refine ws_of (ps_ret pe_w) ?_
  refine (sndE e cx.toCtx he).1 F A σ H ρ _ S (k'.bind.imp fun val ρ1 F1 A1 H1 S1 G1 q y ry => ?_)
  cases val with
  | imm d => exact KS.now (fl := .rt (.imm d)) q S1 G1 y ry
  | tmp d => exact KS.now (fl := .rt (.tmp d)) q S1 G1 y (RV.rt S ry fun i z => by cases z)
  | brw j => exact q.elim
theorem Sim.forget {ρ : Env} (S : Sim X.K Bs F A σ H ρ) (i : Nat) : Sim X.K Bs F (fun j => if j = i then none else A j) σ H (ρ.set i none) ∧ Grow F A H F (fun j => if j = i then none else A j) H := by
  refine ⟨⟨by rw [List.length_set]; exact S.len, fun j => ?_, S.sub, fun a b q h1 h2 => ?_, S.lnt⟩, ⟨.refl F, fun b o z _ => z, fun b z => z, fun b z w => absurd z w, fun j q z => ?_⟩⟩
  · rw [getS_put]
    by_cases e : j = i
    · subst e
      rw [if_pos rfl]
      by_cases hl : j < ρ.length
      · rw [if_pos ⟨rfl, hl⟩]
        exact rfl
      · rw [if_neg (fun z => hl z.2), getS_ge (by omega)]
        exact rfl
    · rw [if_neg e, if_neg (fun z => e z.1)]
      exact S.sl j
  · by_cases z1 : a = i
    · simp only [z1, if_true] at h1; cases h1
    · by_cases z2 : b = i
      · simp only [z2, if_true] at h2; cases h2
      · simp only [z1, z2, if_false] at h1 h2
        exact S.inj a b q h1 h2
  · by_cases z1 : j = i
    · simp only [z1, if_true] at z; cases z
    · simp only [z1, if_false] at z
      exact .inr ⟨j, z⟩
theorem ss_retv (cx : SX P Cl C N sc fnb W X) {i : Nat} {x : Str} {px pos : Pos} (h : nameOk N sc i x = true) : SS X Cl W Bs (.Return (some (.Name x px)) pos) (exS C (.retv i)) := by
  obtain ⟨h1, h2, h3, h4⟩ := nameOk_of h
  intro F A σ H ρ D S k
  refine ws_of (ps_ret (pe_var (i := i) (by rw [cx.hN]; exact h1) (by rw [cx.hsc]; exact h2) h3 h4)) ?_
  have k' : KS X Cl W Bs F A H (match getS ρ i with
    | some (.imm d) => .ok (.rt (.imm d)) ρ
    | some (.own 0 d) => .ok (.rt (.tmp d)) (ρ.set i none)
    | _ => .stuck) (PD X Bs A H D) := k
  split at k'
  · rename_i d e
    obtain ⟨_, v, hv, r⟩ := S.imm e
    exact ⟨v, joinS hv, KS.now k' S (Grow.refl _ _ _) v r⟩
  · rename_i d e
    obtain ⟨p, hA, hv, ho, hF, hl⟩ := S.own e
    obtain ⟨S2, G2⟩ := S.forget i
    refine ⟨_, joinS hv, KS.now k' S2 G2 _ ⟨p, rfl, ho, hF, fun j w => ?_, hl, .inr ⟨i, hA⟩⟩⟩
    by_cases z : j = i
    · simp only [z, if_true] at w; cases w
    · simp only [z, if_false] at w
      exact z (S.inj j i p w hA)
  · exact k'.elim

/-! ### one behind the other, both ways, loops -/
theorem ss_pass {pos : Pos} : SS X Cl W Bs (.Pass pos) (exS C .pas) := fun F A σ H ρ D S k => ws_of ps_pass (KS.now (fl := .nx) k S (Grow.refl _ _ _))
theorem ss_doc {x : Str} {j : Nat} {p pos : Pos} : SS X Cl W Bs (.Expr (.Constant (.str x) j p) pos) (exS C .pas) := fun F A σ H ρ D S k => ws_of ps_doc (KS.now (fl := .nx) k S (Grow.refl _ _ _))
theorem ss_brk {pos : Pos} : SS X Cl W Bs (.Break pos) (exS C .brk) := fun F A σ H ρ D S k => ws_of ps_break (KS.now (fl := .bk) k S (Grow.refl _ _ _))
theorem ss_cnt {pos : Pos} : SS X Cl W Bs (.Continue pos) (exS C .cnt) := fun F A σ H ρ D S k => ws_of ps_continue (KS.now (fl := .ct) k S (Grow.refl _ _ _))
theorem ss_retn {pos : Pos} : SS X Cl W Bs (.Return none pos) (exS C .retn) := fun F A σ H ρ D S k => ws_of ps_retN (KS.now (fl := .rt (.imm .non)) k S (Grow.refl _ _ _) .non .non)
theorem sss_nil : SSs X Cl W Bs [] (exS C .nil) := fun F A σ H ρ D S k => wss_of pss_nil (KS.now (fl := .nx) k S (Grow.refl _ _ _))
theorem sss_cons {s r : S} {st : Stmt} {sts : List Stmt} (h1 : SS X Cl W Bs st (exS C s)) (h2 : SSs X Cl W Bs sts (exS C r)) : SSs X Cl W Bs (st :: sts) (exS C (.seq s r)) := by
  intro F A σ H ρ D S k
  refine wss_of (pss_cons ps_w pss_w) (h1 F A σ H ρ { D with nx := wSs X sts D } S ?_)
  have k' : KS X Cl W Bs F A H (match exS C s ρ with
    | .ok .nx ρ1 => exS C r ρ1
    | x => x) (PD X Bs A H D) := k
  cases e : exS C s ρ with
  | stuck => rw [e] at k'; exact k'.elim
  | exn x ρ1 => rw [e] at k'; exact k'
  | ok fl ρ1 =>
    rw [e] at k'
    intro F1 A1 σ1 H1 S1 G1
    cases fl with
    | nx => exact h2 F1 A1 σ1 H1 ρ1 D S1 (KS.shift G1 k')
    | bk =>
      have k2 : KS X Cl W Bs F A H (.ok .bk ρ1) (PD X Bs A H D) := k'
      exact k2.now S1 G1
    | ct =>
      have k2 : KS X Cl W Bs F A H (.ok .ct ρ1) (PD X Bs A H D) := k'
      exact k2.now S1 G1
    | rt v =>
      have k2 : KS X Cl W Bs F A H (.ok (.rt v) ρ1) (PD X Bs A H D) := k'
      exact k2.now S1 G1
theorem ss_ife (cx : SX P Cl C N sc fnb W X) {c : E} {a b : S} {t : Expr} {x y : List Stmt} {pos : Pos} (hc : okE P N sc c t = true) (ha : SSs X Cl W Bs x (exS C a)) (hb : SSs X Cl W Bs y (exS C b)) : SS X Cl W Bs (.If t x y pos) (exS C (.ife c a b)) := by
  intro F A σ H ρ D S k
  have k' : KS X Cl W Bs F A H (((ev C true c ρ).bind kOf).bind fun k ρ1 => if k then exS C a ρ1 else exS C b ρ1) (PD X Bs A H D) := k
  rw [bind_assoc'] at k'
  refine ws_of (ps_if pt_w pss_w pss_w) ((sndE c cx.toCtx hc).2 F A σ H ρ _ S (k'.bind.imp fun val ρ1 F1 A1 H1 S1 G1 q kb ek => ?_))
  subst ek
  have q' : KS X Cl W Bs F A H (if kb then exS C a ρ1 else exS C b ρ1) (PD X Bs A H D) := q
  cases kb with
  | true => exact ha F1 A1 σ H1 ρ1 D S1 (KS.shift G1 q')
  | false => exact hb F1 A1 σ H1 ρ1 D S1 (KS.shift G1 q')
/-- a turn of a loop's body -/
theorem turn_ok {sts : List Stmt} {body : S} {F1 H1 : Hp} {A1 : Nat → Option Addr} {ρ : Env} {r : Flow → Env → Res Flow} {D : Ends} {Nx : L2.St → Hp → Prop} (hb : SSs X Cl W Bs sts (exS C body)) (S : Sim X.K Bs F1 A1 σ H1 ρ) (G : Grow F A H F1 A1 H1)
    (k : KS X Cl W Bs F A H ((exS C body ρ).bind r) (PD X Bs A H D))
    (h1 : ∀ ρ', r .bk ρ' = .ok .nx ρ') (h2 : ∀ v ρ', r (.rt v) ρ' = .ok (.rt v) ρ') (h3 : ∀ ρ', r .ct ρ' = r .nx ρ')
    (hn : ∀ ρ' F' A' σ' H', Sim X.K Bs F' A' σ' H' ρ' → Grow F A H F' A' H' → Sub F1 F' → KS X Cl W Bs F A H (r .nx ρ') (PD X Bs A H D) → Nx σ' H') : wSs X sts { D with nx := Nx, ct := Nx, bk := D.nx } σ H1 := by
  refine hb F1 A1 σ H1 ρ _ S ?_
  cases e : exS C body ρ with
  | stuck => rw [e] at k; exact k.elim
  | exn x ρ' =>
    rw [e] at k
    exact fun c d F' A' σ' H' S' G' => k c d F' A' σ' H' S' (G.trans G')
  | ok fl ρ' =>
    rw [e] at k
    have k' : KS X Cl W Bs F A H (r fl ρ') (PD X Bs A H D) := k
    intro F' A' σ' H' S' G'
    cases fl with
    | nx => exact hn ρ' F' A' σ' H' S' (G.trans G') G'.fs k'
    | ct => rw [h3] at k'; exact hn ρ' F' A' σ' H' S' (G.trans G') G'.fs k'
    | bk => rw [h1] at k'; exact KS.now (fl := .nx) k' S' (G.trans G')
    | rt v =>
      rw [h2] at k'
      exact fun x rx => KS.now (fl := .rt v) k' S' (G.trans G') x (rx.back G)
def nextF (f : D → Env → Res Flow) (xs : List D) : Flow → Env → Res Flow
  | .nx, ρ' => loopF f xs ρ'
  | .ct, ρ' => loopF f xs ρ'
  | .bk, ρ' => .ok .nx ρ'
  | .rt v, ρ' => .ok (.rt v) ρ'
theorem loopF_cons {f : D → Env → Res Flow} {x : D} {xs : List D} {ρ : Env} : loopF f (x :: xs) ρ = (f x ρ).bind (nextF f xs) := by
  simp only [loopF]
  cases e : f x ρ with
  | ok fl ρ' => cases fl <;> rfl
  | exn y ρ' => rfl
  | stuck => rfl
theorem ss_for (cx : SX P Cl C N sc fnb W X) {tg : Tg} {kd : ItK} {its : L} {body : S} {t it : Expr} {bd : List Stmt} {xs : List Expr} {pos : Pos} (ht : okTg N sc fnb tg t = true) (hi : itArgs P sc kd t it = some xs) (hl : okL P N sc its xs = true) (hb : SSs X Cl W Bs bd (exS C body)) :
    SS X Cl W Bs (.For t it bd [] pos) (exS C (.for_ tg kd its body)) := by
  intro F A σ H ρ D S k
  have hits := sndL its (Bs := Bs) cx.toCtx hl
  have k' : KS X Cl W Bs F A H ((evs C its ρ).bind fun vs ρ1 => match imms vs with
    | some ds => match itemsOf kd ds with
      | some xs => loopF (fun x ρ' => match tgSet ρ' tg x with
          | some ρ2 => exS C body ρ2
          | none => .stuck) xs ρ1
      | none => .stuck
    | none => .stuck) (PD X Bs A H D) := k
  refine ws_of (ps_for cx.pass cx.calm (pi_w (X := X) (tg := t) (iter := it)) (pg_of cx.calm cx.hN cx.nd cx.hsc cx.hfn ht) pss_w (folded_plain (itSet hi))) ?_
  refine (wi_ok cx.toCtx hi hl hits.args (fun x e z z' => (hits.one x e z z').1) S (k'.bind.imp fun vals ρ1 F1 A1 H1 S1 G1 q => ?_)).1
  split at q
  case h_2 => exact q.elim
  rename_i ds eds
  split at q
  case h_2 => exact q.elim
  rename_i ys eys
  refine ⟨ds, ys, eds, eys, fun J jw => ?_⟩
  generalize hf : (fun x ρ' => match tgSet ρ' tg x with
    | some ρ2 => exS C body ρ2
    | none => .stuck : Mi.D → Env → Res Flow) = f at q
  refine ⟨fun i m σ' H' => m = ys.length - i ∧ i ≤ ys.length ∧ ∃ F' A' ρ', Sim X.K Bs F' A' σ' H' ρ' ∧ Grow F A H F' A' H' ∧ Sub F1 F' ∧ KS X Cl W Bs F A H (loopF f (ys.drop i) ρ') (PD X Bs A H D), ⟨_, rfl, Nat.zero_le _, F1, A1, ρ1, S1, G1, .refl _, q⟩, ?_⟩
  rintro i m σ' H' ⟨rfl, hi', F', A', ρ', S', G', s', e'⟩
  by_cases hlt : i < ys.length
  · refine .inr ⟨jw.goes i H' hlt (s'.trans S'.sub), fun σ'' H'' => i + 1 ≤ ys.length ∧ ∃ F' A' ρ', Sim X.K Bs F' A' σ'' H'' ρ' ∧ Grow F A H F' A' H'' ∧ Sub F1 F' ∧ KS X Cl W Bs F A H (loopF f (ys.drop (i + 1)) ρ') (PD X Bs A H D), fun σ'' H'' z => ⟨_, by omega, rfl, z⟩, fun xv H2 y => ?_⟩
    obtain ⟨F2, d, n2, ed, rd⟩ := jw.yields i H' xv H2 F' hlt s' S'.sub y
    have S2 := S'.new n2
    have G2 : Grow F A H F2 A' H2 := G'.trans (Grow.new n2)
    rw [List.drop_eq_getElem_cons hlt, loopF_cons] at e'
    have ed' : ys[i] = d := by
      rw [List.getElem?_eq_getElem hlt] at ed
      exact Option.some.inj ed
    rw [ed'] at e'
    have ef : f d ρ' = match tgSet ρ' tg d with
      | some ρ2 => exS C body ρ2
      | none => .stuck := by rw [← hf]
    rw [ef] at e'
    cases et : tgSet ρ' tg d with
    | none => rw [et] at e'; exact e'.elim
    | some ρ2 =>
      rw [et] at e'
      refine gOf_ok S2 rd et fun σ3 A3 S3 G3 _ _ => ?_
      refine turn_ok hb S3 (G2.trans G3) e' (fun _ => rfl) (fun _ _ => rfl) (fun _ => rfl) fun ρ4 F4 A4 σ4 H4 S4 G4 s4 k4 => ?_
      exact ⟨hlt, F4, A4, ρ4, S4, G4, ((s'.trans n2.fs).trans G3.fs).trans s4, k4⟩
  · have hi2 : i = ys.length := by omega
    subst hi2
    refine .inl ⟨jw.stops H' (s'.trans S'.sub), ?_⟩
    rw [List.drop_length] at e'
    exact KS.now (fl := .nx) e' S' G'
def nextW (c : Env → Res Bool) (f : Env → Res Flow) (n : Nat) : Flow → Env → Res Flow
  | .nx, ρ' => loopW c f n ρ'
  | .ct, ρ' => loopW c f n ρ'
  | .bk, ρ' => .ok .nx ρ'
  | .rt v, ρ' => .ok (.rt v) ρ'
theorem loopW_succ {c : Env → Res Bool} {f : Env → Res Flow} {n : Nat} {ρ : Env} : loopW c f (n + 1) ρ = (c ρ).bind fun k ρ1 => if k then (f ρ1).bind (nextW c f n) else .ok .nx ρ1 := by
  simp only [loopW]
  cases e : c ρ with
  | ok k ρ1 =>
    cases k with
    | true =>
      show _ = (f ρ1).bind (nextW c f n)
      cases e2 : f ρ1 with
      | ok fl ρ' => cases fl <;> (simp only [e2]; rfl)
      | exn y ρ' => simp only [e2]; rfl
      | stuck => simp only [e2]; rfl
    | false => rfl
  | exn y ρ1 => rfl
  | stuck => rfl
theorem ss_whl (cx : SX P Cl C N sc fnb W X) {c : E} {body : S} {t : Expr} {bd : List Stmt} {pos : Pos} (hc : okE P N sc c t = true) (hb : SSs X Cl W Bs bd (exS C body)) : SS X Cl W Bs (.While t bd [] pos) (exS C (.whl c body)) := by
  intro F A σ H ρ D S k
  have k' : KS X Cl W Bs F A H (loopW (evT C c) (exS C body) FUEL ρ) (PD X Bs A H D) := k
  refine ws_of (ps_while cx.pass pt_w pss_w) ?_
  refine ⟨fun m σ' H' => ∃ F' A' ρ', Sim X.K Bs F' A' σ' H' ρ' ∧ Grow F A H F' A' H' ∧ KS X Cl W Bs F A H (loopW (evT C c) (exS C body) m ρ') (PD X Bs A H D), ⟨FUEL, F, A, ρ, S, Grow.refl _ _ _, k'⟩, ?_⟩
  rintro m σ' H' ⟨F', A', ρ', S', G', e'⟩
  cases m with
  | zero => exact e'.elim
  | succ m =>
    rw [loopW_succ] at e'
    have e2 : KS X Cl W Bs F A H (((ev C true c ρ').bind kOf).bind fun k ρ1 => if k then (exS C body ρ1).bind (nextW (evT C c) (exS C body) m) else .ok .nx ρ1) (PD X Bs A H D) := e'
    rw [bind_assoc'] at e2
    refine (sndE c cx.toCtx hc).2 F' A' σ' H' ρ' _ S' ?_
    have sh : KX X Cl W Bs F' A' σ' H' (ev C true c ρ') fun val ρ1 _ _ _ => KS X Cl W Bs F A H ((kOf val ρ1).bind fun k ρ1 => if k then (exS C body ρ1).bind (nextW (evT C c) (exS C body) m) else .ok .nx ρ1) (PD X Bs A H D) := by
      cases er : ev C true c ρ' with
      | ok val ρ1 => rw [er] at e2; exact fun _ _ _ _ _ => e2
      | exn x ρ1 => rw [er] at e2; exact fun c d F2 A2 H2 S2 G2 => e2 c d F2 A2 _ H2 S2 (G'.trans G2)
      | stuck => rw [er] at e2; exact e2
    refine sh.imp fun val ρ1 F1 A1 H1 S1 G1 q kb ek => ?_
    subst ek
    have q' : KS X Cl W Bs F A H (if kb then (exS C body ρ1).bind (nextW (evT C c) (exS C body) m) else .ok .nx ρ1) (PD X Bs A H D) := q
    cases kb with
    | false =>
      have q2 : KS X Cl W Bs F A H (.ok .nx ρ1) (PD X Bs A H D) := q'
      exact q2.now S1 (G'.trans G1)
    | true =>
      have q2 : KS X Cl W Bs F A H ((exS C body ρ1).bind (nextW (evT C c) (exS C body) m)) (PD X Bs A H D) := q'
      rw [if_pos rfl]
      refine ⟨fun σ'' H'' => ∃ F' A' ρ', Sim X.K Bs F' A' σ'' H'' ρ' ∧ Grow F A H F' A' H'' ∧ KS X Cl W Bs F A H (loopW (evT C c) (exS C body) m ρ') (PD X Bs A H D), fun σ'' H'' z => ⟨m, Nat.lt_succ_self m, z⟩, ?_⟩
      exact turn_ok hb S1 (G'.trans G1) q2 (fun _ => rfl) (fun _ _ => rfl) (fun _ => rfl) fun ρ4 F4 A4 σ4 H4 S4 G4 _ k4 => ⟨F4, A4, ρ4, S4, G4, k4⟩

/-! ### every statement -/
mutual
theorem sndS : ∀ (s : S) {X : Cx} {W : WX} {Bs : List (Option Addr)} {st : Stmt}, SX P Cl C N sc fnb W X → okSt P N sc fnb s st = true → SS X Cl W Bs st (exS C s)
  | .asg i e, X, W, Bs, st, cx, h => by
    unfold okSt at h
    split at h <;> try contradiction
    rename_i heq
    cases heq
    rw [Bool.and_eq_true] at h
    exact ss_asg cx h.1 h.2
  | .unp is e, X, W, Bs, st, cx, h => by
    unfold okSt at h
    split at h <;> try contradiction
    rename_i heq
    cases heq
    simp only [Bool.and_eq_true, Bool.not_eq_true'] at h
    exact ss_unp cx h.1.1.1 h.1.1.2 h.1.2 h.2
  | .seti i ix e, X, W, Bs, st, cx, h => by
    unfold okSt at h
    split at h <;> try contradiction
    rename_i heq
    cases heq
    simp only [Bool.and_eq_true, Bool.not_eq_true'] at h
    exact ss_seti cx h.1.1.1.1 h.1.1.1.2 h.1.1.2 h.1.2 h.2
  | .exp e, X, W, Bs, st, cx, h => by
    unfold okSt at h
    split at h <;> try contradiction
    rename_i heq
    cases heq
    simp only [Bool.and_eq_true, Bool.not_eq_true'] at h
    exact ss_exp cx h.1 h.2
  | .ret e, X, W, Bs, st, cx, h => by
    unfold okSt at h
    split at h <;> try contradiction
    rename_i heq
    cases heq
    exact ss_ret cx h
  | .retv i, X, W, Bs, st, cx, h => by
    unfold okSt at h
    split at h <;> try contradiction
    rename_i heq
    cases heq
    exact ss_retv cx h
  | .retn, X, W, Bs, st, cx, h => by
    unfold okSt at h
    split at h <;> try contradiction
    exact ss_retn
  | .ife c a b, X, W, Bs, st, cx, h => by
    unfold okSt at h
    split at h <;> try contradiction
    rename_i heq
    cases heq
    simp only [Bool.and_eq_true] at h
    exact ss_ife cx h.1.1 (sndSs a cx h.1.2) (sndSs b cx h.2)
  | .for_ tg k its body, X, W, Bs, st, cx, h => by
    unfold okSt at h
    split at h <;> try contradiction
    rename_i heq
    cases heq
    simp only [Bool.and_eq_true] at h
    obtain ⟨⟨h1, h2⟩, h3⟩ := h
    split at h2
    case h_2 => cases h2
    rename_i xs hxs
    exact ss_for cx h1 hxs h2 (sndSs body cx h3)
  | .whl c body, X, W, Bs, st, cx, h => by
    unfold okSt at h
    split at h <;> try contradiction
    rename_i heq
    cases heq
    rw [Bool.and_eq_true] at h
    exact ss_whl cx h.1 (sndSs body cx h.2)
  | .brk, X, W, Bs, st, cx, h => by
    unfold okSt at h
    split at h <;> try contradiction
    exact ss_brk
  | .cnt, X, W, Bs, st, cx, h => by
    unfold okSt at h
    split at h <;> try contradiction
    exact ss_cnt
  | .pas, X, W, Bs, st, cx, h => by
    unfold okSt at h
    split at h <;> try contradiction
    · exact ss_doc
    · exact ss_pass
  | .nil, X, W, Bs, st, cx, h => by
    unfold okSt at h
    cases h
  | .seq _ _, X, W, Bs, st, cx, h => by
    unfold okSt at h
    cases h
theorem sndSs : ∀ (s : S) {X : Cx} {W : WX} {Bs : List (Option Addr)} {sts : List Stmt}, SX P Cl C N sc fnb W X → okSs P N sc fnb s sts = true → SSs X Cl W Bs sts (exS C s)
  | .nil, X, W, Bs, sts, cx, h => by
    cases sts with
    | nil => exact sss_nil
    | cons _ _ => simp [okSs] at h
  | .seq s r, X, W, Bs, sts, cx, h => by
    cases sts with
    | nil => simp [okSs] at h
    | cons st sts =>
      simp only [okSs, Bool.and_eq_true] at h
      exact sss_cons (sndS s cx h.1) (sndSs r cx h.2)
  | .asg _ _, X, W, Bs, sts, cx, h => by simp [okSs] at h
  | .unp _ _, X, W, Bs, sts, cx, h => by simp [okSs] at h
  | .seti _ _ _, X, W, Bs, sts, cx, h => by simp [okSs] at h
  | .exp _, X, W, Bs, sts, cx, h => by simp [okSs] at h
  | .ret _, X, W, Bs, sts, cx, h => by simp [okSs] at h
  | .retv _, X, W, Bs, sts, cx, h => by simp [okSs] at h
  | .retn, X, W, Bs, sts, cx, h => by simp [okSs] at h
  | .ife _ _ _, X, W, Bs, sts, cx, h => by simp [okSs] at h
  | .for_ _ _ _ _, X, W, Bs, sts, cx, h => by simp [okSs] at h
  | .whl _ _, X, W, Bs, sts, cx, h => by simp [okSs] at h
  | .brk, X, W, Bs, sts, cx, h => by simp [okSs] at h
  | .cnt, X, W, Bs, sts, cx, h => by simp [okSs] at h
  | .pas, X, W, Bs, sts, cx, h => by simp [okSs] at h
end
end
end
end Mi

set_option maxRecDepth 100000
set_option maxHeartbeats 2000000
/-! Mi9: defs; the law's own call. -/
namespace Mi
open PySem PySem.Spec PyProof.Rows L2

/-! ### a def's entry -/
theorem join_at {bs : List (Option Addr)} {i : Nat} {p : Addr} (h : (bs[i]?).join = some p) : bs[i]? = some (some p) := by
  cases e : bs[i]? with
  | none => rw [e] at h; cases h
  | some o =>
    rw [e] at h
    cases o with
    | none => cases h
    | some q => cases h; rfl
theorem nodup_at : ∀ {bs : List (Option Addr)}, (bs.filterMap id).Nodup → ∀ (i j : Nat) (p : Addr), bs[i]? = some (some p) → bs[j]? = some (some p) → i = j
  | [], _, i, j, p, h, _ => by simp at h
  | none :: bs, nd, i, j, p, h1, h2 => by
    have nd' : (bs.filterMap id).Nodup := by simpa using nd
    cases i with
    | zero => simp at h1
    | succ i =>
      cases j with
      | zero => simp at h2
      | succ j => rw [nodup_at nd' i j p (by simpa using h1) (by simpa using h2)]
  | some q :: bs, nd, i, j, p, h1, h2 => by
    have nd' : (q :: bs.filterMap id).Nodup := by simpa using nd
    rw [List.nodup_cons] at nd'
    have mem : ∀ k, bs[k]? = some (some q) → q ∈ bs.filterMap id := fun k hk => List.mem_filterMap.mpr ⟨some q, List.mem_of_getElem? hk, rfl⟩
    cases i with
    | zero =>
      have e : q = p := by simpa using h1
      subst e
      cases j with
      | zero => rfl
      | succ j => exact absurd (mem j (by simpa using h2)) nd'.1
    | succ i =>
      cases j with
      | zero =>
        have e : q = p := by simpa using h2
        subst e
        exact absurd (mem i (by simpa using h1)) nd'.1
      | succ j => rw [nodup_at nd'.2 i j p (by simpa using h1) (by simpa using h2)]
section
variable {K : Frag} {F H : Hp}
theorem ArgsR.lens {vs : List V} {as : List (Bool × D)} {bs : List (Option Addr)} (h : ArgsR K F H vs as bs) : as.length = vs.length ∧ bs.length = vs.length := by
  induction h with
  | nil => exact ⟨rfl, rfl⟩
  | imm _ _ ih => exact ⟨congrArg Nat.succ ih.1, congrArg Nat.succ ih.2⟩
  | own _ _ _ ih => exact ⟨congrArg Nat.succ ih.1, congrArg Nat.succ ih.2⟩
theorem ArgsR.there {vs : List V} {as : List (Bool × D)} {bs : List (Option Addr)} (h : ArgsR K F H vs as bs) : ∀ p, some p ∈ bs → H p ≠ none := by
  induction h with
  | nil => exact fun p h => by cases h
  | imm _ _ ih =>
    intro p h
    rcases List.mem_cons.mp h with e | h
    · cases e
    · exact ih p h
  | own o _ _ ih =>
    intro p h
    rcases List.mem_cons.mp h with e | h
    · cases e; exact o.there
    · exact ih p h
theorem startS_len : ∀ {as : List (Bool × D)} {k : Nat}, (startS k as).length = as.length
  | [], _ => rfl
  | (_, _) :: as, k => congrArg Nat.succ startS_len
/-- the parameters' slots -/
theorem ArgsR.slots {Bs : List (Option Addr)} {vs : List V} {as : List (Bool × D)} {bs : List (Option Addr)} (h : ArgsR K F H vs as bs) : ∀ k : Nat, (∀ j : Nat, bs[j]? = Bs[k + j]?) → ∀ i : Nat, SlotR K F H Bs ((vs.map some)[i]?).join ((startS k as)[i]?).join (bs[i]?).join := by
  induction h with
  | nil => exact fun k hb i => by simp [startS]; exact rfl
  | @imm v d vs as bs r t ih =>
    intro k hb i
    cases i with
    | zero => exact ⟨rfl, v, rfl, r⟩
    | succ i =>
      have q := ih (k + 1) (fun j => by rw [Nat.add_assoc, Nat.add_comm 1 j, ← hb (j + 1)]; rfl) i
      simpa [startS] using q
  | @own p d vs as bs o hf t ih =>
    intro k hb i
    cases i with
    | zero => exact ⟨p, rfl, rfl, o, hf, by show Bs[k]? = _; rw [← Nat.add_zero k, ← hb 0]; rfl⟩
    | succ i =>
      have q := ih (k + 1) (fun j => by rw [Nat.add_assoc, Nat.add_comm 1 j, ← hb (j + 1)]; rfl) i
      simpa [startS] using q
theorem getS_app {xs : List (Option Slot)} {n i : Nat} : getS (xs ++ List.replicate n none) i = (xs[i]?).join := by
  unfold getS
  by_cases h : i < xs.length
  · rw [List.getElem?_append_left h]
  · rw [List.getElem?_append_right (by omega), List.getElem?_eq_none (l := xs) (by omega), List.getElem?_replicate]
    split <;> rfl
theorem getV_app {xs : List (Option V)} {n i : Nat} : ((xs ++ List.replicate n none)[i]?).join = (xs[i]?).join := by
  by_cases h : i < xs.length
  · rw [List.getElem?_append_left h]
  · rw [List.getElem?_append_right (by omega), List.getElem?_eq_none (l := xs) (by omega), List.getElem?_replicate]
    split <;> rfl
theorem start_sim {N : List Str} {ns np : Nat} {vs : List V} {as : List (Bool × D)} {bs : List (Option Addr)} (s : Sub F H) (h : ArgsR K F H vs as bs) (nd : distinct bs) (hn : ns = N.length) (hp : vs.length = np) (hle : np ≤ ns) :
    Sim K bs F (fun i => (bs[i]?).join) (L2.start N vs) H (startS 0 as ++ List.replicate (ns - np) none) := by
  obtain ⟨l1, l2⟩ := h.lens
  refine ⟨?_, fun i => ?_, s, fun i j p h1 h2 => nodup_at nd i j p (join_at h1) (join_at h2), h.there⟩
  · unfold L2.start
    rw [List.length_append, List.length_append, List.length_map, List.length_replicate, List.length_replicate, startS_len]
    omega
  · rw [getS_app]
    unfold L2.start
    rw [getV_app]
    exact h.slots 0 (fun j => by rw [Nat.zero_add]) i
/-- what the lent lists have become -/
theorem outs_ok {F' H' : Hp} {A' : Nat → Option Addr} {σ' : L2.St} {ρ' : Env} {Bs : List (Option Addr)} (S : Sim K Bs F' A' σ' H' ρ') {vs : List V} {as : List (Bool × D)} {bs : List (Option Addr)} (h : ArgsR K F H vs as bs) :
    ∀ (k : Nat) outs, (∀ j : Nat, bs[j]? = Bs[k + j]?) → outsOf ρ' k as = some outs → OutsR K F' H' bs outs ∧ ∀ p, some p ∈ bs → F' p = none := by
  induction h with
  | nil =>
    intro k outs hb e
    simp only [outsOf, Option.some.injEq] at e
    subst e
    exact ⟨.nil, fun p h => by cases h⟩
  | @imm v d vs as bs r t ih =>
    intro k outs hb e
    simp only [outsOf] at e
    obtain ⟨q1, q2⟩ := ih (k + 1) outs (fun j => by rw [Nat.add_assoc, Nat.add_comm 1 j, ← hb (j + 1)]; rfl) e
    refine ⟨.none q1, fun p h => ?_⟩
    rcases List.mem_cons.mp h with e | h
    · cases e
    · exact q2 p h
  | @own p d vs as bs o hf t ih =>
    intro k outs hb e
    simp only [outsOf] at e
    split at e
    · rename_i tk d' eg
      split at e
      · rename_i etk
        simp only [Option.map_eq_some_iff] at e
        obtain ⟨outs', e1, rfl⟩ := e
        obtain ⟨q1, q2⟩ := ih (k + 1) outs' (fun j => by rw [Nat.add_assoc, Nat.add_comm 1 j, ← hb (j + 1)]; rfl) e1
        obtain ⟨p', hA, hσ, ho, hF, hl⟩ := S.own eg
        subst etk
        have hl' : Bs[k]? = some (some p') := hl
        have hb0 := hb 0
        rw [Nat.add_zero, hl'] at hb0
        cases hb0
        refine ⟨.some ho hF q1, fun q h => ?_⟩
        rcases List.mem_cons.mp h with e | h
        · cases e; exact hF
        · exact q2 q h
      · cases e
    · cases e
theorem end_ok {F' H' : Hp} {A' : Nat → Option Addr} {bs : List (Option Addr)} (G : Grow F (fun i => (bs[i]?).join) H F' A' H') (hf : ∀ p, some p ∈ bs → F' p = none) (fh : Sub F' H') : CGrow F bs H F' H' := by
  refine ⟨G.fs, fh, fun b o hb hn => G.keep b o hb fun i e => hn (List.mem_of_getElem? (join_at e)), G.dom, fun b z w => ?_⟩
  rcases G.fn b z w with q | ⟨i, q⟩
  · exact q
  · exact absurd (hf b (List.mem_of_getElem? (join_at q))) w
end

/-! ### all defs -/
/-- a def of the text, and its term -/
structure DefAt (P : Pa) (K : Frag) (mg : Str → Option Value) (T : Tab) (f : Nat) (x : Str) (addr : Addr) (fd : FuncData) (N : List Str) (fn : Fn) (st : Stmt) : Prop where
  mgf : mg x = some (.ref addr)
  fu : L2.Fun K x x st addr fd
  tab : T f = some fn
  ns : fn.ns = N.length
  np : fn.np ≤ N.length
  sc : FnScope N (N.take fn.np) (defScope st)
  ok : okSs P N (defScope st) (fun _ => true) fn.body (defBody st) = true
  binds : Binds K fd (N.take fn.np) []
section
variable {P : Pa} {Cl : Nat → Value × List Str} {T : Tab} {Pr : Program} {w : World} {K : Frag} {mg : Str → Option Value} {base : Heap}
theorem call_len {n f : Nat} {fn : Fn} (ht : T f = some fn) {as : List (Bool × D)} (h : callF T n f as ≠ .stuck) : as.length = fn.np := by
  cases n with
  | zero => exact absurd rfl h
  | succ n =>
    refine Decidable.byContradiction fun z => h ?_
    unfold callF
    rw [ht]
    show runFn _ fn as = _
    unfold runFn
    rw [if_neg (fun q => z q.1)]
theorem defs_ok (hD : ∀ f x, P.nm[f]? = some x → ∃ addr fd N fn st, DefAt P K mg T f x addr fd N fn st) (hb : ∀ x, x ∈ P.bn → mg x = none) (hg : P.gcd = true → mg "gcd" = some (.builtin "math.gcd")) :
    ∀ n f x addr fd N fn st, P.nm[f]? = some x → DefAt P K mg T f x addr fd N fn st → FnOk Pr w K mg base (CX Pr w) n addr fd (N.take fn.np) (spF K Cl (callF T n f) (N.take fn.np).length)
  | 0, f, x, addr, fd, N, fn, st, hx, d => ⟨fun vs H Q E h => h.1, fun A outer s H args us vs Q E _ _ _ _ h => by
      obtain ⟨_, F, as, bs, _, _, _, k⟩ := h
      exact k.elim⟩
  | n + 1, f, x, addr, fd, N, fn, st, hx, d => by
    obtain ⟨oc, od, kV, doc, pm, an, cdv, ct, osl, rfl, lk, hcd⟩ := d.fu.ex
    have lt : (N.take fn.np).length = fn.np := by rw [List.length_take]; have := d.np; omega
    refine fn_of lk hcd d.sc (fun vs H Q E h => h.1) fun A outer s H vs Q E hr hsp => ⟨wSs _ (defBody st), pss_w, ?_⟩
    obtain ⟨hl, F, as, bs, sub, ha, nd, k⟩ := hsp
    rw [lt] at hl
    have ec : callF T (n + 1) f as = runFn (callF T n) fn as := by
      show (match T f with | some fn => runFn (callF T n) fn as | none => .stuck) = _
      rw [d.tab]
    rw [ec] at k
    unfold runFn at k
    split at k
    case isFalse => exact k.elim
    rename_i hc
    have S0 := start_sim (N := N) (ns := fn.ns) (np := fn.np) sub ha nd d.ns hl hc.2.2
    generalize hX : cxOf (CX Pr w) Pr w K mg base N x (defScope st) addr cdv A outer s H E = X
    have cx : SX P Cl (callF T n) N (defScope st) (fun _ => true) (fun cls dd _ H' => E cls dd H') X := by
      subst hX
      refine ⟨⟨rfl, d.sc.nd, rfl, rfl, hr.units, passes_of rfl, takes_of rfl rfl rfl rfl, fun f' x' hx' => ?_, hb, hg⟩, rfl, d.sc.kind⟩
      obtain ⟨addr', fd', N', fn', st', d'⟩ := hD f' x' hx'
      have lt' : (N'.take fn'.np).length = fn'.np := by rw [List.length_take]; have := d'.np; omega
      exact ⟨addr', fd', n, _, d'.mgf, d'.fu.kp, d'.binds, defs_ok hD hb hg n f' x' addr' fd' N' fn' st' hx' d', hr, fun as' hs => by rw [lt']; exact call_len d'.tab hs⟩
    have hK : X.K = K := by subst hX; rfl
    refine sndSs fn.body cx d.ok F _ _ H _ _ (by rw [hK]; exact S0) ?_
    cases er : exS (callF T n) fn.body (startS 0 as ++ List.replicate (fn.ns - fn.np) none) with
    | stuck => rw [er] at k; exact k.elim
    | exn xx ρ' =>
      rw [er] at k
      intro c dd F' A' σ' H' S' G' xr
      rw [hK] at S' xr
      have k' : KC K Cl F bs H (finE as xx ρ') Q E := k
      unfold finE at k'
      split at k'
      · rename_i outs eo
        obtain ⟨o1, o2⟩ := outs_ok S' ha 0 outs (fun j => by rw [Nat.zero_add]) eo
        exact k' c dd F' H' (end_ok G' o2 S'.sub) o1 xr
      · exact k'.elim
    | ok fl ρ' =>
      rw [er] at k
      intro F' A' σ' H' S' G'
      rw [hK] at S'
      have key : ∀ o dd, KC K Cl F bs H (fin as o dd ρ') Q E → CGrow F bs H F' H' ∧ ∀ v, (if o then ∃ p, v = .ref p ∧ OwnAt K F' H' p dd ∧ F' p = none ∧ H p = none else Rep K F' v dd) → Q v H' := by
        intro o dd k'
        unfold fin at k'
        split at k'
        · rename_i outs eo
          obtain ⟨o1, o2⟩ := outs_ok S' ha 0 outs (fun j => by rw [Nat.zero_add]) eo
          exact ⟨end_ok G' o2 S'.sub, fun v hv => k' v F' H' (end_ok G' o2 S'.sub) o1 hv⟩
        · exact k'.elim
      cases fl with
      | nx => exact (key false .non k).2 .non .non
      | bk => exact k.elim
      | ct => exact k.elim
      | rt v =>
        cases v with
        | brw i => exact k.elim
        | imm dd => exact fun x' rx => (key false dd k).2 x' (by rw [hK] at rx; exact rx)
        | tmp dd =>
          intro x' rx
          rw [hK] at rx
          obtain ⟨p, e, o, f1, a1, b1, z⟩ := rx
          refine (key true dd k).2 x' ⟨p, e, o, f1, ?_⟩
          rcases z with z | ⟨j, z⟩
          · exact z
          · exact absurd (List.mem_of_getElem? (join_at z)) b1
/-- the law's own call -/
theorem law_ok {n f : Nat} {H : Hp} {a : Addr} {ns : List Int} (h : SqL K H a (ns.map V.int)) (e : callF T n f [(false, .ro (ns.map D.int))] = .ok false (.bl true) []) : spF K Cl (callF T n f) 1 [.ref a] H (fun v _ => v = .bl true) fun _ _ _ => False := by
  have reps : ∀ ms : List Int, Reps K H (ms.map V.int) (ms.map D.int) := fun ms => by
    induction ms with
    | nil => exact .nil
    | cons m ms ih => exact .cons (.int m) ih
  refine ⟨rfl, H, _, [none], Sub.refl H, .imm (.ro h (reps ns)) .nil, by simp [distinct], ?_⟩
  rw [e]
  intro v F' H' _ _ hv
  have hv' : Rep K F' v (.bl true) := hv
  cases hv'
  rfl
theorem cx_no {Pr : Program} {w : World} {H : Hp} {s s' : Shared} {e : Value} (h : CX Pr w [] H s (fun _ _ _ => False) e s') : False := by
  obtain ⟨_, _, _, _, _, _, _, _, _, _, _, _, z⟩ := h
  exact z
end
end Mi

set_option maxRecDepth 100000
set_option maxHeartbeats 2000000
/-! Sx: the little language, run by simp. -/
namespace Mi
section
variable {C : Nat → List (Bool × D) → CRes} {ρ : Env} {t : Bool}
@[simp] theorem bind_ok {α β : Type} {a : α} {f : α → Env → Res β} : (Res.ok a ρ).bind f = f a ρ := rfl
@[simp] theorem bind_stuck {α β : Type} {f : α → Env → Res β} : (Res.stuck : Res α).bind f = .stuck := rfl
@[simp] theorem bind_ite {α β : Type} {c : Prop} [Decidable c] {a b : Res α} {f : α → Env → Res β} : (if c then a else b).bind f = if c then a.bind f else b.bind f := by split <;> rfl
@[simp] theorem bind_tf {r : Res Val} : r.bind (tst false) = r := by cases r <;> rfl
@[simp] theorem tst_f {v : Val} : tst false v ρ = .ok v ρ := rfl
@[simp] theorem tst_t {v : Val} : tst true v ρ = match rv ρ v with
    | some d => match d.truth with
      | some k => .ok (bV k) ρ
      | none => .stuck
    | none => .stuck := rfl
@[simp] theorem getS_0 {s : Option Slot} {r : Env} : getS (s :: r) 0 = s := by cases s <;> rfl
@[simp] theorem getS_s {s : Option Slot} {r : Env} {n : Nat} : getS (s :: r) (n + 1) = getS r n := rfl
@[simp] theorem setS_0 {s : Option Slot} {r : Env} {x : Slot} : setS (s :: r) 0 x = some x :: r := rfl
@[simp] theorem setS_s {s : Option Slot} {r : Env} {x : Slot} {n : Nat} : setS (s :: r) (n + 1) x = s :: setS r n x := rfl
@[simp] theorem rv_imm {d : D} : rv ρ (.imm d) = some d := rfl
@[simp] theorem rv_tmp {d : D} : rv ρ (.tmp d) = some d := rfl
@[simp] theorem rv_brw {i : Nat} : rv ρ (.brw i) = match getS ρ i with
    | some (.imm d) => some d
    | some (.own _ d) => some d
    | none => none := rfl
@[simp] theorem kOf_b {k : Bool} : kOf (bV k) ρ = .ok k ρ := rfl
@[simp] theorem kOf_i {k : Bool} : kOf (.imm (.bl k)) ρ = .ok k ρ := rfl
@[simp] theorem bV_eq {k : Bool} : bV k = .imm (.bl k) := rfl
@[simp] theorem ofV_s {v : Val} : ofV ρ (some v) = .ok v ρ := rfl
@[simp] theorem ofD_s {d : D} : ofD ρ (some d) = .ok (.imm d) ρ := rfl
@[simp] theorem ofB_s {b : Bool} : ofB ρ (some b) = .ok b ρ := rfl
@[simp] theorem x_var {i : Nat} : ev C t (.var i) ρ = match getS ρ i with
    | some (.imm d) => tst t (.imm d) ρ
    | some (.own _ d) => tst t (.imm d) (setS ρ i (.imm d))
    | none => .stuck := rfl
@[simp] theorem x_pk {i : Nat} : ev C t (.pk i) ρ = match getS ρ i with
    | some (.imm d) => tst t (.imm d) ρ
    | some (.own _ _) => tst t (.brw i) ρ
    | none => .stuck := rfl
@[simp] theorem x_con {d : D} : ev C t (.con d) ρ = tst t (.imm d) ρ := rfl
@[simp] theorem x_bin {op : BOp} {a b : E} : ev C t (.bin op a b) ρ = ((ev C false a ρ).bind fun x ρ1 => (ev C false b ρ1).bind fun y ρ2 => two ρ2 x y (app2 op)).bind (tst t) := rfl
@[simp] theorem x_un {op : UOp} {a : E} : ev C t (.un op a) ρ = ((ev C false a ρ).bind fun x ρ1 => match rv ρ1 x with
    | some d => ofV ρ1 (app1 op d)
    | none => .stuck).bind (tst t) := rfl
@[simp] theorem x_cmp {op : COp} {a b : E} : ev C t (.cmp op a b) ρ = (ev C false a ρ).bind fun x ρ1 => (ev C false b ρ1).bind fun y ρ2 => (twoB ρ2 x y (appC op)).bind fun k ρ3 => .ok (bV k) ρ3 := rfl
@[simp] theorem x_chn {op op' : COp} {a b c : E} : ev C t (.chn op op' a b c) ρ = (ev C false a ρ).bind fun x ρ1 => (ev C false b ρ1).bind fun y ρ2 => (twoB ρ2 x y (appC op)).bind fun k ρ3 =>
    if k then (ev C false c ρ3).bind fun z ρ4 => (twoB ρ4 y z (appC op')).bind fun k' ρ5 => .ok (bV k') ρ5 else .ok (bV false) ρ3 := rfl
@[simp] theorem x_bool {k : Bool} {es : L} : ev C t (.bool k es) ρ = evB C t k es ρ := rfl
@[simp] theorem x_not {a : E} : ev C t (.not a) ρ = (((ev C t a ρ).bind (tst true)).bind kOf).bind fun k ρ1 => .ok (bV (!k)) ρ1 := rfl
@[simp] theorem x_ife {c a b : E} : ev C t (.ife c a b) ρ = ((ev C true c ρ).bind kOf).bind fun k ρ1 => if k then ev C t a ρ1 else ev C t b ρ1 := rfl
def mkT (ρ : Env) (ds : List D) : Res Val := if ds.length ≤ LIM then .ok (.imm (.tup ds)) ρ else .stuck
def mkL (ρ : Env) (ds : List D) : Res Val := if ds.length ≤ LIM then .ok (.tmp (.lst ds)) ρ else .stuck
theorem le_LIM {n : Nat} (h : n ≤ 1000) : n ≤ LIM := Nat.le_trans h (by decide)
@[simp] theorem mkT_ok {ds : List D} (h : ds.length ≤ 1000) : mkT ρ ds = .ok (.imm (.tup ds)) ρ := if_pos (le_LIM h)
@[simp] theorem mkL_ok {ds : List D} (h : ds.length ≤ 1000) : mkL ρ ds = .ok (.tmp (.lst ds)) ρ := if_pos (le_LIM h)
@[simp] theorem x_tup {es : L} : ev C t (.tup es) ρ = ((evs C es ρ).bind fun vs ρ1 => match imms vs with
    | some ds => mkT ρ1 ds
    | none => .stuck).bind (tst t) := rfl
@[simp] theorem x_lst {es : L} : ev C t (.lst es) ρ = ((evs C es ρ).bind fun vs ρ1 => match imms vs with
    | some ds => mkL ρ1 ds
    | none => .stuck).bind (tst t) := rfl
@[simp] theorem x_sub {o i : E} : ev C t (.sub o i) ρ = ((ev C false o ρ).bind fun x ρ1 => (ev C false i ρ1).bind fun y ρ2 => match rv ρ2 x, rv ρ2 y with
    | some d, some e => ofD ρ2 (subD d e)
    | _, _ => .stuck).bind (tst t) := rfl
@[simp] theorem x_slc {hl hh : Bool} {o lo hi : E} : ev C t (.slc hl hh o lo hi) ρ = ((ev C false o ρ).bind fun x ρ1 =>
    (if hl then (ev C false lo ρ1).bind fun y ρ2 => (match asInt ρ2 y with | some i => .ok (some i) ρ2 | none => .stuck) else .ok none ρ1).bind fun l ρ2 =>
    (if hh then (ev C false hi ρ2).bind fun z ρ3 => (match asInt ρ3 z with | some i => .ok (some i) ρ3 | none => .stuck) else .ok none ρ2).bind fun h ρ3 =>
      match rv ρ3 x with
      | some d => ofV ρ3 (slcD d l h)
      | none => .stuck).bind (tst t) := rfl
@[simp] theorem x_call {f : Nat} {es : L} : ev C t (.call f es) ρ = ((evs C es ρ).bind fun vs ρ1 => match argsOf ρ1 vs with
    | some as => if (lentOf vs).Nodup then callRes ρ1 vs (C f as) else .stuck
    | none => .stuck).bind (tst t) := rfl
@[simp] theorem x_blt {b : BId} {es : L} : ev C t (.blt b es) ρ = ((evs C es ρ).bind fun vs ρ1 => match rvs ρ1 vs with
    | some ds => ofV ρ1 (appB b ds)
    | none => .stuck).bind (tst t) := rfl
@[simp] theorem x_isi {a : E} {ty : TyId} : ev C t (.isi a ty) ρ = ((ev C false a ρ).bind fun x ρ1 => match rv ρ1 x with
    | some d => .ok (bV (isTy d ty)) ρ1
    | none => .stuck) := rfl
@[simp] theorem x_mth {m : MId} {o : E} {es : L} : ev C t (.mth m o es) ρ = ((ev C false o ρ).bind fun x ρ1 => match rv ρ1 x with
    | some d0 => if tyM m d0 then (evs C es ρ1).bind fun vs ρ2 => match rv ρ2 x, rvs ρ2 vs with
      | some d, some ds => ofV ρ2 (appM m d ds)
      | _, _ => .stuck else .stuck
    | none => .stuck).bind (tst t) := rfl
@[simp] theorem x_mut {m : MuId} {i : Nat} {es : L} : ev C t (.mut m i es) ρ = ((match getS ρ i with
    | some (.own _ (.lst _)) => (evs C es ρ).bind fun vs ρ1 => match getS ρ1 i, imms vs with
      | some (.own tk d), some ds => match appMu m d ds with
        | some (d', r) => .ok (.imm r) (setS ρ1 i (.own tk d'))
        | none => .stuck
      | _, _ => .stuck
    | _ => .stuck : Res Val)).bind (tst t) := rfl
@[simp] theorem x_lc {own : List Nat} {tg : Tg} {k : ItK} {its cs : L} {elt : E} : ev C t (.lc own tg k its cs elt) ρ = (fLc C own tg k its (evC C cs) (ev C false elt) ρ).bind (tst t) := rfl
@[simp] theorem xs_nil : evs C .nil ρ = .ok [] ρ := rfl
@[simp] theorem xs_cons {e : E} {es : L} : evs C (.cons e es) ρ = (ev C false e ρ).bind fun v ρ1 => (evs C es ρ1).bind fun vs ρ2 => .ok (frz v :: vs) ρ2 := rfl
@[simp] theorem frz_i {d : D} : frz (.imm d) = .imm d := rfl
@[simp] theorem frz_t {d : D} : frz (.tmp d) = .imm d := rfl
@[simp] theorem frz_b {i : Nat} : frz (.brw i) = .brw i := rfl
@[simp] theorem xb_one {k : Bool} {e : E} : evB C t k (.cons e .nil) ρ = ev C t e ρ := rfl
@[simp] theorem xb_two {k : Bool} {e e2 : E} {es : L} : evB C t k (.cons e (.cons e2 es)) ρ = (ev C t e ρ).bind (fRest k (evB C t k (.cons e2 es))) := rfl
@[simp] theorem fRest_i {k : Bool} {fr : Env → Res Val} {d : D} : fRest k fr (.imm d) ρ = match d.truth with
    | some b => if b = k then fr ρ else .ok (.imm d) ρ
    | none => .stuck := rfl
@[simp] theorem fRest_t {k : Bool} {fr : Env → Res Val} {d : D} : fRest k fr (.tmp d) ρ = match d.truth with
    | some b => if b = k then fr ρ else .ok (.tmp d) ρ
    | none => .stuck := rfl
@[simp] theorem imms_nil : imms [] = some [] := rfl
@[simp] theorem imms_cons {d : D} {vs : List Val} : imms (.imm d :: vs) = (imms vs).map (d :: ·) := rfl
@[simp] theorem rvs_nil : rvs ρ [] = some [] := rfl
@[simp] theorem rvs_cons {v : Val} {vs : List Val} : rvs ρ (v :: vs) = match rv ρ v, rvs ρ vs with
    | some d, some ds => some (d :: ds)
    | _, _ => none := rfl
@[simp] theorem argsOf_nil : argsOf ρ [] = some [] := rfl
@[simp] theorem argsOf_i {d : D} {vs : List Val} : argsOf ρ (.imm d :: vs) = (argsOf ρ vs).map ((false, d) :: ·) := rfl
@[simp] theorem argsOf_b {i : Nat} {vs : List Val} : argsOf ρ (.brw i :: vs) = match getS ρ i with
    | some (.own _ d) => (argsOf ρ vs).map ((true, d) :: ·)
    | _ => none := rfl
@[simp] theorem lentOf_nil : lentOf [] = [] := rfl
@[simp] theorem lentOf_i {d : D} {vs : List Val} : lentOf (.imm d :: vs) = lentOf vs := rfl
@[simp] theorem lentOf_b {i : Nat} {vs : List Val} : lentOf (.brw i :: vs) = i :: lentOf vs := rfl
@[simp] theorem back_nil : backOwn ρ [] [] = some ρ := rfl
@[simp] theorem back_cons {i : Nat} {is : List Nat} {d : D} {ds : List D} : backOwn ρ (i :: is) (d :: ds) = match getS ρ i with
    | some (.own t _) => backOwn (setS ρ i (.own t d)) is ds
    | _ => none := rfl
@[simp] theorem callRes_ok {vs : List Val} {o : Bool} {d : D} {outs : List D} : callRes ρ vs (.ok o d outs) = match backOwn ρ (lentOf vs) outs with
    | some ρ' => .ok (if o then .tmp d else .imm d) ρ'
    | none => .stuck := rfl
@[simp] theorem two_eq {a b : Val} {f : D → D → Option Val} : two ρ a b f = match rv ρ a, rv ρ b with
    | some x, some y => ofV ρ (f x y)
    | _, _ => .stuck := rfl
@[simp] theorem twoB_eq {a b : Val} {f : D → D → Option Bool} : twoB ρ a b f = match rv ρ a, rv ρ b with
    | some x, some y => ofB ρ (f x y)
    | _, _ => .stuck := rfl
@[simp] theorem asInt_i {i : Int} : asInt ρ (.imm (.int i)) = some i := rfl
/-! statements -/
@[simp] theorem s_nil : exS C .nil ρ = .ok .nx ρ := rfl
/-- behind a statement -/
def thenS (C : Nat → List (Bool × D) → CRes) (r : S) : Res Flow → Res Flow
  | .ok .nx ρ1 => exS C r ρ1
  | x => x
@[simp] theorem thenS_nx {r : S} : thenS C r (.ok .nx ρ) = exS C r ρ := rfl
@[simp] theorem thenS_rt {r : S} {v : Val} : thenS C r (.ok (.rt v) ρ) = .ok (.rt v) ρ := rfl
@[simp] theorem thenS_bk {r : S} : thenS C r (.ok .bk ρ) = .ok .bk ρ := rfl
@[simp] theorem thenS_ct {r : S} : thenS C r (.ok .ct ρ) = .ok .ct ρ := rfl
@[simp] theorem thenS_stuck {r : S} : thenS C r .stuck = .stuck := rfl
@[simp] theorem thenS_ite {c : Prop} [Decidable c] {a b : Res Flow} {r : S} : thenS C r (if c then a else b) = if c then thenS C r a else thenS C r b := by split <;> rfl
@[simp] theorem s_seq {s r : S} : exS C (.seq s r) ρ = thenS C r (exS C s ρ) := by
  show (match exS C s ρ with
    | .ok .nx ρ1 => exS C r ρ1
    | x => x) = _
  cases exS C s ρ with
  | ok fl ρ1 => cases fl <;> rfl
  | exn x ρ1 => rfl
  | stuck => rfl
@[simp] theorem s_asg {i : Nat} {e : E} : exS C (.asg i e) ρ = (ev C false e ρ).bind (asgR i) := rfl
@[simp] theorem asgR_i {i : Nat} {d : D} : asgR i (.imm d) ρ = .ok .nx (setS ρ i (.imm d)) := rfl
@[simp] theorem asgR_t {i : Nat} {d : D} : asgR i (.tmp d) ρ = .ok .nx (setS ρ i (.own 0 d)) := rfl
@[simp] theorem s_seti {i : Nat} {ix e : E} : exS C (.seti i ix e) ρ = (ev C false e ρ).bind fun v ρ1 => match getS ρ1 i with
    | some (.own _ (.lst _)) => (ev C false ix ρ1).bind fun y ρ2 => setR i v y ρ2
    | _ => .stuck := rfl
@[simp] theorem setR_i {i : Nat} {d : D} {k : Int} : setR i (.imm d) (.imm (.int k)) ρ = match getS ρ i with
    | some (.own t (.lst xs)) => match ixOf xs.length k with
      | some j => .ok .nx (setS ρ i (.own t (.lst (xs.set j d))))
      | none => .stuck
    | _ => .stuck := by
  show (match Val.imm d, asInt ρ (.imm (.int k)), getS ρ i with
    | .imm d, some k, some (.own t (.lst xs)) => match ixOf xs.length k with
      | some j => Res.ok Flow.nx (setS ρ i (.own t (.lst (xs.set j d))))
      | none => .stuck
    | _, _, _ => .stuck) = _
  rw [asInt_i]
  split <;> simp_all
@[simp] theorem s_unp {is : List Nat} {e : E} : exS C (.unp is e) ρ = (ev C false e ρ).bind fun v ρ1 => match v with
    | .imm d => match tgSet ρ1 (.fl is) d with
      | some ρ2 => .ok .nx ρ2
      | none => .stuck
    | _ => .stuck := rfl
@[simp] theorem s_exp {e : E} : exS C (.exp e) ρ = (ev C false e ρ).bind fun _ ρ1 => .ok .nx ρ1 := rfl
@[simp] theorem s_ret {e : E} : exS C (.ret e) ρ = (ev C false e ρ).bind fun v ρ1 => match v with
    | .brw _ => .stuck
    | v => .ok (.rt v) ρ1 := rfl
@[simp] theorem s_retv {i : Nat} : exS C (.retv i) ρ = match getS ρ i with
    | some (.imm d) => .ok (.rt (.imm d)) ρ
    | some (.own 0 d) => .ok (.rt (.tmp d)) (ρ.set i none)
    | _ => .stuck := rfl
@[simp] theorem s_retn : exS C .retn ρ = .ok (.rt (.imm .non)) ρ := rfl
@[simp] theorem s_ife {c : E} {a b : S} : exS C (.ife c a b) ρ = ((ev C true c ρ).bind kOf).bind fun k ρ1 => if k then exS C a ρ1 else exS C b ρ1 := rfl
/-- a for's turn -/
def fFor (C : Nat → List (Bool × D) → CRes) (tg : Tg) (body : S) : D → Env → Res Flow := fun x ρ' => match tgSet ρ' tg x with
  | some ρ2 => exS C body ρ2
  | none => .stuck
@[simp] theorem s_for {tg : Tg} {k : ItK} {its : L} {body : S} : exS C (.for_ tg k its body) ρ = (evs C its ρ).bind fun vs ρ1 => match imms vs with
    | some ds => match itemsOf k ds with
      | some xs => loopF (fFor C tg body) xs ρ1
      | none => .stuck
    | none => .stuck := rfl
@[simp] theorem s_whl {c : E} {body : S} : exS C (.whl c body) ρ = loopW (evT C c) (exS C body) FUEL ρ := rfl
@[simp] theorem s_brk : exS C .brk ρ = .ok .bk ρ := rfl
@[simp] theorem s_cnt : exS C .cnt ρ = .ok .ct ρ := rfl
@[simp] theorem s_pas : exS C .pas ρ = .ok .nx ρ := rfl
@[simp] theorem tgSet_nm {i : Nat} {d : D} : tgSet ρ (.nm i) d = some (setS ρ i (.imm d)) := rfl
@[simp] theorem tgSet_fl {is : List Nat} {ds : List D} : tgSet ρ (.fl is) (.tup ds) = setAll ρ is ds := rfl
@[simp] theorem setAll_nil : setAll ρ [] [] = some ρ := rfl
@[simp] theorem setAll_cons {i : Nat} {is : List Nat} {d : D} {ds : List D} : setAll ρ (i :: is) (d :: ds) = setAll (setS ρ i (.imm d)) is ds := rfl
/-! defs -/
def endS (as : List (Bool × D)) : Res Flow → CRes
  | .ok .nx ρ => fin as false .non ρ
  | .ok (.rt (.imm d)) ρ => fin as false d ρ
  | .ok (.rt (.tmp d)) ρ => fin as true d ρ
  | .exn x ρ => finE as x ρ
  | _ => .stuck
theorem run_eq {fn : Fn} {as : List (Bool × D)} (h : as.length = fn.np ∧ as.map (·.1) = fn.lent ∧ fn.np ≤ fn.ns) : runFn C fn as = endS as (exS C fn.body (startS 0 as ++ List.replicate (fn.ns - fn.np) none)) := by
  unfold runFn
  rw [if_pos h]
  cases exS C fn.body (startS 0 as ++ List.replicate (fn.ns - fn.np) none) with
  | ok fl ρ1 =>
    cases fl with
    | rt v => cases v <;> rfl
    | _ => rfl
  | exn x ρ1 => rfl
  | stuck => rfl
@[simp] theorem endS_nx {as : List (Bool × D)} : endS as (.ok .nx ρ) = fin as false .non ρ := rfl
@[simp] theorem endS_i {as : List (Bool × D)} {d : D} : endS as (.ok (.rt (.imm d)) ρ) = fin as false d ρ := rfl
@[simp] theorem endS_t {as : List (Bool × D)} {d : D} : endS as (.ok (.rt (.tmp d)) ρ) = fin as true d ρ := rfl
@[simp] theorem endS_ite {c : Prop} [Decidable c] {a b : Res Flow} {as : List (Bool × D)} : endS as (if c then a else b) = if c then endS as a else endS as b := by split <;> rfl
@[simp] theorem fin_eq {as : List (Bool × D)} {o : Bool} {d : D} : fin as o d ρ = match outsOf ρ 0 as with
    | some outs => .ok o d outs
    | none => .stuck := rfl
@[simp] theorem outs_nil {i : Nat} : outsOf ρ i [] = some [] := rfl
@[simp] theorem outs_f {i : Nat} {d : D} {as : List (Bool × D)} : outsOf ρ i ((false, d) :: as) = outsOf ρ (i + 1) as := rfl
@[simp] theorem outs_t {i : Nat} {d : D} {as : List (Bool × D)} : outsOf ρ i ((true, d) :: as) = match getS ρ i with
    | some (.own t d) => if t = i + 1 then (outsOf ρ (i + 1) as).map (d :: ·) else none
    | _ => none := rfl
@[simp] theorem start_nil {i : Nat} : startS i [] = [] := rfl
@[simp] theorem start_f {i : Nat} {d : D} {as : List (Bool × D)} : startS i ((false, d) :: as) = some (.imm d) :: startS (i + 1) as := rfl
@[simp] theorem start_t {i : Nat} {d : D} {as : List (Bool × D)} : startS i ((true, d) :: as) = some (.own (i + 1) d) :: startS (i + 1) as := rfl
end
end Mi

set_option maxRecDepth 100000
namespace Mi
abbrev f_begins : Nat := 0
abbrev f_kraft_sum : Nat := 1
abbrev f_is_tight : Nat := 2
abbrev f_free_below : Nat := 3
abbrev f_free_tags : Nat := 4
abbrev f_law_jar : Nat := 5
abbrev f_law_draw : Nat := 6
abbrev f_law_leaves : Nat := 7
abbrev f_law_picked : Nat := 8
abbrev f_law_form : Nat := 9
abbrev f_law_is_int : Nat := 10
abbrev f_law_sum : Nat := 11
abbrev f_law_strings : Nat := 12
abbrev f_law_is_free : Nat := 13
abbrev f_law_free_of : Nat := 14
abbrev f_law_free : Nat := 15
abbrev f_law_asked : Nat := 16
abbrev f_law_lots : Nat := 17
abbrev f_law : Nat := 18
/-- begins 0:one 1:other -/
def fn_begins : Fn := ⟨2, [false, false], 2,
      (.seq (.ret (.bool false (.cons (.mth .startswith (.pk 0) (.cons (.pk 1) .nil)) (.cons (.mth .startswith (.pk 1) (.cons (.pk 0) .nil)) .nil))))
      .nil)⟩
def N_begins : List PySem.Str := ["one", "other"]
/-- kraft_sum 0:form 1:most 2:top 3:common 4:_ 5:tag -/
def fn_kraft_sum : Fn := ⟨1, [false], 6,
      (.seq (.asg 1 (.blt .max (.cons (.lc [4, 5] (.fl [4, 5]) .seq (.cons (.sub (.pk 0) (.con (.int 1))) .nil) .nil (.blt .len (.cons (.pk 5) .nil))) .nil)))
      (.seq (.asg 2 (.blt .sum (.cons (.lc [4, 5] (.fl [4, 5]) .seq (.cons (.sub (.pk 0) (.con (.int 1))) .nil) .nil (.bin .shl (.con (.int 1)) (.bin .sub (.pk 1) (.blt .len (.cons (.pk 5) .nil))))) .nil)))
      (.seq (.asg 3 (.blt .gcd (.cons (.pk 2) (.cons (.bin .shl (.con (.int 1)) (.pk 1)) .nil))))
      (.seq (.ret (.tup (.cons (.bin .fdiv (.pk 2) (.pk 3)) (.cons (.bin .fdiv (.bin .shl (.con (.int 1)) (.pk 1)) (.pk 3)) .nil))))
      .nil))))⟩
def N_kraft_sum : List PySem.Str := ["form", "most", "top", "common", "_", "tag"]
/-- is_tight 0:form -/
def fn_is_tight : Fn := ⟨1, [false], 1,
      (.seq (.ret (.cmp .eq (.call f_kraft_sum (.cons (.var 0) .nil)) (.tup (.cons (.con (.int 1)) (.cons (.con (.int 1)) .nil)))))
      .nil)⟩
def N_is_tight : List PySem.Str := ["form"]
/-- free_below 0:tags 1:word 2:most 3:met 4:tag -/
def fn_free_below : Fn := ⟨3, [false, false, false], 5,
      (.seq (.asg 3 (.lc [4] (.nm 4) .seq (.cons (.var 0) .nil) (.cons (.call f_begins (.cons (.var 4) (.cons (.var 1) .nil))) .nil) (.var 4)))
      (.seq (.ife (.not (.pk 3))
      (.seq (.ret (.bin .sub (.bin .shl (.con (.int 1)) (.bin .add (.bin .sub (.pk 2) (.blt .len (.cons (.pk 1) .nil))) (.con (.int 1)))) (.con (.int 1))))
      .nil)
      .nil)
      (.seq (.ife (.bool false (.cons (.cmp .eq (.blt .len (.cons (.pk 1) .nil)) (.pk 2)) (.cons (.lc [4] (.nm 4) .seq (.cons (.var 3) .nil) (.cons (.cmp .le (.blt .len (.cons (.pk 4) .nil)) (.blt .len (.cons (.pk 1) .nil))) .nil) (.var 4)) .nil)))
      (.seq (.ret (.con (.int 0)))
      .nil)
      .nil)
      (.seq (.ret (.bin .add (.call f_free_below (.cons (.var 3) (.cons (.bin .add (.pk 1) (.con (.str [48]))) (.cons (.var 2) .nil)))) (.call f_free_below (.cons (.var 3) (.cons (.bin .add (.pk 1) (.con (.str [49]))) (.cons (.var 2) .nil))))))
      .nil))))⟩
def N_free_below : List PySem.Str := ["tags", "word", "most", "met", "tag"]
/-- free_tags 0:form 1:most 2:_ 3:tag -/
def fn_free_tags : Fn := ⟨2, [false, false], 4,
      (.seq (.ret (.call f_free_below (.cons (.lc [2, 3] (.fl [2, 3]) .seq (.cons (.sub (.pk 0) (.con (.int 1))) .nil) .nil (.var 3)) (.cons (.con (.str [])) (.cons (.var 1) .nil)))))
      .nil)⟩
def N_free_tags : List PySem.Str := ["form", "most", "_", "tag"]
/-- _law_jar 0:script 1:great 2:wide 3:small 4:cell 5:one -/
def fn_law_jar : Fn := ⟨1, [false], 6,
      (.seq (.asg 1 (.con (.int 0)))
      (.seq (.asg 2 (.bin .pow (.con (.int 10)) (.con (.int 60))))
      (.seq (.asg 3 (.bin .add (.con (.int 41)) (.bin .mod (.blt .len (.cons (.pk 0) .nil)) (.con (.int 79)))))
      (.seq (.for_ (.nm 4) .seq (.cons (.slc false true (.pk 0) (.con .non) (.con (.int 63))) .nil)
      (.seq (.asg 5 (.blt .abs (.cons (.blt .int (.cons (.pk 4) .nil)) .nil)))
      (.seq (.ife (.bool true (.cons (.cmp .ge (.pk 5) (.bin .pow (.con (.int 10)) (.con (.int 18)))) (.cons (.cmp .eq (.pk 1) (.con (.int 0))) .nil)))
      (.seq (.asg 1 (.bin .mod (.pk 5) (.bin .mul (.bin .mul (.bin .mul (.bin .mul (.bin .mul (.pk 2) (.pk 2)) (.pk 2)) (.pk 2)) (.pk 2)) (.pk 2))))
      .nil)
      .nil)
      (.seq (.asg 3 (.bin .mod (.blt .int (.cons (.bin .add (.bin .add (.bin .mul (.pk 3) (.con (.int 39373))) (.bin .mod (.pk 5) (.con (.int 2147483549)))) (.con (.int 9))) .nil)) (.con (.int 2147483647))))
      .nil))))
      (.seq (.ret (.lst (.cons (.var 1) (.cons (.var 3) (.cons (.con (.int 0)) .nil)))))
      .nil)))))⟩
def N_law_jar : List PySem.Str := ["script", "great", "wide", "small", "cell", "one"]
/-- _law_draw 0:jar 1:many 2:told -/
def fn_law_draw : Fn := ⟨2, [true, false], 3,
      (.seq (.seti 0 (.con (.int 2)) (.bin .add (.sub (.pk 0) (.con (.int 2))) (.con (.int 1))))
      (.seq (.ife (.cmp .gt (.sub (.pk 0) (.con (.int 0))) (.con (.int 0)))
      (.seq (.asg 2 (.bin .mod (.blt .int (.cons (.sub (.pk 0) (.con (.int 0))) .nil)) (.pk 1)))
      (.seq (.seti 0 (.con (.int 0)) (.bin .fdiv (.sub (.pk 0) (.con (.int 0))) (.pk 1)))
      (.seq (.retv 2)
      .nil)))
      .nil)
      (.seq (.seti 0 (.con (.int 1)) (.bin .mod (.blt .int (.cons (.bin .add (.bin .add (.bin .mul (.sub (.pk 0) (.con (.int 1))) (.con (.int 39373))) (.bin .mul (.sub (.pk 0) (.con (.int 2))) (.con (.int 742938285)))) (.con (.int 17))) .nil)) (.con (.int 2147483647))))
      (.seq (.ret (.bin .mod (.bin .fdiv (.blt .int (.cons (.sub (.pk 0) (.con (.int 1))) .nil)) (.con (.int 17))) (.pk 1)))
      .nil))))⟩
def N_law_draw : List PySem.Str := ["jar", "many", "told"]
/-- _law_leaves 0:jar 1:splits 2:is_deep 3:leaves 4:turn 5:at 6:one -/
def fn_law_leaves : Fn := ⟨3, [true, false, false], 7,
      (.seq (.asg 3 (.lst (.cons (.con (.str [])) .nil)))
      (.seq (.for_ (.nm 4) .rng (.cons (.var 1) .nil)
      (.seq (.asg 5 (.call f_law_draw (.cons (.pk 0) (.cons (.blt .len (.cons (.pk 3) .nil)) .nil))))
      (.seq (.ife (.bool true (.cons (.pk 2) (.cons (.cmp .gt (.pk 4) (.con (.int 0))) .nil)))
      (.seq (.asg 5 (.bin .sub (.bin .sub (.blt .len (.cons (.pk 3) .nil)) (.con (.int 1))) (.bin .mod (.blt .int (.cons (.pk 5) .nil)) (.con (.int 2)))))
      .nil)
      .nil)
      (.seq (.asg 6 (.sub (.pk 3) (.pk 5)))
      (.seq (.ife (.cmp .lt (.blt .len (.cons (.pk 6) .nil)) (.con (.int 12)))
      (.seq (.asg 3 (.bin .add (.bin .add (.slc false true (.pk 3) (.con .non) (.pk 5)) (.slc true false (.pk 3) (.bin .add (.pk 5) (.con (.int 1))) (.con .non))) (.lst (.cons (.bin .add (.pk 6) (.con (.str [48]))) (.cons (.bin .add (.pk 6) (.con (.str [49]))) .nil)))))
      .nil)
      .nil)
      .nil)))))
      (.seq (.retv 3)
      .nil)))⟩
def N_law_leaves : List PySem.Str := ["jar", "splits", "is_deep", "leaves", "turn", "at", "one"]
/-- _law_picked 0:jar 1:rows 2:many 3:rest 4:told 5:turn 6:at -/
def fn_law_picked : Fn := ⟨3, [true, false, false], 7,
      (.seq (.asg 3 (.blt .list (.cons (.pk 1) .nil)))
      (.seq (.asg 4 (.lst .nil))
      (.seq (.for_ (.nm 5) .rng (.cons (.var 2) .nil)
      (.seq (.asg 6 (.call f_law_draw (.cons (.pk 0) (.cons (.blt .len (.cons (.pk 3) .nil)) .nil))))
      (.seq (.exp (.mut .append 4 (.cons (.sub (.pk 3) (.pk 6)) .nil)))
      (.seq (.asg 3 (.bin .add (.slc false true (.pk 3) (.con .non) (.pk 6)) (.slc true false (.pk 3) (.bin .add (.pk 6) (.con (.int 1))) (.con .non))))
      .nil))))
      (.seq (.retv 4)
      .nil))))⟩
def N_law_picked : List PySem.Str := ["jar", "rows", "many", "rest", "told", "turn", "at"]
/-- _law_form 0:jar 1:tags 2:kinds 3:kind 4:tag -/
def fn_law_form : Fn := ⟨2, [true, false], 5,
      (.seq (.asg 2 (.call f_law_picked (.cons (.pk 0) (.cons (.lst (.cons (.con (.str [114, 117, 110, 115])) (.cons (.con (.str [98, 105, 116, 115])) (.cons (.con (.str [108, 105, 115, 116])) (.cons (.con (.str [102, 117, 108, 108])) (.cons (.con (.str [103, 97, 112, 115])) (.cons (.con (.str [104, 111, 108, 101, 115])) .nil))))))) (.cons (.blt .len (.cons (.pk 1) .nil)) .nil)))))
      (.seq (.ife (.cmp .eq (.pk 2) (.lst (.cons (.con (.str [102, 117, 108, 108])) .nil)))
      (.seq (.asg 2 (.lst (.cons (.con (.str [114, 117, 110, 115])) .nil)))
      .nil)
      .nil)
      (.seq (.ret (.tup (.cons (.bin .add (.con (.int 2)) (.call f_law_draw (.cons (.pk 0) (.cons (.con (.int 7)) .nil)))) (.cons (.blt .tuple (.cons (.lc [3, 4] (.fl [3, 4]) .zip (.cons (.var 2) (.cons (.var 1) .nil)) .nil (.tup (.cons (.var 3) (.cons (.var 4) .nil)))) .nil)) .nil))))
      .nil)))⟩
def N_law_form : List PySem.Str := ["jar", "tags", "kinds", "kind", "tag"]
/-- _law_is_int 0:thing -/
def fn_law_is_int : Fn := ⟨1, [false], 1,
      (.seq (.ret (.bool true (.cons (.isi (.pk 0) .int) (.cons (.not (.isi (.pk 0) .bool)) .nil))))
      .nil)⟩
def N_law_is_int : List PySem.Str := ["thing"]
/-- _law_sum 0:tags 1:top 2:under 3:turn 4:tag -/
def fn_law_sum : Fn := ⟨1, [false], 5,
      (.seq (.asg 1 (.blt .sum (.cons (.lc [4] (.nm 4) .seq (.cons (.var 0) .nil) .nil (.bin .shl (.con (.int 1)) (.bin .sub (.con (.int 12)) (.blt .len (.cons (.pk 4) .nil))))) .nil)))
      (.seq (.asg 2 (.con (.int 4096)))
      (.seq (.for_ (.nm 3) .rng (.cons (.con (.int 12)) .nil)
      (.seq (.ife (.bool true (.cons (.cmp .eq (.bin .mod (.blt .int (.cons (.pk 1) .nil)) (.con (.int 2))) (.con (.int 0))) (.cons (.cmp .gt (.pk 2) (.con (.int 1))) .nil)))
      (.seq (.asg 1 (.bin .fdiv (.pk 1) (.con (.int 2))))
      (.seq (.asg 2 (.bin .fdiv (.pk 2) (.con (.int 2))))
      .nil))
      .nil)
      .nil))
      (.seq (.ret (.tup (.cons (.var 1) (.cons (.var 2) .nil))))
      .nil))))⟩
def N_law_sum : List PySem.Str := ["tags", "top", "under", "turn", "tag"]
/-- _law_strings 0:signs 1:rows 2:turn 3:row -/
def fn_law_strings : Fn := ⟨1, [false], 4,
      (.seq (.asg 1 (.lst (.cons (.con (.str [])) .nil)))
      (.seq (.for_ (.nm 2) .rng (.cons (.var 0) .nil)
      (.seq (.asg 1 (.bin .add (.lc [3] (.nm 3) .seq (.cons (.var 1) .nil) .nil (.bin .add (.pk 3) (.con (.str [48])))) (.lc [3] (.nm 3) .seq (.cons (.var 1) .nil) .nil (.bin .add (.pk 3) (.con (.str [49]))))))
      .nil))
      (.seq (.retv 1)
      .nil)))⟩
def N_law_strings : List PySem.Str := ["signs", "rows", "turn", "row"]
/-- _law_is_free 0:row 1:tags 2:tag -/
def fn_law_is_free : Fn := ⟨2, [false, false], 3,
      (.seq (.for_ (.nm 2) .seq (.cons (.var 1) .nil)
      (.seq (.ife (.bool false (.cons (.cmp .eq (.slc false true (.pk 2) (.con .non) (.blt .len (.cons (.pk 0) .nil))) (.pk 0)) (.cons (.cmp .eq (.slc false true (.pk 0) (.con .non) (.blt .len (.cons (.pk 2) .nil))) (.pk 2)) .nil)))
      (.seq (.ret (.con (.bl false)))
      .nil)
      .nil)
      .nil))
      (.seq (.ret (.con (.bl true)))
      .nil))⟩
def N_law_is_free : List PySem.Str := ["row", "tags", "tag"]
/-- _law_free_of 0:signs 1:tags 2:many 3:heads 4:tag -/
def fn_law_free_of : Fn := ⟨2, [false, false], 5,
      (.seq (.asg 2 (.bin .shl (.con (.int 1)) (.pk 0)))
      (.seq (.asg 3 (.lst .nil))
      (.seq (.for_ (.nm 4) .seq (.cons (.var 1) .nil)
      (.seq (.ife (.cmp .le (.blt .len (.cons (.pk 4) .nil)) (.pk 0))
      (.seq (.asg 2 (.bin .sub (.pk 2) (.bin .shl (.con (.int 1)) (.bin .sub (.pk 0) (.blt .len (.cons (.pk 4) .nil))))))
      .nil)
      (.seq (.ife (.cmp .nin (.slc false true (.pk 4) (.con .non) (.pk 0)) (.pk 3))
      (.seq (.exp (.mut .append 3 (.cons (.slc false true (.pk 4) (.con .non) (.pk 0)) .nil)))
      .nil)
      .nil)
      .nil))
      .nil))
      (.seq (.ret (.bin .sub (.pk 2) (.blt .len (.cons (.pk 3) .nil))))
      .nil))))⟩
def N_law_free_of : List PySem.Str := ["signs", "tags", "many", "heads", "tag"]
/-- _law_free 0:most 1:tags 2:told 3:signs 4:row -/
def fn_law_free : Fn := ⟨2, [false, false], 5,
      (.seq (.ife (.cmp .gt (.pk 0) (.con (.int 5)))
      (.seq (.ret (.blt .sum (.cons (.lc [3] (.nm 3) .rng (.cons (.bin .add (.pk 0) (.con (.int 1))) .nil) .nil (.call f_law_free_of (.cons (.var 3) (.cons (.var 1) .nil)))) .nil)))
      .nil)
      .nil)
      (.seq (.asg 2 (.con (.int 0)))
      (.seq (.for_ (.nm 3) .rng (.cons (.bin .add (.pk 0) (.con (.int 1))) .nil)
      (.seq (.asg 2 (.bin .add (.pk 2) (.blt .len (.cons (.lc [4] (.nm 4) .seq (.cons (.call f_law_strings (.cons (.var 3) .nil)) .nil) (.cons (.call f_law_is_free (.cons (.var 4) (.cons (.var 1) .nil))) .nil) (.var 4)) .nil))))
      .nil))
      (.seq (.retv 2)
      .nil))))⟩
def N_law_free : List PySem.Str := ["most", "tags", "told", "signs", "row"]
/-- _law_asked 0:jar 1:tags 2:great 3:form 4:due 5:told 6:tight 7:most 8:many -/
def fn_law_asked : Fn := ⟨3, [true, false, false], 9,
      (.seq (.asg 3 (.call f_law_form (.cons (.pk 0) (.cons (.var 1) .nil))))
      (.seq (.asg 4 (.call f_law_sum (.cons (.var 1) .nil)))
      (.seq (.asg 5 (.call f_kraft_sum (.cons (.var 3) .nil)))
      (.seq (.ife (.bool false (.cons (.not (.isi (.pk 5) .tuple)) (.cons (.cmp .ne (.blt .len (.cons (.pk 5) .nil)) (.con (.int 2))) (.cons (.not (.call f_law_is_int (.cons (.sub (.pk 5) (.con (.int 0))) .nil))) (.cons (.not (.call f_law_is_int (.cons (.sub (.pk 5) (.con (.int 1))) .nil))) .nil)))))
      (.seq (.ret (.con (.bl false)))
      .nil)
      .nil)
      (.seq (.ife (.cmp .ne (.pk 5) (.pk 4))
      (.seq (.ret (.con (.bl false)))
      .nil)
      .nil)
      (.seq (.asg 6 (.call f_is_tight (.cons (.var 3) .nil)))
      (.seq (.ife (.bool true (.cons (.cmp .isn (.pk 6) (.con (.bl true))) (.cons (.cmp .isn (.pk 6) (.con (.bl false))) .nil)))
      (.seq (.ret (.con (.bl false)))
      .nil)
      .nil)
      (.seq (.ife (.cmp .ne (.pk 6) (.cmp .eq (.pk 4) (.tup (.cons (.con (.int 1)) (.cons (.con (.int 1)) .nil)))))
      (.seq (.ret (.con (.bl false)))
      .nil)
      .nil)
      (.seq (.for_ (.nm 7) .seq (.cons (.lst (.cons (.con (.int 0)) (.cons (.con (.int 1)) (.cons (.con (.int 2)) (.cons (.con (.int 3)) (.cons (.con (.int 4)) (.cons (.var 2) .nil))))))) .nil)
      (.seq (.asg 8 (.call f_free_tags (.cons (.var 3) (.cons (.var 7) .nil))))
      (.seq (.ife (.bool false (.cons (.not (.call f_law_is_int (.cons (.var 8) .nil))) (.cons (.cmp .ne (.pk 8) (.call f_law_free (.cons (.var 7) (.cons (.var 1) .nil)))) .nil)))
      (.seq (.ret (.con (.bl false)))
      .nil)
      .nil)
      (.seq (.ife (.bool true (.cons (.cmp .eq (.pk 7) (.con (.int 12))) (.cons (.cmp .ne (.cmp .eq (.pk 8) (.con (.int 0))) (.pk 6)) .nil)))
      (.seq (.ret (.con (.bl false)))
      .nil)
      .nil)
      .nil))))
      (.seq (.ret (.con (.bl true)))
      .nil))))))))))⟩
def N_law_asked : List PySem.Str := ["jar", "tags", "great", "form", "due", "told", "tight", "most", "many"]
/-- _law_lots 0:jar 1:many 2:tight 3:more 4:leaves 5:deep -/
def fn_law_lots : Fn := ⟨1, [true], 6,
      (.seq (.asg 1 (.bin .add (.con (.int 1)) (.call f_law_draw (.cons (.pk 0) (.cons (.con (.int 6)) .nil)))))
      (.seq (.asg 2 (.call f_law_picked (.cons (.pk 0) (.cons (.call f_law_leaves (.cons (.pk 0) (.cons (.bin .sub (.pk 1) (.con (.int 1))) (.cons (.cmp .eq (.call f_law_draw (.cons (.pk 0) (.cons (.con (.int 2)) .nil))) (.con (.int 1))) .nil)))) (.cons (.var 1) .nil)))))
      (.seq (.asg 3 (.bin .add (.con (.int 2)) (.call f_law_draw (.cons (.pk 0) (.cons (.con (.int 5)) .nil)))))
      (.seq (.asg 4 (.call f_law_leaves (.cons (.pk 0) (.cons (.bin .sub (.pk 3) (.con (.int 1))) (.cons (.cmp .eq (.call f_law_draw (.cons (.pk 0) (.cons (.con (.int 2)) .nil))) (.con (.int 1))) .nil)))))
      (.seq (.asg 5 (.call f_law_leaves (.cons (.pk 0) (.cons (.con (.int 12)) (.cons (.con (.bl true)) .nil)))))
      (.seq (.ret (.lst (.cons (.var 2) (.cons (.call f_law_picked (.cons (.pk 0) (.cons (.var 4) (.cons (.bin .sub (.pk 3) (.con (.int 1))) .nil)))) (.cons (.call f_law_picked (.cons (.pk 0) (.cons (.slc true false (.pk 5) (.bin .sub (.un .neg (.con (.int 1))) (.pk 1)) (.con .non)) (.cons (.var 1) .nil)))) .nil)))))
      .nil))))))⟩
def N_law_lots : List PySem.Str := ["jar", "many", "tight", "more", "leaves", "deep"]
/-- law 0:script 1:jar 2:lots 3:late 4:turn 5:great -/
def fn_law : Fn := ⟨1, [false], 6,
      (.seq (.asg 1 (.call f_law_jar (.cons (.var 0) .nil)))
      (.seq (.asg 2 (.call f_law_lots (.cons (.pk 1) .nil)))
      (.seq (.asg 3 (.call f_law_draw (.cons (.pk 1) (.cons (.con (.int 3)) .nil))))
      (.seq (.for_ (.nm 4) .rng (.cons (.con (.int 3)) .nil)
      (.seq (.asg 5 (.bin .add (.con (.int 5)) (.call f_law_draw (.cons (.pk 1) (.cons (.con (.int 5)) .nil)))))
      (.seq (.ife (.cmp .eq (.pk 4) (.pk 3))
      (.seq (.asg 5 (.bin .sub (.con (.int 12)) (.bin .mul (.call f_law_draw (.cons (.pk 1) (.cons (.con (.int 2)) .nil))) (.call f_law_draw (.cons (.pk 1) (.cons (.con (.int 3)) .nil))))))
      .nil)
      .nil)
      (.seq (.ife (.not (.call f_law_asked (.cons (.pk 1) (.cons (.sub (.pk 2) (.pk 4)) (.cons (.var 5) .nil)))))
      (.seq (.ret (.con (.bl false)))
      .nil)
      .nil)
      .nil))))
      (.seq (.ret (.con (.bl true)))
      .nil)))))⟩
def N_law : List PySem.Str := ["script", "jar", "lots", "late", "turn", "great"]
def tab : List Fn := [fn_begins, fn_kraft_sum, fn_is_tight, fn_free_below, fn_free_tags, fn_law_jar, fn_law_draw, fn_law_leaves, fn_law_picked, fn_law_form, fn_law_is_int, fn_law_sum, fn_law_strings, fn_law_is_free, fn_law_free_of, fn_law_free, fn_law_asked, fn_law_lots, fn_law]
def T : Tab := fun f => tab[f]?
def nms : List PySem.Str := ["begins", "kraft_sum", "is_tight", "free_below", "free_tags", "_law_jar", "_law_draw", "_law_leaves", "_law_picked", "_law_form", "_law_is_int", "_law_sum", "_law_strings", "_law_is_free", "_law_free_of", "_law_free", "_law_asked", "_law_lots", "law"]
end Mi

set_option maxRecDepth 100000
set_option maxHeartbeats 4000000
namespace Mi
/-! ### what the kit of every law shares -/
theorem run_at {n f : Nat} {fn : Fn} {as : List (Bool × D)} (ht : T f = some fn) (h : as.length = fn.np ∧ as.map (·.1) = fn.lent ∧ fn.np ≤ fn.ns) : callF T (n + 1) f as = endS as (exS (callF T n) fn.body (startS 0 as ++ List.replicate (fn.ns - fn.np) none)) := by
  rw [← run_eq h]
  show (match T f with | some fn => runFn (callF T n) fn as | none => .stuck) = _
  rw [ht]
section
variable {i j : Int}
@[simp] theorem a_add : app2 .add (.int i) (.int j) = some (.imm (.int (i + j))) := rfl
@[simp] theorem a_sub : app2 .sub (.int i) (.int j) = some (.imm (.int (i - j))) := rfl
@[simp] theorem a_mod (h : 0 < j) : app2 .mod (.int i) (.int j) = some (.imm (.int (i % j))) := if_pos h
theorem p64 : (2 : Nat) ^ 64 ≤ 2 ^ 4000 := Nat.pow_le_pow_right (by decide) (by decide)
@[simp] theorem a_div (h : 0 < j) (h2 : j < 18446744073709551616) : app2 .fdiv (.int i) (.int j) = some (.imm (.int (i / j))) := if_pos ⟨h, Nat.lt_of_lt_of_le (by omega) p64⟩
@[simp] theorem a_mul (h : j.natAbs < 18446744073709551616) : app2 .mul (.int i) (.int j) = some (.imm (.int (i * j))) := by
  have e : mulOk i j = true := by
    unfold mulOk
    rw [show decide (j.natAbs < 2 ^ 64) = true from decide_eq_true h, Bool.or_true, Bool.true_or]
  show (if mulOk i j then _ else none) = _
  rw [e]
  rfl
@[simp] theorem a_shl (h : 0 ≤ j) (h2 : j ≤ 1000000) : app2 .shl (.int 1) (.int j) = some (.imm (.int (2 ^ j.toNat))) := by
  show (if 0 ≤ j ∧ j ≤ 1000000 ∧ (1 : Int).natAbs < 2 ^ 64 then some (Val.imm (.int (1 * 2 ^ j.toNat))) else none) = _
  rw [if_pos ⟨h, h2, by decide⟩, Int.one_mul]
@[simp] theorem c_lt : appC .lt (.int i) (.int j) = some (decide (i < j)) := rfl
@[simp] theorem c_le : appC .le (.int i) (.int j) = some (decide (i ≤ j)) := rfl
@[simp] theorem c_gt : appC .gt (.int i) (.int j) = some (decide (j < i)) := rfl
@[simp] theorem c_ge : appC .ge (.int i) (.int j) = some (decide (j ≤ i)) := rfl
@[simp] theorem c_eq : appC .eq (.int i) (.int j) = some (i == j) := rfl
@[simp] theorem c_ne : appC .ne (.int i) (.int j) = some (!(i == j)) := rfl
@[simp] theorem b_int : appB .int [.int i] = some (.imm (.int i)) := rfl
@[simp] theorem b_lenL {xs : List D} : appB .len [.lst xs] = some (.imm (.int xs.length)) := rfl
@[simp] theorem b_lenT {xs : List D} : appB .len [.tup xs] = some (.imm (.int xs.length)) := rfl
@[simp] theorem b_lenS {xs : List Nat} (h : xs.length ≤ 1000) : appB .len [.str xs] = some (.imm (.int xs.length)) := if_pos (le_LIM h)
@[simp] theorem d_truB {b : Bool} : D.truth (.bl b) = some b := rfl
@[simp] theorem d_truI : D.truth (.int i) = some (i != 0) := rfl
@[simp] theorem d_truL {xs : List D} : D.truth (.lst xs) = some (!xs.isEmpty) := rfl
@[simp] theorem ix_nat {n k : Nat} (h : k < n) : ixOf n (k : Int) = some k := by
  unfold ixOf
  rw [if_pos (Int.natCast_nonneg k), if_pos (by omega), Int.toNat_natCast]
end
@[simp] theorem its_rng {i : Int} (h : -1000000000000 ≤ i) (h2 : i ≤ 1000000000000) : itemsOf .rng [.int i] = some (rngD 0 i) := if_pos (inR_to h h2)
@[simp] theorem its_lst {xs : List D} : itemsOf .seq [.lst xs] = some xs := rfl
@[simp] theorem its_tup {xs : List D} : itemsOf .seq [.tup xs] = some xs := rfl
@[simp] theorem its_ro {xs : List D} : itemsOf .seq [.ro xs] = some xs := rfl
@[simp] theorem its_zip {xs ys : List D} : itemsOf .zip [.lst xs, .lst ys] = some (zipD xs ys) := rfl
/-- a loop by its invariant -/
theorem loopF_inv {f : D → Env → Res Flow} {xs : List D} {ρ : Env} (Iv : Nat → Env → Prop) (h0 : Iv 0 ρ) (h : ∀ (i : Nat) x ρ, xs[i]? = some x → Iv i ρ → ∃ ρ', f x ρ = .ok .nx ρ' ∧ Iv (i + 1) ρ') : ∃ ρ', loopF f xs ρ = .ok .nx ρ' ∧ Iv xs.length ρ' := by
  induction xs generalizing ρ Iv with
  | nil => exact ⟨ρ, rfl, h0⟩
  | cons x xs ih =>
    obtain ⟨ρ1, e1, i1⟩ := h 0 x ρ rfl h0
    obtain ⟨ρ2, e2, i2⟩ := ih (fun i => Iv (i + 1)) i1 fun i y ρ hy hi => h (i + 1) y ρ (by simpa using hy) hi
    refine ⟨ρ2, ?_, i2⟩
    rw [loopF_cons, e1]
    exact e2
/-- a comprehension whose turns leave the names as they were -/
theorem loopC_map {f : D → Env → Res (Option D)} (g : D → Option D) {ρ : Env} : ∀ {xs acc : List D}, (∀ x ∈ xs, f x ρ = .ok (g x) ρ) → acc.length + xs.length ≤ LIM → loopC f xs acc ρ = .ok (acc ++ xs.filterMap g) ρ
  | [], acc, _, _ => by simp [loopC]
  | x :: xs, acc, h, hl => by
    have h1 := h x (List.mem_cons_self ..)
    have h2 := fun y hy => h y (List.mem_cons_of_mem _ hy)
    have hl' : acc.length + (xs.length + 1) ≤ LIM := hl
    unfold loopC
    rw [h1]
    cases e : g x with
    | none =>
      rw [List.filterMap_cons_none e]
      exact loopC_map g h2 (by omega)
    | some d =>
      rw [List.filterMap_cons_some e]
      show (if acc.length < LIM then loopC f xs (acc ++ [d]) ρ else .stuck) = _
      rw [if_pos (by omega), loopC_map g h2 (by rw [List.length_append, List.length_singleton]; omega), List.append_assoc]
      rfl
theorem lc_ok {C : Nat → List (Bool × D) → CRes} {own : List Nat} {tg : Tg} {k : ItK} {es : L} {fc : Env → Res Bool} {fe : Env → Res Val} {ρ ρ1 : Env} {vs : List Val} {ds xs : List D} (g : D → Option D) (h1 : evs C es ρ = .ok vs ρ1) (h2 : imms vs = some ds) (h3 : itemsOf k ds = some xs)
    (h : ∀ x ∈ xs, fTurn own tg fc fe x (wipeS ρ1 own) = .ok (g x) (wipeS ρ1 own)) (hl : xs.length ≤ LIM) (hb : backS ρ1 (wipeS ρ1 own) own = ρ1) : fLc C own tg k es fc fe ρ = .ok (.tmp (.lst (xs.filterMap g))) ρ1 := by
  unfold fLc
  rw [h1]
  simp only [bind_ok, h2, h3]
  rw [loopC_map g h (by simpa using hl)]
  simp only [bind_ok, hb, List.nil_append]
@[simp] theorem rng_len {lo hi : Int} : (rngD lo hi).length = (hi - lo).toNat := by simp [rngD]
theorem rng_get {lo hi : Int} {i : Nat} {x : D} (h : (rngD lo hi)[i]? = some x) : x = .int (lo + i) ∧ (i : Int) < hi - lo := by
  unfold rngD at h
  rw [List.getElem?_map] at h
  by_cases hl : i < (hi - lo).toNat
  · rw [List.getElem?_range hl] at h
    cases h
    exact ⟨rfl, by omega⟩
  · rw [List.getElem?_eq_none (by simpa using hl)] at h
    cases h
theorem cut_to {α : Type} {xs : List α} {k : Nat} (h : k ≤ xs.length) : cut xs none (some (k : Int)) = xs.take k := by
  unfold cut cutAt
  simp only [List.drop_zero, Nat.sub_zero]
  rw [if_neg (by omega), Int.toNat_natCast, Nat.min_eq_left h]
theorem cut_from {α : Type} {xs : List α} {k : Nat} (h : k ≤ xs.length) : cut xs (some (k : Int)) none = xs.drop k := by
  unfold cut cutAt
  simp only
  rw [if_neg (by omega), Int.toNat_natCast, Nat.min_eq_left h, List.take_of_length_le (by rw [List.length_drop]; omega)]

/-! ### the jar -/
def jarD (g s c : Int) : D := .lst [.int g, .int s, .int c]
structure JarOk (g s c : Int) : Prop where
  g0 : 0 ≤ g
  s0 : 0 ≤ s
  c0 : 0 ≤ c
def isJar (d : D) : Prop := ∃ g s c, d = jarD g s c ∧ JarOk g s c
theorem draw_ok {n : Nat} {j : D} {m : Int} (J : isJar j) (h0 : 0 < m) (h1 : m < 1000) : ∃ r j', callF T (n + 1) f_law_draw [(true, j), (false, .int m)] = .ok false (.int r) [j'] ∧ 0 ≤ r ∧ r < m ∧ isJar j' := by
  obtain ⟨g, s, c, rfl, hg, hs, hc⟩ := J
  rw [run_at (fn := fn_law_draw) rfl ⟨rfl, rfl, by decide⟩]
  unfold jarD
  have h2 : m < 18446744073709551616 := by omega
  by_cases h : 0 < g
  · refine ⟨g % m, jarD (g / m) s (c + 1), ?_, Int.emod_nonneg _ (by omega), Int.emod_lt_of_pos _ h0, g / m, s, c + 1, rfl, Int.ediv_nonneg hg (by omega), hs, by omega⟩
    simp [fn_law_draw, ixOf, subD, h, h0, h2, jarD]
  · refine ⟨_, jarD g ((s * 39373 + (c + 1) * 742938285 + 17) % 2147483647) (c + 1), ?_, Int.emod_nonneg (((s * 39373 + (c + 1) * 742938285 + 17) % 2147483647) / 17) (by omega), Int.emod_lt_of_pos _ h0, g, _, c + 1, rfl, hg, Int.emod_nonneg _ (by decide), by omega⟩
    simp [fn_law_draw, ixOf, subD, h, h0, h2, jarD]
end Mi

set_option maxRecDepth 100000
set_option maxHeartbeats 4000000
namespace Mi
/-! ### tags that are no beginnings of one another -/
def Inc (a b : List Nat) : Prop := ¬ a <+: b ∧ ¬ b <+: a
theorem Inc.symm {a b : List Nat} (h : Inc a b) : Inc b a := ⟨h.2, h.1⟩
def Bin (s : List Nat) : Prop := ∀ c ∈ s, c = 48 ∨ c = 49
structure Good (ls : List (List Nat)) (k : Nat) : Prop where
  pw : ls.Pairwise Inc
  bin : ∀ s ∈ ls, Bin s
  len : ∀ s ∈ ls, s.length ≤ k
theorem Good.perm {ls ms : List (List Nat)} {k : Nat} (p : ls.Perm ms) (h : Good ls k) : Good ms k :=
  ⟨(p.pairwise_iff fun h => Inc.symm h).mp h.pw, fun s hs => h.bin s (p.mem_iff.mpr hs), fun s hs => h.len s (p.mem_iff.mpr hs)⟩
theorem Good.part {ls ms : List (List Nat)} {k : Nat} (h : Good (ls ++ ms) k) : Good ls k :=
  ⟨(List.pairwise_append.mp h.pw).1, fun s hs => h.bin s (List.mem_append_left _ hs), fun s hs => h.len s (List.mem_append_left _ hs)⟩
theorem Good.mono {ls : List (List Nat)} {k m : Nat} (h : Good ls k) (hk : k ≤ m) : Good ls m := ⟨h.pw, h.bin, fun s hs => Nat.le_trans (h.len s hs) hk⟩
theorem pre_snoc {x o : List Nat} {c : Nat} (h : x <+: o ++ [c]) : x <+: o ∨ o <+: x := by
  by_cases e : x.length ≤ o.length
  · exact .inl (List.prefix_of_prefix_length_le h (List.prefix_append o [c]) e)
  · exact .inr (List.prefix_of_prefix_length_le (List.prefix_append o [c]) h (by omega))
theorem Inc.snoc {o x : List Nat} (h : Inc o x) (c : Nat) : Inc x (o ++ [c]) := by
  refine ⟨fun z => ?_, fun z => h.1 ((List.prefix_append o [c]).trans z)⟩
  rcases pre_snoc z with z | z
  · exact h.2 z
  · exact h.1 z
theorem two_inc (o : List Nat) : Inc (o ++ [48]) (o ++ [49]) := by
  constructor
  · intro h
    have := h.eq_of_length (by simp)
    simp at this
  · intro h
    have := h.eq_of_length (by simp)
    simp at this
theorem out_perm {α : Type} {ls : List α} {a : Nat} {o : α} (h : ls[a]? = some o) : (o :: (ls.take a ++ ls.drop (a + 1))).Perm ls := by
  obtain ⟨hl, e⟩ := List.getElem?_eq_some_iff.mp h
  have p : (o :: (ls.take a ++ ls.drop (a + 1))).Perm (ls.take a ++ o :: ls.drop (a + 1)) := List.perm_middle.symm
  rw [← e, ← List.drop_eq_getElem_cons hl, List.take_append_drop, e] at p
  exact p
theorem Good.split {ls : List (List Nat)} {k a : Nat} {o : List Nat} (h : Good ls k) (e : ls[a]? = some o) : Good (ls.take a ++ ls.drop (a + 1) ++ [o ++ [48], o ++ [49]]) (k + 1) := by
  have g := h.perm (out_perm e).symm
  have ho := g.bin o (List.mem_cons_self ..)
  have hlo := g.len o (List.mem_cons_self ..)
  generalize ls.take a ++ ls.drop (a + 1) = r at g
  have pw := List.pairwise_cons.mp g.pw
  refine ⟨List.pairwise_append.mpr ⟨pw.2, ?_, fun x hx y hy => ?_⟩, fun s hs => ?_, fun s hs => ?_⟩
  · simp [two_inc o]
  · have hi := pw.1 x hx
    rcases List.mem_cons.mp hy with e | hy
    · subst e; exact hi.snoc 48
    · rcases List.mem_cons.mp hy with e | hy
      · subst e; exact hi.snoc 49
      · cases hy
  · rcases List.mem_append.mp hs with hs | hs
    · exact g.bin s (List.mem_cons_of_mem _ hs)
    · intro c hc
      rcases List.mem_cons.mp hs with e | hs
      · subst e
        rcases List.mem_append.mp hc with hc | hc
        · exact ho c hc
        · simp at hc; exact .inl hc
      · rcases List.mem_cons.mp hs with e | hs
        · subst e
          rcases List.mem_append.mp hc with hc | hc
          · exact ho c hc
          · simp at hc; exact .inr hc
        · cases hs
  · rcases List.mem_append.mp hs with hs | hs
    · exact Nat.le_succ_of_le (g.len s (List.mem_cons_of_mem _ hs))
    · rcases List.mem_cons.mp hs with e | hs
      · subst e; rw [List.length_append, List.length_singleton]; omega
      · rcases List.mem_cons.mp hs with e | hs
        · subst e; rw [List.length_append, List.length_singleton]; omega
        · cases hs
theorem good_nil : Good [[]] 0 := by
  refine ⟨List.pairwise_singleton _ _, fun s hs => ?_, fun s hs => ?_⟩
  · rw [List.mem_singleton] at hs
    subst hs
    intro c hc
    cases hc
  · rw [List.mem_singleton] at hs
    subst hs
    exact Nat.le_refl _
def dstr (ls : List (List Nat)) : List D := ls.map D.str
@[simp] theorem dstr_len {ls : List (List Nat)} : (dstr ls).length = ls.length := by simp [dstr]
theorem dstr_get {ls : List (List Nat)} {a : Nat} {o : List Nat} (h : ls[a]? = some o) : (dstr ls)[a]? = some (.str o) := by
  unfold dstr
  rw [List.getElem?_map, h]
  rfl
theorem sub_lst {xs : List D} {a : Nat} {d : D} (h : xs[a]? = some d) : subD (.lst xs) (.int (a : Int)) = some d := by
  obtain ⟨hl, e⟩ := List.getElem?_eq_some_iff.mp h
  unfold subD
  simp only
  rw [ix_nat hl]
  exact h
@[simp] theorem slc_to {xs : List D} {k : Nat} (h : k ≤ xs.length) : slcD (.lst xs) none (some (k : Int)) = some (.tmp (.lst (xs.take k))) := by
  show some (Val.tmp (.lst (cut xs none (some (k : Int))))) = _
  rw [cut_to h]
@[simp] theorem slc_from {xs : List D} {k : Nat} (h : k + 1 ≤ xs.length) : slcD (.lst xs) (some ((k : Int) + 1)) none = some (.tmp (.lst (xs.drop (k + 1)))) := by
  show some (Val.tmp (.lst (cut xs (some ((k + 1 : Nat) : Int)) none))) = _
  rw [cut_from h]
@[simp] theorem a_lst {a b : List D} (h : a.length + b.length ≤ 1000) : app2 .add (.lst a) (.lst b) = some (.tmp (.lst (a ++ b))) := if_pos (le_LIM h)
@[simp] theorem a_str {a b : List Nat} (h : a.length + b.length ≤ 1000) : app2 .add (.str a) (.str b) = some (.imm (.str (a ++ b))) := if_pos (le_LIM h)
/-- the place of the leaf that is split -/
def placeOf (deep : Bool) (t len a : Nat) : Nat := if deep && decide (0 < t) then len - 1 - a % 2 else a
theorem leaves_ok {n : Nat} {j : D} {k : Nat} {deep : Bool} (J : isJar j) (hk : k ≤ 12) : ∃ ls j', callF T (n + 2) f_law_leaves [(true, j), (false, .int k), (false, .bl deep)] = .ok true (.lst (dstr ls)) [j'] ∧ isJar j' ∧ Good ls k ∧ ls.length = k + 1 := by
  rw [run_at (fn := fn_law_leaves) rfl ⟨rfl, rfl, by decide⟩]
  have key := loopF_inv (f := fFor (callF T (n + 1)) (.nm 4) (match fn_law_leaves.body with | .seq _ (.seq (.for_ _ _ _ b) _) => b | _ => .nil)) (xs := rngD 0 k) (ρ := [some (.own 1 j), some (.imm (.int k)), some (.imm (.bl deep)), some (.own 0 (.lst (dstr [[]]))), none, none, none])
    (fun i ρ => ∃ ls j' s4 s5 s6, ρ = [some (.own 1 j'), some (.imm (.int k)), some (.imm (.bl deep)), some (.own 0 (.lst (dstr ls))), s4, s5, s6] ∧ isJar j' ∧ Good ls i ∧ ls.length = i + 1)
    ⟨_, _, _, _, _, rfl, J, good_nil, rfl⟩
    (fun i x ρ hx hI => by
      obtain ⟨ls, j1, s4, s5, s6, rfl, J1, g, hlen⟩ := hI
      obtain ⟨rfl, hi⟩ := rng_get hx
      obtain ⟨r, j2, ed, r0, r1, J2⟩ := draw_ok (n := n) (j := j1) (m := (ls.length : Nat)) J1 (by omega) (by omega)
      obtain ⟨a, rfl⟩ := Int.eq_ofNat_of_zero_le r0
      have ha : a < ls.length := by omega
      have hp : placeOf deep i ls.length a < ls.length := by unfold placeOf; split <;> omega
      obtain ⟨o, ho⟩ : ∃ o, ls[placeOf deep i ls.length a]? = some o := ⟨_, List.getElem?_eq_getElem hp⟩
      have hol : o.length ≤ i := g.len o (List.mem_of_getElem? ho)
      have hol2 : (o.length : Int) < 12 := by omega
      refine ⟨[some (.own 1 j2), some (.imm (.int k)), some (.imm (.bl deep)), some (.own 0 (.lst (dstr (ls.take (placeOf deep i ls.length a) ++ ls.drop (placeOf deep i ls.length a + 1) ++ [o ++ [48], o ++ [49]])))), some (.imm (.int i)), some (.imm (.int (placeOf deep i ls.length a))), some (.imm (.str o))], ?_, _, _, _, _, _, rfl, J2, g.split ho, ?_⟩
      · have so := sub_lst (dstr_get ho)
        have hh : ((ls.length : Int) - 1 - (a : Int) % 2) = ((ls.length - 1 - a % 2 : Nat) : Int) := by omega
        have hs1 : placeOf deep i ls.length a ≤ (dstr ls).length := by rw [dstr_len]; omega
        have hs2 : placeOf deep i ls.length a + 1 ≤ (dstr ls).length := by rw [dstr_len]; omega
        have h12 : o.length ≤ 1000 := by omega
        have hdd : dstr (ls.take (placeOf deep i ls.length a) ++ ls.drop (placeOf deep i ls.length a + 1) ++ [o ++ [48], o ++ [49]]) = (dstr ls).take (placeOf deep i ls.length a) ++ (dstr ls).drop (placeOf deep i ls.length a + 1) ++ [.str (o ++ [48]), .str (o ++ [49])] := by simp [dstr]
        have hl3 : (dstr ls).length ≤ 20 := by rw [dstr_len]; omega
        have hl4 : ((dstr ls).take (placeOf deep i ls.length a)).length ≤ 20 := by rw [List.length_take]; omega
        have hl5 : ((dstr ls).drop (placeOf deep i ls.length a + 1)).length ≤ 20 := by rw [List.length_drop]; omega
        rw [hdd]
        have hle : ls.length = (dstr ls).length := dstr_len.symm
        simp only [fFor, fn_law_leaves]
        rw [hle] at ed hh so hs1 hs2 hl4 hl5
        generalize dstr ls = dl at *
        have hS0 : app2 .add (.str o) (.str [48]) = some (.imm (.str (o ++ [48]))) := a_str (by rw [List.length_singleton]; omega)
        have hS1 : app2 .add (.str o) (.str [49]) = some (.imm (.str (o ++ [49]))) := a_str (by rw [List.length_singleton]; omega)
        have hA : app2 .add (.lst (dl.take (placeOf deep i dl.length a))) (.lst (dl.drop (placeOf deep i dl.length a + 1))) = some (.tmp (.lst (dl.take (placeOf deep i dl.length a) ++ dl.drop (placeOf deep i dl.length a + 1)))) := a_lst (by omega)
        have hB : app2 .add (.lst (dl.take (placeOf deep i dl.length a) ++ dl.drop (placeOf deep i dl.length a + 1))) (.lst [.str (o ++ [48]), .str (o ++ [49])]) = some (.tmp (.lst (dl.take (placeOf deep i dl.length a) ++ dl.drop (placeOf deep i dl.length a + 1) ++ [.str (o ++ [48]), .str (o ++ [49])]))) := a_lst (by rw [List.length_append]; simp only [List.length_cons, List.length_nil]; omega)
        rw [hle]
        unfold placeOf at *
        cases deep with
        | false =>
          simp only [Bool.false_and, Bool.false_eq_true, if_false] at *
          simp [ed, ha, so, h12, hol2, hs1, hs2, hS0, hS1, hA, hB]
        | true =>
          by_cases h0 : 0 < i
          · have h0' : (0 : Int) < i := by omega
            simp only [Bool.true_and, h0, decide_true, if_true] at *
            have h9 : 0 < i := by omega
            simp [ed, ha, h9, hh, so, h12, hol2, hs1, hs2, hS0, hS1, hA, hB]
          · have h0' : ¬ (0 : Int) < i := by omega
            simp only [Bool.true_and, h0, decide_false, Bool.false_eq_true, if_false] at *
            have h9 : ¬ 0 < i := by omega
            simp [ed, ha, h9, so, h12, hol2, hs1, hs2, hS0, hS1, hA, hB]
      · rw [List.length_append, List.length_append, List.length_take, List.length_drop]
        simp
        omega)
  obtain ⟨ρ', e, ls, j', s4, s5, s6, rfl, J', g, hl⟩ := key
  rw [rng_len] at g hl
  have hk' : ((k : Int) - 0).toNat = k := by omega
  rw [hk'] at g hl
  refine ⟨ls, j', ?_, J', g, hl⟩
  simp only [fn_law_leaves] at e
  rw [show dstr [[]] = [D.str []] from rfl] at e
  have hB1 : -1000000000000 ≤ (k : Int) := by omega
  have hB2 : (k : Int) ≤ 1000000000000 := by omega
  simp [fn_law_leaves, hB1, hB2, e]
end Mi

set_option maxRecDepth 100000
set_option maxHeartbeats 4000000
namespace Mi
@[simp] theorem mu_app {xs : List D} {d : D} (h : xs.length ≤ 900) : appMu .append (.lst xs) [d] = some (.lst (xs ++ [d]), .non) := if_pos (Nat.lt_of_le_of_lt h (by decide))
@[simp] theorem b_list {xs : List D} : appB .list [.lst xs] = some (.tmp (.lst xs)) := rfl
@[simp] theorem b_tuple {xs : List D} : appB .tuple [.lst xs] = some (.imm (.tup xs)) := rfl
theorem picked_ok {n : Nat} {j : D} {rows : List D} {m : Nat} (J : isJar j) (hm : m ≤ rows.length) (hr : rows.length ≤ 20) : ∃ told j' rest, callF T (n + 2) f_law_picked [(true, j), (false, .lst rows), (false, .int m)] = .ok true (.lst told) [j'] ∧ isJar j' ∧ told.length = m ∧ (told ++ rest).Perm rows := by
  rw [run_at (fn := fn_law_picked) rfl ⟨rfl, rfl, by decide⟩]
  have key := loopF_inv (f := fFor (callF T (n + 1)) (.nm 5) (match fn_law_picked.body with | .seq _ (.seq _ (.seq (.for_ _ _ _ b) _)) => b | _ => .nil)) (xs := rngD 0 m) (ρ := [some (.own 1 j), some (.imm (.lst rows)), some (.imm (.int m)), some (.own 0 (.lst rows)), some (.own 0 (.lst [])), none, none])
    (fun i ρ => ∃ told rest j' s5 s6, ρ = [some (.own 1 j'), some (.imm (.lst rows)), some (.imm (.int m)), some (.own 0 (.lst rest)), some (.own 0 (.lst told)), s5, s6] ∧ isJar j' ∧ told.length = i ∧ (told ++ rest).Perm rows)
    ⟨[], rows, j, none, none, rfl, J, rfl, List.Perm.refl _⟩
    (fun i x ρ hx hI => by
      obtain ⟨told, rest, j1, s5, s6, rfl, J1, hlen, pm⟩ := hI
      obtain ⟨rfl, hi⟩ := rng_get hx
      have hpl := pm.length_eq
      rw [List.length_append, hlen] at hpl
      obtain ⟨r, j2, ed, r0, r1, J2⟩ := draw_ok (n := n) (j := j1) (m := (rest.length : Nat)) J1 (by omega) (by omega)
      obtain ⟨a, rfl⟩ := Int.eq_ofNat_of_zero_le r0
      have ha : a < rest.length := by omega
      obtain ⟨o, ho⟩ : ∃ o, rest[a]? = some o := ⟨_, List.getElem?_eq_getElem ha⟩
      refine ⟨[some (.own 1 j2), some (.imm (.lst rows)), some (.imm (.int m)), some (.own 0 (.lst (rest.take a ++ rest.drop (a + 1)))), some (.own 0 (.lst (told ++ [o]))), some (.imm (.int i)), some (.imm (.int a))], ?_, _, _, _, _, _, rfl, J2, ?_, ?_⟩
      · have so := sub_lst ho
        have hs1 : a ≤ rest.length := by omega
        have hs2 : a + 1 ≤ rest.length := by omega
        have ht : told.length ≤ 900 := by omega
        have hA : app2 .add (.lst (rest.take a)) (.lst (rest.drop (a + 1))) = some (.tmp (.lst (rest.take a ++ rest.drop (a + 1)))) := a_lst (by rw [List.length_take, List.length_drop]; omega)
        simp only [fFor, fn_law_picked]
        simp [ed, ha, so, hs1, hs2, ht, hA]
      · rw [List.length_append, hlen]; rfl
      · rw [List.append_assoc]
        refine List.Perm.trans (List.Perm.append_left told ?_) pm
        exact out_perm ho)
  obtain ⟨ρ', e, told, rest, j', s5, s6, rfl, J', hl, pm⟩ := key
  rw [rng_len] at hl
  have hk' : ((m : Int) - 0).toNat = m := by omega
  rw [hk'] at hl
  refine ⟨told, j', rest, ?_, J', hl, pm⟩
  simp only [fn_law_picked] at e
  have hB1 : -1000000000000 ≤ (m : Int) := by omega
  have hB2 : (m : Int) ≤ 1000000000000 := by omega
  simp [fn_law_picked, hB1, hB2, e]

/-! ### small defs -/
def cmpb (a b : List Nat) : Bool := b.isPrefixOf a || a.isPrefixOf b
@[simp] theorem m_sw {a b : List Nat} : appM .startswith (.str a) [.str b] = some (.imm (.bl (b.isPrefixOf a))) := rfl
@[simp] theorem t_sw {a : List Nat} : tyM .startswith (.str a) = true := rfl
theorem begins_ok {n : Nat} {a b : List Nat} : callF T (n + 1) f_begins [(false, .str a), (false, .str b)] = .ok false (.bl (cmpb a b)) [] := by
  rw [run_at (fn := fn_begins) rfl ⟨rfl, rfl, by decide⟩]
  unfold cmpb
  cases h : b.isPrefixOf a <;> simp [fn_begins, h]
theorem isint_ok {n : Nat} {i : Int} : callF T (n + 1) f_law_is_int [(false, .int i)] = .ok false (.bl true) [] := by
  rw [run_at (fn := fn_law_is_int) rfl ⟨rfl, rfl, by decide⟩]
  simp [fn_law_is_int, isTy]
/-- rows of signs, the last sign first told -/
def sb : Nat → List (List Nat)
  | 0 => [[]]
  | s + 1 => (sb s).map (· ++ [48]) ++ (sb s).map (· ++ [49])
theorem sb_len : ∀ s, (sb s).length = 2 ^ s
  | 0 => rfl
  | s + 1 => by simp [sb, sb_len s]; omega
theorem sb_mem : ∀ {s : Nat} {x : List Nat}, x ∈ sb s → x.length = s
  | 0, x, h => by simp [sb] at h; rw [h]; rfl
  | s + 1, x, h => by
    simp only [sb, List.mem_append, List.mem_map] at h
    rcases h with ⟨y, hy, rfl⟩ | ⟨y, hy, rfl⟩ <;> simp [sb_mem hy]
theorem strings_ok {n s : Nat} (hs : s ≤ 5) : callF T (n + 1) f_law_strings [(false, .int s)] = .ok true (.lst (dstr (sb s))) [] := by
  rw [run_at (fn := fn_law_strings) rfl ⟨rfl, rfl, by decide⟩]
  have key := loopF_inv (f := fFor (callF T n) (.nm 2) (match fn_law_strings.body with | .seq _ (.seq (.for_ _ _ _ b) _) => b | _ => .nil)) (xs := rngD 0 s) (ρ := [some (.imm (.int s)), some (.own 0 (.lst (dstr (sb 0)))), none, none])
    (fun i ρ => ∃ k s2, ρ = [some (.imm (.int s)), some (.own 0 (.lst (dstr (sb i)))), s2, none] ∧ k = i)
    ⟨0, none, rfl, rfl⟩
    (fun i x ρ hx hI => by
      obtain ⟨k, s2, rfl, rfl⟩ := hI
      obtain ⟨rfl, hi⟩ := rng_get hx
      have hk : k ≤ 4 := by omega
      have h1 : (dstr (sb k)).length ≤ 16 := by
        rw [dstr_len, sb_len]
        exact Nat.pow_le_pow_right (by decide) hk
      refine ⟨[some (.imm (.int s)), some (.own 0 (.lst (dstr (sb (k + 1))))), some (.imm (.int k)), none], ?_, k + 1, _, rfl, rfl⟩
      have hm : ∀ c, c = 48 ∨ c = 49 → fLc (callF T n) [3] (.nm 3) .seq (.cons (.var 1) .nil) (evC (callF T n) .nil) (ev (callF T n) false (.bin .add (.pk 3) (.con (.str [c])))) [some (.imm (.int s)), some (.imm (.lst (dstr (sb k)))), some (.imm (.int k)), none] =
          .ok (.tmp (.lst (dstr ((sb k).map (· ++ [c]))))) [some (.imm (.int s)), some (.imm (.lst (dstr (sb k)))), some (.imm (.int k)), none] := by
        intro c _
        rw [lc_ok (vs := [.imm (.lst (dstr (sb k)))]) (ρ1 := [some (.imm (.int s)), some (.imm (.lst (dstr (sb k)))), some (.imm (.int k)), none]) (xs := dstr (sb k)) (ds := [.lst (dstr (sb k))]) (fun x => match x with | .str y => some (.str (y ++ [c])) | _ => none) (by simp) (by simp) (by simp) ?_ (le_LIM (by omega)) (by simp [wipeS, backS])]
        · congr 3
          simp only [dstr, List.filterMap_map, List.map_map]
          rw [← List.filterMap_eq_map]
          rfl
        · intro x hx
          obtain ⟨y, hy, rfl⟩ := List.mem_map.mp hx
          have hyl := sb_mem hy
          have ha : app2 .add (.str y) (.str [c]) = some (.imm (.str (y ++ [c]))) := a_str (by rw [List.length_singleton]; omega)
          simp [fTurn, wipeS, ha, evC]
      have h48 := hm 48 (.inl rfl)
      have h49 := hm 49 (.inr rfl)
      have h48' : fLc (callF T n) [3] (.nm 3) .seq (.cons (.var 1) .nil) (evC (callF T n) .nil) (ev (callF T n) false (.bin .add (.pk 3) (.con (.str [48])))) [some (.imm (.int s)), some (.own 0 (.lst (dstr (sb k)))), some (.imm (.int k)), none] =
          .ok (.tmp (.lst (dstr ((sb k).map (· ++ [48]))))) [some (.imm (.int s)), some (.imm (.lst (dstr (sb k)))), some (.imm (.int k)), none] := by
        rw [← h48]
        simp only [fLc]
        simp
      have hA : app2 .add (.lst (dstr ((sb k).map (· ++ [48])))) (.lst (dstr ((sb k).map (· ++ [49])))) = some (.tmp (.lst (dstr (sb (k + 1))))) := by
        rw [a_lst (by rw [dstr_len, dstr_len, List.length_map, List.length_map, ← dstr_len (ls := sb k)]; omega)]
        simp [sb, dstr]
      simp only [fFor, fn_law_strings]
      simp [h48', h49, hA])
  obtain ⟨ρ', e, k, s2, rfl, hk⟩ := key
  rw [rng_len] at e hk
  have hk' : ((s : Int) - 0).toNat = s := by omega
  rw [hk'] at e hk
  simp only [fn_law_strings] at e
  rw [show dstr (sb 0) = [D.str []] from rfl] at e
  have hB1 : -1000000000000 ≤ (s : Int) := by omega
  have hB2 : (s : Int) ≤ 1000000000000 := by omega
  simp [fn_law_strings, hB1, hB2, e]
end Mi

set_option maxRecDepth 100000
set_option maxHeartbeats 4000000
namespace Mi
theorem lc_strs {C : Nat → List (Bool × D) → CRes} {own : List Nat} {tg : Tg} {k : ItK} {es : L} {fc : Env → Res Bool} {fe : Env → Res Val} {ρ : Env} (vs : List Val) (ρ1 : Env) (ds : List D) (ls : List (List Nat)) (g : List Nat → Option D) (h1 : evs C es ρ = .ok vs ρ1) (h2 : imms vs = some ds) (h3 : itemsOf k ds = some (dstr ls))
    (h : ∀ y ∈ ls, fTurn own tg fc fe (.str y) (wipeS ρ1 own) = .ok (g y) (wipeS ρ1 own)) (hl : ls.length ≤ 1000) (hb : backS ρ1 (wipeS ρ1 own) own = ρ1) : fLc C own tg k es fc fe ρ = .ok (.tmp (.lst (ls.filterMap g))) ρ1 := by
  rw [lc_ok (fun x => match x with | .str y => g y | _ => none) h1 h2 h3 (fun x hx => ?_) (le_LIM (by rw [dstr_len]; exact hl)) hb]
  · congr 3
    simp only [dstr, List.filterMap_map]
    rfl
  · obtain ⟨y, hy, rfl⟩ := List.mem_map.mp hx
    exact h y hy
theorem ints_map {α : Type} {f : α → Int} : ∀ {l : List α}, D.ints (l.filterMap fun x => some (.int (f x))) = some (l.map f)
  | [] => rfl
  | x :: l => by
    show (D.ints (l.filterMap fun x => some (.int (f x)))).map (f x :: ·) = _
    rw [ints_map (l := l)]
    rfl
theorem sum_cast {α : Type} {f : α → Nat} : ∀ {l : List α}, (l.map fun x => ((f x : Nat) : Int)).sum = (((l.map f).sum : Nat) : Int)
  | [] => rfl
  | x :: l => by simp [sum_cast (l := l)]
@[simp] theorem a_shlN {k : Nat} (h : k ≤ 1000000) : app2 .shl (.int 1) (.int (k : Int)) = some (.imm (.int ((2 ^ k : Nat) : Int))) := by
  rw [a_shl (by omega) (by omega), Int.toNat_natCast]
  simp
theorem cut_any {α : Type} {xs : List α} {k : Nat} : cut xs none (some (k : Int)) = xs.take k := by
  unfold cut cutAt
  simp only [List.drop_zero, Nat.sub_zero]
  rw [if_neg (by omega), Int.toNat_natCast]
  by_cases h : k ≤ xs.length
  · rw [Nat.min_eq_left h]
  · rw [Nat.min_eq_right (by omega), List.take_of_length_le (Nat.le_refl _), List.take_of_length_le (by omega)]
@[simp] theorem slc_str {xs : List Nat} {k : Nat} (h : xs.length ≤ 1000) : slcD (.str xs) none (some (k : Int)) = some (.imm (.str (xs.take k))) := by
  show (if xs.length ≤ LIM then some (Val.imm (.str (cut xs none (some (k : Int))))) else none) = _
  rw [if_pos (le_LIM h), cut_any]
@[simp] theorem c_eqS {a b : List Nat} : appC .eq (.str a) (.str b) = some (a == b) := rfl
theorem pre_take (a b : List Nat) : (a.take b.length == b) = b.isPrefixOf a := (isPrefixOf_take b a).symm
/-! ### is_free -/
theorem isfree_ok {n : Nat} {row : List Nat} {tags : List (List Nat)} (hr : row.length ≤ 1000) (ht : ∀ t ∈ tags, t.length ≤ 1000) : callF T (n + 1) f_law_is_free [(false, .str row), (false, .lst (dstr tags))] = .ok false (.bl (tags.all fun t => !cmpb t row)) [] := by
  rw [run_at (fn := fn_law_is_free) rfl ⟨rfl, rfl, by decide⟩]
  have key : ∀ (ts : List (List Nat)) (all : D) (s2 : Option Slot), (∀ t ∈ ts, t.length ≤ 1000) → ∃ ρ', loopF (fFor (callF T n) (.nm 2) (match fn_law_is_free.body with | .seq (.for_ _ _ _ b) _ => b | _ => .nil)) (dstr ts) [some (.imm (.str row)), some (.imm all), s2] =
      if ts.all fun t => !cmpb t row then .ok .nx ρ' else .ok (.rt (.imm (.bl false))) ρ' := by
    intro ts
    induction ts with
    | nil => exact fun all s2 _ => ⟨_, rfl⟩
    | cons t ts ih =>
      intro all s2 h
      have h1 : t.length ≤ 1000 := h t (List.mem_cons_self ..)
      have e1 := pre_take t row
      have e2 := pre_take row t
      obtain ⟨ρ2, q⟩ := ih all (some (.imm (.str t))) fun x hx => h x (List.mem_cons_of_mem _ hx)
      simp only [fn_law_is_free] at q ⊢
      rw [show dstr (t :: ts) = .str t :: dstr ts from rfl, loopF_cons, List.all_cons]
      by_cases c : cmpb t row = true
      · refine ⟨[some (.imm (.str row)), some (.imm all), some (.imm (.str t))], ?_⟩
        rw [c]
        unfold cmpb at c
        rw [← e1, ← e2] at c
        by_cases c1 : (t.take row.length == row) = true
        · simp only [fFor]
          simp [h1, hr, c1, nextF]
        · have c2 : (row.take t.length == t) = true := by
            rw [Bool.not_eq_true] at c1
            rw [c1, Bool.false_or] at c
            exact c
          rw [Bool.not_eq_true] at c1
          simp only [fFor]
          simp only [beq_eq_false_iff_ne, ne_eq] at c1
          simp only [beq_iff_eq] at c2
          simp [h1, hr, c1, c2, nextF]
      · rw [Bool.not_eq_true] at c
        refine ⟨ρ2, ?_⟩
        rw [c]
        unfold cmpb at c
        rw [← e1, ← e2, Bool.or_eq_false_iff] at c
        obtain ⟨c1, c2⟩ := c
        simp only [beq_eq_false_iff_ne, ne_eq] at c1 c2
        rw [Bool.not_false, Bool.true_and, ← q]
        simp only [fFor]
        simp [h1, hr, c1, c2, nextF]
  obtain ⟨ρ', e⟩ := key tags (.lst (dstr tags)) none ht
  simp only [fn_law_is_free] at e
  by_cases h : (tags.all fun t => !cmpb t row) = true
  · rw [h] at e ⊢
    simp [fn_law_is_free, e]
  · rw [Bool.not_eq_true] at h
    rw [h] at e ⊢
    simp [fn_law_is_free, e]
/-! ### _law_sum -/
def halve1 (p : Nat × Nat) : Nat × Nat := if p.1 % 2 = 0 ∧ 1 < p.2 then (p.1 / 2, p.2 / 2) else p
def halve : Nat → Nat × Nat → Nat × Nat
  | 0, p => p
  | k + 1, p => halve k (halve1 p)
def topN (m : Nat) (tags : List (List Nat)) : Nat := (tags.map fun t => 2 ^ (m - t.length)).sum
@[simp] theorem b_sum {xs : List D} {r : List Int} (h : D.ints xs = some r) : appB .sum [.lst xs] = some (.imm (.int r.sum)) := by
  show (match D.ints xs with | some r => some (Val.imm (.int r.sum)) | _ => none) = _
  rw [h]
theorem lsum_ok {n : Nat} {tags : List (List Nat)} (hl : tags.length ≤ 20) (ht : ∀ t ∈ tags, t.length ≤ 12) : callF T (n + 1) f_law_sum [(false, .lst (dstr tags))] = .ok false (.tup [.int (halve 12 (topN 12 tags, 4096)).1, .int (halve 12 (topN 12 tags, 4096)).2]) [] := by
  rw [run_at (fn := fn_law_sum) rfl ⟨rfl, rfl, by decide⟩]
  have hlc : fLc (callF T n) [4] (.nm 4) .seq (.cons (.var 0) .nil) (evC (callF T n) .nil) (ev (callF T n) false (.bin .shl (.con (.int 1)) (.bin .sub (.con (.int 12)) (.blt .len (.cons (.pk 4) .nil))))) [some (.imm (.lst (dstr tags))), none, none, none, none] =
      .ok (.tmp (.lst (tags.filterMap fun t => some (.int ((2 ^ (12 - t.length) : Nat) : Int))))) [some (.imm (.lst (dstr tags))), none, none, none, none] := by
    refine lc_strs [.imm (.lst (dstr tags))] _ [.lst (dstr tags)] tags _ (by simp) (by simp) (by simp) (fun t h => ?_) (by omega) (by simp [wipeS, backS])
    have h1 := ht t h
    have h2 : t.length ≤ 1000 := by omega
    have h3 : (12 : Int) - (t.length : Int) = ((12 - t.length : Nat) : Int) := by omega
    have h4 : 12 - t.length ≤ 1000000 := by omega
    have h5 := a_shlN h4
    simp [fTurn, wipeS, evC, h2, h3, h5]
  have hs := b_sum (ints_map (f := fun t : List Nat => ((2 ^ (12 - t.length) : Nat) : Int)) (l := tags))
  rw [sum_cast (f := fun t : List Nat => 2 ^ (12 - t.length))] at hs
  have hs : appB .sum [.lst (tags.filterMap fun t => some (.int ((2 ^ (12 - t.length) : Nat) : Int)))] = some (.imm (.int (topN 12 tags : Nat))) := hs
  generalize (tags.filterMap fun t => some (D.int ((2 ^ (12 - t.length) : Nat) : Int))) = LL at hlc hs
  generalize topN 12 tags = tp at *
  have key := loopF_inv (f := fFor (callF T n) (.nm 3) (match fn_law_sum.body with | .seq _ (.seq _ (.seq (.for_ _ _ _ b) _)) => b | _ => .nil)) (xs := rngD 0 12) (ρ := [some (.imm (.lst (dstr tags))), some (.imm (.int (tp : Nat))), some (.imm (.int (4096 : Nat))), none, none])
    (fun i ρ => ∃ t u s3, ρ = [some (.imm (.lst (dstr tags))), some (.imm (.int (t : Nat))), some (.imm (.int (u : Nat))), s3, none] ∧ halve (12 - i) (t, u) = halve 12 (tp, 4096))
    ⟨_, _, _, rfl, rfl⟩
    (fun i x ρ hx hI => by
      obtain ⟨t, u, s3, rfl, hh⟩ := hI
      obtain ⟨rfl, hi⟩ := rng_get hx
      have e12 : 12 - i = (12 - (i + 1)) + 1 := by omega
      rw [e12] at hh
      simp only [fFor, fn_law_sum]
      by_cases c1 : (t : Int) % 2 = 0
      · by_cases c2 : (1 : Int) < u
        · refine ⟨[some (.imm (.lst (dstr tags))), some (.imm (.int ((t / 2 : Nat) : Int))), some (.imm (.int ((u / 2 : Nat) : Int))), some (.imm (.int i)), none], ?_, _, _, _, rfl, ?_⟩
          · have c2' : 1 < u := by omega
            simp [c1, c2]
          · rw [← hh]
            show _ = halve _ (halve1 (t, u))
            rw [show halve1 (t, u) = (t / 2, u / 2) from if_pos ⟨by omega, by omega⟩]
        · refine ⟨[some (.imm (.lst (dstr tags))), some (.imm (.int (t : Nat))), some (.imm (.int (u : Nat))), some (.imm (.int i)), none], ?_, _, _, _, rfl, ?_⟩
          · have c2' : ¬ 1 < u := by omega
            simp [c1, c2]
          · rw [← hh]
            show _ = halve _ (halve1 (t, u))
            rw [show halve1 (t, u) = (t, u) from if_neg (fun z => c2 (by have := z.2; omega))]
      · refine ⟨[some (.imm (.lst (dstr tags))), some (.imm (.int (t : Nat))), some (.imm (.int (u : Nat))), some (.imm (.int i)), none], ?_, _, _, _, rfl, ?_⟩
        · simp [c1]
        · rw [← hh]
          show _ = halve _ (halve1 (t, u))
          rw [show halve1 (t, u) = (t, u) from if_neg (fun z => c1 (by have := z.1; omega))])
  obtain ⟨ρ', e, t, u, s3, rfl, hh⟩ := key
  rw [rng_len] at hh
  have hh' : (t, u) = halve 12 (tp, 4096) := hh
  rw [← hh']
  simp only [fn_law_sum] at e
  have e4 : ((4096 : Nat) : Int) = 4096 := rfl
  rw [e4] at e
  simp [fn_law_sum, hlc, hs, e]
end Mi

set_option maxRecDepth 100000
set_option maxHeartbeats 4000000
namespace Mi
/-! ### free_of -/
def foStep (s : Nat) (p : Int × List (List Nat)) (t : List Nat) : Int × List (List Nat) :=
  if t.length ≤ s then (p.1 - ((2 ^ (s - t.length) : Nat) : Int), p.2) else if p.2.any (· == t.take s) then p else (p.1, p.2 ++ [t.take s])
def foAll (s : Nat) (tags : List (List Nat)) : Int := let p := tags.foldl (foStep s) (((2 ^ s : Nat) : Int), []); p.1 - p.2.length
theorem nin_ok {ys : List (List Nat)} {x : List Nat} : appC .nin (.str x) (.lst (dstr ys)) = some (!ys.any (· == x)) := by
  show (if D.flat (.str x) && (dstr ys).all D.flat then some (!(dstr ys).any fun z => z.eqv (.str x)) else none) = _
  have h1 : (dstr ys).all D.flat = true := by
    unfold dstr
    rw [List.all_map, List.all_eq_true]
    exact fun _ _ => rfl
  have h2 : ((dstr ys).any fun z => z.eqv (.str x)) = ys.any (· == x) := by
    unfold dstr
    rw [List.any_map]
    rfl
  rw [h1, h2]
  rfl
theorem freeof_ok {n s : Nat} {tags : List (List Nat)} (hs : s ≤ 12) (hl : tags.length ≤ 20) (ht : ∀ t ∈ tags, t.length ≤ 12) : callF T (n + 1) f_law_free_of [(false, .int s), (false, .lst (dstr tags))] = .ok false (.int (foAll s tags)) [] := by
  rw [run_at (fn := fn_law_free_of) rfl ⟨rfl, rfl, by decide⟩]
  have key : ∀ (ts : List (List Nat)) (all : D) (p : Int × List (List Nat)) (s4 : Option Slot), (∀ t ∈ ts, t.length ≤ 12) → p.2.length + ts.length ≤ 20 → ∃ s4', loopF (fFor (callF T n) (.nm 4) (match fn_law_free_of.body with | .seq _ (.seq _ (.seq (.for_ _ _ _ b) _)) => b | _ => .nil)) (dstr ts) [some (.imm (.int s)), some (.imm all), some (.imm (.int p.1)), some (.own 0 (.lst (dstr p.2))), s4] =
      .ok .nx [some (.imm (.int s)), some (.imm all), some (.imm (.int (ts.foldl (foStep s) p).1)), some (.own 0 (.lst (dstr (ts.foldl (foStep s) p).2))), s4'] := by
    intro ts
    induction ts with
    | nil => exact fun all p s4 _ _ => ⟨s4, rfl⟩
    | cons t ts ih =>
      intro all p s4 h hlen
      have h1 : t.length ≤ 12 := h t (List.mem_cons_self ..)
      have h2 : t.length ≤ 1000 := by omega
      rw [List.length_cons] at hlen
      have hp2 : (dstr p.2).length ≤ 900 := by rw [dstr_len]; omega
      have hst : (foStep s p t).2.length + ts.length ≤ 20 := by
        unfold foStep
        split
        · show p.2.length + ts.length ≤ 20; omega
        · split
          · omega
          · show (p.2 ++ [t.take s]).length + ts.length ≤ 20
            rw [List.length_append, List.length_singleton]; omega
      obtain ⟨s4', q⟩ := ih all (foStep s p t) (some (.imm (.str t))) (fun x hx => h x (List.mem_cons_of_mem _ hx)) hst
      refine ⟨s4', ?_⟩
      rw [show dstr (t :: ts) = .str t :: dstr ts from rfl, loopF_cons, List.foldl_cons, ← q]
      have e : ∀ r : Res Flow, r = .ok .nx [some (.imm (.int s)), some (.imm all), some (.imm (.int (foStep s p t).1)), some (.own 0 (.lst (dstr (foStep s p t).2))), some (.imm (.str t))] → r.bind (nextF (fFor (callF T n) (.nm 4) (match fn_law_free_of.body with | .seq _ (.seq _ (.seq (.for_ _ _ _ b) _)) => b | _ => .nil)) (dstr ts)) = loopF (fFor (callF T n) (.nm 4) (match fn_law_free_of.body with | .seq _ (.seq _ (.seq (.for_ _ _ _ b) _)) => b | _ => .nil)) (dstr ts) [some (.imm (.int s)), some (.imm all), some (.imm (.int (foStep s p t).1)), some (.own 0 (.lst (dstr (foStep s p t).2))), some (.imm (.str t))] := by
        intro r e
        rw [e]
        rfl
      refine e _ ?_
      simp only [fFor, fn_law_free_of]
      unfold foStep
      by_cases c : t.length ≤ s
      · have c' : (t.length : Int) ≤ s := by omega
        have h3 : (s : Int) - (t.length : Int) = ((s - t.length : Nat) : Int) := by omega
        have h4 : s - t.length ≤ 1000000 := by omega
        have h5 := a_shlN h4
        generalize ((2 ^ (s - t.length) : Nat) : Int) = pw at *
        simp [h2, c, c', h3, h5]
      · have c' : ¬ (t.length : Int) ≤ s := by omega
        have hni := nin_ok (ys := p.2) (x := t.take s)
        rw [if_neg c]
        cases c2 : p.2.any (· == t.take s) with
        | true =>
          rw [c2] at hni
          simp [h2, c, c', hni]
        | false =>
          rw [c2] at hni
          simp only [Bool.false_eq_true, if_false]
          rw [show dstr (p.2 ++ [t.take s]) = dstr p.2 ++ [.str (t.take s)] by simp [dstr]]
          simp only [dstr_len] at hp2
          simp [h2, c, c', hni, hp2]
  obtain ⟨s4', e⟩ := key tags (.lst (dstr tags)) (((2 ^ s : Nat) : Int), []) none ht (by simpa using hl)
  simp only [fn_law_free_of] at e
  have h5 := a_shlN (k := s) (by omega)
  unfold foAll
  generalize ((2 ^ s : Nat) : Int) = pw at *
  rw [show dstr [] = [] from rfl] at e
  simp [fn_law_free_of, h5, e]
/-! ### free_below -/
def fbv : Nat → List (List Nat) → List Nat → Nat
  | 0, tags, word => if tags.filter (fun t => cmpb t word) = [] then 1 else 0
  | d + 1, tags, word => if tags.filter (fun t => cmpb t word) = [] then 2 ^ (d + 2) - 1 else
      if (tags.filter (fun t => cmpb t word)).any (fun t => decide (t.length ≤ word.length)) then 0 else fbv d (tags.filter (fun t => cmpb t word)) (word ++ [48]) + fbv d (tags.filter (fun t => cmpb t word)) (word ++ [49])
theorem filt_some {α β : Type} {f : α → β} {p : α → Bool} : ∀ {l : List α}, (l.filterMap fun x => if p x then some (f x) else none) = (l.filter p).map f
  | [] => rfl
  | x :: l => by
    by_cases h : p x = true
    · rw [List.filterMap_cons_some (b := f x) (by simp [h]), List.filter_cons_of_pos h, List.map_cons, filt_some]
    · rw [List.filterMap_cons_none (by simp [h]), List.filter_cons_of_neg h, filt_some]
theorem below_met {m : Nat} {tags : List (List Nat)} {word : List Nat} {mo : Int} (hl : tags.length ≤ 20) :
    fLc (callF T (m + 1)) [4] (.nm 4) .seq (.cons (.var 0) .nil) (evC (callF T (m + 1)) (.cons (.call f_begins (.cons (.var 4) (.cons (.var 1) .nil))) .nil)) (ev (callF T (m + 1)) false (.var 4)) [some (.imm (.lst (dstr tags))), some (.imm (.str word)), some (.imm (.int mo)), none, none] =
        .ok (.tmp (.lst (dstr (tags.filter fun t => cmpb t word)))) [some (.imm (.lst (dstr tags))), some (.imm (.str word)), some (.imm (.int mo)), none, none] := by
  rw [lc_strs [.imm (.lst (dstr tags))] [some (.imm (.lst (dstr tags))), some (.imm (.str word)), some (.imm (.int mo)), none, none] [.lst (dstr tags)] tags (fun t => if cmpb t word then some (.str t) else none) (by simp) (by simp) (by simp) (fun t h => ?_) (by omega) (by simp [wipeS, backS])]
  · rw [filt_some]
    rfl
  · have hb := begins_ok (n := m) (a := t) (b := word)
    cases c : cmpb t word with
    | true => rw [c] at hb; simp [fTurn, wipeS, evC, hb]
    | false => rw [c] at hb; simp [fTurn, wipeS, evC, hb]
theorem below_low {C : Nat → List (Bool × D) → CRes} {met : List (List Nat)} {word : List Nat} {mo : Int} {s0 : Option Slot} (hl : met.length ≤ 20) (ht : ∀ t ∈ met, t.length ≤ 12) (hw : word.length ≤ 12) :
    fLc C [4] (.nm 4) .seq (.cons (.var 3) .nil) (evC C (.cons (.cmp .le (.blt .len (.cons (.pk 4) .nil)) (.blt .len (.cons (.pk 1) .nil))) .nil)) (ev C false (.var 4)) [s0, some (.imm (.str word)), some (.imm (.int mo)), some (.own 0 (.lst (dstr met))), none] =
        .ok (.tmp (.lst (dstr (met.filter fun t => decide (t.length ≤ word.length))))) [s0, some (.imm (.str word)), some (.imm (.int mo)), some (.imm (.lst (dstr met))), none] := by
  rw [lc_strs [.imm (.lst (dstr met))] [s0, some (.imm (.str word)), some (.imm (.int mo)), some (.imm (.lst (dstr met))), none] [.lst (dstr met)] met (fun t => if decide (t.length ≤ word.length) then some (.str t) else none) (by simp) (by simp) (by simp) (fun t h => ?_) (by omega) (by simp [wipeS, backS])]
  · rw [filt_some]
    rfl
  · have h1 : t.length ≤ 1000 := by have := ht t h; omega
    have h2 : word.length ≤ 1000 := by omega
    by_cases c : t.length ≤ word.length
    · simp [fTurn, wipeS, evC, h1, h2, c]
    · simp [fTurn, wipeS, evC, h1, h2, c]
section
variable {m : Nat} {tags met : List (List Nat)} {word : List Nat} {mo : Int} (hl : tags.length ≤ 20) (ht : ∀ t ∈ tags, t.length ≤ 12) (hw : word.length ≤ 12) (hm : tags.filter (fun t => cmpb t word) = met)
include hl hm hw in
theorem below_A (h0 : met = []) {pw : Int} (h : app2 .shl (.int 1) (.int (mo - word.length + 1)) = some (.imm (.int pw))) : callF T (m + 2) f_free_below [(false, .lst (dstr tags)), (false, .str word), (false, .int mo)] = .ok false (.int (pw - 1)) [] := by
  rw [run_at (fn := fn_free_below) rfl ⟨rfl, rfl, by decide⟩]
  have hlc := below_met (m := m) (word := word) (mo := mo) hl
  rw [hm, h0, show dstr [] = [] from rfl] at hlc
  have hwl : word.length ≤ 1000 := by omega
  simp [fn_free_below, hlc, hwl, h]
include hl hm hw in
theorem below_B (h0 : met ≠ []) (h : (word.length : Int) = mo) : callF T (m + 2) f_free_below [(false, .lst (dstr tags)), (false, .str word), (false, .int mo)] = .ok false (.int 0) [] := by
  rw [run_at (fn := fn_free_below) rfl ⟨rfl, rfl, by decide⟩]
  have hlc := below_met (m := m) (word := word) (mo := mo) hl
  rw [hm] at hlc
  have hwl : word.length ≤ 1000 := by omega
  have he : (dstr met).isEmpty = false := by
    cases met with
    | nil => exact absurd rfl h0
    | cons _ _ => rfl
  generalize dstr met = dm at *
  simp [fn_free_below, hlc, hwl, he, h]
include hl ht hm hw in
theorem below_C (h0 : met ≠ []) (h : (word.length : Int) ≠ mo) (h2 : met.any (fun t => decide (t.length ≤ word.length)) = true) : callF T (m + 2) f_free_below [(false, .lst (dstr tags)), (false, .str word), (false, .int mo)] = .ok false (.int 0) [] := by
  rw [run_at (fn := fn_free_below) rfl ⟨rfl, rfl, by decide⟩]
  have hlc := below_met (m := m) (word := word) (mo := mo) hl
  rw [hm] at hlc
  have hwl : word.length ≤ 1000 := by omega
  have hmet : ∀ t ∈ met, t.length ≤ 12 := fun t h => ht t (List.mem_filter.mp (by rw [hm]; exact h)).1
  have hml : met.length ≤ 20 := by rw [← hm]; exact Nat.le_trans (List.length_filter_le _ _) hl
  have hlo := below_low (C := callF T (m + 1)) (s0 := some (.imm (.lst (dstr tags)))) (mo := mo) hml hmet hw
  have he : (dstr met).isEmpty = false := by
    cases met with
    | nil => exact absurd rfl h0
    | cons _ _ => rfl
  have he2 : (dstr (met.filter fun t => decide (t.length ≤ word.length))).isEmpty = false := by
    obtain ⟨t, h3, h4⟩ := List.any_eq_true.mp h2
    have h5 : t ∈ met.filter fun t => decide (t.length ≤ word.length) := List.mem_filter.mpr ⟨h3, h4⟩
    cases e : met.filter fun t => decide (t.length ≤ word.length) with
    | nil => rw [e] at h5; cases h5
    | cons _ _ => rfl
  generalize dstr (met.filter fun t => decide (t.length ≤ word.length)) = dl at *
  generalize dstr met = dm at *
  simp [fn_free_below, hlc, hlo, hwl, he, he2, h]
include hl ht hm hw in
theorem below_D (h0 : met ≠ []) (h : (word.length : Int) ≠ mo) (h2 : met.any (fun t => decide (t.length ≤ word.length)) = false) {a b : Int} (ha : callF T (m + 1) f_free_below [(false, .lst (dstr met)), (false, .str (word ++ [48])), (false, .int mo)] = .ok false (.int a) [])
    (hb : callF T (m + 1) f_free_below [(false, .lst (dstr met)), (false, .str (word ++ [49])), (false, .int mo)] = .ok false (.int b) []) : callF T (m + 2) f_free_below [(false, .lst (dstr tags)), (false, .str word), (false, .int mo)] = .ok false (.int (a + b)) [] := by
  rw [run_at (fn := fn_free_below) rfl ⟨rfl, rfl, by decide⟩]
  have hlc := below_met (m := m) (word := word) (mo := mo) hl
  rw [hm] at hlc
  have hwl : word.length ≤ 1000 := by omega
  have hmet : ∀ t ∈ met, t.length ≤ 12 := fun t h => ht t (List.mem_filter.mp (by rw [hm]; exact h)).1
  have hml : met.length ≤ 20 := by rw [← hm]; exact Nat.le_trans (List.length_filter_le _ _) hl
  have hlo := below_low (C := callF T (m + 1)) (s0 := some (.imm (.lst (dstr tags)))) (mo := mo) hml hmet hw
  have he : (dstr met).isEmpty = false := by
    cases met with
    | nil => exact absurd rfl h0
    | cons _ _ => rfl
  have he2 : met.filter (fun t => decide (t.length ≤ word.length)) = [] := by
    rw [List.filter_eq_nil_iff]
    intro t ht2
    rw [List.any_eq_false] at h2
    exact h2 t ht2
  rw [he2, show dstr [] = [] from rfl] at hlo
  have hS0 : app2 .add (.str word) (.str [48]) = some (.imm (.str (word ++ [48]))) := a_str (by rw [List.length_singleton]; omega)
  have hS1 : app2 .add (.str word) (.str [49]) = some (.imm (.str (word ++ [49]))) := a_str (by rw [List.length_singleton]; omega)
  generalize dstr met = dm at *
  simp [fn_free_below, hlc, hlo, hwl, he, h, hS0, hS1, ha, hb]
end
theorem below_ok {n : Nat} : ∀ {d : Nat} {tags : List (List Nat)} {word : List Nat} {mo : Int}, tags.length ≤ 20 → (∀ t ∈ tags, t.length ≤ 12) → word.length + d ≤ 12 → mo = ((word.length + d : Nat) : Int) →
    callF T (n + d + 2) f_free_below [(false, .lst (dstr tags)), (false, .str word), (false, .int mo)] = .ok false (.int (fbv d tags word : Nat)) [] := by
  intro d
  induction d with
  | zero =>
    intro tags word mo hl ht hw e
    unfold fbv
    by_cases c0 : tags.filter (fun t => cmpb t word) = []
    · rw [if_pos c0]
      have h5 := a_shlN (k := 1) (by omega)
      have e1 : mo - (word.length : Int) + 1 = ((1 : Nat) : Int) := by omega
      rw [← e1] at h5
      exact below_A hl (by omega) rfl c0 h5
    · rw [if_neg c0]
      exact below_B hl (by omega) rfl c0 (by omega)
  | succ d ih =>
    intro tags word mo hl ht hw e
    unfold fbv
    have hmet : ∀ t ∈ tags.filter (fun t => cmpb t word), t.length ≤ 12 := fun t h => ht t (List.mem_filter.mp h).1
    have hml : (tags.filter (fun t => cmpb t word)).length ≤ 20 := Nat.le_trans (List.length_filter_le _ _) hl
    by_cases c0 : tags.filter (fun t => cmpb t word) = []
    · rw [if_pos c0]
      have h5 := a_shlN (k := d + 2) (by omega)
      have e1 : mo - (word.length : Int) + 1 = ((d + 2 : Nat) : Int) := by omega
      have e2 : ((2 ^ (d + 2) - 1 : Nat) : Int) = ((2 ^ (d + 2) : Nat) : Int) - 1 := by
        have : 0 < 2 ^ (d + 2) := Nat.two_pow_pos _
        omega
      rw [← e1] at h5
      rw [e2]
      exact below_A hl (by omega) rfl c0 h5
    · rw [if_neg c0]
      cases c1 : (tags.filter (fun t => cmpb t word)).any (fun t => decide (t.length ≤ word.length)) with
      | true =>
        rw [if_pos rfl]
        exact below_C hl ht (by omega) rfl c0 (by omega) c1
      | false =>
        rw [if_neg (by decide), Int.natCast_add]
        exact below_D hl ht (by omega) rfl c0 (by omega) c1 (ih hml hmet (by rw [List.length_append, List.length_singleton]; omega) (by rw [List.length_append, List.length_singleton]; omega))
          (ih hml hmet (by rw [List.length_append, List.length_singleton]; omega) (by rw [List.length_append, List.length_singleton]; omega))
end Mi

set_option maxRecDepth 100000
set_option maxHeartbeats 4000000
namespace Mi
theorem rng_nat {k : Nat} : rngD 0 (k : Int) = (List.range k).map fun i : Nat => D.int (i : Int) := by
  unfold rngD
  simp
/-! ### law_free -/
def cntF (tags : List (List Nat)) (s : Nat) : Nat := ((sb s).filter fun r => tags.all fun t => !cmpb t r).length
theorem free_big {n M : Nat} {tags : List (List Nat)} (h5 : 5 < M) (hM : M ≤ 12) (hl : tags.length ≤ 20) (ht : ∀ t ∈ tags, t.length ≤ 12) : callF T (n + 2) f_law_free [(false, .int M), (false, .lst (dstr tags))] = .ok false (.int ((List.range (M + 1)).map fun s => foAll s tags).sum) [] := by
  rw [run_at (fn := fn_law_free) rfl ⟨rfl, rfl, by decide⟩]
  have hlc : fLc (callF T (n + 1)) [3] (.nm 3) .rng (.cons (.bin .add (.pk 0) (.con (.int 1))) .nil) (evC (callF T (n + 1)) .nil) (ev (callF T (n + 1)) false (.call f_law_free_of (.cons (.var 3) (.cons (.var 1) .nil)))) [some (.imm (.int M)), some (.imm (.lst (dstr tags))), none, none, none] =
      .ok (.tmp (.lst ((List.range (M + 1)).filterMap fun s => some (.int (foAll s tags))))) [some (.imm (.int M)), some (.imm (.lst (dstr tags))), none, none, none] := by
    have e1 : ((M : Int) + 1) = ((M + 1 : Nat) : Int) := by omega
    have hB1 : -1000000000000 ≤ (M : Int) + 1 := by omega
    have hB2 : (M : Int) + 1 ≤ 1000000000000 := by omega
    rw [lc_ok (vs := [.imm (.int ((M : Int) + 1))]) (ρ1 := [some (.imm (.int M)), some (.imm (.lst (dstr tags))), none, none, none]) (ds := [.int ((M : Int) + 1)]) (xs := rngD 0 ((M : Int) + 1)) (fun x => match x with | .int i => some (.int (foAll i.toNat tags)) | _ => none) (by simp) (by simp) (by simp [hB1, hB2]) (fun x hx => ?_) (le_LIM (by rw [rng_len]; omega)) (by simp [wipeS, backS])]
    · rw [e1, rng_nat, List.filterMap_map]
      congr 3
    · rw [e1, rng_nat] at hx
      obtain ⟨s, hs, rfl⟩ := List.mem_map.mp hx
      have hs' := List.mem_range.mp hs
      have q := freeof_ok (n := n) (s := s) (tags := tags) (by omega) hl ht
      simp [fTurn, wipeS, evC, q]
  have hs := b_sum (ints_map (f := fun s : Nat => foAll s tags) (l := List.range (M + 1)))
  generalize ((List.range (M + 1)).filterMap fun s => some (D.int (foAll s tags))) = LL at *
  have h5' : (5 : Int) < M := by omega
  simp [fn_law_free, h5, h5', hlc, hs]
theorem free_small {n M : Nat} {tags : List (List Nat)} (h5 : M ≤ 5) (hl : tags.length ≤ 20) (ht : ∀ t ∈ tags, t.length ≤ 12) : callF T (n + 2) f_law_free [(false, .int M), (false, .lst (dstr tags))] = .ok false (.int (((List.range (M + 1)).map fun s => cntF tags s).sum : Nat)) [] := by
  rw [run_at (fn := fn_law_free) rfl ⟨rfl, rfl, by decide⟩]
  have hlc : ∀ (s : Nat) (a : Int), s ≤ 5 → fLc (callF T (n + 1)) [4] (.nm 4) .seq (.cons (.call f_law_strings (.cons (.var 3) .nil)) .nil) (evC (callF T (n + 1)) (.cons (.call f_law_is_free (.cons (.var 4) (.cons (.var 1) .nil))) .nil)) (ev (callF T (n + 1)) false (.var 4)) [some (.imm (.int M)), some (.imm (.lst (dstr tags))), some (.imm (.int a)), some (.imm (.int s)), none] =
      .ok (.tmp (.lst (dstr ((sb s).filter fun r => tags.all fun t => !cmpb t r)))) [some (.imm (.int M)), some (.imm (.lst (dstr tags))), some (.imm (.int a)), some (.imm (.int s)), none] := by
    intro s a hs
    have q := strings_ok (n := n) (s := s) hs
    have hsl : (sb s).length ≤ 1000 := by
      rw [sb_len]
      exact Nat.le_trans (Nat.pow_le_pow_right (by decide) hs) (by decide)
    rw [lc_strs [.imm (.lst (dstr (sb s)))] [some (.imm (.int M)), some (.imm (.lst (dstr tags))), some (.imm (.int a)), some (.imm (.int s)), none] [.lst (dstr (sb s))] (sb s) (fun r => if tags.all fun t => !cmpb t r then some (.str r) else none) (by simp [q]) (by simp) (by simp) (fun r h => ?_) hsl (by simp [wipeS, backS])]
    · rw [filt_some]
      rfl
    · have hr := sb_mem h
      have q := isfree_ok (n := n) (row := r) (tags := tags) (by omega) (fun t h => by have := ht t h; omega)
      cases c : tags.all fun t => !cmpb t r with
      | true => rw [c] at q; simp [fTurn, wipeS, evC, q]
      | false => rw [c] at q; simp [fTurn, wipeS, evC, q]
  have key := loopF_inv (f := fFor (callF T (n + 1)) (.nm 3) (match fn_law_free.body with | .seq _ (.seq _ (.seq (.for_ _ _ _ b) _)) => b | _ => .nil)) (xs := rngD 0 ((M : Int) + 1)) (ρ := [some (.imm (.int M)), some (.imm (.lst (dstr tags))), some (.imm (.int ((((List.range 0).map fun s => cntF tags s).sum : Nat) : Int))), none, none])
    (fun i ρ => ∃ s3, ρ = [some (.imm (.int M)), some (.imm (.lst (dstr tags))), some (.imm (.int (((List.range i).map fun s => cntF tags s).sum : Nat))), s3, none])
    ⟨_, rfl⟩
    (fun i x ρ hx hI => by
      obtain ⟨s3, rfl⟩ := hI
      obtain ⟨rfl, hi⟩ := rng_get hx
      have q := hlc i (((List.range i).map fun s => cntF tags s).sum : Nat) (by omega)
      have e1 : ((((List.range (i + 1)).map fun s => cntF tags s).sum : Nat) : Int) = ((((List.range i).map fun s => cntF tags s).sum : Nat) : Int) + ((dstr ((sb i).filter fun r => tags.all fun t => !cmpb t r)).length : Nat) := by
        rw [List.range_succ, List.map_append, List.sum_append, dstr_len]
        simp [cntF]
      refine ⟨_, ?_, some (.imm (.int i)), rfl⟩
      rw [e1]
      generalize ((((List.range i).map fun s => cntF tags s).sum : Nat) : Int) = ac at *
      generalize dstr ((sb i).filter fun r => tags.all fun t => !cmpb t r) = fl at *
      simp only [fFor, fn_law_free]
      simp [q])
  obtain ⟨ρ', e, s3, rfl⟩ := key
  rw [rng_len] at e
  have hk' : ((M : Int) + 1 - 0).toNat = M + 1 := by omega
  rw [hk'] at e
  have hB1 : -1000000000000 ≤ (M : Int) + 1 := by omega
  have hB2 : (M : Int) + 1 ≤ 1000000000000 := by omega
  have h5' : ¬ (5 : Int) < M := by omega
  have h5n : ¬ 5 < M := by omega
  simp only [fn_law_free] at e
  rw [show ((((List.range 0).map fun s => cntF tags s).sum : Nat) : Int) = 0 from rfl] at e
  generalize ((((List.range (M + 1)).map fun s => cntF tags s).sum : Nat) : Int) = tot at *
  simp [fn_law_free, h5', h5n, hB1, hB2, e]
/-! ### formats -/
def formD (q : Int) (ks tags : List (List Nat)) : D := .tup [.int q, .tup (zipD (dstr ks) (dstr tags))]
theorem zip_mem : ∀ {ks tags : List (List Nat)} {x : D}, x ∈ zipD (dstr ks) (dstr tags) → ∃ k t, x = .tup [.str k, .str t] ∧ t ∈ tags
  | [], tags, x, h => by simp [dstr, zipD] at h
  | _ :: _, [], x, h => by simp [dstr, zipD] at h
  | k :: ks, t :: tags, x, h => by
    rcases List.mem_cons.mp (show x ∈ D.tup [.str k, .str t] :: zipD (dstr ks) (dstr tags) from h) with e | h
    · exact ⟨k, t, e, List.mem_cons_self ..⟩
    · obtain ⟨k', t', e, m⟩ := zip_mem h
      exact ⟨k', t', e, List.mem_cons_of_mem _ m⟩
def sndG (g : List Nat → Option D) : D → Option D
  | .tup [_, .str t] => g t
  | _ => none
theorem zip_snd {g : List Nat → Option D} : ∀ {ks tags : List (List Nat)}, ks.length = tags.length → (zipD (dstr ks) (dstr tags)).filterMap (sndG g) = tags.filterMap g
  | [], [], _ => rfl
  | [], _ :: _, h => by cases h
  | _ :: _, [], h => by cases h
  | k :: ks, t :: tags, h => by
    have ih := zip_snd (g := g) (ks := ks) (tags := tags) (by simpa using h)
    rw [show zipD (dstr (k :: ks)) (dstr (t :: tags)) = D.tup [.str k, .str t] :: zipD (dstr ks) (dstr tags) from rfl]
    have e : sndG g (D.tup [.str k, .str t]) = g t := rfl
    cases c : g t with
    | none => rw [List.filterMap_cons_none (by rw [e, c]), List.filterMap_cons_none c, ih]
    | some d => rw [List.filterMap_cons_some (by rw [e, c]), List.filterMap_cons_some c, ih]
theorem zip_len {ks tags : List (List Nat)} (h : ks.length = tags.length) : (zipD (dstr ks) (dstr tags)).length = tags.length := by
  rw [zipD_length, dstr_len, dstr_len, h, Nat.min_self]
theorem lc_zip {C : Nat → List (Bool × D) → CRes} {own : List Nat} {tg : Tg} {k : ItK} {es : L} {fc : Env → Res Bool} {fe : Env → Res Val} {ρ : Env} (vs : List Val) (ρ1 : Env) (ds : List D) (ks tags : List (List Nat)) (g : List Nat → Option D) (hk : ks.length = tags.length) (h1 : evs C es ρ = .ok vs ρ1) (h2 : imms vs = some ds) (h3 : itemsOf k ds = some (zipD (dstr ks) (dstr tags)))
    (h : ∀ y t, t ∈ tags → fTurn own tg fc fe (.tup [.str y, .str t]) (wipeS ρ1 own) = .ok (g t) (wipeS ρ1 own)) (hl : tags.length ≤ 1000) (hb : backS ρ1 (wipeS ρ1 own) own = ρ1) : fLc C own tg k es fc fe ρ = .ok (.tmp (.lst (tags.filterMap g))) ρ1 := by
  rw [lc_ok (sndG g) h1 h2 h3 (fun x hx => ?_) (le_LIM (by rw [zip_len hk]; exact hl)) hb, zip_snd hk]
  obtain ⟨y, t, rfl, m⟩ := zip_mem hx
  exact h y t m
@[simp] theorem sub_t1 {a b : D} : subD (.tup [a, b]) (.int 1) = some b := rfl
@[simp] theorem sub_t0 {a b : D} : subD (.tup [a, b]) (.int 0) = some a := rfl
@[simp] theorem b_max {xs : List D} {i : Int} {r : List Int} (h : D.ints xs = some (i :: r)) : appB .max [.lst xs] = some (.imm (.int (maxI i r))) := by
  show (match D.ints xs with | some (i :: r) => some (Val.imm (.int (maxI i r))) | _ => none) = _
  rw [h]
@[simp] theorem b_gcd {a b : Nat} : appB .gcd [.int (a : Int), .int (b : Int)] = some (.imm (.int ((Nat.gcd a b : Nat) : Int))) := rfl
theorem maxI_ok : ∀ {r : List Int} {m : Int}, m ≤ maxI m r ∧ (∀ x ∈ r, x ≤ maxI m r) ∧ (maxI m r = m ∨ maxI m r ∈ r)
  | [], m => ⟨Int.le_refl _, fun x h => (by cases h), Or.inl rfl⟩
  | x :: r, m => by
    unfold maxI
    by_cases c : x > m
    · rw [if_pos c]
      obtain ⟨h1, h2, h3⟩ := maxI_ok (r := r) (m := x)
      refine ⟨by omega, fun y hy => ?_, .inr ?_⟩
      · rcases List.mem_cons.mp hy with e | hy
        · subst e; exact h1
        · exact h2 y hy
      · rcases h3 with h3 | h3
        · rw [h3]; exact List.mem_cons_self ..
        · exact List.mem_cons_of_mem _ h3
    · rw [if_neg c]
      obtain ⟨h1, h2, h3⟩ := maxI_ok (r := r) (m := m)
      refine ⟨h1, fun y hy => ?_, ?_⟩
      · rcases List.mem_cons.mp hy with e | hy
        · subst e; omega
        · exact h2 y hy
      · rcases h3 with h3 | h3
        · exact .inl h3
        · exact .inr (List.mem_cons_of_mem _ h3)
theorem most_ok {tags : List (List Nat)} (h0 : tags ≠ []) (ht : ∀ t ∈ tags, t.length ≤ 12) : ∃ (M : Nat) (i : Int) (r : List Int), (tags.map fun t => ((t.length : Nat) : Int)) = i :: r ∧ maxI i r = (M : Int) ∧ M ≤ 12 ∧ ∀ t ∈ tags, t.length ≤ M := by
  cases tags with
  | nil => exact absurd rfl h0
  | cons t ts =>
    obtain ⟨h1, h2, h3⟩ := maxI_ok (r := ts.map fun t => ((t.length : Nat) : Int)) (m := ((t.length : Nat) : Int))
    have hn : ∃ M : Nat, maxI ((t.length : Nat) : Int) (ts.map fun t => ((t.length : Nat) : Int)) = (M : Int) ∧ M ≤ 12 := by
      rcases h3 with h3 | h3
      · exact ⟨t.length, h3, ht t (List.mem_cons_self ..)⟩
      · obtain ⟨u, hu, e⟩ := List.mem_map.mp h3
        exact ⟨u.length, e.symm, ht u (List.mem_cons_of_mem _ hu)⟩
    obtain ⟨M, e, hM⟩ := hn
    refine ⟨M, _, _, rfl, e, hM, fun u hu => ?_⟩
    rw [e] at h1 h2
    rcases List.mem_cons.mp hu with e | hu
    · subst e; omega
    · have := h2 _ (List.mem_map.mpr ⟨u, hu, rfl⟩)
      omega
def kraftN (M : Nat) (tags : List (List Nat)) : Nat × Nat := (topN M tags / Nat.gcd (topN M tags) (2 ^ M), 2 ^ M / Nat.gcd (topN M tags) (2 ^ M))
theorem kraft_ok {n : Nat} {q : Int} {ks tags : List (List Nat)} (hk : ks.length = tags.length) (h0 : tags ≠ []) (hl : tags.length ≤ 20) (ht : ∀ t ∈ tags, t.length ≤ 12) :
    ∃ M : Nat, M ≤ 12 ∧ (∀ t ∈ tags, t.length ≤ M) ∧ callF T (n + 1) f_kraft_sum [(false, formD q ks tags)] = .ok false (.tup [.int ((kraftN M tags).1 : Nat), .int ((kraftN M tags).2 : Nat)]) [] := by
  obtain ⟨M, i, r, e1, e2, hM, hmx⟩ := most_ok h0 ht
  refine ⟨M, hM, hmx, ?_⟩
  rw [run_at (fn := fn_kraft_sum) rfl ⟨rfl, rfl, by decide⟩]
  unfold formD
  have hlc1 : fLc (callF T n) [4, 5] (.fl [4, 5]) .seq (.cons (.sub (.pk 0) (.con (.int 1))) .nil) (evC (callF T n) .nil) (ev (callF T n) false (.blt .len (.cons (.pk 5) .nil))) [some (.imm (.tup [.int q, .tup (zipD (dstr ks) (dstr tags))])), none, none, none, none, none] =
      .ok (.tmp (.lst (tags.filterMap fun t => some (.int ((t.length : Nat) : Int))))) [some (.imm (.tup [.int q, .tup (zipD (dstr ks) (dstr tags))])), none, none, none, none, none] := by
    refine lc_zip [.imm (.tup (zipD (dstr ks) (dstr tags)))] _ [.tup (zipD (dstr ks) (dstr tags))] ks tags _ hk (by simp) (by simp) (by simp) (fun y t h => ?_) (by omega) (by simp [wipeS, backS])
    have h2 : t.length ≤ 1000 := by have := ht t h; omega
    simp [fTurn, wipeS, evC, h2]
  have hmax := b_max (i := i) (r := r) (xs := tags.filterMap fun t => some (.int ((t.length : Nat) : Int))) (by rw [ints_map, e1])
  rw [e2] at hmax
  have hlc2 : fLc (callF T n) [4, 5] (.fl [4, 5]) .seq (.cons (.sub (.pk 0) (.con (.int 1))) .nil) (evC (callF T n) .nil) (ev (callF T n) false (.bin .shl (.con (.int 1)) (.bin .sub (.pk 1) (.blt .len (.cons (.pk 5) .nil))))) [some (.imm (.tup [.int q, .tup (zipD (dstr ks) (dstr tags))])), some (.imm (.int M)), none, none, none, none] =
      .ok (.tmp (.lst (tags.filterMap fun t => some (.int ((2 ^ (M - t.length) : Nat) : Int))))) [some (.imm (.tup [.int q, .tup (zipD (dstr ks) (dstr tags))])), some (.imm (.int M)), none, none, none, none] := by
    refine lc_zip [.imm (.tup (zipD (dstr ks) (dstr tags)))] _ [.tup (zipD (dstr ks) (dstr tags))] ks tags _ hk (by simp) (by simp) (by simp) (fun y t h => ?_) (by omega) (by simp [wipeS, backS])
    have h2 : t.length ≤ 1000 := by have := ht t h; omega
    have h6 := hmx t h
    have h3 : (M : Int) - (t.length : Int) = ((M - t.length : Nat) : Int) := by omega
    have h4 : M - t.length ≤ 1000000 := by omega
    have h5 := a_shlN h4
    generalize ((2 ^ (M - t.length) : Nat) : Int) = pw at *
    simp [fTurn, wipeS, evC, h2, h3, h5]
  have hs := b_sum (ints_map (f := fun t : List Nat => ((2 ^ (M - t.length) : Nat) : Int)) (l := tags))
  rw [sum_cast (f := fun t : List Nat => 2 ^ (M - t.length))] at hs
  have hs : appB .sum [.lst (tags.filterMap fun t => some (.int ((2 ^ (M - t.length) : Nat) : Int)))] = some (.imm (.int (topN M tags : Nat))) := hs
  have hsh := a_shlN (k := M) (by omega)
  have hg := b_gcd (a := topN M tags) (b := 2 ^ M)
  have hgp : 0 < Nat.gcd (topN M tags) (2 ^ M) := Nat.gcd_pos_of_pos_right _ (Nat.two_pow_pos M)
  have hgl : Nat.gcd (topN M tags) (2 ^ M) ≤ 2 ^ 12 := Nat.le_trans (Nat.gcd_le_right _ (Nat.two_pow_pos M)) (Nat.pow_le_pow_right (by decide) hM)
  have hd1 := a_div (i := ((topN M tags : Nat) : Int)) (j := ((Nat.gcd (topN M tags) (2 ^ M) : Nat) : Int)) (by omega) (by omega)
  have hd2 := a_div (i := ((2 ^ M : Nat) : Int)) (j := ((Nat.gcd (topN M tags) (2 ^ M) : Nat) : Int)) (by omega) (by omega)
  unfold kraftN
  rw [← Int.natCast_ediv] at hd1 hd2
  generalize (topN M tags / Nat.gcd (topN M tags) (2 ^ M) : Nat) = r1 at *
  generalize (2 ^ M / Nat.gcd (topN M tags) (2 ^ M) : Nat) = r2 at *
  generalize ((Nat.gcd (topN M tags) (2 ^ M) : Nat) : Int) = gg at *
  generalize ((2 ^ M : Nat) : Int) = pw at *
  generalize (tags.filterMap fun t => some (D.int ((2 ^ (M - t.length) : Nat) : Int))) = L2 at *
  generalize (tags.filterMap fun t => some (D.int ((t.length : Nat) : Int))) = L1 at *
  generalize ((topN M tags : Nat) : Int) = tp at *
  simp [fn_kraft_sum, hlc1, hmax, hlc2, hs, hsh, hg, hd1, hd2]
end Mi

set_option maxRecDepth 100000
set_option maxHeartbeats 4000000
namespace Mi
theorem eq_pair {a b : Int} : appC .eq (.tup [.int a, .int b]) (.tup [.int 1, .int 1]) = some (a == 1 && b == 1) := by
  show some (D.eqv (.tup [.int a, .int b]) (.tup [.int 1, .int 1])) = _
  simp [D.eqv, D.eqvs]
theorem tight_ok {n : Nat} {f : D} {a b : Int} (h : callF T (n + 1) f_kraft_sum [(false, f)] = .ok false (.tup [.int a, .int b]) []) : callF T (n + 2) f_is_tight [(false, f)] = .ok false (.bl (a == 1 && b == 1)) [] := by
  rw [run_at (fn := fn_is_tight) rfl ⟨rfl, rfl, by decide⟩]
  have e := eq_pair (a := a) (b := b)
  generalize (a == 1 && b == 1) = k at *
  simp [fn_is_tight, h, e]
theorem ftags_ok {n M : Nat} {q : Int} {ks tags : List (List Nat)} (hM : M ≤ 12) (hk : ks.length = tags.length) (hl : tags.length ≤ 20) (ht : ∀ t ∈ tags, t.length ≤ 12) : callF T (n + 20) f_free_tags [(false, formD q ks tags), (false, .int M)] = .ok false (.int (fbv M tags [] : Nat)) [] := by
  rw [run_at (n := n + 19) (fn := fn_free_tags) rfl ⟨rfl, rfl, by decide⟩]
  unfold formD
  have hlc : fLc (callF T (n + 19)) [2, 3] (.fl [2, 3]) .seq (.cons (.sub (.pk 0) (.con (.int 1))) .nil) (evC (callF T (n + 19)) .nil) (ev (callF T (n + 19)) false (.var 3)) [some (.imm (.tup [.int q, .tup (zipD (dstr ks) (dstr tags))])), some (.imm (.int M)), none, none] =
      .ok (.tmp (.lst (dstr tags))) [some (.imm (.tup [.int q, .tup (zipD (dstr ks) (dstr tags))])), some (.imm (.int M)), none, none] := by
    rw [lc_zip [.imm (.tup (zipD (dstr ks) (dstr tags)))] [some (.imm (.tup [.int q, .tup (zipD (dstr ks) (dstr tags))])), some (.imm (.int M)), none, none] [.tup (zipD (dstr ks) (dstr tags))] ks tags (fun t => some (.str t)) hk (by simp) (by simp) (by simp) (fun y t h => ?_) (by omega) (by simp [wipeS, backS])]
    · congr 3
      exact congrFun (List.filterMap_eq_map' (f := D.str)) tags
    · simp [fTurn, wipeS, evC]
  have hb := below_ok (n := n + 17 - M) (d := M) (tags := tags) (word := []) (mo := (M : Int)) hl ht (by simpa using hM) (by simp)
  have e : n + 17 - M + M + 2 = n + 19 := by omega
  rw [e] at hb
  generalize ((fbv M tags [] : Nat) : Int) = rr at *
  simp [fn_free_tags, hlc, hb]
/-! ### formats made -/
theorem all_strs : ∀ {xs : List D}, (∀ x ∈ xs, ∃ s, x = D.str s) → ∃ ss, xs = dstr ss
  | [], _ => ⟨[], rfl⟩
  | x :: xs, h => by
    obtain ⟨s, rfl⟩ := h x (List.mem_cons_self ..)
    obtain ⟨ss, rfl⟩ := all_strs fun y hy => h y (List.mem_cons_of_mem _ hy)
    exact ⟨s :: ss, rfl⟩
theorem okds_strs : ∀ {ss : List (List Nat)} {n : Nat}, D.okds (dstr ss) n = true
  | [], _ => rfl
  | s :: ss, n => by
    show (D.okd (.str s) n && D.okds (dstr ss) n) = true
    rw [okds_strs (ss := ss)]
    rfl
theorem eq_lst {ks : List (List Nat)} {s : List Nat} : appC .eq (.lst (dstr ks)) (.lst [.str s]) = some (D.eqvs (dstr ks) [.str s]) := by
  have h1 : D.okd (.lst (dstr ks)) 60 = true := okds_strs (n := 59)
  have h2 : D.okd (.lst [.str s]) 60 = true := okds_strs (ss := [s]) (n := 59)
  show (if D.okd (.lst (dstr ks)) 60 && D.okd (.lst [.str s]) 60 then some (D.eqv (.lst (dstr ks)) (.lst [.str s])) else none) = _
  rw [h1, h2]
  rfl
theorem eqvs_one {ks : List (List Nat)} {s : List Nat} (h : D.eqvs (dstr ks) [.str s] = true) : ks.length = 1 := by
  match ks, h with
  | [_], _ => rfl
  | [], h => cases h
  | _ :: _ :: _, h => simp [dstr, D.eqvs] at h
theorem form_ok {n : Nat} {j : D} {tags : List (List Nat)} (J : isJar j) (hl : tags.length ≤ 6) : ∃ q ks j', callF T (n + 3) f_law_form [(true, j), (false, .lst (dstr tags))] = .ok false (formD q ks tags) [j'] ∧ isJar j' ∧ ks.length = tags.length := by
  rw [run_at (fn := fn_law_form) rfl ⟨rfl, rfl, by decide⟩]
  have hrl : (dstr [[114, 117, 110, 115], [98, 105, 116, 115], [108, 105, 115, 116], [102, 117, 108, 108], [103, 97, 112, 115], [104, 111, 108, 101, 115]]).length = 6 := rfl
  obtain ⟨told, j1, rest, e1, J1, hl1, pm⟩ := picked_ok (n := n) (rows := dstr [[114, 117, 110, 115], [98, 105, 116, 115], [108, 105, 115, 116], [102, 117, 108, 108], [103, 97, 112, 115], [104, 111, 108, 101, 115]]) (m := tags.length) J (by rw [hrl]; exact hl) (by rw [hrl]; omega)
  obtain ⟨ks, rfl⟩ := all_strs (xs := told) fun x hx => by
    have := pm.mem_iff.mp (List.mem_append_left rest hx)
    obtain ⟨s, _, e⟩ := List.mem_map.mp this
    exact ⟨s, e.symm⟩
  rw [dstr_len] at hl1
  obtain ⟨r, j2, e2, r0, r1, J2⟩ := draw_ok (n := n + 1) (j := j1) (m := 7) J1 (by decide) (by decide)
  have heq := eq_lst (ks := ks) (s := [102, 117, 108, 108])
  rw [show dstr [[114, 117, 110, 115], [98, 105, 116, 115], [108, 105, 115, 116], [102, 117, 108, 108], [103, 97, 112, 115], [104, 111, 108, 101, 115]] = [.str [114, 117, 110, 115], .str [98, 105, 116, 115], .str [108, 105, 115, 116], .str [102, 117, 108, 108], .str [103, 97, 112, 115], .str [104, 111, 108, 101, 115]] from rfl] at e1
  have key : ∀ ks' : List (List Nat), ks'.length = tags.length → fLc (callF T (n + 2)) [3, 4] (.fl [3, 4]) .zip (.cons (.var 2) (.cons (.var 1) .nil)) (evC (callF T (n + 2)) .nil) (ev (callF T (n + 2)) false (.tup (.cons (.var 3) (.cons (.var 4) .nil)))) [some (.own 1 j2), some (.imm (.lst (dstr tags))), some (.own 0 (.lst (dstr ks'))), none, none] =
      .ok (.tmp (.lst (zipD (dstr ks') (dstr tags)))) [some (.own 1 j2), some (.imm (.lst (dstr tags))), some (.imm (.lst (dstr ks'))), none, none] := by
    intro ks' hk
    rw [lc_ok (vs := [.imm (.lst (dstr ks')), .imm (.lst (dstr tags))]) (ρ1 := [some (.own 1 j2), some (.imm (.lst (dstr tags))), some (.imm (.lst (dstr ks'))), none, none]) (ds := [.lst (dstr ks'), .lst (dstr tags)]) (xs := zipD (dstr ks') (dstr tags)) some (by simp) (by simp) (by simp) (fun x hx => ?_) (le_LIM (by rw [zip_len hk]; omega)) (by simp [wipeS, backS])]
    · rw [List.filterMap_some]
    · obtain ⟨k, t, rfl, _⟩ := zip_mem hx
      simp [fTurn, wipeS, evC]
  cases c : D.eqvs (dstr ks) [.str [102, 117, 108, 108]] with
  | true =>
    rw [c] at heq
    have h1 := eqvs_one c
    have hk : ([[114, 117, 110, 115]] : List (List Nat)).length = tags.length := by rw [← hl1, h1]; rfl
    have kk := key [[114, 117, 110, 115]] hk
    refine ⟨2 + r, [[114, 117, 110, 115]], j2, ?_, J2, hk⟩
    rw [show dstr [[114, 117, 110, 115]] = [D.str [114, 117, 110, 115]] from rfl] at kk
    unfold formD
    rw [show dstr [[114, 117, 110, 115]] = [D.str [114, 117, 110, 115]] from rfl]
    generalize zipD [D.str [114, 117, 110, 115]] (dstr tags) = zz at *
    generalize hdt : dstr tags = dt at *
    have hdl : tags.length = dt.length := by rw [← hdt, dstr_len]
    rw [hdl] at e1
    simp [fn_law_form, e1, e2, heq, kk]
  | false =>
    rw [c] at heq
    have kk := key ks hl1
    refine ⟨2 + r, ks, j2, ?_, J2, hl1⟩
    unfold formD
    generalize zipD (dstr ks) (dstr tags) = zz at *
    generalize hdt : dstr tags = dt at *
    have hdl : tags.length = dt.length := by rw [← hdt, dstr_len]
    rw [hdl] at e1
    generalize dstr ks = dk at *
    simp [fn_law_form, e1, e2, heq, kk]

/-! ### what the mathematics owes -/
structure TagsOk (tags : List (List Nat)) : Prop where
  ne : tags ≠ []
  len : tags.length ≤ 6
  bnd : ∀ t ∈ tags, t.length ≤ 12
  kraft : ∀ M, M ≤ 12 → (∀ t ∈ tags, t.length ≤ M) → kraftN M tags = halve 12 (topN 12 tags, 4096)
  big : ∀ M, 5 < M → M ≤ 12 → ((fbv M tags [] : Nat) : Int) = ((List.range (M + 1)).map fun s => foAll s tags).sum
  small : ∀ M, M ≤ 5 → fbv M tags [] = ((List.range (M + 1)).map fun s => cntF tags s).sum
  tight : fbv 12 tags [] = 0 ↔ halve 12 (topN 12 tags, 4096) = (1, 1)
theorem free_ok {n M : Nat} {tags : List (List Nat)} (g : TagsOk tags) (hM : M ≤ 12) : callF T (n + 2) f_law_free [(false, .int M), (false, .lst (dstr tags))] = .ok false (.int (fbv M tags [] : Nat)) [] := by
  have hl : tags.length ≤ 20 := by have := g.len; omega
  by_cases h5 : 5 < M
  · rw [g.big M h5 hM]
    exact free_big h5 hM hl g.bnd
  · rw [g.small M (by omega)]
    exact free_small (by omega) hl g.bnd
theorem ne_same {a b : Int} : appC .ne (.tup [.int a, .int b]) (.tup [.int a, .int b]) = some false := by
  show some (!D.eqv (.tup [.int a, .int b]) (.tup [.int a, .int b])) = _
  simp [D.eqv, D.eqvs]
theorem ne_bool {a : Bool} : appC .ne (.bl a) (.bl a) = some false := by
  show some (!D.eqv (.bl a) (.bl a)) = _
  simp [D.eqv]
theorem isn_bool {a b : Bool} : appC .isn (.bl a) (.bl b) = some (!decide (a = b)) := rfl
theorem asked_ok {n M : Nat} {j : D} {tags : List (List Nat)} (J : isJar j) (g : TagsOk tags) (hM : M ≤ 12) : ∃ j', callF T (n + 21) f_law_asked [(true, j), (false, .lst (dstr tags)), (false, .int M)] = .ok false (.bl true) [j'] ∧ isJar j' := by
  rw [run_at (n := n + 20) (fn := fn_law_asked) rfl ⟨rfl, rfl, by decide⟩]
  have hl : tags.length ≤ 20 := by have := g.len; omega
  obtain ⟨q, ks, j1, e1, J1, hk⟩ := form_ok (n := n + 17) (j := j) (tags := tags) J g.len
  have e1 : callF T (n + 20) f_law_form [(true, j), (false, .lst (dstr tags))] = .ok false (formD q ks tags) [j1] := e1
  have e2 : callF T (n + 20) f_law_sum [(false, .lst (dstr tags))] = _ := lsum_ok (n := n + 19) hl g.bnd
  obtain ⟨M0, hM0, hmx, e3⟩ := kraft_ok (n := n + 19) (q := q) hk g.ne hl g.bnd
  have e3' : callF T (n + 19) f_kraft_sum [(false, formD q ks tags)] = .ok false (.tup [.int ((kraftN M0 tags).1 : Nat), .int ((kraftN M0 tags).2 : Nat)]) [] := by
    obtain ⟨M1, hM1, hmx1, e⟩ := kraft_ok (n := n + 18) (q := q) hk g.ne hl g.bnd
    rw [g.kraft M0 hM0 hmx, ← g.kraft M1 hM1 hmx1]
    exact e
  have e3 : callF T (n + 20) f_kraft_sum [(false, formD q ks tags)] = _ := e3
  have e4 : callF T (n + 20) f_is_tight [(false, formD q ks tags)] = _ := tight_ok (n := n + 18) e3'
  rw [g.kraft M0 hM0 hmx] at e3 e4
  have ht := g.tight
  have hk1 : ∀ k : Int, callF T (n + 20) f_law_is_int [(false, .int k)] = .ok false (.bl true) [] := fun k => isint_ok (n := n + 19)
  have ef : ∀ m : Nat, m ≤ 12 → callF T (n + 20) f_free_tags [(false, formD q ks tags), (false, .int m)] = .ok false (.int (fbv m tags [] : Nat)) [] := fun m hm => ftags_ok (n := n) hm hk hl g.bnd
  have eg : ∀ m : Nat, m ≤ 12 → callF T (n + 20) f_law_free [(false, .int m), (false, .lst (dstr tags))] = .ok false (.int (fbv m tags [] : Nat)) [] := fun m hm => free_ok (n := n + 18) g hm
  generalize hh : halve 12 (topN 12 tags, 4096) = ab at *
  obtain ⟨a, b⟩ := ab
  have ep := eq_pair (a := (a : Int)) (b := (b : Int))
  have hne := ne_same (a := (a : Int)) (b := (b : Int))
  have htt : ((fbv 12 tags [] : Nat) : Int) = 0 ↔ ((a : Int) == 1 && (b : Int) == 1) = true := by
    rw [Bool.and_eq_true, beq_iff_eq, beq_iff_eq]
    constructor
    · intro z
      have := ht.mp (by omega)
      cases this
      exact ⟨rfl, rfl⟩
    · intro ⟨z1, z2⟩
      have : fbv 12 tags [] = 0 := ht.mpr (by rw [show a = 1 by omega, show b = 1 by omega])
      omega
  generalize hfD : formD q ks tags = fD at *
  generalize hdt : dstr tags = dt at *
  generalize hkk : ((a : Int) == 1 && (b : Int) == 1) = kk at *
  refine ⟨j1, ?_, J1⟩
  have key : ∀ (ms : List Nat) (s7 s8 : Option Slot), (∀ m ∈ ms, m ≤ 12) → ∃ ρ', loopF (fFor (callF T (n + 20)) (.nm 7) (match fn_law_asked.body with | .seq _ (.seq _ (.seq _ (.seq _ (.seq _ (.seq _ (.seq _ (.seq _ (.seq (.for_ _ _ _ b) _)))))))) => b | _ => .nil)) (ms.map fun m : Nat => D.int (m : Int)) [some (.own 1 j1), some (.imm (.lst dt)), some (.imm (.int M)), some (.imm fD), some (.imm (.tup [.int a, .int b])), some (.imm (.tup [.int a, .int b])), some (.imm (.bl kk)), s7, s8] =
      .ok .nx ρ' ∧ ∃ t7 t8, ρ' = [some (.own 1 j1), some (.imm (.lst dt)), some (.imm (.int M)), some (.imm fD), some (.imm (.tup [.int a, .int b])), some (.imm (.tup [.int a, .int b])), some (.imm (.bl kk)), t7, t8] := by
    intro ms
    induction ms with
    | nil => exact fun s7 s8 _ => ⟨_, rfl, s7, s8, rfl⟩
    | cons m ms ih =>
      intro s7 s8 hms
      have hm := hms m (List.mem_cons_self ..)
      have e5 := ef m hm
      have e6 := eg m hm
      obtain ⟨ρ', q1, q2⟩ := ih (some (.imm (.int m))) (some (.imm (.int (fbv m tags [] : Nat)))) fun x hx => hms x (List.mem_cons_of_mem _ hx)
      refine ⟨ρ', ?_, q2⟩
      rw [List.map_cons, loopF_cons, ← q1]
      have e : ∀ r : Res Flow, r = .ok .nx [some (.own 1 j1), some (.imm (.lst dt)), some (.imm (.int M)), some (.imm fD), some (.imm (.tup [.int a, .int b])), some (.imm (.tup [.int a, .int b])), some (.imm (.bl kk)), some (.imm (.int m)), some (.imm (.int (fbv m tags [] : Nat)))] → ∀ f, r.bind (nextF f (ms.map fun m : Nat => D.int (m : Int))) = loopF f (ms.map fun m : Nat => D.int (m : Int)) [some (.own 1 j1), some (.imm (.lst dt)), some (.imm (.int M)), some (.imm fD), some (.imm (.tup [.int a, .int b])), some (.imm (.tup [.int a, .int b])), some (.imm (.bl kk)), some (.imm (.int m)), some (.imm (.int (fbv m tags [] : Nat)))] := by
        intro r e f
        rw [e]
        rfl
      refine e _ ?_ _
      simp only [fFor, fn_law_asked]
      by_cases c : m = 12
      · subst c
        have c12 : (((12 : Nat) : Int) == 12) = true := rfl
        have hz : ((((fbv 12 tags [] : Nat) : Int) == 0)) = kk := by
          rw [Bool.eq_iff_iff, beq_iff_eq]
          exact htt
        generalize ((fbv 12 tags [] : Nat) : Int) = v at *
        have e5 : callF T (n + 20) f_free_tags [(false, fD), (false, .int 12)] = .ok false (.int v) [] := e5
        have e6 : callF T (n + 20) f_law_free [(false, .int 12), (false, .lst dt)] = .ok false (.int v) [] := e6
        have hnt := ne_bool (a := true)
        have hnf := ne_bool (a := false)
        cases kk with
        | true =>
          have hv : v = 0 := htt.mpr rfl
          subst hv
          simp [e5, e6, hk1, hnt]
        | false =>
          have hv : ¬ v = 0 := fun z => by cases htt.mp z
          have hnz : appC .ne (.bl (v == 0)) (.bl false) = some false := by rw [hz]; exact hnf
          simp [e5, e6, hk1, hnz]
      · have c' : ¬ (m : Int) = 12 := by omega
        generalize ((fbv m tags [] : Nat) : Int) = v at *
        simp [e5, e6, hk1, c']
  obtain ⟨ρ', ek, t7, t8, rfl⟩ := key [0, 1, 2, 3, 4, M] none none fun x hx => by
    simp only [List.mem_cons, List.not_mem_nil, or_false] at hx
    omega
  simp only [fn_law_asked] at ek
  rw [show ([0, 1, 2, 3, 4, M] : List Nat).map (fun m : Nat => D.int (m : Int)) = [.int 0, .int 1, .int 2, .int 3, .int 4, .int (M : Int)] from rfl] at ek
  have hnb := ne_bool (a := kk)
  have hib := fun b : Bool => isn_bool (a := kk) (b := b)
  cases kk <;> simp [fn_law_asked, e1, e2, e3, e4, hk1, isTy, hne, ep, hnb, hib, ek]

@[simp] theorem a_neg {i : Int} : app1 .neg (.int i) = some (.imm (.int (-i))) := rfl
/-! ### the lots -/
theorem lots_ok {n : Nat} {j : D} (J : isJar j) : ∃ t1 t2 t3 j', callF T (n + 3) f_law_lots [(true, j)] = .ok true (.lst [.lst (dstr t1), .lst (dstr t2), .lst (dstr t3)]) [j'] ∧ isJar j' ∧
    ∀ t ∈ [t1, t2, t3], Good t 12 ∧ t ≠ [] ∧ t.length ≤ 6 := by
  rw [run_at (fn := fn_law_lots) rfl ⟨rfl, rfl, by decide⟩]
  obtain ⟨r1, j1, e1, a0, a1, J1⟩ := draw_ok (n := n + 1) (j := j) (m := 6) J (by decide) (by decide)
  obtain ⟨a, rfl⟩ := Int.eq_ofNat_of_zero_le a0
  obtain ⟨r2, j2, e2, b0, b1, J2⟩ := draw_ok (n := n + 1) (j := j1) (m := 2) J1 (by decide) (by decide)
  obtain ⟨l1, j3, e3, J3, g3, h3⟩ := leaves_ok (n := n) (j := j2) (k := a) (deep := r2 == 1) J2 (by omega)
  obtain ⟨p1, j4, s1, e4, J4, h4, m4⟩ := picked_ok (n := n) (j := j3) (rows := dstr l1) (m := a + 1) J3 (by rw [dstr_len]; omega) (by rw [dstr_len]; omega)
  obtain ⟨r5, j5, e5, c0, c1, J5⟩ := draw_ok (n := n + 1) (j := j4) (m := 5) J4 (by decide) (by decide)
  obtain ⟨c, rfl⟩ := Int.eq_ofNat_of_zero_le c0
  obtain ⟨r6, j6, e6, d0, d1, J6⟩ := draw_ok (n := n + 1) (j := j5) (m := 2) J5 (by decide) (by decide)
  obtain ⟨l2, j7, e7, J7, g7, h7⟩ := leaves_ok (n := n) (j := j6) (k := c + 1) (deep := r6 == 1) J6 (by omega)
  obtain ⟨l3, j8, e8, J8, g8, h8⟩ := leaves_ok (n := n) (j := j7) (k := 12) (deep := true) J7 (by omega)
  obtain ⟨p2, j9, s2, e9, J9, h9, m9⟩ := picked_ok (n := n) (j := j8) (rows := dstr l2) (m := c + 1) J8 (by rw [dstr_len]; omega) (by rw [dstr_len]; omega)
  obtain ⟨p3, j10, s3, e10, J10, h10, m10⟩ := picked_ok (n := n) (j := j9) (rows := (dstr l3).drop (11 - a)) (m := a + 1) J9 (by rw [List.length_drop, dstr_len]; omega) (by rw [List.length_drop, dstr_len]; omega)
  have st : ∀ {p s : List D} {l : List (List Nat)}, (p ++ s).Perm (dstr l) → ∃ t u, p = dstr t ∧ s = dstr u := by
    intro p s l pm
    have h : ∀ x ∈ p ++ s, ∃ z, x = D.str z := fun x hx => by
      obtain ⟨z, _, e⟩ := List.mem_map.mp (pm.mem_iff.mp hx)
      exact ⟨z, e.symm⟩
    obtain ⟨t, ht⟩ := all_strs (xs := p) fun x hx => h x (List.mem_append_left _ hx)
    obtain ⟨u, hu⟩ := all_strs (xs := s) fun x hx => h x (List.mem_append_right _ hx)
    exact ⟨t, u, ht, hu⟩
  have un : ∀ {t u l : List (List Nat)} {k : Nat}, (dstr t ++ dstr u).Perm (dstr l) → Good l k → k ≤ 12 → Good t 12 := by
    intro t u l k pm g hk
    have pm2 : ((dstr (t ++ u)).map fun x => match x with | D.str z => z | _ => []).Perm ((dstr l).map fun x => match x with | D.str z => z | _ => []) := by
      refine List.Perm.map _ ?_
      have e : dstr (t ++ u) = dstr t ++ dstr u := by simp [dstr]
      rw [e]
      exact pm
    have id : ∀ w : List (List Nat), ((dstr w).map fun x => match x with | D.str z => z | _ => []) = w := fun w => by
      unfold dstr
      rw [List.map_map]
      exact List.map_id _
    rw [id, id] at pm2
    exact (Good.part (g.perm pm2.symm)).mono hk
  obtain ⟨t1, u1, rfl, rfl⟩ := st m4
  obtain ⟨t2, u2, rfl, rfl⟩ := st m9
  have e3d : (dstr l3).drop (11 - a) = dstr (l3.drop (11 - a)) := by simp [dstr]
  rw [e3d] at m10
  obtain ⟨t3, u3, rfl, rfl⟩ := st m10
  have g3' := un m4 g3 (by omega)
  have g7' := un m9 g7 (by omega)
  have gd : Good (l3.drop (11 - a)) 12 := ⟨g8.pw.sublist (List.drop_sublist _ _), fun s hs => g8.bin s (List.mem_of_mem_drop hs), fun s hs => g8.len s (List.mem_of_mem_drop hs)⟩
  have g10' := un m10 gd (by omega)
  rw [dstr_len] at h4 h9 h10
  refine ⟨t1, t2, t3, j10, ?_, J10, fun t ht => ?_⟩
  · have hsl : slcD (.lst (dstr l3)) (some (-1 - (1 + (a : Int)))) none = some (.tmp (.lst ((dstr l3).drop (11 - a)))) := by
      show some (Val.tmp (.lst (cut (dstr l3) (some (-1 - (1 + (a : Int)))) none))) = _
      have hl3 : (dstr l3).length = 13 := by rw [dstr_len, h8]
      unfold cut cutAt
      simp only
      rw [if_pos (by omega), hl3, show (-1 - (1 + (a : Int)) + ((13 : Nat) : Int)).toNat = 11 - a by omega, List.take_of_length_le (by rw [List.length_drop, hl3]; exact Nat.le_refl _)]
    have hr2 : r2 = 0 ∨ r2 = 1 := by omega
    have hr6 : r6 = 0 ∨ r6 = 1 := by omega
    have i1 : (1 : Int) + (a : Int) - 1 = (a : Int) := by omega
    have i2 : (2 : Int) + (c : Int) - 1 = ((c + 1 : Nat) : Int) := by omega
    have i3 : (1 : Int) + (a : Int) = ((a + 1 : Nat) : Int) := by omega
    have e1 : callF T (n + 2) f_law_draw [(true, j), (false, .int 6)] = .ok false (.int a) [j1] := e1
    rw [← i1] at e3
    rw [← i3] at e4 e10
    rw [← i2] at e7 e9
    have e8 : callF T (n + 2) f_law_leaves [(true, j7), (false, .int 12), (false, .bl true)] = .ok true (.lst (dstr l3)) [j8] := e8
    generalize hb2 : (r2 == 1) = b2 at *
    generalize hb6 : (r6 == 1) = b6 at *
    generalize dstr l3 = d3 at *
    generalize dstr l2 = d2 at *
    generalize dstr l1 = d1 at *
    generalize dstr t1 = x1 at *
    generalize dstr t2 = x2 at *
    generalize dstr t3 = x3 at *
    simp [fn_law_lots, e1, e2, e5, e6, e3, e4, e7, e8, e9, e10, hsl, hb2, hb6]
  · simp only [List.mem_cons, List.not_mem_nil, or_false] at ht
    rcases ht with rfl | rfl | rfl
    · exact ⟨g3', by rintro rfl; simp at h4, by omega⟩
    · exact ⟨g7', by rintro rfl; simp at h9, by omega⟩
    · exact ⟨g10', by rintro rfl; simp at h10, by omega⟩
end Mi

set_option maxRecDepth 100000
set_option maxHeartbeats 4000000
namespace Mi
/-! ### the jar from the script -/
def W1 : Int := 10 ^ 60
def W6 : Int := 10 ^ 360
theorem w_pow : app2 .pow (.int 10) (.int 60) = some (.imm (.int W1)) := rfl
theorem e_pow : app2 .pow (.int 10) (.int 18) = some (.imm (.int 1000000000000000000)) := rfl
def W2 : Int := 10 ^ 120
def W3 : Int := 10 ^ 180
def W4 : Int := 10 ^ 240
def W5 : Int := 10 ^ 300
theorem w_2 : app2 .mul (.int W1) (.int W1) = some (.imm (.int W2)) := rfl
theorem w_3 : app2 .mul (.int W2) (.int W1) = some (.imm (.int W3)) := rfl
theorem w_4 : app2 .mul (.int W3) (.int W1) = some (.imm (.int W4)) := rfl
theorem w_5 : app2 .mul (.int W4) (.int W1) = some (.imm (.int W5)) := rfl
theorem w_6 : app2 .mul (.int W5) (.int W1) = some (.imm (.int W6)) := rfl
theorem w_pos : 0 < W6 := by decide
@[simp] theorem b_abs {i : Int} : appB .abs [.int i] = some (.imm (.int (if i < 0 then -i else i))) := rfl
@[simp] theorem b_lenR {xs : List D} : appB .len [.ro xs] = some (.imm (.int xs.length)) := rfl
theorem jar_ok {n : Nat} {ns : List Int} (hl : ns.length ≤ 63) : ∃ j, callF T (n + 1) f_law_jar [(false, .ro (ns.map D.int))] = .ok true j [] ∧ isJar j := by
  rw [run_at (fn := fn_law_jar) rfl ⟨rfl, rfl, by decide⟩]
  have key := loopF_inv (f := fFor (callF T n) (.nm 4) (match fn_law_jar.body with | .seq _ (.seq _ (.seq _ (.seq (.for_ _ _ _ b) _))) => b | _ => .nil)) (xs := (ns.map D.int).take 63) (ρ := [some (.imm (.ro (ns.map D.int))), some (.imm (.int 0)), some (.imm (.int W1)), some (.imm (.int (41 + (ns.length : Int) % 79))), none, none])
    (fun i ρ => ∃ g s s4 s5, ρ = [some (.imm (.ro (ns.map D.int))), some (.imm (.int g)), some (.imm (.int W1)), some (.imm (.int s)), s4, s5] ∧ 0 ≤ g ∧ 0 ≤ s)
    ⟨0, 41 + (ns.length : Int) % 79, none, none, rfl, Int.le_refl _, by omega⟩
    (fun i x ρ hx hI => by
      obtain ⟨g, s, s4, s5, rfl, hg, hs⟩ := hI
      have hm := List.mem_of_mem_take (List.mem_of_getElem? hx)
      obtain ⟨z, _, rfl⟩ := List.mem_map.mp hm
      have hone : (0 : Int) ≤ if z < 0 then -z else z := by split <;> omega
      have ha := b_abs (i := z)
      generalize (if z < 0 then -z else z) = one at *
      have hs' : 0 ≤ (s * 39373 + one % 2147483549 + 9) % 2147483647 := Int.emod_nonneg _ (by decide)
      have hmod := a_mod (i := one) (j := W6) w_pos
      have hg' : 0 ≤ one % W6 := Int.emod_nonneg _ (by decide)
      simp only [fFor, fn_law_jar]
      by_cases c1 : (1000000000000000000 : Int) ≤ one
      · by_cases c2 : g = 0
        · refine ⟨[some (.imm (.ro (ns.map D.int))), some (.imm (.int (one % W6))), some (.imm (.int W1)), some (.imm (.int ((s * 39373 + one % 2147483549 + 9) % 2147483647))), some (.imm (.int z)), some (.imm (.int one))], ?_, _, _, _, _, rfl, hg', hs'⟩
          subst c2
          generalize one % W6 = om at *
          simp [ha, e_pow, c1, w_2, w_3, w_4, w_5, w_6, hmod]
        · refine ⟨[some (.imm (.ro (ns.map D.int))), some (.imm (.int g)), some (.imm (.int W1)), some (.imm (.int ((s * 39373 + one % 2147483549 + 9) % 2147483647))), some (.imm (.int z)), some (.imm (.int one))], ?_, _, _, _, _, rfl, hg, hs'⟩
          simp [ha, e_pow, c1, c2]
      · refine ⟨[some (.imm (.ro (ns.map D.int))), some (.imm (.int g)), some (.imm (.int W1)), some (.imm (.int ((s * 39373 + one % 2147483549 + 9) % 2147483647))), some (.imm (.int z)), some (.imm (.int one))], ?_, _, _, _, _, rfl, hg, hs'⟩
        simp [ha, e_pow, c1])
  obtain ⟨ρ', e, g, s, s4, s5, rfl, hg, hs⟩ := key
  refine ⟨jarD g s 0, ?_, g, s, 0, rfl, hg, hs, Int.le_refl _⟩
  have hc : slcD (.ro (ns.map D.int)) none (some 63) = some (.tmp (.lst ((ns.map D.int).take 63))) := by
    show some (Val.tmp (.lst (cut (ns.map D.int) none (some ((63 : Nat) : Int))))) = _
    rw [cut_any]
  simp only [fn_law_jar] at e
  have hln : ((ns.length : Nat) : Int) = ((ns.map D.int).length : Nat) := by rw [List.length_map]
  rw [hln] at e
  generalize ns.map D.int = dn at *
  have h79 : (0 : Int) < 79 := by decide
  simp [fn_law_jar, w_pow, hc, e, jarD]
/-! ### the law -/
theorem law_run {n : Nat} (hT : ∀ t : List (List Nat), Good t 12 → t ≠ [] → t.length ≤ 6 → TagsOk t) (ns : List Int) (hl : ns.length ≤ 63) : callF T (n + 22) f_law [(false, .ro (ns.map D.int))] = .ok false (.bl true) [] := by
  rw [run_at (n := n + 21) (fn := fn_law) rfl ⟨rfl, rfl, by decide⟩]
  obtain ⟨j, e1, J⟩ := jar_ok (n := n + 20) hl
  obtain ⟨t1, t2, t3, j1, e2, J1, hts⟩ := lots_ok (n := n + 18) J
  have e2 : callF T (n + 21) f_law_lots [(true, j)] = _ := e2
  obtain ⟨late, j2, e3, l0, l1, J2⟩ := draw_ok (n := n + 20) (j := j1) (m := 3) J1 (by decide) (by decide)
  have hk : ∀ t ∈ [t1, t2, t3], TagsOk t := fun t ht => hT t (hts t ht).1 (hts t ht).2.1 (hts t ht).2.2
  have key := loopF_inv (f := fFor (callF T (n + 21)) (.nm 4) (match fn_law.body with | .seq _ (.seq _ (.seq _ (.seq (.for_ _ _ _ b) _))) => b | _ => .nil)) (xs := rngD 0 3) (ρ := [some (.imm (.ro (ns.map D.int))), some (.own 0 j2), some (.own 0 (.lst [.lst (dstr t1), .lst (dstr t2), .lst (dstr t3)])), some (.imm (.int late)), none, none])
    (fun i ρ => ∃ j' s4 s5, ρ = [some (.imm (.ro (ns.map D.int))), some (.own 0 j'), some (.own 0 (.lst [.lst (dstr t1), .lst (dstr t2), .lst (dstr t3)])), some (.imm (.int late)), s4, s5] ∧ isJar j')
    ⟨_, _, _, rfl, J2⟩
    (fun i x ρ hx hI => by
      obtain ⟨j', s4, s5, rfl, J'⟩ := hI
      obtain ⟨rfl, hi⟩ := rng_get hx
      obtain ⟨r, j4, d1, r0, r1, J4⟩ := draw_ok (n := n + 20) (j := j') (m := 5) J' (by decide) (by decide)
      obtain ⟨a, rfl⟩ := Int.eq_ofNat_of_zero_le r0
      obtain ⟨t, ht, hsub⟩ : ∃ t ∈ [t1, t2, t3], subD (.lst [.lst (dstr t1), .lst (dstr t2), .lst (dstr t3)]) (.int (i : Int)) = some (.lst (dstr t)) := by
        have : i = 0 ∨ i = 1 ∨ i = 2 := by omega
        rcases this with rfl | rfl | rfl
        · exact ⟨t1, by simp, rfl⟩
        · exact ⟨t2, by simp, rfl⟩
        · exact ⟨t3, by simp, rfl⟩
      have g := hk t ht
      generalize D.lst [.lst (dstr t1), .lst (dstr t2), .lst (dstr t3)] = ll at *
      simp only [fFor, fn_law]
      by_cases c : (i : Int) = late
      · subst c
        obtain ⟨u, j5, d2, u0, u1, J5⟩ := draw_ok (n := n + 20) (j := j4) (m := 2) J4 (by decide) (by decide)
        obtain ⟨b, rfl⟩ := Int.eq_ofNat_of_zero_le u0
        obtain ⟨v, j6, d3, v0, v1, J6⟩ := draw_ok (n := n + 20) (j := j5) (m := 3) J5 (by decide) (by decide)
        obtain ⟨k, rfl⟩ := Int.eq_ofNat_of_zero_le v0
        have hmul : app2 .mul (.int b) (.int k) = some (.imm (.int ((b : Int) * k))) := a_mul (by omega)
        have hbk : b * k ≤ 2 := by
          have hb : b = 0 ∨ b = 1 := by omega
          rcases hb with rfl | rfl <;> omega
        have hgr : (12 : Int) - (b : Int) * k = ((12 - b * k : Nat) : Int) := by
          rw [← Int.natCast_mul]
          omega
        obtain ⟨j7, e7, J7⟩ := asked_ok (n := n) (j := j6) (M := 12 - b * k) J6 g (by omega)
        rw [← hgr] at e7
        generalize dstr t = dt at *
        generalize hp : (b : Int) * k = bk at *
        refine ⟨[some (.imm (.ro (ns.map D.int))), some (.own 0 j7), some (.own 0 ll), some (.imm (.int (i : Int))), some (.imm (.int i)), some (.imm (.int (12 - bk)))], ?_, _, _, _, rfl, J7⟩
        simp [d1, d2, d3, hmul, hsub, e7, hp]
      · have hgr : (5 : Int) + (a : Int) = ((5 + a : Nat) : Int) := by omega
        obtain ⟨j7, e7, J7⟩ := asked_ok (n := n) (j := j4) (M := 5 + a) J4 g (by omega)
        rw [← hgr] at e7
        generalize dstr t = dt at *
        refine ⟨[some (.imm (.ro (ns.map D.int))), some (.own 0 j7), some (.own 0 ll), some (.imm (.int late)), some (.imm (.int i)), some (.imm (.int (5 + (a : Int))))], ?_, _, _, _, rfl, J7⟩
        simp [d1, c, hsub, e7])
  obtain ⟨ρ', e, j', s4, s5, rfl, J'⟩ := key
  simp only [fn_law] at e
  generalize D.lst [.lst (dstr t1), .lst (dstr t2), .lst (dstr t3)] = ll at *
  simp [fn_law, e1, e2, e3, e]
end Mi

set_option maxRecDepth 100000
set_option maxHeartbeats 4000000
namespace Mi
/-! ### halving -/
theorem halve_stuck {p : Nat × Nat} (h : halve1 p = p) : ∀ k, halve k p = p
  | 0 => rfl
  | k + 1 => by
    show halve k (halve1 p) = p
    rw [h]
    exact halve_stuck h k
theorem halve_ok : ∀ {k e t : Nat}, e ≤ k → 0 < t → (halve k (t, 2 ^ e)).1 * 2 ^ e = t * (halve k (t, 2 ^ e)).2 ∧ ∃ e', (halve k (t, 2 ^ e)).2 = 2 ^ e' ∧ (e' = 0 ∨ (halve k (t, 2 ^ e)).1 % 2 = 1) ∧ 0 < (halve k (t, 2 ^ e)).1
  | 0, e, t, he, ht => by
    have : e = 0 := by omega
    subst this
    exact ⟨rfl, 0, rfl, .inl rfl, ht⟩
  | k + 1, e, t, he, ht => by
    by_cases c : t % 2 = 0 ∧ 1 < 2 ^ e
    · have e0 : e ≠ 0 := by
        rintro rfl
        exact absurd c.2 (by decide)
      obtain ⟨f, rfl⟩ : ∃ f, e = f + 1 := ⟨e - 1, by omega⟩
      have h1 : halve1 (t, 2 ^ (f + 1)) = (t / 2, 2 ^ f) := by
        unfold halve1
        rw [if_pos c]
        congr 1
        show 2 ^ (f + 1) / 2 = 2 ^ f
        rw [Nat.pow_succ]
        omega
      have h2 : halve (k + 1) (t, 2 ^ (f + 1)) = halve k (t / 2, 2 ^ f) := by
        show halve k (halve1 (t, 2 ^ (f + 1))) = _
        rw [h1]
      obtain ⟨q1, q2⟩ := halve_ok (k := k) (e := f) (t := t / 2) (by omega) (by omega)
      rw [h2]
      refine ⟨?_, q2⟩
      rw [Nat.pow_succ, ← Nat.mul_assoc, q1, Nat.mul_right_comm]
      congr 1
      omega
    · have h1 : halve1 (t, 2 ^ e) = (t, 2 ^ e) := if_neg c
      rw [halve_stuck h1]
      refine ⟨rfl, e, rfl, ?_, ht⟩
      by_cases c2 : t % 2 = 0
      · left
        refine Decidable.byContradiction fun z => c ⟨c2, ?_⟩
        obtain ⟨f, rfl⟩ : ∃ f, e = f + 1 := ⟨e - 1, by omega⟩
        have := Nat.two_pow_pos f
        rw [Nat.pow_succ]
        omega
      · exact .inr (by omega)
theorem cop_two {t : Nat} (h : t % 2 = 1) : Nat.Coprime t 2 := by
  unfold Nat.Coprime
  rw [Nat.gcd_comm, Nat.gcd_rec, h]
  rfl
theorem frac_eq {a b A B : Nat} (hb : 0 < B) (ha : 0 < a) (hc : Nat.Coprime a b) (h : a * B = A * b) : (A / Nat.gcd A B, B / Nat.gcd A B) = (a, b) := by
  have hd : a ∣ A := hc.dvd_of_dvd_mul_right (by rw [← h]; exact Nat.dvd_mul_right a B)
  obtain ⟨k, rfl⟩ := hd
  have hB : B = k * b := by
    rw [Nat.mul_assoc] at h
    exact Nat.eq_of_mul_eq_mul_left ha h
  have hk : 0 < k := by
    refine Nat.pos_of_ne_zero fun z => ?_
    subst z
    rw [Nat.zero_mul] at hB
    omega
  have hg : Nat.gcd (a * k) B = k := by
    rw [hB, Nat.mul_comm k b, Nat.gcd_mul_right, hc, Nat.one_mul]
  rw [hg, Nat.mul_div_cancel a hk, hB, Nat.mul_div_cancel_left b hk]
theorem top_scale {M : Nat} (hM : M ≤ 12) : ∀ {tags : List (List Nat)}, (∀ t ∈ tags, t.length ≤ M) → topN 12 tags = topN M tags * 2 ^ (12 - M)
  | [], _ => by simp [topN]
  | t :: ts, h => by
    have ih := top_scale hM (tags := ts) fun x hx => h x (List.mem_cons_of_mem _ hx)
    have ht := h t (List.mem_cons_self ..)
    unfold topN at ih ⊢
    rw [List.map_cons, List.sum_cons, List.map_cons, List.sum_cons, ih, Nat.add_mul, ← Nat.pow_add]
    congr 2
    omega
theorem top_pos {M : Nat} {tags : List (List Nat)} (h : tags ≠ []) : 0 < topN M tags := by
  cases tags with
  | nil => exact absurd rfl h
  | cons t ts =>
    unfold topN
    rw [List.map_cons, List.sum_cons]
    have := Nat.two_pow_pos (M - t.length)
    omega
theorem kraft_eq {M : Nat} {tags : List (List Nat)} (h0 : tags ≠ []) (hM : M ≤ 12) (h : ∀ t ∈ tags, t.length ≤ M) : kraftN M tags = halve 12 (topN 12 tags, 4096) := by
  have hp := top_pos (M := 12) h0
  obtain ⟨q1, e', q2, q3, q4⟩ := halve_ok (k := 12) (e := 12) (t := topN 12 tags) (Nat.le_refl _) hp
  rw [show (2 : Nat) ^ 12 = 4096 from rfl] at q1 q2 q3 q4
  generalize hh : halve 12 (topN 12 tags, 4096) = p at *
  obtain ⟨a, b⟩ := p
  unfold kraftN
  refine frac_eq (Nat.two_pow_pos M) q4 ?_ ?_
  · show Nat.Coprime a b
    have q2 : b = 2 ^ e' := q2
    rw [q2]
    rcases q3 with q3 | q3
    · rw [q3]; exact Nat.gcd_one_right a
    · exact Nat.Coprime.pow_right e' (cop_two q3)
  · have q1 : a * 4096 = topN 12 tags * b := q1
    rw [top_scale hM h, show (4096 : Nat) = 2 ^ M * 2 ^ (12 - M) by rw [← Nat.pow_add, show M + (12 - M) = 12 by omega], ← Nat.mul_assoc, Nat.mul_right_comm (topN M tags)] at q1
    exact Nat.eq_of_mul_eq_mul_right (Nat.two_pow_pos _) q1
/-! ### rows counted -/
theorem cmp_iff {a b : List Nat} : cmpb a b = true ↔ b <+: a ∨ a <+: b := by
  unfold cmpb
  rw [Bool.or_eq_true, List.isPrefixOf_iff_prefix, List.isPrefixOf_iff_prefix]
theorem cmp_down {t w x : List Nat} (h : cmpb t (w ++ x) = true) : cmpb t w = true := by
  rw [cmp_iff] at h ⊢
  rcases h with h | h
  · exact .inl ((List.prefix_append w x).trans h)
  · by_cases e : t.length ≤ w.length
    · exact .inr (List.prefix_of_prefix_length_le h (List.prefix_append w x) e)
    · exact .inl (List.prefix_of_prefix_length_le (List.prefix_append w x) h (by omega))
def bf : Nat → List (List Nat)
  | 0 => [[]]
  | s + 1 => (bf s).map (48 :: ·) ++ (bf s).map (49 :: ·)
theorem bf_len : ∀ s, (bf s).length = 2 ^ s
  | 0 => rfl
  | s + 1 => by simp [bf, bf_len s]; omega
theorem bf_mem : ∀ {s : Nat} {x : List Nat}, x ∈ bf s ↔ x.length = s ∧ Bin x
  | 0, x => by
    simp only [bf, List.mem_singleton]
    constructor
    · rintro rfl
      exact ⟨rfl, fun c hc => by cases hc⟩
    · intro h
      exact List.eq_nil_of_length_eq_zero h.1
  | s + 1, x => by
    simp only [bf, List.mem_append, List.mem_map]
    constructor
    · rintro (⟨y, hy, rfl⟩ | ⟨y, hy, rfl⟩)
      · obtain ⟨h1, h2⟩ := bf_mem.mp hy
        exact ⟨congrArg Nat.succ h1, fun c hc => by
          rcases List.mem_cons.mp hc with e | hc
          · exact .inl e
          · exact h2 c hc⟩
      · obtain ⟨h1, h2⟩ := bf_mem.mp hy
        exact ⟨congrArg Nat.succ h1, fun c hc => by
          rcases List.mem_cons.mp hc with e | hc
          · exact .inr e
          · exact h2 c hc⟩
    · rintro ⟨h1, h2⟩
      cases x with
      | nil => cases h1
      | cons c y =>
        have hy : y ∈ bf s := bf_mem.mpr ⟨by simpa using h1, fun d hd => h2 d (List.mem_cons_of_mem _ hd)⟩
        rcases h2 c (List.mem_cons_self ..) with rfl | rfl
        · exact .inl ⟨y, hy, rfl⟩
        · exact .inr ⟨y, hy, rfl⟩
theorem sb_perm : ∀ s, (sb s).Perm (bf s)
  | 0 => List.Perm.refl _
  | s + 1 => by
    have key : ∀ s, (sb (s + 1)).Perm ((sb s).map (48 :: ·) ++ (sb s).map (49 :: ·)) := by
      intro s
      induction s with
      | zero => exact List.Perm.refl _
      | succ s ih =>
        have e : ∀ c : Nat, ((sb (s + 1)).map (· ++ [c])).Perm (((sb s).map (· ++ [c])).map (48 :: ·) ++ ((sb s).map (· ++ [c])).map (49 :: ·)) := by
          intro c
          refine (ih.map (· ++ [c])).trans ?_
          rw [List.map_append, List.map_map, List.map_map, List.map_map, List.map_map]
          exact List.Perm.refl _
        show ((sb (s + 1)).map (· ++ [48]) ++ (sb (s + 1)).map (· ++ [49])).Perm (((sb s).map (· ++ [48]) ++ (sb s).map (· ++ [49])).map (48 :: ·) ++ ((sb s).map (· ++ [48]) ++ (sb s).map (· ++ [49])).map (49 :: ·))
        refine ((e 48).append (e 49)).trans ?_
        rw [List.map_append, List.map_append, List.append_assoc, List.append_assoc]
        refine List.Perm.append_left _ ?_
        rw [← List.append_assoc, ← List.append_assoc]
        exact List.Perm.append_right _ List.perm_append_comm
    refine (key s).trans ?_
    exact ((sb_perm s).map _).append ((sb_perm s).map _)
def cw (tags : List (List Nat)) (word : List Nat) (s : Nat) : Nat := ((bf s).filter fun x => tags.all fun t => !cmpb t (word ++ x)).length
theorem cnt_cw {tags : List (List Nat)} {s : Nat} : cntF tags s = cw tags [] s := ((sb_perm s).filter _).length_eq
theorem cw_succ {tags : List (List Nat)} {word : List Nat} {s : Nat} : cw tags word (s + 1) = cw tags (word ++ [48]) s + cw tags (word ++ [49]) s := by
  unfold cw
  simp only [bf, List.filter_append, List.length_append, List.filter_map, List.length_map]
  congr 2 <;> (congr 1; funext x; simp)
theorem cw_part {tags : List (List Nat)} {word y : List Nat} {s : Nat} : cw (tags.filter fun t => cmpb t word) (word ++ y) s = cw tags (word ++ y) s := by
  unfold cw
  congr 2
  funext x
  rw [Bool.eq_iff_iff, List.all_eq_true, List.all_eq_true]
  constructor
  · intro h t ht
    cases c : cmpb t (word ++ y ++ x) with
    | false => rfl
    | true =>
      rw [List.append_assoc] at c
      have := h t (List.mem_filter.mpr ⟨ht, cmp_down c⟩)
      rw [List.append_assoc, c] at this
      exact this
  · exact fun h t ht => h t (List.mem_filter.mp ht).1
theorem cw_zero {tags : List (List Nat)} {word : List Nat} {t : List Nat} (ht : t ∈ tags) (h : ∀ x, cmpb t (word ++ x) = true) (s : Nat) : cw tags word s = 0 := by
  unfold cw
  rw [List.length_eq_zero_iff, List.filter_eq_nil_iff]
  intro x _ z
  rw [List.all_eq_true] at z
  have := z t ht
  rw [h x] at this
  cases this
theorem sum_zero {f : Nat → Nat} : ∀ n, (∀ i, f i = 0) → ((List.range n).map f).sum = 0
  | 0, _ => rfl
  | n + 1, h => by rw [List.range_succ, List.map_append, List.sum_append, sum_zero n h]; simp [h]
theorem sum_split {f g h : Nat → Nat} (e : ∀ i, f i = g i + h i) : ∀ n, ((List.range n).map f).sum = ((List.range n).map g).sum + ((List.range n).map h).sum
  | 0 => rfl
  | n + 1 => by
    simp only [List.range_succ, List.map_append, List.sum_append, sum_split e n]
    simp [e]
    omega
theorem sum_head {f : Nat → Nat} (n : Nat) : ((List.range (n + 1)).map f).sum = f 0 + ((List.range n).map fun i => f (i + 1)).sum := by
  rw [List.range_succ_eq_map, List.map_cons, List.sum_cons, List.map_map]
  rfl
theorem sum_pow : ∀ n, ((List.range n).map fun i => 2 ^ i).sum = 2 ^ n - 1
  | 0 => rfl
  | n + 1 => by
    rw [List.range_succ, List.map_append, List.sum_append, sum_pow n]
    have := Nat.two_pow_pos n
    simp
    rw [Nat.pow_succ]
    omega
theorem fbv_eq : ∀ {d : Nat} {tags : List (List Nat)} {word : List Nat}, fbv d tags word = ((List.range (d + 1)).map fun s => cw tags word s).sum := by
  intro d
  have none : ∀ (d : Nat) (tags : List (List Nat)) (word : List Nat), tags.filter (fun t => cmpb t word) = [] → ((List.range (d + 1)).map fun s => cw tags word s).sum = 2 ^ (d + 1) - 1 := by
    intro d tags word h
    have e : (fun s => cw tags word s) = fun s => 2 ^ s := by
      funext s
      have := cw_part (tags := tags) (word := word) (y := []) (s := s)
      rw [List.append_nil, h] at this
      rw [← this]
      unfold cw
      rw [← bf_len s]
      congr 1
      exact List.filter_eq_self.mpr fun x _ => rfl
    rw [e, sum_pow]
  have first : ∀ (tags : List (List Nat)) (word : List Nat), tags.filter (fun t => cmpb t word) ≠ [] → cw tags word 0 = 0 := by
    intro tags word h
    obtain ⟨t, ht⟩ := List.exists_mem_of_ne_nil _ h
    obtain ⟨h1, h2⟩ := List.mem_filter.mp ht
    unfold cw
    rw [List.length_eq_zero_iff, List.filter_eq_nil_iff]
    intro x hx z
    have hx' : x = [] := by simpa [bf] using hx
    subst hx'
    rw [List.all_eq_true] at z
    have := z t h1
    rw [List.append_nil, h2] at this
    cases this
  induction d with
  | zero =>
    intro tags word
    unfold fbv
    by_cases c : tags.filter (fun t => cmpb t word) = []
    · rw [if_pos c, none 0 tags word c]
    · rw [if_neg c]
      simp [first tags word c]
  | succ d ih =>
    intro tags word
    unfold fbv
    by_cases c : tags.filter (fun t => cmpb t word) = []
    · rw [if_pos c, none (d + 1) tags word c]
    · rw [if_neg c]
      by_cases c2 : (tags.filter (fun t => cmpb t word)).any (fun t => decide (t.length ≤ word.length)) = true
      · rw [if_pos c2]
        obtain ⟨t, ht, hl⟩ := List.any_eq_true.mp c2
        obtain ⟨h1, h2⟩ := List.mem_filter.mp ht
        have hl := of_decide_eq_true hl
        refine (sum_zero _ fun s => cw_zero h1 (fun x => ?_) s).symm
        rw [cmp_iff] at h2 ⊢
        right
        rcases h2 with h2 | h2
        · rw [h2.eq_of_length (by have := h2.length_le; omega)]
          exact List.prefix_append t x
        · exact h2.trans (List.prefix_append word x)
      · rw [if_neg c2, sum_head, first tags word c, Nat.zero_add, ih, ih, sum_split fun s => cw_succ (tags := tags) (word := word) (s := s)]
        simp only [cw_part]
end Mi

set_option maxRecDepth 100000
set_option maxHeartbeats 4000000
namespace Mi
/-! ### free_of counts -/
theorem cmp_take {t x : List Nat} {s : Nat} (hx : x.length = s) : cmpb t x = (t.take s).isPrefixOf x := by
  rw [Bool.eq_iff_iff, cmp_iff, List.isPrefixOf_iff_prefix]
  constructor
  · rintro (h | h)
    · have e : x = t.take s := by rw [← hx]; exact List.prefix_iff_eq_take.mp h
      rw [← e]
      exact List.prefix_refl x
    · exact (List.take_prefix s t).trans h
  · intro h
    by_cases e : t.length ≤ s
    · rw [List.take_of_length_le e] at h
      exact .inr h
    · left
      have e2 : t.take s = x := h.eq_of_length (by rw [List.length_take, hx]; omega)
      rw [← e2]
      exact List.take_prefix s t
theorem pre_count : ∀ {s : Nat} {u : List Nat}, Bin u → u.length ≤ s → ((bf s).filter fun x => u.isPrefixOf x).length = 2 ^ (s - u.length)
  | s, [], _, _ => by
    have e : (bf s).filter (fun x => ([] : List Nat).isPrefixOf x) = bf s := List.filter_eq_self.mpr fun x _ => by cases x <;> rfl
    rw [e, bf_len]
    rfl
  | 0, _ :: _, _, h => by simp at h
  | s + 1, c :: u, hb, h => by
    have hu : Bin u := fun d hd => hb d (List.mem_cons_of_mem _ hd)
    have ih := pre_count (s := s) hu (by simpa using h)
    simp only [bf, List.filter_append, List.length_append, List.filter_map, List.length_map]
    rw [show s + 1 - (c :: u).length = s - u.length by simp, ← ih]
    rcases hb c (List.mem_cons_self ..) with rfl | rfl
    · have e1 : ((fun x : List Nat => (48 :: u).isPrefixOf x) ∘ fun x => 48 :: x) = fun x => u.isPrefixOf x := by funext x; simp [List.isPrefixOf]
      have e2 : ((fun x : List Nat => (48 :: u).isPrefixOf x) ∘ fun x => 49 :: x) = fun _ => false := by funext x; simp [List.isPrefixOf]
      rw [e1, e2]
      simp
    · have e1 : ((fun x : List Nat => (49 :: u).isPrefixOf x) ∘ fun x => 49 :: x) = fun x => u.isPrefixOf x := by funext x; simp [List.isPrefixOf]
      have e2 : ((fun x : List Nat => (49 :: u).isPrefixOf x) ∘ fun x => 48 :: x) = fun _ => false := by funext x; simp [List.isPrefixOf]
      rw [e1, e2]
      simp
theorem filter_and {α : Type} {p q : α → Bool} : ∀ {l : List α}, (l.filter fun x => p x && !q x).length + (l.filter fun x => p x && q x).length = (l.filter p).length
  | [] => rfl
  | x :: l => by
    have ih := filter_and (p := p) (q := q) (l := l)
    cases hp : p x <;> cases hq : q x <;> simp only [List.filter_cons, hp, hq, Bool.true_and, Bool.false_and, Bool.not_true, Bool.not_false, if_true, if_false, Bool.false_eq_true, List.length_cons] <;> omega
def cwn (s : Nat) (done : List (List Nat)) : Nat := ((bf s).filter fun x => done.all fun t => !cmpb t x).length
theorem cw_cwn {s : Nat} {tags : List (List Nat)} : cw tags [] s = cwn s tags := rfl
theorem cwn_snoc {s : Nat} {done : List (List Nat)} {t : List Nat} : cwn s (done ++ [t]) + ((bf s).filter fun x => (done.all fun t => !cmpb t x) && cmpb t x).length = cwn s done := by
  unfold cwn
  rw [← filter_and (p := fun x => done.all fun t => !cmpb t x) (q := fun x => cmpb t x)]
  congr 3
  funext x
  rw [List.all_append, List.all_cons, List.all_nil, Bool.and_true]
theorem fo_ok {s : Nat} : ∀ {rest done : List (List Nat)} {p : Int × List (List Nat)}, (done ++ rest).Pairwise Inc → (∀ t ∈ done ++ rest, Bin t) → p.1 - p.2.length = (cwn s done : Nat) → (∀ h, h ∈ p.2 ↔ ∃ t ∈ done, s < t.length ∧ t.take s = h) →
    (rest.foldl (foStep s) p).1 - (rest.foldl (foStep s) p).2.length = (cwn s (done ++ rest) : Nat) := by
  intro rest
  induction rest with
  | nil =>
    intro done p _ _ h _
    rw [List.append_nil]
    exact h
  | cons t rest ih =>
    intro done p pw hb h1 h2
    have e : done ++ t :: rest = (done ++ [t]) ++ rest := by simp
    rw [e] at pw hb ⊢
    rw [List.foldl_cons]
    have pwd : (done ++ [t]).Pairwise Inc := (List.pairwise_append.mp pw).1
    have inc : ∀ u ∈ done, Inc u t := fun u hu => (List.pairwise_append.mp pwd).2.2 u hu t (List.mem_singleton_self t)
    have hbt : Bin t := hb t (by simp)
    have hbu : Bin (t.take s) := fun c hc => hbt c (List.mem_of_mem_take hc)
    have sn := cwn_snoc (s := s) (done := done) (t := t)
    have pc := pre_count (s := s) hbu (by rw [List.length_take]; omega)
    -- the rows that fall out
    have out : (¬ (s < t.length ∧ t.take s ∈ p.2)) → ((bf s).filter fun x => (done.all fun t => !cmpb t x) && cmpb t x).length = 2 ^ (s - (t.take s).length) := by
      intro hn
      rw [← pc]
      congr 1
      refine List.filter_congr fun x hx => ?_
      have hxl := (bf_mem.mp hx).1
      rw [cmp_take hxl]
      cases c : (t.take s).isPrefixOf x with
      | false => rw [Bool.and_false]
      | true =>
        rw [Bool.and_true, List.all_eq_true]
        intro u hu
        cases c2 : cmpb u x with
        | false => rfl
        | true =>
          exfalso
          rw [cmp_take hxl, List.isPrefixOf_iff_prefix] at c2
          rw [List.isPrefixOf_iff_prefix] at c
          have iu := inc u hu
          by_cases ht : t.length ≤ s
          · rw [List.take_of_length_le ht] at c
            by_cases hu2 : u.length ≤ s
            · rw [List.take_of_length_le hu2] at c2
              by_cases l : u.length ≤ t.length
              · exact iu.1 (List.prefix_of_prefix_length_le c2 c l)
              · exact iu.2 (List.prefix_of_prefix_length_le c c2 (by omega))
            · have q : t <+: u.take s := List.prefix_of_prefix_length_le c c2 (by rw [List.length_take]; omega)
              exact iu.2 (q.trans (List.take_prefix s u))
          · have tl : (t.take s).length = s := by rw [List.length_take]; omega
            by_cases hu2 : u.length ≤ s
            · rw [List.take_of_length_le hu2] at c2
              have q : u <+: t.take s := List.prefix_of_prefix_length_le c2 c (by omega)
              exact iu.1 (q.trans (List.take_prefix s t))
            · have ul : (u.take s).length = s := by rw [List.length_take]; omega
              have e1 := c.eq_of_length (by omega)
              have e2 := c2.eq_of_length (by omega)
              exact hn ⟨by omega, (h2 _).mpr ⟨u, hu, by omega, by rw [e2, ← e1]⟩⟩
    have inn : (s < t.length ∧ t.take s ∈ p.2) → ((bf s).filter fun x => (done.all fun t => !cmpb t x) && cmpb t x).length = 0 := by
      rintro ⟨hl, hm⟩
      obtain ⟨u, hu, hul, hue⟩ := (h2 _).mp hm
      rw [List.length_eq_zero_iff, List.filter_eq_nil_iff]
      intro x hx z
      have hxl := (bf_mem.mp hx).1
      rw [Bool.and_eq_true, List.all_eq_true] at z
      have z1 := z.1 u hu
      have z2 := z.2
      rw [cmp_take hxl] at z1 z2
      rw [hue, z2] at z1
      cases z1
    refine ih pw hb ?_ ?_
    · unfold foStep
      by_cases c : t.length ≤ s
      · rw [if_pos c]
        have o := out (fun z => by omega)
        rw [List.take_of_length_le c] at o
        rw [o] at sn
        show p.1 - ((2 ^ (s - t.length) : Nat) : Int) - (p.2.length : Int) = _
        omega
      · rw [if_neg c]
        by_cases c2 : p.2.any (· == t.take s) = true
        · rw [if_pos c2]
          obtain ⟨h, hh, he⟩ := List.any_eq_true.mp c2
          have he := eq_of_beq he
          subst he
          rw [inn ⟨by omega, hh⟩] at sn
          omega
        · rw [if_neg c2]
          have hnm : t.take s ∉ p.2 := fun z => c2 (List.any_eq_true.mpr ⟨_, z, beq_self_eq_true _⟩)
          have o := out (fun z => hnm z.2)
          rw [show s - (t.take s).length = 0 by rw [List.length_take]; omega, Nat.pow_zero] at o
          rw [o] at sn
          show p.1 - ((p.2 ++ [t.take s]).length : Int) = _
          rw [List.length_append, List.length_singleton]
          omega
    · intro h
      unfold foStep
      by_cases c : t.length ≤ s
      · rw [if_pos c]
        show h ∈ p.2 ↔ _
        rw [h2]
        constructor
        · rintro ⟨u, hu, q⟩
          exact ⟨u, List.mem_append_left _ hu, q⟩
        · rintro ⟨u, hu, q1, q2⟩
          rcases List.mem_append.mp hu with hu | hu
          · exact ⟨u, hu, q1, q2⟩
          · rw [List.mem_singleton] at hu
            subst hu
            omega
      · rw [if_neg c]
        by_cases c2 : p.2.any (· == t.take s) = true
        · rw [if_pos c2]
          obtain ⟨g, hg, he⟩ := List.any_eq_true.mp c2
          have he := eq_of_beq he
          subst he
          rw [h2]
          constructor
          · rintro ⟨u, hu, q⟩
            exact ⟨u, List.mem_append_left _ hu, q⟩
          · rintro ⟨u, hu, q1, q2⟩
            rcases List.mem_append.mp hu with hu | hu
            · exact ⟨u, hu, q1, q2⟩
            · rw [List.mem_singleton] at hu
              subst hu
              rw [← q2]
              exact (h2 _).mp hg
        · rw [if_neg c2]
          show h ∈ p.2 ++ [t.take s] ↔ _
          rw [List.mem_append, h2, List.mem_singleton]
          constructor
          · rintro (⟨u, hu, q⟩ | rfl)
            · exact ⟨u, List.mem_append_left _ hu, q⟩
            · exact ⟨t, by simp, by omega, rfl⟩
          · rintro ⟨u, hu, q1, q2⟩
            rcases List.mem_append.mp hu with hu | hu
            · exact .inl ⟨u, hu, q1, q2⟩
            · rw [List.mem_singleton] at hu
              subst hu
              exact .inr q2.symm
theorem foAll_eq {s k : Nat} {tags : List (List Nat)} (g : Good tags k) : foAll s tags = ((cntF tags s : Nat) : Int) := by
  have q := fo_ok (s := s) (rest := tags) (done := []) (p := (((2 ^ s : Nat) : Int), [])) g.pw g.bin (by
    show ((2 ^ s : Nat) : Int) - 0 = _
    rw [Int.sub_zero]
    have e : (bf s).filter (fun x => ([] : List (List Nat)).all fun t => !cmpb t x) = bf s := List.filter_eq_self.mpr fun x _ => rfl
    unfold cwn
    rw [e, bf_len]) (by simp)
  rw [List.nil_append, ← cw_cwn, ← cnt_cw] at q
  exact q
/-! ### whether the tags are tight -/
theorem fo_short {s : Nat} : ∀ {tags : List (List Nat)} {p : Int × List (List Nat)}, (∀ t ∈ tags, t.length ≤ s) → (tags.foldl (foStep s) p).1 - (tags.foldl (foStep s) p).2.length = p.1 - p.2.length - (topN s tags : Nat)
  | [], p, _ => by simp [topN]
  | t :: ts, p, h => by
    have c := h t (List.mem_cons_self ..)
    rw [List.foldl_cons, fo_short (fun u hu => h u (List.mem_cons_of_mem _ hu))]
    unfold foStep topN
    rw [if_pos c, List.map_cons, List.sum_cons]
    show p.1 - ((2 ^ (s - t.length) : Nat) : Int) - (p.2.length : Int) - _ = _
    omega
theorem cnt_up {tags : List (List Nat)} {s : Nat} (hs : s ≤ 12) (h : cntF tags 12 = 0) : cntF tags s = 0 := by
  rw [cnt_cw] at h ⊢
  unfold cw at h ⊢
  rw [List.length_eq_zero_iff, List.filter_eq_nil_iff] at h ⊢
  intro x hx z
  obtain ⟨h1, h2⟩ := bf_mem.mp hx
  refine h (x ++ List.replicate (12 - s) 48) (bf_mem.mpr ⟨by rw [List.length_append, List.length_replicate]; omega, fun c hc => ?_⟩) ?_
  · rcases List.mem_append.mp hc with hc | hc
    · exact h2 c hc
    · exact .inl (List.eq_of_mem_replicate hc)
  · rw [List.all_eq_true] at z ⊢
    intro t ht
    cases c : cmpb t ([] ++ (x ++ List.replicate (12 - s) 48)) with
    | false => rfl
    | true =>
      rw [List.nil_append] at c
      have q := z t ht
      rw [List.nil_append, cmp_down c] at q
      cases q
theorem sum_nil : ∀ {n : Nat} {f : Nat → Nat}, ((List.range n).map f).sum = 0 ↔ ∀ i, i < n → f i = 0
  | 0, f => ⟨fun _ i hi => by omega, fun _ => rfl⟩
  | n + 1, f => by
    rw [List.range_succ, List.map_append, List.sum_append, Nat.add_eq_zero_iff, sum_nil]
    constructor
    · rintro ⟨h1, h2⟩ i hi
      by_cases e : i = n
      · subst e; simpa using h2
      · exact h1 i (by omega)
    · intro h
      exact ⟨fun i hi => h i (by omega), by simpa using h n (by omega)⟩
theorem sum_castR {f : Nat → Nat} : ∀ n, ((List.range n).map fun i => ((f i : Nat) : Int)).sum = ((((List.range n).map f).sum : Nat) : Int)
  | 0 => rfl
  | n + 1 => by
    rw [List.range_succ, List.map_append, List.sum_append, List.map_append, List.sum_append, sum_castR n]
    simp
theorem tags_ok (t : List (List Nat)) (g : Good t 12) (h0 : t ≠ []) (hl : t.length ≤ 6) : TagsOk t := by
  have hf : ∀ M, fbv M t [] = ((List.range (M + 1)).map fun s => cntF t s).sum := fun M => by
    rw [fbv_eq]
    congr 2
    funext s
    exact cnt_cw.symm
  refine ⟨h0, hl, g.len, fun M hM h => kraft_eq h0 hM h, fun M _ _ => ?_, fun M _ => hf M, ?_⟩
  · rw [hf, ← sum_castR]
    congr 2
    funext s
    exact (foAll_eq g).symm
  · rw [hf, sum_nil]
    have e1 : (∀ i, i < 12 + 1 → cntF t i = 0) ↔ cntF t 12 = 0 := ⟨fun h => h 12 (by omega), fun h i hi => cnt_up (by omega) h⟩
    have e2 : cntF t 12 = 0 ↔ topN 12 t = 4096 := by
      have q := foAll_eq (s := 12) g
      have q2 : foAll 12 t = ((2 ^ 12 : Nat) : Int) - 0 - (topN 12 t : Nat) := fo_short g.len
      rw [q] at q2
      have : (2 : Nat) ^ 12 = 4096 := rfl
      omega
    rw [e1, e2]
    obtain ⟨q1, _⟩ := halve_ok (k := 12) (e := 12) (t := topN 12 t) (Nat.le_refl _) (top_pos h0)
    rw [show (2 : Nat) ^ 12 = 4096 from rfl] at q1
    constructor
    · intro h
      rw [h]
      decide
    · intro h
      rw [h] at q1
      simpa using q1.symm
theorem law_true (ns : List Int) (hl : ns.length ≤ 63) : callF T 40 f_law [(false, .ro (ns.map D.int))] = .ok false (.bl true) [] := law_run (n := 18) tags_ok ns hl
end Mi

set_option maxRecDepth 100000
namespace Mi
open PySem PySem.Spec PyProof.Rows L2
def Cl0 : Nat → Value × List Str := fun _ => (.none, [])
/-! ### the text -/
def topS (i : Nat) : Stmt := PySem.Challenge.pw_heldinbits_k04_tag_sums.main.body.getD i (.Pass ⟨0, 0, 0, 0⟩)
def P0 : Pa := ⟨nms, ["abs", "bool", "int", "isinstance", "len", "list", "max", "range", "sum", "tuple", "zip"], true⟩
abbrev st_begins : Stmt := topS 2
theorem sc_begins : FnScope N_begins (N_begins.take fn_begins.np) (defScope st_begins) := C8.fnScope_by (by decide +kernel)
theorem ok_begins : okSs P0 N_begins (defScope st_begins) (fun _ => true) fn_begins.body (defBody st_begins) = true := by decide +kernel
abbrev st_kraft_sum : Stmt := topS 4
theorem sc_kraft_sum : FnScope N_kraft_sum (N_kraft_sum.take fn_kraft_sum.np) (defScope st_kraft_sum) := C8.fnScope_by (by decide +kernel)
theorem ok_kraft_sum : okSs P0 N_kraft_sum (defScope st_kraft_sum) (fun _ => true) fn_kraft_sum.body (defBody st_kraft_sum) = true := by decide +kernel
abbrev st_is_tight : Stmt := topS 5
theorem sc_is_tight : FnScope N_is_tight (N_is_tight.take fn_is_tight.np) (defScope st_is_tight) := C8.fnScope_by (by decide +kernel)
theorem ok_is_tight : okSs P0 N_is_tight (defScope st_is_tight) (fun _ => true) fn_is_tight.body (defBody st_is_tight) = true := by decide +kernel
abbrev st_free_below : Stmt := topS 6
theorem sc_free_below : FnScope N_free_below (N_free_below.take fn_free_below.np) (defScope st_free_below) := C8.fnScope_by (by decide +kernel)
theorem ok_free_below : okSs P0 N_free_below (defScope st_free_below) (fun _ => true) fn_free_below.body (defBody st_free_below) = true := by decide +kernel
abbrev st_free_tags : Stmt := topS 7
theorem sc_free_tags : FnScope N_free_tags (N_free_tags.take fn_free_tags.np) (defScope st_free_tags) := C8.fnScope_by (by decide +kernel)
theorem ok_free_tags : okSs P0 N_free_tags (defScope st_free_tags) (fun _ => true) fn_free_tags.body (defBody st_free_tags) = true := by decide +kernel
abbrev st_law_jar : Stmt := topS 9
theorem sc_law_jar : FnScope N_law_jar (N_law_jar.take fn_law_jar.np) (defScope st_law_jar) := C8.fnScope_by (by decide +kernel)
theorem ok_law_jar : okSs P0 N_law_jar (defScope st_law_jar) (fun _ => true) fn_law_jar.body (defBody st_law_jar) = true := by decide +kernel
abbrev st_law_draw : Stmt := topS 10
theorem sc_law_draw : FnScope N_law_draw (N_law_draw.take fn_law_draw.np) (defScope st_law_draw) := C8.fnScope_by (by decide +kernel)
theorem ok_law_draw : okSs P0 N_law_draw (defScope st_law_draw) (fun _ => true) fn_law_draw.body (defBody st_law_draw) = true := by decide +kernel
abbrev st_law_leaves : Stmt := topS 11
theorem sc_law_leaves : FnScope N_law_leaves (N_law_leaves.take fn_law_leaves.np) (defScope st_law_leaves) := C8.fnScope_by (by decide +kernel)
theorem ok_law_leaves : okSs P0 N_law_leaves (defScope st_law_leaves) (fun _ => true) fn_law_leaves.body (defBody st_law_leaves) = true := by decide +kernel
abbrev st_law_picked : Stmt := topS 12
theorem sc_law_picked : FnScope N_law_picked (N_law_picked.take fn_law_picked.np) (defScope st_law_picked) := C8.fnScope_by (by decide +kernel)
theorem ok_law_picked : okSs P0 N_law_picked (defScope st_law_picked) (fun _ => true) fn_law_picked.body (defBody st_law_picked) = true := by decide +kernel
abbrev st_law_form : Stmt := topS 13
theorem sc_law_form : FnScope N_law_form (N_law_form.take fn_law_form.np) (defScope st_law_form) := C8.fnScope_by (by decide +kernel)
theorem ok_law_form : okSs P0 N_law_form (defScope st_law_form) (fun _ => true) fn_law_form.body (defBody st_law_form) = true := by decide +kernel
abbrev st_law_is_int : Stmt := topS 14
theorem sc_law_is_int : FnScope N_law_is_int (N_law_is_int.take fn_law_is_int.np) (defScope st_law_is_int) := C8.fnScope_by (by decide +kernel)
theorem ok_law_is_int : okSs P0 N_law_is_int (defScope st_law_is_int) (fun _ => true) fn_law_is_int.body (defBody st_law_is_int) = true := by decide +kernel
abbrev st_law_sum : Stmt := topS 15
theorem sc_law_sum : FnScope N_law_sum (N_law_sum.take fn_law_sum.np) (defScope st_law_sum) := C8.fnScope_by (by decide +kernel)
theorem ok_law_sum : okSs P0 N_law_sum (defScope st_law_sum) (fun _ => true) fn_law_sum.body (defBody st_law_sum) = true := by decide +kernel
abbrev st_law_strings : Stmt := topS 16
theorem sc_law_strings : FnScope N_law_strings (N_law_strings.take fn_law_strings.np) (defScope st_law_strings) := C8.fnScope_by (by decide +kernel)
theorem ok_law_strings : okSs P0 N_law_strings (defScope st_law_strings) (fun _ => true) fn_law_strings.body (defBody st_law_strings) = true := by decide +kernel
abbrev st_law_is_free : Stmt := topS 17
theorem sc_law_is_free : FnScope N_law_is_free (N_law_is_free.take fn_law_is_free.np) (defScope st_law_is_free) := C8.fnScope_by (by decide +kernel)
theorem ok_law_is_free : okSs P0 N_law_is_free (defScope st_law_is_free) (fun _ => true) fn_law_is_free.body (defBody st_law_is_free) = true := by decide +kernel
abbrev st_law_free_of : Stmt := topS 18
theorem sc_law_free_of : FnScope N_law_free_of (N_law_free_of.take fn_law_free_of.np) (defScope st_law_free_of) := C8.fnScope_by (by decide +kernel)
theorem ok_law_free_of : okSs P0 N_law_free_of (defScope st_law_free_of) (fun _ => true) fn_law_free_of.body (defBody st_law_free_of) = true := by decide +kernel
abbrev st_law_free : Stmt := topS 19
theorem sc_law_free : FnScope N_law_free (N_law_free.take fn_law_free.np) (defScope st_law_free) := C8.fnScope_by (by decide +kernel)
theorem ok_law_free : okSs P0 N_law_free (defScope st_law_free) (fun _ => true) fn_law_free.body (defBody st_law_free) = true := by decide +kernel
abbrev st_law_asked : Stmt := topS 20
theorem sc_law_asked : FnScope N_law_asked (N_law_asked.take fn_law_asked.np) (defScope st_law_asked) := C8.fnScope_by (by decide +kernel)
theorem ok_law_asked : okSs P0 N_law_asked (defScope st_law_asked) (fun _ => true) fn_law_asked.body (defBody st_law_asked) = true := by decide +kernel
abbrev st_law_lots : Stmt := topS 21
theorem sc_law_lots : FnScope N_law_lots (N_law_lots.take fn_law_lots.np) (defScope st_law_lots) := C8.fnScope_by (by decide +kernel)
theorem ok_law_lots : okSs P0 N_law_lots (defScope st_law_lots) (fun _ => true) fn_law_lots.body (defBody st_law_lots) = true := by decide +kernel
abbrev st_law : Stmt := topS 22
theorem sc_law : FnScope N_law (N_law.take fn_law.np) (defScope st_law) := C8.fnScope_by (by decide +kernel)
theorem ok_law : okSs P0 N_law (defScope st_law) (fun _ => true) fn_law.body (defBody st_law) = true := by decide +kernel
section
variable {K : Frag} {mg : Str → Option Value}
theorem at_begins {f : Addr} {oc : Value} {od an : Option Addr} {osl : Array (Option Value)} {kV doc pm cdv ct : Value} (m : mg "begins" = some (.ref f)) (l : K.lookup f = some ⟨oc, od, .func (PySem.W.fnOf "begins" "begins" (defArgs st_begins) (defBody st_begins) (defScope st_begins) .none kV doc pm an cdv ct), osl⟩)
    (c : PySem.W.codeIn K cdv "begins" = true) (k : PySem.W.keepIn K (.ref f) = true) : DefAt P0 K mg T f_begins "begins" f (PySem.W.fnOf "begins" "begins" (defArgs st_begins) (defBody st_begins) (defScope st_begins) .none kV doc pm an cdv ct) N_begins fn_begins st_begins :=
  ⟨m, fun_mk l c k, rfl, rfl, by decide, sc_begins, ok_begins, (fun_mk (st := st_begins) l c k).binds fun _ _ _ _ _ _ us hl => match us, hl with | [_, _], _ => rfl⟩
theorem at_kraft_sum {f : Addr} {oc : Value} {od an : Option Addr} {osl : Array (Option Value)} {kV doc pm cdv ct : Value} (m : mg "kraft_sum" = some (.ref f)) (l : K.lookup f = some ⟨oc, od, .func (PySem.W.fnOf "kraft_sum" "kraft_sum" (defArgs st_kraft_sum) (defBody st_kraft_sum) (defScope st_kraft_sum) .none kV doc pm an cdv ct), osl⟩)
    (c : PySem.W.codeIn K cdv "kraft_sum" = true) (k : PySem.W.keepIn K (.ref f) = true) : DefAt P0 K mg T f_kraft_sum "kraft_sum" f (PySem.W.fnOf "kraft_sum" "kraft_sum" (defArgs st_kraft_sum) (defBody st_kraft_sum) (defScope st_kraft_sum) .none kV doc pm an cdv ct) N_kraft_sum fn_kraft_sum st_kraft_sum :=
  ⟨m, fun_mk l c k, rfl, rfl, by decide, sc_kraft_sum, ok_kraft_sum, (fun_mk (st := st_kraft_sum) l c k).binds fun _ _ _ _ _ _ us hl => match us, hl with | [_], _ => rfl⟩
theorem at_is_tight {f : Addr} {oc : Value} {od an : Option Addr} {osl : Array (Option Value)} {kV doc pm cdv ct : Value} (m : mg "is_tight" = some (.ref f)) (l : K.lookup f = some ⟨oc, od, .func (PySem.W.fnOf "is_tight" "is_tight" (defArgs st_is_tight) (defBody st_is_tight) (defScope st_is_tight) .none kV doc pm an cdv ct), osl⟩)
    (c : PySem.W.codeIn K cdv "is_tight" = true) (k : PySem.W.keepIn K (.ref f) = true) : DefAt P0 K mg T f_is_tight "is_tight" f (PySem.W.fnOf "is_tight" "is_tight" (defArgs st_is_tight) (defBody st_is_tight) (defScope st_is_tight) .none kV doc pm an cdv ct) N_is_tight fn_is_tight st_is_tight :=
  ⟨m, fun_mk l c k, rfl, rfl, by decide, sc_is_tight, ok_is_tight, (fun_mk (st := st_is_tight) l c k).binds fun _ _ _ _ _ _ us hl => match us, hl with | [_], _ => rfl⟩
theorem at_free_below {f : Addr} {oc : Value} {od an : Option Addr} {osl : Array (Option Value)} {kV doc pm cdv ct : Value} (m : mg "free_below" = some (.ref f)) (l : K.lookup f = some ⟨oc, od, .func (PySem.W.fnOf "free_below" "free_below" (defArgs st_free_below) (defBody st_free_below) (defScope st_free_below) .none kV doc pm an cdv ct), osl⟩)
    (c : PySem.W.codeIn K cdv "free_below" = true) (k : PySem.W.keepIn K (.ref f) = true) : DefAt P0 K mg T f_free_below "free_below" f (PySem.W.fnOf "free_below" "free_below" (defArgs st_free_below) (defBody st_free_below) (defScope st_free_below) .none kV doc pm an cdv ct) N_free_below fn_free_below st_free_below :=
  ⟨m, fun_mk l c k, rfl, rfl, by decide, sc_free_below, ok_free_below, (fun_mk (st := st_free_below) l c k).binds fun _ _ _ _ _ _ us hl => match us, hl with | [_, _, _], _ => rfl⟩
theorem at_free_tags {f : Addr} {oc : Value} {od an : Option Addr} {osl : Array (Option Value)} {kV doc pm cdv ct : Value} (m : mg "free_tags" = some (.ref f)) (l : K.lookup f = some ⟨oc, od, .func (PySem.W.fnOf "free_tags" "free_tags" (defArgs st_free_tags) (defBody st_free_tags) (defScope st_free_tags) .none kV doc pm an cdv ct), osl⟩)
    (c : PySem.W.codeIn K cdv "free_tags" = true) (k : PySem.W.keepIn K (.ref f) = true) : DefAt P0 K mg T f_free_tags "free_tags" f (PySem.W.fnOf "free_tags" "free_tags" (defArgs st_free_tags) (defBody st_free_tags) (defScope st_free_tags) .none kV doc pm an cdv ct) N_free_tags fn_free_tags st_free_tags :=
  ⟨m, fun_mk l c k, rfl, rfl, by decide, sc_free_tags, ok_free_tags, (fun_mk (st := st_free_tags) l c k).binds fun _ _ _ _ _ _ us hl => match us, hl with | [_, _], _ => rfl⟩
theorem at_law_jar {f : Addr} {oc : Value} {od an : Option Addr} {osl : Array (Option Value)} {kV doc pm cdv ct : Value} (m : mg "_law_jar" = some (.ref f)) (l : K.lookup f = some ⟨oc, od, .func (PySem.W.fnOf "_law_jar" "_law_jar" (defArgs st_law_jar) (defBody st_law_jar) (defScope st_law_jar) .none kV doc pm an cdv ct), osl⟩)
    (c : PySem.W.codeIn K cdv "_law_jar" = true) (k : PySem.W.keepIn K (.ref f) = true) : DefAt P0 K mg T f_law_jar "_law_jar" f (PySem.W.fnOf "_law_jar" "_law_jar" (defArgs st_law_jar) (defBody st_law_jar) (defScope st_law_jar) .none kV doc pm an cdv ct) N_law_jar fn_law_jar st_law_jar :=
  ⟨m, fun_mk l c k, rfl, rfl, by decide, sc_law_jar, ok_law_jar, (fun_mk (st := st_law_jar) l c k).binds fun _ _ _ _ _ _ us hl => match us, hl with | [_], _ => rfl⟩
theorem at_law_draw {f : Addr} {oc : Value} {od an : Option Addr} {osl : Array (Option Value)} {kV doc pm cdv ct : Value} (m : mg "_law_draw" = some (.ref f)) (l : K.lookup f = some ⟨oc, od, .func (PySem.W.fnOf "_law_draw" "_law_draw" (defArgs st_law_draw) (defBody st_law_draw) (defScope st_law_draw) .none kV doc pm an cdv ct), osl⟩)
    (c : PySem.W.codeIn K cdv "_law_draw" = true) (k : PySem.W.keepIn K (.ref f) = true) : DefAt P0 K mg T f_law_draw "_law_draw" f (PySem.W.fnOf "_law_draw" "_law_draw" (defArgs st_law_draw) (defBody st_law_draw) (defScope st_law_draw) .none kV doc pm an cdv ct) N_law_draw fn_law_draw st_law_draw :=
  ⟨m, fun_mk l c k, rfl, rfl, by decide, sc_law_draw, ok_law_draw, (fun_mk (st := st_law_draw) l c k).binds fun _ _ _ _ _ _ us hl => match us, hl with | [_, _], _ => rfl⟩
theorem at_law_leaves {f : Addr} {oc : Value} {od an : Option Addr} {osl : Array (Option Value)} {kV doc pm cdv ct : Value} (m : mg "_law_leaves" = some (.ref f)) (l : K.lookup f = some ⟨oc, od, .func (PySem.W.fnOf "_law_leaves" "_law_leaves" (defArgs st_law_leaves) (defBody st_law_leaves) (defScope st_law_leaves) .none kV doc pm an cdv ct), osl⟩)
    (c : PySem.W.codeIn K cdv "_law_leaves" = true) (k : PySem.W.keepIn K (.ref f) = true) : DefAt P0 K mg T f_law_leaves "_law_leaves" f (PySem.W.fnOf "_law_leaves" "_law_leaves" (defArgs st_law_leaves) (defBody st_law_leaves) (defScope st_law_leaves) .none kV doc pm an cdv ct) N_law_leaves fn_law_leaves st_law_leaves :=
  ⟨m, fun_mk l c k, rfl, rfl, by decide, sc_law_leaves, ok_law_leaves, (fun_mk (st := st_law_leaves) l c k).binds fun _ _ _ _ _ _ us hl => match us, hl with | [_, _, _], _ => rfl⟩
theorem at_law_picked {f : Addr} {oc : Value} {od an : Option Addr} {osl : Array (Option Value)} {kV doc pm cdv ct : Value} (m : mg "_law_picked" = some (.ref f)) (l : K.lookup f = some ⟨oc, od, .func (PySem.W.fnOf "_law_picked" "_law_picked" (defArgs st_law_picked) (defBody st_law_picked) (defScope st_law_picked) .none kV doc pm an cdv ct), osl⟩)
    (c : PySem.W.codeIn K cdv "_law_picked" = true) (k : PySem.W.keepIn K (.ref f) = true) : DefAt P0 K mg T f_law_picked "_law_picked" f (PySem.W.fnOf "_law_picked" "_law_picked" (defArgs st_law_picked) (defBody st_law_picked) (defScope st_law_picked) .none kV doc pm an cdv ct) N_law_picked fn_law_picked st_law_picked :=
  ⟨m, fun_mk l c k, rfl, rfl, by decide, sc_law_picked, ok_law_picked, (fun_mk (st := st_law_picked) l c k).binds fun _ _ _ _ _ _ us hl => match us, hl with | [_, _, _], _ => rfl⟩
theorem at_law_form {f : Addr} {oc : Value} {od an : Option Addr} {osl : Array (Option Value)} {kV doc pm cdv ct : Value} (m : mg "_law_form" = some (.ref f)) (l : K.lookup f = some ⟨oc, od, .func (PySem.W.fnOf "_law_form" "_law_form" (defArgs st_law_form) (defBody st_law_form) (defScope st_law_form) .none kV doc pm an cdv ct), osl⟩)
    (c : PySem.W.codeIn K cdv "_law_form" = true) (k : PySem.W.keepIn K (.ref f) = true) : DefAt P0 K mg T f_law_form "_law_form" f (PySem.W.fnOf "_law_form" "_law_form" (defArgs st_law_form) (defBody st_law_form) (defScope st_law_form) .none kV doc pm an cdv ct) N_law_form fn_law_form st_law_form :=
  ⟨m, fun_mk l c k, rfl, rfl, by decide, sc_law_form, ok_law_form, (fun_mk (st := st_law_form) l c k).binds fun _ _ _ _ _ _ us hl => match us, hl with | [_, _], _ => rfl⟩
theorem at_law_is_int {f : Addr} {oc : Value} {od an : Option Addr} {osl : Array (Option Value)} {kV doc pm cdv ct : Value} (m : mg "_law_is_int" = some (.ref f)) (l : K.lookup f = some ⟨oc, od, .func (PySem.W.fnOf "_law_is_int" "_law_is_int" (defArgs st_law_is_int) (defBody st_law_is_int) (defScope st_law_is_int) .none kV doc pm an cdv ct), osl⟩)
    (c : PySem.W.codeIn K cdv "_law_is_int" = true) (k : PySem.W.keepIn K (.ref f) = true) : DefAt P0 K mg T f_law_is_int "_law_is_int" f (PySem.W.fnOf "_law_is_int" "_law_is_int" (defArgs st_law_is_int) (defBody st_law_is_int) (defScope st_law_is_int) .none kV doc pm an cdv ct) N_law_is_int fn_law_is_int st_law_is_int :=
  ⟨m, fun_mk l c k, rfl, rfl, by decide, sc_law_is_int, ok_law_is_int, (fun_mk (st := st_law_is_int) l c k).binds fun _ _ _ _ _ _ us hl => match us, hl with | [_], _ => rfl⟩
theorem at_law_sum {f : Addr} {oc : Value} {od an : Option Addr} {osl : Array (Option Value)} {kV doc pm cdv ct : Value} (m : mg "_law_sum" = some (.ref f)) (l : K.lookup f = some ⟨oc, od, .func (PySem.W.fnOf "_law_sum" "_law_sum" (defArgs st_law_sum) (defBody st_law_sum) (defScope st_law_sum) .none kV doc pm an cdv ct), osl⟩)
    (c : PySem.W.codeIn K cdv "_law_sum" = true) (k : PySem.W.keepIn K (.ref f) = true) : DefAt P0 K mg T f_law_sum "_law_sum" f (PySem.W.fnOf "_law_sum" "_law_sum" (defArgs st_law_sum) (defBody st_law_sum) (defScope st_law_sum) .none kV doc pm an cdv ct) N_law_sum fn_law_sum st_law_sum :=
  ⟨m, fun_mk l c k, rfl, rfl, by decide, sc_law_sum, ok_law_sum, (fun_mk (st := st_law_sum) l c k).binds fun _ _ _ _ _ _ us hl => match us, hl with | [_], _ => rfl⟩
theorem at_law_strings {f : Addr} {oc : Value} {od an : Option Addr} {osl : Array (Option Value)} {kV doc pm cdv ct : Value} (m : mg "_law_strings" = some (.ref f)) (l : K.lookup f = some ⟨oc, od, .func (PySem.W.fnOf "_law_strings" "_law_strings" (defArgs st_law_strings) (defBody st_law_strings) (defScope st_law_strings) .none kV doc pm an cdv ct), osl⟩)
    (c : PySem.W.codeIn K cdv "_law_strings" = true) (k : PySem.W.keepIn K (.ref f) = true) : DefAt P0 K mg T f_law_strings "_law_strings" f (PySem.W.fnOf "_law_strings" "_law_strings" (defArgs st_law_strings) (defBody st_law_strings) (defScope st_law_strings) .none kV doc pm an cdv ct) N_law_strings fn_law_strings st_law_strings :=
  ⟨m, fun_mk l c k, rfl, rfl, by decide, sc_law_strings, ok_law_strings, (fun_mk (st := st_law_strings) l c k).binds fun _ _ _ _ _ _ us hl => match us, hl with | [_], _ => rfl⟩
theorem at_law_is_free {f : Addr} {oc : Value} {od an : Option Addr} {osl : Array (Option Value)} {kV doc pm cdv ct : Value} (m : mg "_law_is_free" = some (.ref f)) (l : K.lookup f = some ⟨oc, od, .func (PySem.W.fnOf "_law_is_free" "_law_is_free" (defArgs st_law_is_free) (defBody st_law_is_free) (defScope st_law_is_free) .none kV doc pm an cdv ct), osl⟩)
    (c : PySem.W.codeIn K cdv "_law_is_free" = true) (k : PySem.W.keepIn K (.ref f) = true) : DefAt P0 K mg T f_law_is_free "_law_is_free" f (PySem.W.fnOf "_law_is_free" "_law_is_free" (defArgs st_law_is_free) (defBody st_law_is_free) (defScope st_law_is_free) .none kV doc pm an cdv ct) N_law_is_free fn_law_is_free st_law_is_free :=
  ⟨m, fun_mk l c k, rfl, rfl, by decide, sc_law_is_free, ok_law_is_free, (fun_mk (st := st_law_is_free) l c k).binds fun _ _ _ _ _ _ us hl => match us, hl with | [_, _], _ => rfl⟩
theorem at_law_free_of {f : Addr} {oc : Value} {od an : Option Addr} {osl : Array (Option Value)} {kV doc pm cdv ct : Value} (m : mg "_law_free_of" = some (.ref f)) (l : K.lookup f = some ⟨oc, od, .func (PySem.W.fnOf "_law_free_of" "_law_free_of" (defArgs st_law_free_of) (defBody st_law_free_of) (defScope st_law_free_of) .none kV doc pm an cdv ct), osl⟩)
    (c : PySem.W.codeIn K cdv "_law_free_of" = true) (k : PySem.W.keepIn K (.ref f) = true) : DefAt P0 K mg T f_law_free_of "_law_free_of" f (PySem.W.fnOf "_law_free_of" "_law_free_of" (defArgs st_law_free_of) (defBody st_law_free_of) (defScope st_law_free_of) .none kV doc pm an cdv ct) N_law_free_of fn_law_free_of st_law_free_of :=
  ⟨m, fun_mk l c k, rfl, rfl, by decide, sc_law_free_of, ok_law_free_of, (fun_mk (st := st_law_free_of) l c k).binds fun _ _ _ _ _ _ us hl => match us, hl with | [_, _], _ => rfl⟩
theorem at_law_free {f : Addr} {oc : Value} {od an : Option Addr} {osl : Array (Option Value)} {kV doc pm cdv ct : Value} (m : mg "_law_free" = some (.ref f)) (l : K.lookup f = some ⟨oc, od, .func (PySem.W.fnOf "_law_free" "_law_free" (defArgs st_law_free) (defBody st_law_free) (defScope st_law_free) .none kV doc pm an cdv ct), osl⟩)
    (c : PySem.W.codeIn K cdv "_law_free" = true) (k : PySem.W.keepIn K (.ref f) = true) : DefAt P0 K mg T f_law_free "_law_free" f (PySem.W.fnOf "_law_free" "_law_free" (defArgs st_law_free) (defBody st_law_free) (defScope st_law_free) .none kV doc pm an cdv ct) N_law_free fn_law_free st_law_free :=
  ⟨m, fun_mk l c k, rfl, rfl, by decide, sc_law_free, ok_law_free, (fun_mk (st := st_law_free) l c k).binds fun _ _ _ _ _ _ us hl => match us, hl with | [_, _], _ => rfl⟩
theorem at_law_asked {f : Addr} {oc : Value} {od an : Option Addr} {osl : Array (Option Value)} {kV doc pm cdv ct : Value} (m : mg "_law_asked" = some (.ref f)) (l : K.lookup f = some ⟨oc, od, .func (PySem.W.fnOf "_law_asked" "_law_asked" (defArgs st_law_asked) (defBody st_law_asked) (defScope st_law_asked) .none kV doc pm an cdv ct), osl⟩)
    (c : PySem.W.codeIn K cdv "_law_asked" = true) (k : PySem.W.keepIn K (.ref f) = true) : DefAt P0 K mg T f_law_asked "_law_asked" f (PySem.W.fnOf "_law_asked" "_law_asked" (defArgs st_law_asked) (defBody st_law_asked) (defScope st_law_asked) .none kV doc pm an cdv ct) N_law_asked fn_law_asked st_law_asked :=
  ⟨m, fun_mk l c k, rfl, rfl, by decide, sc_law_asked, ok_law_asked, (fun_mk (st := st_law_asked) l c k).binds fun _ _ _ _ _ _ us hl => match us, hl with | [_, _, _], _ => rfl⟩
theorem at_law_lots {f : Addr} {oc : Value} {od an : Option Addr} {osl : Array (Option Value)} {kV doc pm cdv ct : Value} (m : mg "_law_lots" = some (.ref f)) (l : K.lookup f = some ⟨oc, od, .func (PySem.W.fnOf "_law_lots" "_law_lots" (defArgs st_law_lots) (defBody st_law_lots) (defScope st_law_lots) .none kV doc pm an cdv ct), osl⟩)
    (c : PySem.W.codeIn K cdv "_law_lots" = true) (k : PySem.W.keepIn K (.ref f) = true) : DefAt P0 K mg T f_law_lots "_law_lots" f (PySem.W.fnOf "_law_lots" "_law_lots" (defArgs st_law_lots) (defBody st_law_lots) (defScope st_law_lots) .none kV doc pm an cdv ct) N_law_lots fn_law_lots st_law_lots :=
  ⟨m, fun_mk l c k, rfl, rfl, by decide, sc_law_lots, ok_law_lots, (fun_mk (st := st_law_lots) l c k).binds fun _ _ _ _ _ _ us hl => match us, hl with | [_], _ => rfl⟩
theorem at_law {f : Addr} {oc : Value} {od an : Option Addr} {osl : Array (Option Value)} {kV doc pm cdv ct : Value} (m : mg "law" = some (.ref f)) (l : K.lookup f = some ⟨oc, od, .func (PySem.W.fnOf "law" "law" (defArgs st_law) (defBody st_law) (defScope st_law) .none kV doc pm an cdv ct), osl⟩)
    (c : PySem.W.codeIn K cdv "law" = true) (k : PySem.W.keepIn K (.ref f) = true) : DefAt P0 K mg T f_law "law" f (PySem.W.fnOf "law" "law" (defArgs st_law) (defBody st_law) (defScope st_law) .none kV doc pm an cdv ct) N_law fn_law st_law :=
  ⟨m, fun_mk l c k, rfl, rfl, by decide, sc_law, ok_law, (fun_mk (st := st_law) l c k).binds fun _ _ _ _ _ _ us hl => match us, hl with | [_], _ => rfl⟩
theorem all_mk {w : World} {h : Heap} {fa : Addr} (X : K.In h) (G : h.Ns mainGlobals mg) (hfa : mg "law" = some (.ref fa))
    {f0 : Addr} {oc0 : Value} {od0 an0 : Option Addr} {sl0 : Array (Option Value)} {kV0 dc0 pm0 cd0 ct0 : Value}
    (a0 : PySem.W.nsIn K mainGlobals "begins" = some (some (.ref f0))) (l0 : K.lookup f0 = some ⟨oc0, od0, .func (PySem.W.fnOf "begins" "begins" (defArgs st_begins) (defBody st_begins) (defScope st_begins) .none kV0 dc0 pm0 an0 cd0 ct0), sl0⟩)
    (c0 : PySem.W.codeIn K cd0 "begins" = true) (k0 : PySem.W.keepIn K (.ref f0) = true)
    {f1 : Addr} {oc1 : Value} {od1 an1 : Option Addr} {sl1 : Array (Option Value)} {kV1 dc1 pm1 cd1 ct1 : Value}
    (a1 : PySem.W.nsIn K mainGlobals "kraft_sum" = some (some (.ref f1))) (l1 : K.lookup f1 = some ⟨oc1, od1, .func (PySem.W.fnOf "kraft_sum" "kraft_sum" (defArgs st_kraft_sum) (defBody st_kraft_sum) (defScope st_kraft_sum) .none kV1 dc1 pm1 an1 cd1 ct1), sl1⟩)
    (c1 : PySem.W.codeIn K cd1 "kraft_sum" = true) (k1 : PySem.W.keepIn K (.ref f1) = true)
    {f2 : Addr} {oc2 : Value} {od2 an2 : Option Addr} {sl2 : Array (Option Value)} {kV2 dc2 pm2 cd2 ct2 : Value}
    (a2 : PySem.W.nsIn K mainGlobals "is_tight" = some (some (.ref f2))) (l2 : K.lookup f2 = some ⟨oc2, od2, .func (PySem.W.fnOf "is_tight" "is_tight" (defArgs st_is_tight) (defBody st_is_tight) (defScope st_is_tight) .none kV2 dc2 pm2 an2 cd2 ct2), sl2⟩)
    (c2 : PySem.W.codeIn K cd2 "is_tight" = true) (k2 : PySem.W.keepIn K (.ref f2) = true)
    {f3 : Addr} {oc3 : Value} {od3 an3 : Option Addr} {sl3 : Array (Option Value)} {kV3 dc3 pm3 cd3 ct3 : Value}
    (a3 : PySem.W.nsIn K mainGlobals "free_below" = some (some (.ref f3))) (l3 : K.lookup f3 = some ⟨oc3, od3, .func (PySem.W.fnOf "free_below" "free_below" (defArgs st_free_below) (defBody st_free_below) (defScope st_free_below) .none kV3 dc3 pm3 an3 cd3 ct3), sl3⟩)
    (c3 : PySem.W.codeIn K cd3 "free_below" = true) (k3 : PySem.W.keepIn K (.ref f3) = true)
    {f4 : Addr} {oc4 : Value} {od4 an4 : Option Addr} {sl4 : Array (Option Value)} {kV4 dc4 pm4 cd4 ct4 : Value}
    (a4 : PySem.W.nsIn K mainGlobals "free_tags" = some (some (.ref f4))) (l4 : K.lookup f4 = some ⟨oc4, od4, .func (PySem.W.fnOf "free_tags" "free_tags" (defArgs st_free_tags) (defBody st_free_tags) (defScope st_free_tags) .none kV4 dc4 pm4 an4 cd4 ct4), sl4⟩)
    (c4 : PySem.W.codeIn K cd4 "free_tags" = true) (k4 : PySem.W.keepIn K (.ref f4) = true)
    {f5 : Addr} {oc5 : Value} {od5 an5 : Option Addr} {sl5 : Array (Option Value)} {kV5 dc5 pm5 cd5 ct5 : Value}
    (a5 : PySem.W.nsIn K mainGlobals "_law_jar" = some (some (.ref f5))) (l5 : K.lookup f5 = some ⟨oc5, od5, .func (PySem.W.fnOf "_law_jar" "_law_jar" (defArgs st_law_jar) (defBody st_law_jar) (defScope st_law_jar) .none kV5 dc5 pm5 an5 cd5 ct5), sl5⟩)
    (c5 : PySem.W.codeIn K cd5 "_law_jar" = true) (k5 : PySem.W.keepIn K (.ref f5) = true)
    {f6 : Addr} {oc6 : Value} {od6 an6 : Option Addr} {sl6 : Array (Option Value)} {kV6 dc6 pm6 cd6 ct6 : Value}
    (a6 : PySem.W.nsIn K mainGlobals "_law_draw" = some (some (.ref f6))) (l6 : K.lookup f6 = some ⟨oc6, od6, .func (PySem.W.fnOf "_law_draw" "_law_draw" (defArgs st_law_draw) (defBody st_law_draw) (defScope st_law_draw) .none kV6 dc6 pm6 an6 cd6 ct6), sl6⟩)
    (c6 : PySem.W.codeIn K cd6 "_law_draw" = true) (k6 : PySem.W.keepIn K (.ref f6) = true)
    {f7 : Addr} {oc7 : Value} {od7 an7 : Option Addr} {sl7 : Array (Option Value)} {kV7 dc7 pm7 cd7 ct7 : Value}
    (a7 : PySem.W.nsIn K mainGlobals "_law_leaves" = some (some (.ref f7))) (l7 : K.lookup f7 = some ⟨oc7, od7, .func (PySem.W.fnOf "_law_leaves" "_law_leaves" (defArgs st_law_leaves) (defBody st_law_leaves) (defScope st_law_leaves) .none kV7 dc7 pm7 an7 cd7 ct7), sl7⟩)
    (c7 : PySem.W.codeIn K cd7 "_law_leaves" = true) (k7 : PySem.W.keepIn K (.ref f7) = true)
    {f8 : Addr} {oc8 : Value} {od8 an8 : Option Addr} {sl8 : Array (Option Value)} {kV8 dc8 pm8 cd8 ct8 : Value}
    (a8 : PySem.W.nsIn K mainGlobals "_law_picked" = some (some (.ref f8))) (l8 : K.lookup f8 = some ⟨oc8, od8, .func (PySem.W.fnOf "_law_picked" "_law_picked" (defArgs st_law_picked) (defBody st_law_picked) (defScope st_law_picked) .none kV8 dc8 pm8 an8 cd8 ct8), sl8⟩)
    (c8 : PySem.W.codeIn K cd8 "_law_picked" = true) (k8 : PySem.W.keepIn K (.ref f8) = true)
    {f9 : Addr} {oc9 : Value} {od9 an9 : Option Addr} {sl9 : Array (Option Value)} {kV9 dc9 pm9 cd9 ct9 : Value}
    (a9 : PySem.W.nsIn K mainGlobals "_law_form" = some (some (.ref f9))) (l9 : K.lookup f9 = some ⟨oc9, od9, .func (PySem.W.fnOf "_law_form" "_law_form" (defArgs st_law_form) (defBody st_law_form) (defScope st_law_form) .none kV9 dc9 pm9 an9 cd9 ct9), sl9⟩)
    (c9 : PySem.W.codeIn K cd9 "_law_form" = true) (k9 : PySem.W.keepIn K (.ref f9) = true)
    {f10 : Addr} {oc10 : Value} {od10 an10 : Option Addr} {sl10 : Array (Option Value)} {kV10 dc10 pm10 cd10 ct10 : Value}
    (a10 : PySem.W.nsIn K mainGlobals "_law_is_int" = some (some (.ref f10))) (l10 : K.lookup f10 = some ⟨oc10, od10, .func (PySem.W.fnOf "_law_is_int" "_law_is_int" (defArgs st_law_is_int) (defBody st_law_is_int) (defScope st_law_is_int) .none kV10 dc10 pm10 an10 cd10 ct10), sl10⟩)
    (c10 : PySem.W.codeIn K cd10 "_law_is_int" = true) (k10 : PySem.W.keepIn K (.ref f10) = true)
    {f11 : Addr} {oc11 : Value} {od11 an11 : Option Addr} {sl11 : Array (Option Value)} {kV11 dc11 pm11 cd11 ct11 : Value}
    (a11 : PySem.W.nsIn K mainGlobals "_law_sum" = some (some (.ref f11))) (l11 : K.lookup f11 = some ⟨oc11, od11, .func (PySem.W.fnOf "_law_sum" "_law_sum" (defArgs st_law_sum) (defBody st_law_sum) (defScope st_law_sum) .none kV11 dc11 pm11 an11 cd11 ct11), sl11⟩)
    (c11 : PySem.W.codeIn K cd11 "_law_sum" = true) (k11 : PySem.W.keepIn K (.ref f11) = true)
    {f12 : Addr} {oc12 : Value} {od12 an12 : Option Addr} {sl12 : Array (Option Value)} {kV12 dc12 pm12 cd12 ct12 : Value}
    (a12 : PySem.W.nsIn K mainGlobals "_law_strings" = some (some (.ref f12))) (l12 : K.lookup f12 = some ⟨oc12, od12, .func (PySem.W.fnOf "_law_strings" "_law_strings" (defArgs st_law_strings) (defBody st_law_strings) (defScope st_law_strings) .none kV12 dc12 pm12 an12 cd12 ct12), sl12⟩)
    (c12 : PySem.W.codeIn K cd12 "_law_strings" = true) (k12 : PySem.W.keepIn K (.ref f12) = true)
    {f13 : Addr} {oc13 : Value} {od13 an13 : Option Addr} {sl13 : Array (Option Value)} {kV13 dc13 pm13 cd13 ct13 : Value}
    (a13 : PySem.W.nsIn K mainGlobals "_law_is_free" = some (some (.ref f13))) (l13 : K.lookup f13 = some ⟨oc13, od13, .func (PySem.W.fnOf "_law_is_free" "_law_is_free" (defArgs st_law_is_free) (defBody st_law_is_free) (defScope st_law_is_free) .none kV13 dc13 pm13 an13 cd13 ct13), sl13⟩)
    (c13 : PySem.W.codeIn K cd13 "_law_is_free" = true) (k13 : PySem.W.keepIn K (.ref f13) = true)
    {f14 : Addr} {oc14 : Value} {od14 an14 : Option Addr} {sl14 : Array (Option Value)} {kV14 dc14 pm14 cd14 ct14 : Value}
    (a14 : PySem.W.nsIn K mainGlobals "_law_free_of" = some (some (.ref f14))) (l14 : K.lookup f14 = some ⟨oc14, od14, .func (PySem.W.fnOf "_law_free_of" "_law_free_of" (defArgs st_law_free_of) (defBody st_law_free_of) (defScope st_law_free_of) .none kV14 dc14 pm14 an14 cd14 ct14), sl14⟩)
    (c14 : PySem.W.codeIn K cd14 "_law_free_of" = true) (k14 : PySem.W.keepIn K (.ref f14) = true)
    {f15 : Addr} {oc15 : Value} {od15 an15 : Option Addr} {sl15 : Array (Option Value)} {kV15 dc15 pm15 cd15 ct15 : Value}
    (a15 : PySem.W.nsIn K mainGlobals "_law_free" = some (some (.ref f15))) (l15 : K.lookup f15 = some ⟨oc15, od15, .func (PySem.W.fnOf "_law_free" "_law_free" (defArgs st_law_free) (defBody st_law_free) (defScope st_law_free) .none kV15 dc15 pm15 an15 cd15 ct15), sl15⟩)
    (c15 : PySem.W.codeIn K cd15 "_law_free" = true) (k15 : PySem.W.keepIn K (.ref f15) = true)
    {f16 : Addr} {oc16 : Value} {od16 an16 : Option Addr} {sl16 : Array (Option Value)} {kV16 dc16 pm16 cd16 ct16 : Value}
    (a16 : PySem.W.nsIn K mainGlobals "_law_asked" = some (some (.ref f16))) (l16 : K.lookup f16 = some ⟨oc16, od16, .func (PySem.W.fnOf "_law_asked" "_law_asked" (defArgs st_law_asked) (defBody st_law_asked) (defScope st_law_asked) .none kV16 dc16 pm16 an16 cd16 ct16), sl16⟩)
    (c16 : PySem.W.codeIn K cd16 "_law_asked" = true) (k16 : PySem.W.keepIn K (.ref f16) = true)
    {f17 : Addr} {oc17 : Value} {od17 an17 : Option Addr} {sl17 : Array (Option Value)} {kV17 dc17 pm17 cd17 ct17 : Value}
    (a17 : PySem.W.nsIn K mainGlobals "_law_lots" = some (some (.ref f17))) (l17 : K.lookup f17 = some ⟨oc17, od17, .func (PySem.W.fnOf "_law_lots" "_law_lots" (defArgs st_law_lots) (defBody st_law_lots) (defScope st_law_lots) .none kV17 dc17 pm17 an17 cd17 ct17), sl17⟩)
    (c17 : PySem.W.codeIn K cd17 "_law_lots" = true) (k17 : PySem.W.keepIn K (.ref f17) = true)
    {f18 : Addr} {oc18 : Value} {od18 an18 : Option Addr} {sl18 : Array (Option Value)} {kV18 dc18 pm18 cd18 ct18 : Value}
    (a18 : PySem.W.nsIn K mainGlobals "law" = some (some (.ref f18))) (l18 : K.lookup f18 = some ⟨oc18, od18, .func (PySem.W.fnOf "law" "law" (defArgs st_law) (defBody st_law) (defScope st_law) .none kV18 dc18 pm18 an18 cd18 ct18), sl18⟩)
    (c18 : PySem.W.codeIn K cd18 "law" = true) (k18 : PySem.W.keepIn K (.ref f18) = true)
    (z_abs : PySem.W.nsIn K mainGlobals "abs" = some none)
    (z_bool : PySem.W.nsIn K mainGlobals "bool" = some none)
    (z_int : PySem.W.nsIn K mainGlobals "int" = some none)
    (z_isinstance : PySem.W.nsIn K mainGlobals "isinstance" = some none)
    (z_len : PySem.W.nsIn K mainGlobals "len" = some none)
    (z_list : PySem.W.nsIn K mainGlobals "list" = some none)
    (z_max : PySem.W.nsIn K mainGlobals "max" = some none)
    (z_range : PySem.W.nsIn K mainGlobals "range" = some none)
    (z_sum : PySem.W.nsIn K mainGlobals "sum" = some none)
    (z_tuple : PySem.W.nsIn K mainGlobals "tuple" = some none)
    (z_zip : PySem.W.nsIn K mainGlobals "zip" = some none)
    (zg : PySem.W.nsIn K mainGlobals "gcd" = some (some (.builtin "math.gcd")))
    : ∃ fd : FuncData, (∀ (s : Shared) (v : Value), BindsTo s fd ⟨[v], []⟩ [("script", v)]) ∧ ∀ base : Heap, K.In base → base.Ns mainGlobals mg → FnOk PySem.Challenge.pw_heldinbits_k04_tag_sums w K mg base (CX PySem.Challenge.pw_heldinbits_k04_tag_sums w) 40 fa fd ["script"] (spF K Cl0 (callF T 40 f_law) 1) := by
  have e := hfa.symm.trans (PySem.W.mg_of X G a18)
  cases e
  have D0 := at_begins (PySem.W.mg_of X G a0) l0 c0 k0
  have D1 := at_kraft_sum (PySem.W.mg_of X G a1) l1 c1 k1
  have D2 := at_is_tight (PySem.W.mg_of X G a2) l2 c2 k2
  have D3 := at_free_below (PySem.W.mg_of X G a3) l3 c3 k3
  have D4 := at_free_tags (PySem.W.mg_of X G a4) l4 c4 k4
  have D5 := at_law_jar (PySem.W.mg_of X G a5) l5 c5 k5
  have D6 := at_law_draw (PySem.W.mg_of X G a6) l6 c6 k6
  have D7 := at_law_leaves (PySem.W.mg_of X G a7) l7 c7 k7
  have D8 := at_law_picked (PySem.W.mg_of X G a8) l8 c8 k8
  have D9 := at_law_form (PySem.W.mg_of X G a9) l9 c9 k9
  have D10 := at_law_is_int (PySem.W.mg_of X G a10) l10 c10 k10
  have D11 := at_law_sum (PySem.W.mg_of X G a11) l11 c11 k11
  have D12 := at_law_strings (PySem.W.mg_of X G a12) l12 c12 k12
  have D13 := at_law_is_free (PySem.W.mg_of X G a13) l13 c13 k13
  have D14 := at_law_free_of (PySem.W.mg_of X G a14) l14 c14 k14
  have D15 := at_law_free (PySem.W.mg_of X G a15) l15 c15 k15
  have D16 := at_law_asked (PySem.W.mg_of X G a16) l16 c16 k16
  have D17 := at_law_lots (PySem.W.mg_of X G a17) l17 c17 k17
  have D18 := at_law (PySem.W.mg_of X G a18) l18 c18 k18
  have hD : ∀ (f : Nat) (x : Str), P0.nm[f]? = some x → ∃ addr fd N fn st, DefAt P0 K mg T f x addr fd N fn st := by
    intro f x hx
    match f, hx with
    | 0, hx => exact (Option.some.inj hx : ("begins" : Str) = x) ▸ ⟨_, _, _, _, _, D0⟩
    | 1, hx => exact (Option.some.inj hx : ("kraft_sum" : Str) = x) ▸ ⟨_, _, _, _, _, D1⟩
    | 2, hx => exact (Option.some.inj hx : ("is_tight" : Str) = x) ▸ ⟨_, _, _, _, _, D2⟩
    | 3, hx => exact (Option.some.inj hx : ("free_below" : Str) = x) ▸ ⟨_, _, _, _, _, D3⟩
    | 4, hx => exact (Option.some.inj hx : ("free_tags" : Str) = x) ▸ ⟨_, _, _, _, _, D4⟩
    | 5, hx => exact (Option.some.inj hx : ("_law_jar" : Str) = x) ▸ ⟨_, _, _, _, _, D5⟩
    | 6, hx => exact (Option.some.inj hx : ("_law_draw" : Str) = x) ▸ ⟨_, _, _, _, _, D6⟩
    | 7, hx => exact (Option.some.inj hx : ("_law_leaves" : Str) = x) ▸ ⟨_, _, _, _, _, D7⟩
    | 8, hx => exact (Option.some.inj hx : ("_law_picked" : Str) = x) ▸ ⟨_, _, _, _, _, D8⟩
    | 9, hx => exact (Option.some.inj hx : ("_law_form" : Str) = x) ▸ ⟨_, _, _, _, _, D9⟩
    | 10, hx => exact (Option.some.inj hx : ("_law_is_int" : Str) = x) ▸ ⟨_, _, _, _, _, D10⟩
    | 11, hx => exact (Option.some.inj hx : ("_law_sum" : Str) = x) ▸ ⟨_, _, _, _, _, D11⟩
    | 12, hx => exact (Option.some.inj hx : ("_law_strings" : Str) = x) ▸ ⟨_, _, _, _, _, D12⟩
    | 13, hx => exact (Option.some.inj hx : ("_law_is_free" : Str) = x) ▸ ⟨_, _, _, _, _, D13⟩
    | 14, hx => exact (Option.some.inj hx : ("_law_free_of" : Str) = x) ▸ ⟨_, _, _, _, _, D14⟩
    | 15, hx => exact (Option.some.inj hx : ("_law_free" : Str) = x) ▸ ⟨_, _, _, _, _, D15⟩
    | 16, hx => exact (Option.some.inj hx : ("_law_asked" : Str) = x) ▸ ⟨_, _, _, _, _, D16⟩
    | 17, hx => exact (Option.some.inj hx : ("_law_lots" : Str) = x) ▸ ⟨_, _, _, _, _, D17⟩
    | 18, hx => exact (Option.some.inj hx : ("law" : Str) = x) ▸ ⟨_, _, _, _, _, D18⟩
    | n + 19, hx => exact absurd hx (by simp [P0, nms])
  have hb : ∀ x, x ∈ P0.bn → mg x = none := by
    intro x hx
    simp only [P0, List.mem_cons, List.not_mem_nil, or_false] at hx
    rcases hx with rfl | rfl | rfl | rfl | rfl | rfl | rfl | rfl | rfl | rfl | rfl
    · exact PySem.W.mg_none_of X G z_abs
    · exact PySem.W.mg_none_of X G z_bool
    · exact PySem.W.mg_none_of X G z_int
    · exact PySem.W.mg_none_of X G z_isinstance
    · exact PySem.W.mg_none_of X G z_len
    · exact PySem.W.mg_none_of X G z_list
    · exact PySem.W.mg_none_of X G z_max
    · exact PySem.W.mg_none_of X G z_range
    · exact PySem.W.mg_none_of X G z_sum
    · exact PySem.W.mg_none_of X G z_tuple
    · exact PySem.W.mg_none_of X G z_zip
  have hg : P0.gcd = true → mg "gcd" = some (.builtin "math.gcd") := fun _ => PySem.W.mg_of X G zg
  exact ⟨_, fun s v => .of_eq rfl, fun base _ _ => defs_ok (Cl := Cl0) hD hb hg 40 f_law "law" _ _ _ _ _ rfl D18⟩
end
end Mi
open PySem PySem.W PyProof.Rows
set_option maxRecDepth 100000 in
set_option maxHeartbeats 0 in
theorem PySem.Challenge.cw_heldinbits_k04_tag_sums_holds : PySem.Challenge.rw_heldinbits_k04_tag_sums.Holds := by
  w_on; o_law; k_head; (case hw => w_witness2)
  k_fill
  refine L2.walk_of (l := PySem.Challenge.rw_heldinbits_k04_tag_sums) (n := 63) (k := 40) (x := "script") (CX := fun w => L2.CX PySem.Challenge.pw_heldinbits_k04_tag_sums w) (sp := fun w => Mi.spF _ Mi.Cl0 (Mi.callF Mi.T 40 Mi.f_law) 1) rfl (by decide) rfl ⟨rfl, by decide, by decide⟩ (fun w h Y => PySem.W.kIn_of Y) ?F
    (fun w H a ns hl _ hS => Mi.law_ok hS (Mi.law_true ns hl)) (fun _ _ _ _ _ h => Mi.cx_no h)
  case F =>
    intro w mg fa h KX G hmg
    refine' Mi.all_mk KX G hmg ?a0 ?l0 ?c0 ?k0 ?a1 ?l1 ?c1 ?k1 ?a2 ?l2 ?c2 ?k2 ?a3 ?l3 ?c3 ?k3 ?a4 ?l4 ?c4 ?k4 ?a5 ?l5 ?c5 ?k5 ?a6 ?l6 ?c6 ?k6 ?a7 ?l7 ?c7 ?k7 ?a8 ?l8 ?c8 ?k8 ?a9 ?l9 ?c9 ?k9 ?a10 ?l10 ?c10 ?k10 ?a11 ?l11 ?c11 ?k11 ?a12 ?l12 ?c12 ?k12 ?a13 ?l13 ?c13 ?k13 ?a14 ?l14 ?c14 ?k14 ?a15 ?l15 ?c15 ?k15 ?a16 ?l16 ?c16 ?k16 ?a17 ?l17 ?c17 ?k17 ?a18 ?l18 ?c18 ?k18 ?z_abs ?z_bool ?z_int ?z_isinstance ?z_len ?z_list ?z_max ?z_range ?z_sum ?z_tuple ?z_zip ?zg
    (case a0 => k_is); (case l0 => k_is); (case c0 => k_is); (case k0 => k_is); (case a1 => k_is); (case l1 => k_is); (case c1 => k_is); (case k1 => k_is)
    (case a2 => k_is); (case l2 => k_is); (case c2 => k_is); (case k2 => k_is); (case a3 => k_is); (case l3 => k_is); (case c3 => k_is); (case k3 => k_is)
    (case a4 => k_is); (case l4 => k_is); (case c4 => k_is); (case k4 => k_is); (case a5 => k_is); (case l5 => k_is); (case c5 => k_is); (case k5 => k_is)
    (case a6 => k_is); (case l6 => k_is); (case c6 => k_is); (case k6 => k_is); (case a7 => k_is); (case l7 => k_is); (case c7 => k_is); (case k7 => k_is)
    (case a8 => k_is); (case l8 => k_is); (case c8 => k_is); (case k8 => k_is); (case a9 => k_is); (case l9 => k_is); (case c9 => k_is); (case k9 => k_is)
    (case a10 => k_is); (case l10 => k_is); (case c10 => k_is); (case k10 => k_is); (case a11 => k_is); (case l11 => k_is); (case c11 => k_is); (case k11 => k_is)
    (case a12 => k_is); (case l12 => k_is); (case c12 => k_is); (case k12 => k_is); (case a13 => k_is); (case l13 => k_is); (case c13 => k_is); (case k13 => k_is)
    (case a14 => k_is); (case l14 => k_is); (case c14 => k_is); (case k14 => k_is); (case a15 => k_is); (case l15 => k_is); (case c15 => k_is); (case k15 => k_is)
    (case a16 => k_is); (case l16 => k_is); (case c16 => k_is); (case k16 => k_is); (case a17 => k_is); (case l17 => k_is); (case c17 => k_is); (case k17 => k_is)
    (case a18 => k_is); (case l18 => k_is); (case c18 => k_is); (case k18 => k_is); (case z_abs => k_is); (case z_bool => k_is); (case z_int => k_is); (case z_isinstance => k_is)
    (case z_len => k_is); (case z_list => k_is); (case z_max => k_is); (case z_range => k_is); (case z_sum => k_is); (case z_tuple => k_is); (case z_zip => k_is); (case zg => k_is)

