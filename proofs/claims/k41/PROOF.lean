import PyProof.Rows.All
import PySem.PyData
import PyProof.P3Statements
import HandS.ForMost
import HandS.Wide
import HandS.TupAny
import HandS.Deep
import PyProof.StrOps2
import KE.LtData
import KE.DataCmp
import KE.DataMinMax
import KE.SortData
import KE.DataFind
import HandS.IsInst
import HandS.Walk
import PyProof.Draws
import PyProof.EnumMake
import HandS.Conv
import HandS.Style
import HandS.More
import PyProof.PassesOwn
import HandS.WideMore
import PySem.Challenge.RW_captionwarrant_k41_where_someone_speaks
set_option linter.all false
/-! L0: a small interpreter over plain data. -/
namespace Q
open PySem
abbrev D := PyData
/-- the law's own state (draws, how many are taken), once it is made -/
abbrev Ws := Option (List Int × Nat)
/-- the value that stands for the state object -/
abbrev W : D := .dict [(.none, .none)]
/-- the law's script: a list that is only read -/
abbrev F (ns : List Int) : D := .dict [(.none, .list (ns.map .int)), (.none, .none)]
/-- a dict's pairs (not the state object, not the script) -/
def dctD : D → Option (List (D × D))
  | _ => none
abbrev M (α : Type) := Ws → Option (α × Ws)
@[simp] def ret {α : Type} (a : α) : M α := fun s => some (a, s)
@[simp] def fail {α : Type} : M α := fun _ => none
/-- M β again; that it names f keeps the simplifier out of f -/
abbrev Mk {α β : Type} (_ : α → M β) : Type := M β
def bnd {α β : Type} (x : M α) (f : α → M β) : Mk f := fun s => match x s with
  | some (a, s') => f a s'
  | none => none
def lift {α : Type} (o : Option α) : M α := fun s => match o with
  | some a => some (a, s)
  | none => none
@[simp] theorem bnd_some {α β : Type} {x : M α} {f : α → M β} {s s' : Ws} {a : α} (h : x s = some (a, s')) : bnd x f s = f a s' := by
  simp [bnd, h]
theorem bnd_none {α β : Type} {x : M α} {f : α → M β} {s : Ws} (h : x s = none) : bnd x f s = none := by
  simp [bnd, h]
@[simp] theorem bnd_ret {α β : Type} {a : α} {f : α → M β} : bnd (fun s => some (a, s)) f = f a := rfl
@[simp] theorem bnd_ret' {α β : Type} {a : α} {f : α → M β} : bnd (ret a) f = f a := rfl
@[simp] theorem bnd_fail {α β : Type} {f : α → M β} : bnd (fun _ => none) f = fun _ => none := rfl
@[simp] theorem lift_some {α : Type} {a : α} : lift (some a) = ret a := rfl
@[simp] theorem lift_none {α : Type} : lift (none : Option α) = fail := rfl
theorem bnd_inv {α β : Type} {x : M α} {f : α → M β} {s : Ws} {r : β × Ws} (h : bnd x f s = some r) : ∃ a s', x s = some (a, s') ∧ f a s' = some r := by
  unfold bnd at h
  split at h
  · rename_i a s' e
    exact ⟨a, s', e, h⟩
  · cases h
theorem lift_inv {α : Type} {o : Option α} {s : Ws} {r : α × Ws} (h : lift o s = some r) : ∃ a, o = some a ∧ r = (a, s) := by
  unfold lift at h
  split at h
  · cases h
    exact ⟨_, rfl, rfl⟩
  · cases h

/-! ### texts -/
/-- a text by its codes -/
abbrev S (l : List Nat) : Str := ⟨l.toArray⟩
def strMax : Nat := 16000000
def okS (x : Str) : Bool := x.cps.all (· < 0x110000) && decide (x.cps.size ≤ strMax)

/-! ### operators -/
inductive Op | add | sub | mul | fdiv | mod | pow
  deriving DecidableEq
inductive Cp | eq | ne | lt | le | gt | ge | in_ | nin
  deriving DecidableEq
def lineMax : Nat := 16000000
def addD : D → D → Option D
  | .int a, .int b => some (.int (a + b))
  | .str a, .str b => if a.cps.size + b.cps.size ≤ strMax then some (.str ⟨a.cps ++ b.cps⟩) else none
  | .tuple a, .tuple b => if a.length + b.length ≤ lineMax then some (.tuple (a ++ b)) else none
  | .list a, .list b => if a.length + b.length ≤ lineMax then some (.list (a ++ b)) else none
  | _, _ => none
def repS (s : List Nat) (k : Nat) : List Nat := (List.replicate k s).flatten
def repL (s : List D) (k : Nat) : List D := (List.replicate k s).flatten
def mulD : D → D → Option D
  | .int a, .int b => if a.natAbs < 2 ^ 64 ∨ b.natAbs < 2 ^ 64 then some (.int (a * b)) else none
  | .str a, .int b => if -(2 ^ 60) < b ∧ b < 2 ^ 60 ∧ a.cps.size * b.toNat ≤ strMax then some (.str (S (repS a.cps.toList b.toNat))) else none
  | .list a, .int b => if -(2 ^ 60) < b ∧ b < 2 ^ 60 ∧ a.length * b.toNat ≤ lineMax then some (.list (repL a b.toNat)) else none
  | _, _ => none
def binD : Op → D → D → Option D
  | .add, a, b => addD a b
  | .sub, .int a, .int b => some (.int (a - b))
  | .mul, a, b => mulD a b
  | .fdiv, .int a, .int b => if 0 < b ∧ b < 2 ^ 62 then some (.int (a / b)) else none
  | .mod, .int a, .int b => if 0 < b then some (.int (a % b)) else none
  | .pow, .int a, .int b => if 0 ≤ b ∧ b ≤ 1000 ∧ a.natAbs < 2 ^ 64 then some (.int (a ^ b.toNat)) else none
  | _, _, _ => none

/-- no dict within, at most so deep -/
def gd : Nat → D → Bool
  | _, .none => true
  | _, .bool _ => true
  | _, .int _ => true
  | _, .str _ => true
  | _, .dict _ => false
  | 0, .list _ => false
  | 0, .tuple _ => false
  | n + 1, .list xs => xs.all (gd n)
  | n + 1, .tuple xs => xs.all (gd n)
def eqD (a b : D) : Option Bool := if gd 60 a = true ∧ gd 60 b = true then some (PyData.eqv a b) else none
mutual
/-- may be compared, place by place -/
def alk : D → D → Bool
  | .none, .none => true
  | .bool _, .bool _ => true
  | .int _, .int _ => true
  | .str _, .str _ => true
  | .list xs, .list ys => alkL xs ys
  | .tuple xs, .tuple ys => alkL xs ys
  | _, _ => false
def alkL : List D → List D → Bool
  | x :: xs, y :: ys => alk x y && alkL xs ys
  | [], _ => true
  | _ :: _, [] => true
end
mutual
/-- a < b, of alike ones -/
def ltd : D → D → Bool
  | .bool a, .bool b => !a && b
  | .int a, .int b => decide (a < b)
  | .str a, .str b => decide (a.cps.toList < b.cps.toList)
  | .list xs, .list ys => ltds xs ys
  | .tuple xs, .tuple ys => ltds xs ys
  | _, _ => false
def ltds : List D → List D → Bool
  | _, [] => false
  | [], _ :: _ => true
  | x :: xs, y :: ys => if PyData.eqv x y = true then ltds xs ys else ltd x y
end
def isN : D → Bool
  | .none => true
  | _ => false
def ltD (a b : D) : Option Bool := if alk a b = true ∧ isN a = false ∧ gd 60 a = true ∧ gd 60 b = true then some (ltd a b) else none
/-- all may be compared with each other -/
def allAlk (xs : List D) : Bool := xs.all fun a => !isN a && gd 60 a && xs.all fun b => alk a b
def valD : List (D × D) → D → Option D
  | [], _ => none
  | (k, v) :: r, x => if PyData.eqv k x = true then some v else valD r x
/-- what may be a key: an int, a text, a tuple of these -/
def keyD : D → Bool
  | .int _ => true
  | .str _ => true
  | .tuple xs => xs.all fun x => match x with
    | .int _ => true
    | .str _ => true
    | _ => false
  | _ => false
def inD : D → D → Option Bool
  | x, .list ys => if gd 60 x = true ∧ gd 60 (.list ys) = true then some (ys.any fun y => PyData.eqv y x) else none
  | x, .tuple ys => if gd 60 x = true ∧ gd 60 (.tuple ys) = true then some (ys.any fun y => PyData.eqv y x) else none
  | .str a, .str b => match a.cps.toList with
    | [c] => some (decide (c ∈ b.cps.toList))
    | _ => none
  | x, y => match dctD y with
    | some kvs => if keyD x = true then some (valD kvs x).isSome else none
    | none => none
def cmpD : Cp → D → D → Option D
  | .eq, a, b => (eqD a b).map .bool
  | .ne, a, b => (eqD a b).map fun k => .bool (!k)
  | .lt, a, b => (ltD a b).map .bool
  | .gt, a, b => (ltD b a).map .bool
  | .le, .int a, .int b => some (.bool (decide (a ≤ b)))
  | .ge, .int a, .int b => some (.bool (decide (b ≤ a)))
  | .le, _, _ => none
  | .ge, _, _ => none
  | .in_, a, b => (inD a b).map .bool
  | .nin, a, b => (inD a b).map fun k => .bool (!k)

/-! ### places, slices -/
def atL {α : Type} (xs : List α) (i : Int) : Option α := if 0 ≤ i then xs[i.toNat]? else if -(xs.length : Int) ≤ i then xs[(i + (xs.length : Int)).toNat]? else none
/-- a slice's bound: none, or cut to 0 .. n -/
def cutB (n : Nat) (d : Nat) : Option Int → Nat
  | none => d
  | some i => if i < 0 then (i + (n : Int)).toNat else min i.toNat n
def slcL {α : Type} (xs : List α) (lo hi : Option Int) : List α := (xs.drop (cutB xs.length 0 lo)).take (cutB xs.length xs.length hi - cutB xs.length 0 lo)
def idxD : D → D → Ws → Option D
  | .list xs, .int i, _ => atL xs i
  | .tuple xs, .int i, _ => atL xs i
  | .str x, .int i, _ => (atL x.cps.toList i).map fun c => .str (S [c])
  | .dict [(.none, .none)], .str k, some (ns, n) => if k = S [97, 116] then some (.int n) else if k = S [100, 114, 97, 119, 115] then some (.list (ns.map .int)) else none
  | .dict [(.none, .list xs), (.none, .none)], .int i, _ => if 0 ≤ i then xs[i.toNat]? else none
  | _, _, _ => none
def slcD (a : D) (lo hi : Option Int) : Option D := match a with
  | .list xs => some (.list (slcL xs lo hi))
  | .tuple xs => some (.tuple (slcL xs lo hi))
  | .str x => some (.str (S (slcL x.cps.toList lo hi)))
  | _ => none
def revD : D → Option D
  | .list xs => some (.list xs.reverse)
  | _ => none

/-! ### built-in functions -/
inductive Ty | bool | int | str | tuple | dict
  deriving DecidableEq
inductive Bl | len | abs | int | sum | all | any | tuple | list | dict | dict0 | sorted | max1 | min1 | max2 | min2 | max3 | min3 | str | sset | lset | lrange
  deriving DecidableEq
def isiD : Ty → D → Option Bool
  | _, .dict _ => none
  | .bool, .bool _ => some true
  | .int, .int _ => some true
  | .int, .bool _ => some true
  | .str, .str _ => some true
  | .tuple, .tuple _ => some true
  | _, _ => some false
def intsD : List D → Option (List Int)
  | [] => some []
  | .int i :: r => (intsD r).map (i :: ·)
  | _ => none
def boolsD : List D → Option (List Bool)
  | [] => some []
  | .bool b :: r => (boolsD r).map (b :: ·)
  | _ => none
def strsD : List D → Option (List Str)
  | [] => some []
  | .str x :: r => (strsD r).map (x :: ·)
  | _ => none
def itemsD : D → Option (List D)
  | .list xs => some xs
  | .tuple xs => some xs
  | .str x => some (x.cps.toList.map fun c => .str (S [c]))
  | _ => none
def lenD : D → Option Nat
  | .list xs => some xs.length
  | .tuple xs => some xs.length
  | .str x => some x.cps.size
  | .dict [(.none, .list xs), (.none, .none)] => some xs.length
  | _ => none
/-- the first greatest, the first least -/
def maxL : List D → Option D
  | [] => none
  | x :: r => if allAlk (x :: r) = true then some (r.foldl (fun a y => if ltd a y = true then y else a) x) else none
def minL : List D → Option D
  | [] => none
  | x :: r => if allAlk (x :: r) = true then some (r.foldl (fun a y => if ltd y a = true then y else a) x) else none
def putD : List (D × D) → D → D → List (D × D)
  | [], k, v => [(k, v)]
  | (j, u) :: r, k, v => if PyData.eqv j k = true then (j, v) :: r else (j, u) :: putD r k v
def pairsD : List D → Option (List (D × D))
  | [] => some []
  | .tuple [k, v] :: r => (pairsD r).map ((k, v) :: ·)
  | _ => none
def isTp : D → Bool
  | .tuple (_ :: _) => true
  | _ => false
def isTu : D → Bool
  | .tuple _ => true
  | _ => false
def sortD (xs : List D) : Option (List D) := if allAlk xs = true ∧ (xs.all isTp = true ∨ xs.all (fun x => !isTu x) = true) then some (xs.mergeSort fun a b => !ltd b a) else none
/-- each once, the first of equal ones -/
def uniqD : List D → List D
  | [] => []
  | x :: r => x :: (uniqD r).filter fun y => !PyData.eqv x y
def decS (n : Nat) : List Nat := (toString n).toList.map Char.toNat
def strI (i : Int) : List Nat := if i < 0 then 45 :: decS i.natAbs else decS i.natAbs
def blD : Bl → List D → Option D
  | .len, [a] => (lenD a).map fun n => .int n
  | .abs, [.int i] => some (.int (if i < 0 then -i else i))
  | .int, [.int i] => some (.int i)
  | .int, [.bool b] => some (.int (if b then 1 else 0))
  | .sum, [.list xs] => (intsD xs).map fun ns => .int ns.sum
  | .all, [.list xs] => (boolsD xs).map fun bs => .bool (bs.all id)
  | .any, [.list xs] => (boolsD xs).map fun bs => .bool (bs.any id)
  | .tuple, [.tuple xs] => some (.tuple xs)
  | .tuple, [.list xs] => some (.tuple xs)
  | .list, [.list xs] => some (.list xs)
  | .list, [.tuple xs] => some (.list xs)
  | .sorted, [.list xs] => (sortD xs).map .list
  | .max1, [.list xs] => maxL xs
  | .max1, [.tuple xs] => maxL xs
  | .min1, [.list xs] => minL xs
  | .min1, [.tuple xs] => minL xs
  | .max2, [.int a, .int b] => some (.int (if b > a then b else a))
  | .min2, [.int a, .int b] => some (.int (if b < a then b else a))
  | _, _ => none
/-! ### methods -/
inductive Mt | join | split | count | index | get1 | get2 | replace
  deriving DecidableEq
def joinS (sep : List Nat) : List (List Nat) → List Nat
  | [] => []
  | [x] => x
  | x :: r => x ++ sep ++ joinS sep r
/-- cut at each sign c -/
def splitC (c : Nat) : List Nat → List (List Nat)
  | [] => [[]]
  | x :: r => if x = c then [] :: splitC c r else match splitC c r with
    | [] => [[x]]
    | p :: ps => (x :: p) :: ps
def idxOf : List D → D → Option Nat
  | [], _ => none
  | y :: r, x => if PyData.eqv y x = true then some 0 else (idxOf r x).map (· + 1)
def joinD (z : Str) (xs : List D) : Option D := match strsD xs with
  | some ys => if (ys.map (·.cps.size)).sum + ys.length * z.cps.size ≤ strMax then some (.str (S (joinS z.cps.toList (ys.map (·.cps.toList))))) else none
  | none => none
def mtD : Mt → D → List D → Option D
  | .join, .str z, [.list xs] => joinD z xs
  | .join, .str z, [.tuple xs] => joinD z xs
  | .index, .list xs, [x] => if gd 60 x = true ∧ gd 60 (.list xs) = true then (idxOf xs x).map fun n => .int (n : Nat) else none
  | _, _, _ => none

/-! ### the state of a def's names -/
inductive Sl | un | cl (d : D) | ol (ds : List D) | od (kvs : List (D × D))
abbrev Env := List Sl
/-- what may be read (an own list or dict, too) -/
def Sl.read : Sl → Option D
  | .cl d => some d
  | .ol ds => some (.list ds)
  | .od kvs => some (.dict kvs)
  | .un => none
/-- what may be kept -/
def Sl.keep : Sl → Option D
  | .cl d => some d
  | _ => none
def Env.read (σ : Env) (i : Nat) : Option D := match σ[i]? with
  | some x => x.read
  | none => none
def Env.keep (σ : Env) (i : Nat) : Option D := match σ[i]? with
  | some x => x.keep
  | none => none
inductive Tg | v (i : Nat) | t (gs : List Tg)
mutual
def bindT : Tg → D → Env → Option Env
  | .v i, d, σ => some (σ.set i (.cl d))
  | .t gs, .tuple ds, σ => bindTs gs ds σ
  | .t _, _, _ => none
def bindTs : List Tg → List D → Env → Option Env
  | [], [], σ => some σ
  | g :: gs, d :: ds, σ => match bindT g d σ with
    | some σ1 => bindTs gs ds σ1
    | none => none
  | [], _ :: _, _ => none
  | _ :: _, [], _ => none
end
def wipeE (σ : Env) : List Nat → Env
  | [] => σ
  | v :: vs => (wipeE σ vs).set v .un
/-- without what is open -/
def hideS : Sl → Sl
  | .ol _ => .un
  | .od _ => .un
  | x => x
def hideE (σ : Env) : Env := σ.map hideS
mutual
/-- a target's names -/
def tgV : Tg → List Nat
  | .v i => [i]
  | .t gs => tgVs gs
def tgVs : List Tg → List Nat
  | [] => []
  | g :: gs => tgV g ++ tgVs gs
end

/-! ### the syntax -/
mutual
inductive Tm
  | var (i : Nat) | cst (d : D) | tup (es : List Tm) | lst (es : List Tm) | dct (es : List Tm)
  | bin (op : Op) (a b : Tm) | neg (a : Tm) | not (a : Tm) | and (a b : Tm) | or (a b : Tm)
  | cmp (c : Cp) (a b : Tm) | isN (a : Tm) | notN (a : Tm) | chn (c1 c2 : Cp) (a b c : Tm) | ite (c a b : Tm)
  | idx (a b : Tm) | slc (a : Tm) (lo hi : Option Tm) | rev (a : Tm)
  | call (f : Nat) (es : List Tm) | bl (b : Bl) (es : List Tm) | mt (m : Mt) (o : Tm) (es : List Tm)
  | itl (t : Bool) (it : It) | isB (k b : Bool) (a : Tm) | isi (t : Ty) (a : Tm)
  | lc (own : List Nat) (g : Tg) (it : It) (c : Option Tm) (e : Tm)
  | lc2 (own : List Nat) (g : Tg) (it : It) (g1 : Tg) (it1 : It) (c : Option Tm) (e : Tm)
inductive It
  | it (a : Tm) | rg1 (a : Tm) | rg2 (a b : Tm) | rg3 (a b c : Tm) | enum (a : Tm) | zip (a b : Tm) | zip3 (a b c : Tm)
end
inductive St
  | asg (g : Tg) (e : Tm) | own (i : Nat) (e : Tm) | par (is : List (Nat × Bool)) (es : List Tm) | aug (i : Nat) (op : Op) (e : Tm)
  | app (i : Nat) (e : Tm) | ext (i : Nat) (e : Tm) | ins (i : Nat) (k e : Tm) | put (i : Nat) (k e : Tm) | aput (i : Nat) (op : Op) (k e : Tm) | upd (i : Nat) (e : Tm)
  | wat (i : Nat) | w0 (i : Nat) (e : Tm)
  | ifs (c : Tm) (a b : List St) | for_ (g : Tg) (it : It) (b : List St) | whl (c : Tm) (b : List St)
  | ret (e : Tm) | retn | brk | cnt | pass | close (i : Nat)

/-! ### running -/
def lcL (step : D → M (Option D)) : List D → M (List D)
  | [] => ret []
  | d :: r => bnd (step d) fun o => bnd (lcL step r) fun l => ret (match o with
    | some x => x :: l
    | none => l)
def lcL2 (step : D → M (List D)) : List D → M (List D)
  | [] => ret []
  | d :: r => bnd (step d) fun o => bnd (lcL2 step r) fun l => ret (o ++ l)
def zipD : List D → List D → List D
  | a :: r, b :: q => .tuple [a, b] :: zipD r q
  | _, _ => []
def zip3D : List D → List D → List D → List D
  | a :: r, b :: q, c :: p => .tuple [a, b, c] :: zip3D r q p
  | _, _, _ => []
def enumD : Nat → List D → List D
  | _, [] => []
  | k, a :: r => .tuple [.int k, a] :: enumD (k + 1) r
def rgD (a b : Int) : List D := (List.range (b - a).toNat).map fun (k : Nat) => .int (a + k)
/-- downward -/
def rgM (a b : Int) : List D := (List.range (a - b).toNat).map fun (k : Nat) => .int (a - k)
def bigI (a : Int) : Bool := decide (-(2 ^ 60) < a) && decide (a < 2 ^ 60)
/-- what enumerate takes -/
def enD : D → Option (List D)
  | .list xs => some xs
  | .str z => itemsD (.str z)
  | _ => none
def seqD : D → Option (List D)
  | .list xs => some xs
  | .tuple xs => some xs
  | _ => none
def boolD : D → Option Bool
  | .bool b => some b
  | _ => none
def intD : D → Option Int
  | .int i => some i
  | _ => none
def pairUp : List D → Option (List (D × D))
  | [] => some []
  | k :: v :: r => (pairUp r).map ((k, v) :: ·)
  | _ => none
/-- an operation whose answer may hang on the state -/
def idxM (a b : D) : M D := fun s => match idxD a b s with
  | some d => some (d, s)
  | none => none
mutual
/-- e's value: to be kept; r: to be read alone -/
def ev (C : Nat → List D → M D) : Bool → Tm → Env → M D
  | r, .var i, σ => lift (if r = true then σ.read i else σ.keep i)
  | _, .cst d, _ => ret d
  | _, .tup es, σ => bnd (evs C false es σ) fun ds => ret (.tuple ds)
  | _, .lst es, σ => bnd (evs C false es σ) fun ds => ret (.list ds)
  | _, .dct es, σ => bnd (evs C false es σ) fun ds => bnd (lift (pairUp ds)) fun ps => ret (.dict (ps.foldl (fun m p => putD m p.1 p.2) []))
  | _, .bin op a b, σ => bnd (ev C true a σ) fun x => bnd (ev C true b σ) fun y => lift (binD op x y)
  | _, .neg a, σ => bnd (ev C false a σ) fun x => bnd (lift (intD x)) fun i => ret (.int (-i))
  | _, .not a, σ => bnd (ev C false a σ) fun x => bnd (lift (boolD x)) fun b => ret (.bool (!b))
  | _, .and a b, σ => bnd (ev C false a σ) fun x => bnd (lift (boolD x)) fun k => if k = true then ev C false b σ else ret (.bool false)
  | _, .or a b, σ => bnd (ev C false a σ) fun x => bnd (lift (boolD x)) fun k => if k = true then ret (.bool true) else ev C false b σ
  | _, .cmp c a b, σ => bnd (ev C true a σ) fun x => bnd (ev C true b σ) fun y => lift (cmpD c x y)
  | _, .isN a, σ => bnd (ev C false a σ) fun x => ret (.bool (isN x))
  | _, .notN a, σ => bnd (ev C false a σ) fun x => ret (.bool (!isN x))
  | _, .chn c1 c2 a b c, σ => bnd (ev C true a σ) fun x => bnd (ev C true b σ) fun y => bnd (lift (cmpD c1 x y)) fun k => bnd (lift (boolD k)) fun k =>
      if k = true then bnd (ev C true c σ) fun z => lift (cmpD c2 y z) else ret (.bool false)
  | _, .ite c a b, σ => bnd (ev C false c σ) fun x => bnd (lift (boolD x)) fun k => if k = true then ev C false a σ else ev C false b σ
  | _, .idx a b, σ => bnd (ev C true a σ) fun x => bnd (ev C false b σ) fun y => idxM x y
  | _, .slc a lo hi, σ => bnd (ev C true a σ) fun x => bnd (evo C lo σ) fun l => bnd (evo C hi σ) fun h => lift (slcD x l h)
  | _, .rev a, σ => bnd (ev C true a σ) fun x => lift (revD x)
  | _, .call f es, σ => bnd (evs C false es σ) fun ds => C f ds
  | _, .bl b es, σ => bnd (evs C true es σ) fun ds => lift (blD b ds)
  | _, .mt m o es, σ => bnd (ev C true o σ) fun x => bnd (evs C true es σ) fun ds => lift (mtD m x ds)
  | _, .itl t it, σ => bnd (evI C true it σ) fun ds => if ds.length ≤ lineMax then ret (if t = true then .tuple ds else .list ds) else fail
  | _, .isi t a, σ => bnd (ev C true a σ) fun x => bnd (lift (isiD t x)) fun b => ret (.bool b)
  | _, .isB k b a, σ => bnd (ev C false a σ) fun x => bnd (lift (boolD x)) fun c => ret (.bool (k == (b == c)))
  | _, .lc own g it c e, σ => bnd (evI C true it σ) fun ds => bnd (lcL (fun d => match bindT g d (wipeE σ own) with
      | some σ1 => bnd (evc C c σ1) fun k => if k = true then bnd (ev C false e σ1) fun x => ret (some x) else ret none
      | none => fail) ds) fun l => ret (.list l)
  | _, .lc2 own g it g1 it1 c e, σ => bnd (evI C true it σ) fun ds => bnd (lcL2 (fun d => match bindT g d (wipeE σ own) with
      | some σ1 => bnd (evI C false it1 (hideE σ1)) fun ds1 => lcL (fun d1 => match bindT g1 d1 (wipeE (hideE σ1) (tgV g1)) with
        | some σ2 => bnd (evc C c σ2) fun k => if k = true then bnd (ev C false e σ2) fun x => ret (some x) else ret none
        | none => fail) ds1
      | none => fail) ds) fun l => if l.length ≤ lineMax then ret (.list l) else fail
def evs (C : Nat → List D → M D) : Bool → List Tm → Env → M (List D)
  | _, [], _ => ret []
  | r, e :: es, σ => bnd (ev C r e σ) fun x => bnd (evs C r es σ) fun xs => ret (x :: xs)
def evo (C : Nat → List D → M D) : Option Tm → Env → M (Option Int)
  | none, _ => ret none
  | some e, σ => bnd (ev C false e σ) fun x => bnd (lift (intD x)) fun i => ret (some i)
/-- a clause's test -/
def evc (C : Nat → List D → M D) : Option Tm → Env → M Bool
  | none, _ => ret true
  | some e, σ => bnd (ev C false e σ) fun x => lift (boolD x)
def evI (C : Nat → List D → M D) : Bool → It → Env → M (List D)
  | r, .it a, σ => bnd (ev C r a σ) fun x => lift (itemsD x)
  | _, .rg1 a, σ => bnd (ev C false a σ) fun x => bnd (lift (intD x)) fun i => if bigI i = true ∧ i ≤ lineMax then ret (rgD 0 i) else fail
  | _, .rg2 a b, σ => bnd (ev C false a σ) fun x => bnd (ev C false b σ) fun y => bnd (lift (intD x)) fun i => bnd (lift (intD y)) fun j => if bigI i = true ∧ bigI j = true ∧ j - i ≤ lineMax then ret (rgD i j) else fail
  | _, .rg3 a b c, σ => bnd (ev C false a σ) fun x => bnd (ev C false b σ) fun y => bnd (ev C false c σ) fun z => bnd (lift (intD x)) fun i => bnd (lift (intD y)) fun j => bnd (lift (intD z)) fun k =>
      if bigI i = true ∧ bigI j = true ∧ k = -1 ∧ i - j ≤ lineMax then ret (rgM i j) else fail
  | r, .enum a, σ => bnd (ev C r a σ) fun x => bnd (lift (enD x)) fun ds => ret (enumD 0 ds)
  | r, .zip a b, σ => bnd (ev C r a σ) fun x => bnd (ev C r b σ) fun y => bnd (lift (seqD x)) fun ds => bnd (lift (seqD y)) fun es => ret (zipD ds es)
  | r, .zip3 a b c, σ => bnd (ev C r a σ) fun x => bnd (ev C r b σ) fun y => bnd (ev C r c σ) fun z => bnd (lift (seqD x)) fun ds => bnd (lift (seqD y)) fun es => bnd (lift (seqD z)) fun fs => ret (zip3D ds es fs)
end
inductive Fl | nx (σ : Env) | rt (d : D) | bk (σ : Env) | ct (σ : Env)
def forL (step : D → Env → M Fl) : List D → Env → M Fl
  | [], σ => ret (.nx σ)
  | d :: r, σ => bnd (step d σ) fun f => match f with
    | .nx σ1 => forL step r σ1
    | .ct σ1 => forL step r σ1
    | .bk σ1 => ret (.nx σ1)
    | .rt v => ret (.rt v)
def whlN (test : Env → M Bool) (step : Env → M Fl) : Nat → Env → M Fl
  | 0, _ => fail
  | n + 1, σ => bnd (test σ) fun k => if k = true then bnd (step σ) fun f => match f with
    | .nx σ1 => whlN test step n σ1
    | .ct σ1 => whlN test step n σ1
    | .bk σ1 => ret (.nx σ1)
    | .rt v => ret (.rt v)
    else ret (.nx σ)
@[irreducible] def fuelW : Nat := 2 ^ 100
/-- name op= value -/
def augD (op : Op) (x y : D) : Option D := match op with
  | .pow => none
  | _ => match x, y with
    | .int _, .int _ => binD op x y
    | .str _, .str _ => binD op x y
    | _, _ => none
/-- own names stored -/
def keepP : List (Nat × Bool) → List D → Env → Option Env
  | [], [], σ => some σ
  | (i, false) :: r, d :: ds, σ => keepP r ds (σ.set i (.cl d))
  | (i, true) :: r, .list xs :: ds, σ => keepP r ds (σ.set i (.ol xs))
  | (i, true) :: r, .dict kvs :: ds, σ => keepP r ds (σ.set i (.od kvs))
  | _, _, _ => none
def ownS : D → Option Sl
  | .list xs => some (.ol xs)
  | .dict kvs => some (.od kvs)
  | _ => none
def closeS : Sl → Sl
  | .ol xs => .cl (.list xs)
  | .od kvs => .cl (.dict kvs)
  | x => x
mutual
def exec (C : Nat → List D → M D) : St → Env → M Fl
  | .asg g e, σ => bnd (ev C false e σ) fun d => bnd (lift (bindT g d σ)) fun σ1 => ret (.nx σ1)
  | .own i e, σ => bnd (ev C false e σ) fun d => bnd (lift (ownS d)) fun x => ret (.nx (σ.set i x))
  | .par is es, σ => bnd (evs C false es σ) fun ds => bnd (lift (keepP is ds σ)) fun σ1 => ret (.nx σ1)
  | .aug i op e, σ => bnd (lift (σ.keep i)) fun x => bnd (ev C false e σ) fun y => bnd (lift (augD op x y)) fun z => ret (.nx (σ.set i (.cl z)))
  | .app i e, σ => bnd (ev C false e σ) fun x => match σ[i]? with
    | some (.ol xs) => if xs.length < lineMax then ret (.nx (σ.set i (.ol (xs ++ [x])))) else fail
    | _ => fail
  | .ext i e, σ => bnd (ev C false e σ) fun x => match σ[i]?, x with
    | some (.ol xs), .list ys => if xs.length + ys.length ≤ lineMax then ret (.nx (σ.set i (.ol (xs ++ ys)))) else fail
    | _, _ => fail
  | .ins i k e, σ => bnd (ev C false k σ) fun j => bnd (ev C false e σ) fun x => match σ[i]?, j with
    | some (.ol xs), .int j => if 0 ≤ j ∧ j < 2 ^ 60 ∧ xs.length < lineMax then ret (.nx (σ.set i (.ol (xs.take j.toNat ++ [x] ++ xs.drop j.toNat)))) else fail
    | _, _ => fail
  | .put i k e, σ => bnd (ev C false e σ) fun x => bnd (ev C false k σ) fun j => match σ[i]?, j with
    | some (.ol xs), .int j => if 0 ≤ j ∧ j.toNat < xs.length then ret (.nx (σ.set i (.ol (xs.set j.toNat x)))) else if j < 0 ∧ 0 ≤ (xs.length : Int) + j then ret (.nx (σ.set i (.ol (xs.set ((xs.length : Int) + j).toNat x)))) else fail
    | _, _ => fail
  | .aput i op k e, σ => bnd (ev C false k σ) fun j => match σ[i]?, j with
    | some (.ol xs), .int j => match (if 0 ≤ j then xs[j.toNat]? else none) with
      | some old => bnd (ev C false e σ) fun x => bnd (lift (match old with | .int _ => binD op old x | _ => none)) fun z => ret (.nx (σ.set i (.ol (xs.set j.toNat z))))
      | none => fail
    | some (.od kvs), j => match valD kvs j with
      | some old => bnd (ev C false e σ) fun x => bnd (lift (match old with | .int _ => binD op old x | _ => none)) fun z => ret (.nx (σ.set i (.od (putD kvs j z))))
      | none => fail
    | _, _ => fail
  | .upd i e, σ => bnd (ev C false e σ) fun x => match σ[i]?, x with
    | some (.od kvs), .dict ps => if kvs.length + ps.length < lineMax then ret (.nx (σ.set i (.od (ps.foldl (fun m p => putD m p.1 p.2) kvs)))) else fail
    | _, _ => fail
  | .wat i, σ => fun s => match σ.keep i, s with
    | some (.dict [(.none, .none)]), some (ns, n) => some (.nx σ, some (ns, n + 1))
    | _, _ => none
  | .w0 i e, σ => bnd (ev C false e σ) fun d s => match d, s with
    | .list xs, none => match intsD xs with
      | some ns => some (.nx (σ.set i (.cl W)), some (ns, 0))
      | none => none
    | _, _ => none
  | .ifs c a b, σ => bnd (ev C false c σ) fun x => bnd (lift (boolD x)) fun k => if k = true then execs C a σ else execs C b σ
  | .for_ g it b, σ => bnd (evI C false it σ) fun ds => forL (fun d σ => match bindT g d σ with
      | some σ1 => execs C b σ1
      | none => fail) ds σ
  | .whl c b, σ => whlN (fun σ => bnd (ev C false c σ) fun x => lift (boolD x)) (fun σ => execs C b σ) fuelW σ
  | .ret e, σ => bnd (ev C false e σ) fun d => ret (.rt d)
  | .retn, σ => ret (.rt .none)
  | .brk, σ => ret (.bk σ)
  | .cnt, σ => ret (.ct σ)
  | .pass, σ => ret (.nx σ)
  | .close i, σ => ret (.nx (match σ[i]? with
    | some x => σ.set i (closeS x)
    | none => σ))
def execs (C : Nat → List D → M D) : List St → Env → M Fl
  | [], σ => ret (.nx σ)
  | s :: r, σ => bnd (exec C s σ) fun f => match f with
    | .nx σ1 => execs C r σ1
    | f => ret f
end
structure Fn where
  np : Nat
  ns : Nat
  body : List St
/-- a call of def f, at most k deep -/
def cal (T : List Fn) : Nat → Nat → List D → M D
  | 0, _, _ => fail
  | k + 1, f, ds => match T[f]? with
    | some fn => if ds.length = fn.np then bnd (execs (cal T k) fn.body (ds.map .cl ++ List.replicate (fn.ns - fn.np) .un)) fun f => match f with
      | .rt d => ret d
      | .nx _ => ret .none
      | _ => fail
      else fail
    | none => fail
end Q

set_option Elab.async false
set_option linter.all false
set_option maxRecDepth 100000
/-! P0: the small interpreter's rules as equations. -/
namespace Q
open PySem
/-! the equations -/
/-- a while's test -/
def whlT (C : Nat → List D → M D) (c : Tm) (σ : Env) : M Bool := bnd (ev C false c σ) fun x => lift (boolD x)
def lcS (C : Nat → List D → M D) (own : List Nat) (g : Tg) (c : Option Tm) (e : Tm) (σ : Env) (d : D) : M (Option D) := match bindT g d (wipeE σ own) with
  | some σ1 => bnd (evc C c σ1) fun k => if k = true then bnd (ev C false e σ1) fun x => ret (some x) else ret none
  | none => fail
theorem lcS_v {C : Nat → List D → M D} {own : List Nat} {i : Nat} {c : Option Tm} {e : Tm} {σ : Env} {d : D} : lcS C own (.v i) c e σ d = bnd (evc C c ((wipeE σ own).set i (.cl d))) fun k => if k = true then bnd (ev C false e ((wipeE σ own).set i (.cl d))) fun x => ret (some x) else ret none := by
  unfold lcS
  simp only [bindT]
def forS (C : Nat → List D → M D) (g : Tg) (b : List St) (d : D) (σ : Env) : M Fl := match bindT g d σ with
  | some σ1 => execs C b σ1
  | none => fail
theorem forS_v {C : Nat → List D → M D} {i : Nat} {b : List St} {σ : Env} {d : D} : forS C (.v i) b d σ = execs C b (σ.set i (.cl d)) := by
  unfold forS
  simp only [bindT]
theorem forS_t {C : Nat → List D → M D} {gs : List Tg} {b : List St} {σ σ1 : Env} {ds : List D} (h : bindTs gs ds σ = some σ1) : forS C (.t gs) b (.tuple ds) σ = execs C b σ1 := by
  unfold forS
  simp only [bindT, h]
theorem lcS_t {C : Nat → List D → M D} {own : List Nat} {gs : List Tg} {c : Option Tm} {e : Tm} {σ σ1 : Env} {ds : List D} (h : bindTs gs ds (wipeE σ own) = some σ1) : lcS C own (.t gs) c e σ (.tuple ds) = bnd (evc C c σ1) fun k => if k = true then bnd (ev C false e σ1) fun x => ret (some x) else ret none := by
  unfold lcS
  simp only [bindT, h]
theorem ev_var {C : Nat → List D → M D} {r : Bool} {σ : Env} {i : Nat} : ev C r (.var i) σ = lift (if r = true then σ.read i else σ.keep i) := by first | (rw [ev]; done) | (unfold ev; rfl)
theorem ev_cst {C : Nat → List D → M D} {r : Bool} {σ : Env} {d : D} : ev C r (.cst d) σ = ret d := by first | (rw [ev]; done) | (unfold ev; rfl)
theorem ev_tup {C : Nat → List D → M D} {r : Bool} {σ : Env} {es : List Tm} : ev C r (.tup es) σ = bnd (evs C false es σ) fun ds => ret (.tuple ds) := by first | (rw [ev]; done) | (unfold ev; rfl)
theorem ev_lst {C : Nat → List D → M D} {r : Bool} {σ : Env} {es : List Tm} : ev C r (.lst es) σ = bnd (evs C false es σ) fun ds => ret (.list ds) := by first | (rw [ev]; done) | (unfold ev; rfl)
theorem ev_dct {C : Nat → List D → M D} {r : Bool} {σ : Env} {es : List Tm} : ev C r (.dct es) σ = bnd (evs C false es σ) fun ds => bnd (lift (pairUp ds)) fun ps => ret (.dict (ps.foldl (fun m p => putD m p.1 p.2) [])) := by first | (rw [ev]; done) | (unfold ev; rfl)
theorem ev_bin {C : Nat → List D → M D} {r : Bool} {σ : Env} {op : Op} {a b : Tm} : ev C r (.bin op a b) σ = bnd (ev C true a σ) fun x => bnd (ev C true b σ) fun y => lift (binD op x y) := by first | (rw [ev]; done) | (unfold ev; rfl)
theorem ev_neg {C : Nat → List D → M D} {r : Bool} {σ : Env} {a : Tm} : ev C r (.neg a) σ = bnd (ev C false a σ) fun x => bnd (lift (intD x)) fun i => ret (.int (-i)) := by first | (rw [ev]; done) | (unfold ev; rfl)
theorem ev_not {C : Nat → List D → M D} {r : Bool} {σ : Env} {a : Tm} : ev C r (.not a) σ = bnd (ev C false a σ) fun x => bnd (lift (boolD x)) fun b => ret (.bool (!b)) := by first | (rw [ev]; done) | (unfold ev; rfl)
theorem ev_and {C : Nat → List D → M D} {r : Bool} {σ : Env} {a b : Tm} : ev C r (.and a b) σ = bnd (ev C false a σ) fun x => bnd (lift (boolD x)) fun k => if k = true then ev C false b σ else ret (.bool false) := by first | (rw [ev]; done) | (unfold ev; rfl)
theorem ev_or {C : Nat → List D → M D} {r : Bool} {σ : Env} {a b : Tm} : ev C r (.or a b) σ = bnd (ev C false a σ) fun x => bnd (lift (boolD x)) fun k => if k = true then ret (.bool true) else ev C false b σ := by first | (rw [ev]; done) | (unfold ev; rfl)
theorem ev_cmp {C : Nat → List D → M D} {r : Bool} {σ : Env} {c : Cp} {a b : Tm} : ev C r (.cmp c a b) σ = bnd (ev C true a σ) fun x => bnd (ev C true b σ) fun y => lift (cmpD c x y) := by first | (rw [ev]; done) | (unfold ev; rfl)
theorem ev_isN {C : Nat → List D → M D} {r : Bool} {σ : Env} {a : Tm} : ev C r (.isN a) σ = bnd (ev C false a σ) fun x => ret (.bool (isN x)) := by first | (rw [ev]; done) | (unfold ev; rfl)
theorem ev_notN {C : Nat → List D → M D} {r : Bool} {σ : Env} {a : Tm} : ev C r (.notN a) σ = bnd (ev C false a σ) fun x => ret (.bool (!isN x)) := by first | (rw [ev]; done) | (unfold ev; rfl)
theorem ev_chn {C : Nat → List D → M D} {r : Bool} {σ : Env} {c1 c2 : Cp} {a b c : Tm} : ev C r (.chn c1 c2 a b c) σ = bnd (ev C true a σ) fun x => bnd (ev C true b σ) fun y => bnd (lift (cmpD c1 x y)) fun k => bnd (lift (boolD k)) fun k =>
      if k = true then bnd (ev C true c σ) fun z => lift (cmpD c2 y z) else ret (.bool false) := by first | (rw [ev]; done) | (unfold ev; rfl)
theorem ev_ite {C : Nat → List D → M D} {r : Bool} {σ : Env} {c a b : Tm} : ev C r (.ite c a b) σ = bnd (ev C false c σ) fun x => bnd (lift (boolD x)) fun k => if k = true then ev C false a σ else ev C false b σ := by first | (rw [ev]; done) | (unfold ev; rfl)
theorem ev_idx {C : Nat → List D → M D} {r : Bool} {σ : Env} {a b : Tm} : ev C r (.idx a b) σ = bnd (ev C true a σ) fun x => bnd (ev C false b σ) fun y => idxM x y := by first | (rw [ev]; done) | (unfold ev; rfl)
theorem ev_slc {C : Nat → List D → M D} {r : Bool} {σ : Env} {a : Tm} {lo hi : Option Tm} : ev C r (.slc a lo hi) σ = bnd (ev C true a σ) fun x => bnd (evo C lo σ) fun l => bnd (evo C hi σ) fun h => lift (slcD x l h) := by first | (rw [ev]; done) | (unfold ev; rfl)
theorem ev_rev {C : Nat → List D → M D} {r : Bool} {σ : Env} {a : Tm} : ev C r (.rev a) σ = bnd (ev C true a σ) fun x => lift (revD x) := by first | (rw [ev]; done) | (unfold ev; rfl)
theorem ev_call {C : Nat → List D → M D} {r : Bool} {σ : Env} {f : Nat} {es : List Tm} : ev C r (.call f es) σ = bnd (evs C false es σ) fun ds => C f ds := by first | (rw [ev]; done) | (unfold ev; rfl)
theorem ev_bl {C : Nat → List D → M D} {r : Bool} {σ : Env} {b : Bl} {es : List Tm} : ev C r (.bl b es) σ = bnd (evs C true es σ) fun ds => lift (blD b ds) := by first | (rw [ev]; done) | (unfold ev; rfl)
theorem ev_mt {C : Nat → List D → M D} {r : Bool} {σ : Env} {m : Mt} {o : Tm} {es : List Tm} : ev C r (.mt m o es) σ = bnd (ev C true o σ) fun x => bnd (evs C true es σ) fun ds => lift (mtD m x ds) := by first | (rw [ev]; done) | (unfold ev; rfl)
theorem ev_itl {C : Nat → List D → M D} {r : Bool} {σ : Env} {t : Bool} {it : It} : ev C r (.itl t it) σ = bnd (evI C true it σ) fun ds => if ds.length ≤ lineMax then ret (if t = true then .tuple ds else .list ds) else fail := by first | (rw [ev]; done) | (unfold ev; rfl)
theorem ev_isi {C : Nat → List D → M D} {r : Bool} {σ : Env} {t : Ty} {a : Tm} : ev C r (.isi t a) σ = bnd (ev C true a σ) fun x => bnd (lift (isiD t x)) fun b => ret (.bool b) := by first | (rw [ev]; done) | (unfold ev; rfl)
theorem ev_isB {C : Nat → List D → M D} {r : Bool} {σ : Env} {k b : Bool} {a : Tm} : ev C r (.isB k b a) σ = bnd (ev C false a σ) fun x => bnd (lift (boolD x)) fun c => ret (.bool (k == (b == c))) := by first | (rw [ev]; done) | (unfold ev; rfl)
theorem ev_lc {C : Nat → List D → M D} {r : Bool} {σ : Env} {own : List Nat} {g : Tg} {it : It} {c : Option Tm} {e : Tm} : ev C r (.lc own g it c e) σ = bnd (evI C true it σ) fun ds => bnd (lcL (lcS C own g c e σ) ds) fun l => ret (.list l) := by first | (rw [ev]; done) | (unfold ev; rfl)
theorem evI_it {C : Nat → List D → M D} {r : Bool} {σ : Env} {a : Tm} : evI C r (.it a) σ = bnd (ev C r a σ) fun x => lift (itemsD x) := by first | (rw [evI]; done) | (unfold evI; rfl)
theorem evI_rg1 {C : Nat → List D → M D} {r : Bool} {σ : Env} {a : Tm} : evI C r (.rg1 a) σ = bnd (ev C false a σ) fun x => bnd (lift (intD x)) fun i => if bigI i = true ∧ i ≤ lineMax then ret (rgD 0 i) else fail := by first | (rw [evI]; done) | (unfold evI; rfl)
theorem evI_rg2 {C : Nat → List D → M D} {r : Bool} {σ : Env} {a b : Tm} : evI C r (.rg2 a b) σ = bnd (ev C false a σ) fun x => bnd (ev C false b σ) fun y => bnd (lift (intD x)) fun i => bnd (lift (intD y)) fun j => if bigI i = true ∧ bigI j = true ∧ j - i ≤ lineMax then ret (rgD i j) else fail := by first | (rw [evI]; done) | (unfold evI; rfl)
theorem evI_rg3 {C : Nat → List D → M D} {r : Bool} {a b c : Tm} {σ : Env} : evI C r (.rg3 a b c) σ = bnd (ev C false a σ) fun x => bnd (ev C false b σ) fun y => bnd (ev C false c σ) fun z => bnd (lift (intD x)) fun i => bnd (lift (intD y)) fun j => bnd (lift (intD z)) fun k =>
      if bigI i = true ∧ bigI j = true ∧ k = -1 ∧ i - j ≤ lineMax then ret (rgM i j) else fail := by first | (rw [evI]; done) | (unfold evI; rfl)
theorem evI_enum {C : Nat → List D → M D} {r : Bool} {σ : Env} {a : Tm} : evI C r (.enum a) σ = bnd (ev C r a σ) fun x => bnd (lift (enD x)) fun ds => ret (enumD 0 ds) := by first | (rw [evI]; done) | (unfold evI; rfl)
theorem evI_zip {C : Nat → List D → M D} {r : Bool} {σ : Env} {a b : Tm} : evI C r (.zip a b) σ = bnd (ev C r a σ) fun x => bnd (ev C r b σ) fun y => bnd (lift (seqD x)) fun ds => bnd (lift (seqD y)) fun es => ret (zipD ds es) := by first | (rw [evI]; done) | (unfold evI; rfl)
theorem evI_zip3 {C : Nat → List D → M D} {r : Bool} {σ : Env} {a b c : Tm} : evI C r (.zip3 a b c) σ = bnd (ev C r a σ) fun x => bnd (ev C r b σ) fun y => bnd (ev C r c σ) fun z => bnd (lift (seqD x)) fun ds => bnd (lift (seqD y)) fun es => bnd (lift (seqD z)) fun fs => ret (zip3D ds es fs) := by first | (rw [evI]; done) | (unfold evI; rfl)
theorem exec_asg {C : Nat → List D → M D} {σ : Env} {g : Tg} {e : Tm} : exec C (.asg g e) σ = bnd (ev C false e σ) fun d => bnd (lift (bindT g d σ)) fun σ1 => ret (.nx σ1) := by first | (rw [exec]; done) | (unfold exec; rfl)
theorem exec_own {C : Nat → List D → M D} {σ : Env} {i : Nat} {e : Tm} : exec C (.own i e) σ = bnd (ev C false e σ) fun d => bnd (lift (ownS d)) fun x => ret (.nx (σ.set i x)) := by first | (rw [exec]; done) | (unfold exec; rfl)
theorem exec_par {C : Nat → List D → M D} {σ : Env} {is : List (Nat × Bool)} {es : List Tm} : exec C (.par is es) σ = bnd (evs C false es σ) fun ds => bnd (lift (keepP is ds σ)) fun σ1 => ret (.nx σ1) := by first | (rw [exec]; done) | (unfold exec; rfl)
theorem exec_aug {C : Nat → List D → M D} {σ : Env} {i : Nat} {op : Op} {e : Tm} : exec C (.aug i op e) σ = bnd (lift (σ.keep i)) fun x => bnd (ev C false e σ) fun y => bnd (lift (augD op x y)) fun z => ret (.nx (σ.set i (.cl z))) := by first | (rw [exec]; done) | (unfold exec; rfl)
theorem exec_app {C : Nat → List D → M D} {σ : Env} {i : Nat} {e : Tm} : exec C (.app i e) σ = bnd (ev C false e σ) fun x => match σ[i]? with
    | some (.ol xs) => if xs.length < lineMax then ret (.nx (σ.set i (.ol (xs ++ [x])))) else fail
    | _ => fail := by first | (rw [exec]; done) | (unfold exec; rfl)
theorem exec_ext {C : Nat → List D → M D} {σ : Env} {i : Nat} {e : Tm} : exec C (.ext i e) σ = bnd (ev C false e σ) fun x => match σ[i]?, x with
    | some (.ol xs), .list ys => if xs.length + ys.length ≤ lineMax then ret (.nx (σ.set i (.ol (xs ++ ys)))) else fail
    | _, _ => fail := by first | (rw [exec]; done) | (unfold exec; rfl)
theorem exec_ins {C : Nat → List D → M D} {σ : Env} {i : Nat} {k e : Tm} : exec C (.ins i k e) σ = bnd (ev C false k σ) fun j => bnd (ev C false e σ) fun x => match σ[i]?, j with
    | some (.ol xs), .int j => if 0 ≤ j ∧ j < 2 ^ 60 ∧ xs.length < lineMax then ret (.nx (σ.set i (.ol (xs.take j.toNat ++ [x] ++ xs.drop j.toNat)))) else fail
    | _, _ => fail := by first | (rw [exec]; done) | (unfold exec; rfl)
theorem exec_put {C : Nat → List D → M D} {σ : Env} {i : Nat} {k e : Tm} : exec C (.put i k e) σ = bnd (ev C false e σ) fun x => bnd (ev C false k σ) fun j => match σ[i]?, j with
    | some (.ol xs), .int j => if 0 ≤ j ∧ j.toNat < xs.length then ret (.nx (σ.set i (.ol (xs.set j.toNat x)))) else if j < 0 ∧ 0 ≤ (xs.length : Int) + j then ret (.nx (σ.set i (.ol (xs.set ((xs.length : Int) + j).toNat x)))) else fail
    | _, _ => fail := by first | (rw [exec]; done) | (unfold exec; rfl)
theorem exec_aput {C : Nat → List D → M D} {σ : Env} {i : Nat} {op : Op} {k e : Tm} : exec C (.aput i op k e) σ = bnd (ev C false k σ) fun j => match σ[i]?, j with
    | some (.ol xs), .int j => match (if 0 ≤ j then xs[j.toNat]? else none) with
      | some old => bnd (ev C false e σ) fun x => bnd (lift (match old with | .int _ => binD op old x | _ => none)) fun z => ret (.nx (σ.set i (.ol (xs.set j.toNat z))))
      | none => fail
    | some (.od kvs), j => match valD kvs j with
      | some old => bnd (ev C false e σ) fun x => bnd (lift (match old with | .int _ => binD op old x | _ => none)) fun z => ret (.nx (σ.set i (.od (putD kvs j z))))
      | none => fail
    | _, _ => fail := by first | (rw [exec]; done) | (unfold exec; rfl)
theorem exec_upd {C : Nat → List D → M D} {σ : Env} {i : Nat} {e : Tm} : exec C (.upd i e) σ = bnd (ev C false e σ) fun x => match σ[i]?, x with
    | some (.od kvs), .dict ps => if kvs.length + ps.length < lineMax then ret (.nx (σ.set i (.od (ps.foldl (fun m p => putD m p.1 p.2) kvs)))) else fail
    | _, _ => fail := by first | (rw [exec]; done) | (unfold exec; rfl)
theorem exec_wat {C : Nat → List D → M D} {σ : Env} {i : Nat} : exec C (.wat i) σ = fun s => match σ.keep i, s with
    | some (.dict [(.none, .none)]), some (ns, n) => some (.nx σ, some (ns, n + 1))
    | _, _ => none := by first | (rw [exec]; done) | (unfold exec; rfl)
theorem exec_w0 {C : Nat → List D → M D} {σ : Env} {i : Nat} {e : Tm} : exec C (.w0 i e) σ = bnd (ev C false e σ) fun d s => match d, s with
    | .list xs, none => match intsD xs with
      | some ns => some (.nx (σ.set i (.cl W)), some (ns, 0))
      | none => none
    | _, _ => none := by first | (rw [exec]; done) | (unfold exec; rfl)
theorem exec_ifs {C : Nat → List D → M D} {σ : Env} {c : Tm} {a b : List St} : exec C (.ifs c a b) σ = bnd (ev C false c σ) fun x => bnd (lift (boolD x)) fun k => if k = true then execs C a σ else execs C b σ := by first | (rw [exec]; done) | (unfold exec; rfl)
theorem exec_for_ {C : Nat → List D → M D} {σ : Env} {g : Tg} {it : It} {b : List St} : exec C (.for_ g it b) σ = bnd (evI C false it σ) fun ds => forL (forS C g b) ds σ := by first | (rw [exec]; done) | (unfold exec; rfl)
theorem exec_whl {C : Nat → List D → M D} {σ : Env} {c : Tm} {b : List St} : exec C (.whl c b) σ = whlN (whlT C c) (execs C b) fuelW σ := by first | (rw [exec]; done) | (unfold exec; rfl)
theorem exec_ret {C : Nat → List D → M D} {σ : Env} {e : Tm} : exec C (.ret e) σ = bnd (ev C false e σ) fun d => ret (.rt d) := by first | (rw [exec]; done) | (unfold exec; rfl)
theorem exec_retn {C : Nat → List D → M D} {σ : Env}  : exec C (.retn) σ = ret (.rt .none) := by first | (rw [exec]; done) | (unfold exec; rfl)
theorem exec_brk {C : Nat → List D → M D} {σ : Env}  : exec C (.brk) σ = ret (.bk σ) := by first | (rw [exec]; done) | (unfold exec; rfl)
theorem exec_cnt {C : Nat → List D → M D} {σ : Env}  : exec C (.cnt) σ = ret (.ct σ) := by first | (rw [exec]; done) | (unfold exec; rfl)
theorem exec_pass {C : Nat → List D → M D} {σ : Env}  : exec C (.pass) σ = ret (.nx σ) := by first | (rw [exec]; done) | (unfold exec; rfl)
theorem exec_close {C : Nat → List D → M D} {σ : Env} {i : Nat} : exec C (.close i) σ = ret (.nx (match σ[i]? with
    | some x => σ.set i (closeS x)
    | none => σ)) := by first | (rw [exec]; done) | (unfold exec; rfl)
def lcS2 (C : Nat → List D → M D) (own : List Nat) (g g1 : Tg) (it1 : It) (c : Option Tm) (e : Tm) (σ : Env) (d : D) : M (List D) := match bindT g d (wipeE σ own) with
  | some σ1 => bnd (evI C false it1 (hideE σ1)) fun ds1 => lcL (lcS C (tgV g1) g1 c e (hideE σ1)) ds1
  | none => fail
theorem ev_lc2 {C : Nat → List D → M D} {r : Bool} {own : List Nat} {g g1 : Tg} {it it1 : It} {c : Option Tm} {e : Tm} {σ : Env} : ev C r (.lc2 own g it g1 it1 c e) σ = bnd (evI C true it σ) fun ds => bnd (lcL2 (lcS2 C own g g1 it1 c e σ) ds) fun l => if l.length ≤ lineMax then ret (.list l) else fail := by first | (rw [ev]; done) | (unfold ev; rfl)
theorem lcS2_v {C : Nat → List D → M D} {own : List Nat} {i : Nat} {g1 : Tg} {it1 : It} {c : Option Tm} {e : Tm} {σ : Env} {d : D} : lcS2 C own (.v i) g1 it1 c e σ d = bnd (evI C false it1 (hideE ((wipeE σ own).set i (.cl d)))) fun ds1 => lcL (lcS C (tgV g1) g1 c e (hideE ((wipeE σ own).set i (.cl d)))) ds1 := by
  unfold lcS2
  simp only [bindT]
theorem lcS2_t {C : Nat → List D → M D} {own : List Nat} {gs : List Tg} {g1 : Tg} {it1 : It} {c : Option Tm} {e : Tm} {σ σ1 : Env} {ds : List D} (h : bindTs gs ds (wipeE σ own) = some σ1) : lcS2 C own (.t gs) g1 it1 c e σ (.tuple ds) = bnd (evI C false it1 (hideE σ1)) fun ds1 => lcL (lcS C (tgV g1) g1 c e (hideE σ1)) ds1 := by
  unfold lcS2
  simp only [bindT, h]
theorem rg3_if {a b k : Int} {α : Type} {x : M α} (h : -1000000 < a ∧ a ≤ 7000000 ∧ -1000000 < b ∧ b ≤ 7000000 ∧ k = -1) : (if bigI a = true ∧ bigI b = true ∧ k = -1 ∧ a - b ≤ (lineMax : Nat) then x else fail) = x := by
  rw [if_pos]
  unfold bigI lineMax
  simp
  omega
theorem evs_nil {C : Nat → List D → M D} {r : Bool} {σ : Env} : evs C r [] σ = ret [] := by rw [evs]
theorem evs_cons {C : Nat → List D → M D} {r : Bool} {σ : Env} {e : Tm} {es : List Tm} : evs C r (e :: es) σ = bnd (ev C r e σ) fun x => bnd (evs C r es σ) fun xs => ret (x :: xs) := by rw [evs]
theorem evo_none {C : Nat → List D → M D} {σ : Env} : evo C none σ = ret none := by rw [evo]
theorem evo_some {C : Nat → List D → M D} {σ : Env} {e : Tm} : evo C (some e) σ = bnd (ev C false e σ) fun x => bnd (lift (intD x)) fun i => ret (some i) := by rw [evo]
theorem evc_none {C : Nat → List D → M D} {σ : Env} : evc C none σ = ret true := by rw [evc]
theorem evc_some {C : Nat → List D → M D} {σ : Env} {e : Tm} : evc C (some e) σ = bnd (ev C false e σ) fun x => lift (boolD x) := by rw [evc]
theorem execs_nil {C : Nat → List D → M D} {σ : Env} : execs C [] σ = ret (.nx σ) := by rw [execs]
/-- behind one statement -/
def nxt (C : Nat → List D → M D) (r : List St) : Fl → M Fl
  | .nx σ1 => execs C r σ1
  | f => ret f
theorem execs_cons {C : Nat → List D → M D} {s : St} {r : List St} {σ : Env} : execs C (s :: r) σ = bnd (exec C s σ) (nxt C r) := by
  rw [execs]
  first
    | rfl
    | (congr 1; done)
    | (congr 1; funext f; cases f <;> rfl)
theorem nxt_nx {C : Nat → List D → M D} {r : List St} {σ : Env} : nxt C r (.nx σ) = execs C r σ := rfl
theorem nxt_rt {C : Nat → List D → M D} {r : List St} {d : D} : nxt C r (.rt d) = ret (.rt d) := rfl
theorem nxt_bk {C : Nat → List D → M D} {r : List St} {σ : Env} : nxt C r (.bk σ) = ret (.bk σ) := rfl
theorem nxt_ct {C : Nat → List D → M D} {r : List St} {σ : Env} : nxt C r (.ct σ) = ret (.ct σ) := rfl
/-! end of the equations -/
/-- one def's body -/
def runF (C : Nat → List D → M D) (fn : Fn) (ds : List D) : M D :=
  if ds.length = fn.np then bnd (execs C fn.body (ds.map .cl ++ List.replicate (fn.ns - fn.np) .un)) fun f => match f with
    | .rt d => ret d
    | .nx _ => ret .none
    | _ => fail
  else fail
theorem cal_at {T : List Fn} {k f : Nat} {fn : Fn} {ds : List D} (h : T[f]? = some fn) : cal T (k + 1) f ds = runF (cal T k) fn ds := by
  show (match T[f]? with
    | some fn => runF (cal T k) fn ds
    | none => fail) = _
  rw [h]
section
variable {C : Nat → List D → M D} {σ : Env} {r : Bool}
@[simp] theorem lift_ret {α : Type} {a : α} : lift (some a) = ret a := rfl
@[simp] theorem bnd_r {α β : Type} {a : α} {f : α → M β} : bnd (ret a) f = f a := rfl
theorem bnd_congr {α β : Type} {x x' : M α} {f : α → M β} (h : x = x') : bnd x f = bnd x' f := by rw [h]
theorem lcL_congr {step : D → M (Option D)} {ds ds' : List D} (h : ds = ds') : lcL step ds = lcL step ds' := by rw [h]
theorem forL_congr {step : D → Env → M Fl} {ds ds' : List D} {σ σ' : Env} (h : ds = ds') (h2 : σ = σ') : forL step ds σ = forL step ds' σ' := by rw [h, h2]
theorem bnd_assoc {α β γ : Type} {m : M α} {f : α → M β} {g : β → M γ} : bnd (bnd m f) g = bnd m fun a => bnd (f a) g := by
  funext s
  simp only [bnd]
  cases m s <;> rfl
/-! ints -/
theorem add_int {a b : Int} : binD .add (.int a) (.int b) = some (.int (a + b)) := rfl
theorem sub_int {a b : Int} : binD .sub (.int a) (.int b) = some (.int (a - b)) := rfl
theorem mul_int {a b : Int} (h : (-18446744073709551616 < a ∧ a < 18446744073709551616) ∨ (-18446744073709551616 < b ∧ b < 18446744073709551616)) : binD .mul (.int a) (.int b) = some (.int (a * b)) :=
  if_pos (by omega)
theorem fdiv_int {a b : Int} (h : 0 < b ∧ b < 4611686018427387904) : binD .fdiv (.int a) (.int b) = some (.int (a / b)) := if_pos h
theorem mod_int {a b : Int} (h : 0 < b) : binD .mod (.int a) (.int b) = some (.int (a % b)) := if_pos h
theorem pow_int {a b : Int} (h : 0 ≤ b ∧ b ≤ 1000 ∧ -18446744073709551616 < a ∧ a < 18446744073709551616) : binD .pow (.int a) (.int b) = some (.int (a ^ b.toNat)) := if_pos ⟨h.1, h.2.1, by omega⟩
/-! texts -/
theorem add_str {a b : List Nat} (h : a.length + b.length ≤ 16000000) : binD .add (.str (S a)) (.str (S b)) = some (.str (S (a ++ b))) := by
  show (if (S a).cps.size + (S b).cps.size ≤ strMax then some (PyData.str ⟨(S a).cps ++ (S b).cps⟩) else none) = _
  rw [if_pos (by simpa [strMax] using h)]
  simp
theorem mul_str {a : List Nat} {b : Int} (h : b < 1000000 ∧ -1000000 < b ∧ a.length ≤ 16) : binD .mul (.str (S a)) (.int b) = some (.str (S (repS a b.toNat))) := by
  show (if -(2 ^ 60) < b ∧ b < 2 ^ 60 ∧ (S a).cps.size * b.toNat ≤ strMax then some (PyData.str (S (repS (S a).cps.toList b.toNat))) else none) = _
  rw [if_pos]
  refine ⟨by omega, by omega, ?_⟩
  have : a.length * b.toNat ≤ 16 * 1000000 := Nat.mul_le_mul h.2.2 (by omega)
  simpa [strMax] using this
/-! sequences -/
theorem add_tup {a b : List D} (h : a.length + b.length ≤ 16000000) : binD .add (.tuple a) (.tuple b) = some (.tuple (a ++ b)) := if_pos h
theorem add_lst {a b : List D} (h : a.length + b.length ≤ 16000000) : binD .add (.list a) (.list b) = some (.list (a ++ b)) := if_pos h
theorem mul_lst {a : List D} {b : Int} (h : b < 1000000 ∧ -1000000 < b ∧ a.length ≤ 16) : binD .mul (.list a) (.int b) = some (.list (repL a b.toNat)) := by
  show (if -(2 ^ 60) < b ∧ b < 2 ^ 60 ∧ a.length * b.toNat ≤ lineMax then some (PyData.list (repL a b.toNat)) else none) = _
  rw [if_pos]
  refine ⟨by omega, by omega, ?_⟩
  have : a.length * b.toNat ≤ 16 * 1000000 := Nat.mul_le_mul h.2.2 (by omega)
  simpa [lineMax] using this
/-! comparisons -/
theorem beq_int {a b : Int} : (a == b) = decide (a = b) := rfl
theorem beq_S {a b : List Nat} : (S a == S b) = decide (a = b) := by
  by_cases h : a = b
  · subst h; simp
  · rw [decide_eq_false h]
    apply Bool.eq_false_iff.mpr
    intro e
    have e := eq_of_beq e
    apply h
    have := congrArg (fun x : Str => x.cps.toList) e
    simpa using this
theorem eq_int {a b : Int} : cmpD .eq (.int a) (.int b) = some (.bool (decide (a = b))) := by simp [cmpD, eqD, gd, PyData.eqv, beq_int]
theorem ne_int {a b : Int} : cmpD .ne (.int a) (.int b) = some (.bool (!decide (a = b))) := by simp [cmpD, eqD, gd, PyData.eqv, beq_int]
theorem lt_int {a b : Int} : cmpD .lt (.int a) (.int b) = some (.bool (decide (a < b))) := by simp [cmpD, ltD, gd, alk, isN, ltd]
theorem gt_int {a b : Int} : cmpD .gt (.int a) (.int b) = some (.bool (decide (b < a))) := by simp [cmpD, ltD, gd, alk, isN, ltd]
theorem le_int {a b : Int} : cmpD .le (.int a) (.int b) = some (.bool (decide (a ≤ b))) := rfl
theorem ge_int {a b : Int} : cmpD .ge (.int a) (.int b) = some (.bool (decide (b ≤ a))) := rfl
theorem eq_str {a b : List Nat} : cmpD .eq (.str (S a)) (.str (S b)) = some (.bool (decide (a = b))) := by simp only [cmpD, eqD, gd, PyData.eqv, beq_S]; rfl
theorem ne_str {a b : List Nat} : cmpD .ne (.str (S a)) (.str (S b)) = some (.bool (!decide (a = b))) := by simp only [cmpD, eqD, gd, PyData.eqv, beq_S]; rfl
/-! built-ins -/
theorem len_str {l : List Nat} : blD .len [.str (S l)] = some (.int l.length) := rfl
theorem len_lst {l : List D} : blD .len [.list l] = some (.int l.length) := rfl
theorem len_tup {l : List D} : blD .len [.tuple l] = some (.int l.length) := rfl
theorem abs_int {i : Int} : blD .abs [.int i] = some (.int (if i < 0 then -i else i)) := rfl
theorem int_int {i : Int} : blD .int [.int i] = some (.int i) := rfl
theorem int_bool {b : Bool} : blD .int [.bool b] = some (.int (if b then 1 else 0)) := rfl
theorem min2_int {a b : Int} : blD .min2 [.int a, .int b] = some (.int (min a b)) := by
  show some (PyData.int (if b < a then b else a)) = _
  congr 2
  omega
theorem max2_int {a b : Int} : blD .max2 [.int a, .int b] = some (.int (max a b)) := by
  show some (PyData.int (if b > a then b else a)) = _
  congr 2
  omega
theorem sum_lst {l : List D} {ns : List Int} (h : intsD l = some ns) : blD .sum [.list l] = some (.int ns.sum) := by
  show (intsD l).map _ = _
  rw [h]
  rfl
theorem tuple_lst {l : List D} : blD .tuple [.list l] = some (.tuple l) := rfl
theorem tuple_tup {l : List D} : blD .tuple [.tuple l] = some (.tuple l) := rfl
theorem list_lst {l : List D} : blD .list [.list l] = some (.list l) := rfl
theorem list_tup {l : List D} : blD .list [.tuple l] = some (.list l) := rfl
theorem ints_map : ∀ ns : List Int, intsD (ns.map .int) = some ns
  | [] => rfl
  | n :: ns => by rw [List.map_cons, intsD, ints_map ns]; rfl
theorem rg1_if {n : Int} {α : Type} {x : M α} (h : -1000000 < n ∧ n ≤ 16000000) : (if bigI n = true ∧ n ≤ (lineMax : Nat) then x else fail) = x := by
  rw [if_pos]
  refine ⟨?_, by unfold lineMax; omega⟩
  unfold bigI
  simp
  omega
theorem rg2_if {a b : Int} {α : Type} {x : M α} (h : -1000000 < a ∧ -1000000 < b ∧ b ≤ 7000000 ∧ a ≤ 7000000) : (if bigI a = true ∧ bigI b = true ∧ b - a ≤ (lineMax : Nat) then x else fail) = x := by
  rw [if_pos]
  unfold bigI lineMax
  simp
  omega
theorem boolD_b {b : Bool} : boolD (.bool b) = some b := rfl
theorem intD_i {i : Int} : intD (.int i) = some i := rfl
theorem isN_none : isN .none = true := rfl
theorem isN_int {i : Int} : isN (.int i) = false := rfl
theorem isN_bool {i : Bool} : isN (.bool i) = false := rfl
theorem isN_str {i : Str} : isN (.str i) = false := rfl
theorem isN_tup {i : List D} : isN (.tuple i) = false := rfl
theorem isN_lst {i : List D} : isN (.list i) = false := rfl
theorem items_lst {l : List D} : itemsD (.list l) = some l := rfl
theorem items_tup {l : List D} : itemsD (.tuple l) = some l := rfl
theorem app_if {n : Nat} {α : Type} {x : M α} (h : n < 16000000) : (if n < lineMax then x else fail) = x := if_pos h
theorem ext_if {n : Nat} {α : Type} {x : M α} (h : n ≤ 16000000) : (if n ≤ lineMax then x else fail) = x := if_pos h
theorem en_str {l : List Nat} : enD (.str (S l)) = some (l.map fun c => .str (S [c])) := rfl
theorem en_lst {l : List D} : enD (.list l) = some l := rfl
theorem items_str {l : List Nat} : itemsD (.str (S l)) = some (l.map fun c => .str (S [c])) := rfl
theorem eq_self_str {z : Str} : cmpD .eq (.str z) (.str z) = some (.bool true) := by simp [cmpD, eqD, gd, PyData.eqv]
theorem eqv_bool {a b : Bool} : cmpD .eq (.bool a) (.bool b) = some (.bool (a == b)) := rfl
theorem eq_nil : cmpD .eq (.list []) (.list []) = some (.bool true) := rfl
theorem eqvAll_nil {xs : List D} : PyData.eqvAll xs [] = xs.isEmpty := by cases xs <;> rfl
theorem eq_nil' {xs : List D} (h : ∀ x ∈ xs, gd 59 x = true) : cmpD .eq (.list xs) (.list []) = some (.bool xs.isEmpty) := by
  have h1 : gd 60 (.list xs) = true := by rw [gd]; exact List.all_eq_true.mpr h
  show (eqD _ _).map _ = _
  unfold eqD
  rw [if_pos ⟨h1, rfl⟩]
  show some (PyData.bool (PyData.eqvAll xs [])) = _
  rw [eqvAll_nil]
theorem ne_nil' {xs : List D} (h : ∀ x ∈ xs, gd 59 x = true) : cmpD .ne (.list xs) (.list []) = some (.bool (!xs.isEmpty)) := by
  have h1 : gd 60 (.list xs) = true := by rw [gd]; exact List.all_eq_true.mpr h
  show (eqD _ _).map _ = _
  unfold eqD
  rw [if_pos ⟨h1, rfl⟩]
  show some (PyData.bool (!PyData.eqvAll xs [])) = _
  rw [eqvAll_nil]
theorem gd_map_int {α : Type} {n : Nat} {f : α → Int} {l : List α} : ∀ x ∈ l.map (fun a => PyData.int (f a)), gd n x = true := by
  intro x hx
  obtain ⟨a, _, rfl⟩ := List.mem_map.mp hx
  cases n <;> rfl
/-! least and greatest -/
theorem fold_min {α : Type} (lt : α → α → Bool) (ir : ∀ a, lt a a = false) (tr : ∀ a b c, lt b a = false → lt c b = false → lt c a = false) (as : ∀ a b, lt a b = true → lt b a = false) :
    ∀ (l : List α) (x : α), (l.foldl (fun a y => if lt y a = true then y else a) x = x ∨ l.foldl (fun a y => if lt y a = true then y else a) x ∈ l) ∧ lt x (l.foldl (fun a y => if lt y a = true then y else a) x) = false ∧ ∀ y ∈ l, lt y (l.foldl (fun a y => if lt y a = true then y else a) x) = false
  | [], x => ⟨.inl rfl, ir x, fun y hy => by cases hy⟩
  | z :: l, x => by
    rw [List.foldl_cons]
    obtain ⟨h1, h2, h3⟩ := fold_min lt ir tr as l (if lt z x = true then z else x)
    cases hz : lt z x with
    | true =>
      simp only [hz, if_true] at h1 h2 h3 ⊢
      refine ⟨.inr ?_, tr _ _ _ h2 (as _ _ hz), fun y hy => ?_⟩
      · rcases h1 with h1 | h1
        · rw [h1]; exact List.mem_cons_self
        · exact List.mem_cons_of_mem _ h1
      · rcases List.mem_cons.mp hy with rfl | hy
        · exact h2
        · exact h3 y hy
    | false =>
      simp only [hz, if_false, Bool.false_eq_true] at h1 h2 h3 ⊢
      refine ⟨?_, h2, fun y hy => ?_⟩
      · rcases h1 with h1 | h1
        · exact .inl h1
        · exact .inr (List.mem_cons_of_mem _ h1)
      · rcases List.mem_cons.mp hy with rfl | hy
        · exact tr _ _ _ h2 hz
        · exact h3 y hy
theorem fold_map {α : Type} (enc : α → D) (lt : α → α → Bool) (f : D → D → Bool) (hf : ∀ a b, f (enc a) (enc b) = lt a b) : ∀ (l : List α) (x : α), (l.map enc).foldl (fun a y => if f y a = true then y else a) (enc x) = enc (l.foldl (fun a y => if lt y a = true then y else a) x)
  | [], _ => rfl
  | z :: l, x => by
    rw [List.map_cons, List.foldl_cons, List.foldl_cons, hf]
    cases lt z x with
    | true => exact fold_map enc lt f hf l z
    | false => exact fold_map enc lt f hf l x
theorem alk_ints (l : List Int) : allAlk (l.map .int) = true := by
  unfold allAlk
  rw [List.all_eq_true]
  intro a ha
  obtain ⟨i, _, rfl⟩ := List.mem_map.mp ha
  simp only [isN, gd, Bool.not_false, Bool.true_and, List.all_eq_true]
  intro b hb
  obtain ⟨j, _, rfl⟩ := List.mem_map.mp hb
  rfl
theorem max_ints {l : List Int} {m : Int} (hm : m ∈ l) (hle : ∀ x ∈ l, x ≤ m) : blD .max1 [.list (l.map .int)] = some (.int m) := by
  show maxL (l.map .int) = _
  cases l with
  | nil => cases hm
  | cons x l =>
    have ha := alk_ints (x :: l)
    rw [List.map_cons] at ha ⊢
    rw [maxL, if_pos ha]
    rw [fold_map PyData.int (fun a b => decide (b < a)) (fun y a => ltd a y) (fun a b => rfl) l x]
    obtain ⟨h1, h2, h3⟩ := fold_min (fun a b : Int => decide (b < a)) (by simp) (fun a b c h1 h2 => by simp at *; omega) (fun a b h => by simp at *; omega) l x
    congr 2
    generalize List.foldl _ x l = r at h1 h2 h3
    have q1 : r ≤ m := by
      rcases h1 with rfl | h1
      · exact hle _ List.mem_cons_self
      · exact hle _ (List.mem_cons_of_mem _ h1)
    have q2 : m ≤ r := by
      rcases List.mem_cons.mp hm with rfl | hm
      · simpa using h2
      · simpa using h3 m hm
    omega
theorem min_ints {l : List Int} {m : Int} (hm : m ∈ l) (hle : ∀ x ∈ l, m ≤ x) : blD .min1 [.list (l.map .int)] = some (.int m) := by
  show minL (l.map .int) = _
  cases l with
  | nil => cases hm
  | cons x l =>
    have ha := alk_ints (x :: l)
    rw [List.map_cons] at ha ⊢
    rw [minL, if_pos ha]
    rw [fold_map PyData.int (fun a b => decide (a < b)) (fun y a => ltd y a) (fun a b => rfl) l x]
    obtain ⟨h1, h2, h3⟩ := fold_min (fun a b : Int => decide (a < b)) (by simp) (fun a b c h1 h2 => by simp at *; omega) (fun a b h => by simp at *; omega) l x
    congr 2
    generalize List.foldl _ x l = r at h1 h2 h3
    have q1 : m ≤ r := by
      rcases h1 with rfl | h1
      · exact hle _ List.mem_cons_self
      · exact hle _ (List.mem_cons_of_mem _ h1)
    have q2 : r ≤ m := by
      rcases List.mem_cons.mp hm with rfl | hm
      · simpa using h2
      · simpa using h3 m hm
    omega
/-- pairs of ints -/
def encP (p : Int × Int) : D := .tuple [.int p.1, .int p.2]
def ltP (a b : Int × Int) : Bool := decide (a.1 < b.1 ∨ a.1 = b.1 ∧ a.2 < b.2)
theorem ltd_P (a b : Int × Int) : ltd (encP a) (encP b) = ltP a b := by
  unfold encP ltP
  simp only [ltd, ltds, PyData.eqv, beq_int]
  by_cases h : a.1 = b.1
  · by_cases h2 : a.2 = b.2
    · simp [h, h2]
    · simp [h, h2]
  · simp [h]
theorem alk_P (l : List (Int × Int)) : allAlk (l.map encP) = true := by
  unfold allAlk
  rw [List.all_eq_true]
  intro a ha
  obtain ⟨i, _, rfl⟩ := List.mem_map.mp ha
  simp only [encP, isN, gd, Bool.not_false, Bool.true_and, List.all_eq_true, List.all_cons, List.all_nil, Bool.and_true]
  intro b hb
  obtain ⟨j, _, rfl⟩ := List.mem_map.mp hb
  rfl
theorem min_P {l : List (Int × Int)} {m : Int × Int} (hm : m ∈ l) (hle : ∀ x ∈ l, ltP x m = false) : blD .min1 [.list (l.map encP)] = some (encP m) := by
  show minL (l.map encP) = _
  cases l with
  | nil => cases hm
  | cons x l =>
    have ha := alk_P (x :: l)
    rw [List.map_cons] at ha ⊢
    rw [minL, if_pos ha]
    rw [fold_map encP ltP (fun y a => ltd y a) (fun a b => ltd_P a b) l x]
    obtain ⟨h1, h2, h3⟩ := fold_min ltP (by simp [ltP]) (fun a b c h1 h2 => by simp [ltP] at *; omega) (fun a b h => by simp [ltP] at *; omega) l x
    congr 2
    generalize List.foldl _ x l = r at h1 h2 h3
    have q1 : ltP r m = false := by
      rcases h1 with rfl | h1
      · exact hle _ List.mem_cons_self
      · exact hle _ (List.mem_cons_of_mem _ h1)
    have q2 : ltP m r = false := by
      rcases List.mem_cons.mp hm with rfl | hm
      · exact h2
      · exact h3 m hm
    simp [ltP] at q1 q2
    exact Prod.ext (by omega) (by omega)
theorem idxOf_ints {m : Int} : ∀ {l : List Int} {b : Nat}, l[b]? = some m → (∀ j, j < b → l[j]? ≠ some m) → idxOf (l.map .int) (.int m) = some b
  | [], b, h, _ => by simp at h
  | x :: l, 0, h, _ => by
    have : x = m := by simpa using h
    subst this
    simp [idxOf, PyData.eqv]
  | x :: l, b + 1, h, hf => by
    have h0 := hf 0 (by omega)
    have hx : ¬ x = m := fun e => h0 (by rw [e]; rfl)
    have e : PyData.eqv (.int x) (.int m) = false := by
      show (x == m) = false
      rw [beq_int]
      exact decide_eq_false hx
    rw [List.map_cons, idxOf, if_neg (by rw [e]; exact Bool.false_ne_true), idxOf_ints (by simpa using h) fun j hj => by
      have := hf (j + 1) (by omega)
      simpa using this]
    rfl
theorem index_ints {m : Int} {l : List Int} {b : Nat} (h : l[b]? = some m) (hf : ∀ j, j < b → l[j]? ≠ some m) : mtD .index (.list (l.map .int)) [.int m] = some (.int b) := by
  have h1 : gd 60 (.list (l.map PyData.int)) = true := by
    rw [gd]
    exact List.all_eq_true.mpr (by
      intro x hx
      obtain ⟨i, _, rfl⟩ := List.mem_map.mp hx
      rfl)
  show (if gd 60 (.int m) = true ∧ gd 60 (.list (l.map PyData.int)) = true then (idxOf (l.map .int) (.int m)).map fun n => PyData.int (n : Nat) else none) = _
  rw [if_pos ⟨rfl, h1⟩, idxOf_ints h hf]
  rfl
theorem max_ex : ∀ {l : List Int}, l ≠ [] → ∃ m ∈ l, ∀ x ∈ l, x ≤ m
  | [], h => absurd rfl h
  | [x], _ => ⟨x, List.mem_cons_self, fun y hy => by simp at hy; omega⟩
  | x :: y :: l, _ => by
    obtain ⟨m, h1, h2⟩ := max_ex (l := y :: l) (by simp)
    by_cases h : m ≤ x
    · refine ⟨x, List.mem_cons_self, fun z hz => ?_⟩
      rcases List.mem_cons.mp hz with rfl | hz
      · omega
      · have := h2 z hz
        omega
    · refine ⟨m, List.mem_cons_of_mem _ h1, fun z hz => ?_⟩
      rcases List.mem_cons.mp hz with rfl | hz
      · omega
      · exact h2 z hz
/-- the first place of a value -/
theorem first_at {m : Int} : ∀ {l : List Int}, m ∈ l → ∃ b : Nat, l[b]? = some m ∧ ∀ j : Nat, j < b → l[j]? ≠ some m
  | [], h => by cases h
  | x :: l, h => by
    by_cases e : x = m
    · subst e
      exact ⟨0, rfl, fun j hj => by omega⟩
    · have h : m ∈ l := by
        rcases List.mem_cons.mp h with h | h
        · exact absurd h.symm e
        · exact h
      obtain ⟨b, h1, h2⟩ := first_at h
      refine ⟨b + 1, by simpa using h1, fun j hj => ?_⟩
      cases j with
      | zero => simpa using e
      | succ j => simpa using h2 j (by omega)
/-! join -/
theorem strs_map : ∀ xs : List (List Nat), strsD (xs.map fun l => .str (S l)) = some (xs.map S)
  | [] => rfl
  | x :: xs => by rw [List.map_cons, strsD, strs_map xs]; rfl
theorem join_S {sep : List Nat} {xs : List (List Nat)} (h : (xs.map List.length).sum + xs.length * sep.length ≤ 16000000) : mtD .join (.str (S sep)) [.list (xs.map fun l => .str (S l))] = some (.str (S (joinS sep xs))) := by
  show joinD _ _ = _
  unfold joinD
  rw [strs_map]
  have e1 : ((xs.map S).map (·.cps.size)).sum + (xs.map S).length * (S sep).cps.size ≤ strMax := by
    have : ((xs.map S).map (·.cps.size)) = xs.map List.length := by rw [List.map_map]; rfl
    rw [this, List.length_map]
    exact h
  simp only
  rw [if_pos e1]
  congr 4
  rw [List.map_map]
  conv => rhs; rw [← List.map_id xs]
  congr 1
theorem join_T {sep : List Nat} {xs : List (List Nat)} (h : (xs.map List.length).sum + xs.length * sep.length ≤ 16000000) : mtD .join (.str (S sep)) [.tuple (xs.map fun l => .str (S l))] = some (.str (S (joinS sep xs))) := join_S h
theorem joinS_one : ∀ l : List Nat, joinS [] (l.map fun c => [c]) = l
  | [] => rfl
  | [x] => rfl
  | x :: y :: l => by
    have := joinS_one (y :: l)
    rw [List.map_cons] at this
    rw [List.map_cons, List.map_cons, joinS, this]
    · rfl
    · intro z; cases z
/-! places -/
theorem slc_str {l : List Nat} {lo hi : Option Int} : slcD (.str (S l)) lo hi = some (.str (S (slcL l lo hi))) := rfl
theorem slc_lst {l : List D} {lo hi : Option Int} : slcD (.list l) lo hi = some (.list (slcL l lo hi)) := rfl
theorem slc_tup {l : List D} {lo hi : Option Int} : slcD (.tuple l) lo hi = some (.tuple (slcL l lo hi)) := rfl
theorem slcL_from {α : Type} {l : List α} {i : Int} (h : 0 ≤ i) : slcL l (some i) none = l.drop i.toNat := by
  have e : slcL l (some i) none = (l.drop (min i.toNat l.length)).take (l.length - min i.toNat l.length) := by
    simp only [slcL, cutB]
    rw [if_neg (by omega)]
  rw [e]
  by_cases h1 : i.toNat ≤ l.length
  · rw [Nat.min_eq_left h1, List.take_of_length_le (by simp)]
  · rw [Nat.min_eq_right (by omega), List.drop_of_length_le (Nat.le_refl _), List.drop_of_length_le (by omega)]
    simp
theorem slcL_to {α : Type} {l : List α} {j : Int} (h : 0 ≤ j) : slcL l none (some j) = l.take j.toNat := by
  have e : slcL l none (some j) = l.take (min j.toNat l.length) := by
    simp only [slcL, cutB]
    rw [if_neg (by omega), List.drop_zero, Nat.sub_zero]
  rw [e]
  by_cases h1 : j.toNat ≤ l.length
  · rw [Nat.min_eq_left h1]
  · rw [Nat.min_eq_right (by omega), List.take_of_length_le (Nat.le_refl _), List.take_of_length_le (by omega)]
theorem slcL_mid {α : Type} {l : List α} {i j : Int} (h : 0 ≤ i ∧ 0 ≤ j) : slcL l (some i) (some j) = (l.take j.toNat).drop i.toNat := by
  have e : slcL l (some i) (some j) = (l.drop (min i.toNat l.length)).take (min j.toNat l.length - min i.toNat l.length) := by
    simp only [slcL, cutB]
    rw [if_neg (by omega), if_neg (by omega)]
  rw [e]
  apply List.ext_getElem?
  intro n
  simp only [List.getElem?_take, List.getElem?_drop]
  split
  · rename_i h1
    by_cases h2 : i.toNat ≤ l.length
    · rw [Nat.min_eq_left h2, if_pos (by omega)]
    · rw [Nat.min_eq_right (by omega), List.getElem?_eq_none (by omega)]
      omega
  · rename_i h1
    by_cases h2 : i.toNat + n < j.toNat
    · rw [if_pos h2, List.getElem?_eq_none (by omega)]
    · rw [if_neg h2]
theorem repS_one {c n : Nat} : repS [c] n = List.replicate n c := by
  unfold repS
  induction n with
  | zero => rfl
  | succ n ih => rw [List.replicate_succ, List.flatten_cons, ih, List.replicate_succ]; rfl
theorem repL_one {c : D} {n : Nat} : repL [c] n = List.replicate n c := by
  unfold repL
  induction n with
  | zero => rfl
  | succ n ih => rw [List.replicate_succ, List.flatten_cons, ih, List.replicate_succ]; rfl
/-- xs[i] -/
theorem idx_lst {xs : List D} {i : Int} {d : D} (h : 0 ≤ i) (e : xs[i.toNat]? = some d) : idxM (.list xs) (.int i) = ret d := by
  funext s
  show (match atL xs i with
    | some d => some (d, s)
    | none => none) = _
  unfold atL
  rw [if_pos h, e]
  rfl
theorem idx_tup {xs : List D} {i : Int} {d : D} (h : 0 ≤ i) (e : xs[i.toNat]? = some d) : idxM (.tuple xs) (.int i) = ret d := by
  funext s
  show (match atL xs i with
    | some d => some (d, s)
    | none => none) = _
  unfold atL
  rw [if_pos h, e]
  rfl
theorem idx_str {l : List Nat} {i : Int} {c : Nat} (h : 0 ≤ i) (e : l[i.toNat]? = some c) : idxM (.str (S l)) (.int i) = ret (.str (S [c])) := by
  funext s
  show (match (atL l i).map (fun c => PyData.str (S [c])) with
    | some d => some (d, s)
    | none => none) = _
  unfold atL
  rw [if_pos h, e]
  rfl
theorem idx_t0 {a : D} {xs : List D} : idxM (.tuple (a :: xs)) (.int 0) = ret a := rfl
theorem idx_t1 {a b : D} {xs : List D} : idxM (.tuple (a :: b :: xs)) (.int 1) = ret b := rfl
theorem idx_t2 {a b c : D} {xs : List D} : idxM (.tuple (a :: b :: c :: xs)) (.int 2) = ret c := rfl
theorem idx_l0 {a : D} {xs : List D} : idxM (.list (a :: xs)) (.int 0) = ret a := rfl
end
end Q

set_option Elab.async false
set_option linter.all false
set_option maxRecDepth 100000
/-! P1: loops, the law's draws, what all laws share. -/
namespace Q
open PySem
/-! ### loops that only compute -/
theorem forL_nil {step : D → Env → M Fl} {σ : Env} : forL step [] σ = ret (.nx σ) := rfl
theorem forL_nx (I : Nat → Env → Prop) {step : D → Env → M Fl} : ∀ {ds : List D} {σ : Env}, I 0 σ → (∀ i d σ, ds[i]? = some d → I i σ → ∃ σ', (step d σ = ret (.nx σ') ∨ step d σ = ret (.ct σ')) ∧ I (i + 1) σ') →
    ∃ σ', forL step ds σ = ret (.nx σ') ∧ I ds.length σ' := by
  intro ds
  induction ds generalizing I with
  | nil => intro σ h0 _; exact ⟨σ, rfl, h0⟩
  | cons d ds ih =>
    intro σ h0 hs
    obtain ⟨σ1, h1, h2⟩ := hs 0 d σ rfl h0
    obtain ⟨σ', h3, h4⟩ := ih (fun i => I (i + 1)) h2 fun i d' σ'' h => hs (i + 1) d' σ'' (by simpa using h)
    refine ⟨σ', ?_, h4⟩
    unfold forL
    rcases h1 with h1 | h1 <;> rw [h1] <;> exact h3
/-- a loop that may end the def -/
theorem forL_or (I : Nat → Env → Prop) (R : Nat → D → Prop) {step : D → Env → M Fl} : ∀ {ds : List D} {σ : Env}, I 0 σ →
    (∀ i d σ, ds[i]? = some d → I i σ → (∃ σ', (step d σ = ret (.nx σ') ∨ step d σ = ret (.ct σ')) ∧ I (i + 1) σ') ∨ ∃ v, step d σ = ret (.rt v) ∧ R i v) →
    (∃ σ', forL step ds σ = ret (.nx σ') ∧ I ds.length σ') ∨ ∃ i v, i < ds.length ∧ forL step ds σ = ret (.rt v) ∧ R i v := by
  intro ds
  induction ds generalizing I R with
  | nil => intro σ h0 _; exact .inl ⟨σ, rfl, h0⟩
  | cons d ds ih =>
    intro σ h0 hs
    rcases hs 0 d σ rfl h0 with ⟨σ1, h1, h2⟩ | ⟨v, h1, h2⟩
    · have e : forL step (d :: ds) σ = forL step ds σ1 := by
        rw [forL]
        rcases h1 with h1 | h1 <;> rw [h1] <;> rfl
      rw [e]
      rcases ih (fun i => I (i + 1)) (fun i => R (i + 1)) h2 fun i d' σ'' h => hs (i + 1) d' σ'' (by simpa using h) with ⟨σ', h3, h4⟩ | ⟨i, v, h3, h4, h5⟩
      · exact .inl ⟨σ', h3, h4⟩
      · exact .inr ⟨i + 1, v, by simpa using h3, h4, h5⟩
    · refine .inr ⟨0, v, by simp, ?_, h2⟩
      rw [forL, h1]
      rfl
/-- a comprehension, each turn's answer known -/
theorem lcL_of {α : Type} {step : D → M (Option D)} (g : α → D) (f : α → Option D) : ∀ {l : List α}, (∀ x ∈ l, step (g x) = ret (f x)) → lcL step (l.map g) = ret (l.filterMap f)
  | [], _ => rfl
  | x :: l, h => by
    rw [List.map_cons, lcL, h x List.mem_cons_self, bnd_r, lcL_of g f fun y hy => h y (List.mem_cons_of_mem _ hy), bnd_r, List.filterMap_cons]
    cases f x <;> rfl
theorem lcL_map {α : Type} {step : D → M (Option D)} (g : α → D) (f : α → D) {l : List α} (h : ∀ x ∈ l, step (g x) = ret (some (f x))) : lcL step (l.map g) = ret (l.map f) := by
  rw [lcL_of g (fun x => some (f x)) h]
  congr 1
  induction l with
  | nil => rfl
  | cons x l ih => rw [List.filterMap_cons, List.map_cons, ih fun y hy => h y (List.mem_cons_of_mem _ hy)]
theorem rgD_nat {n : Int} : rgD 0 n = (List.range n.toNat).map fun k : Nat => PyData.int (k : Int) := by
  unfold rgD
  simp
theorem rg1_ret {C : Nat → List D → M D} {r : Bool} {a : Tm} {σ : Env} {n : Int} (h : ev C false a σ = ret (.int n)) (hn : -1000000 < n ∧ n ≤ 16000000) : evI C r (.rg1 a) σ = ret (rgD 0 n) := by
  rw [evI, h, bnd_r]
  show bnd (lift (intD (.int n))) _ = _
  rw [show intD (.int n) = some n from rfl, lift_ret, bnd_r, if_pos]
  refine ⟨?_, by unfold lineMax; omega⟩
  unfold bigI
  simp
  omega
/-! ### the live state -/
def Sure {α : Type} (m : M α) (Q : α → Prop) : Prop := ∀ ns n, ∃ a n', m (some (ns, n)) = some (a, some (ns, n')) ∧ Q a
section
variable {α β : Type} {m : M α} {f : α → M β} {Q : α → Prop}
theorem sure_congr {m' : M α} (h : m = m') : Sure m Q = Sure m' Q := by rw [h]
theorem sure_ret {a : α} (h : Q a) : Sure (ret a) Q := fun ns n => ⟨a, n, rfl, h⟩
theorem sure_bnd {R : β → Prop} (h : Sure m fun a => Sure (f a) R) : Sure (bnd m f) R := fun ns n => by
  obtain ⟨a, n', h1, h2⟩ := h ns n
  obtain ⟨b, n'', h3, h4⟩ := h2 ns n'
  exact ⟨b, n'', by rw [bnd_some h1]; exact h3, h4⟩
theorem Sure.mono {R : α → Prop} (h : Sure m Q) (hq : ∀ a, Q a → R a) : Sure m R := fun ns n => by
  obtain ⟨a, n', h1, h2⟩ := h ns n
  exact ⟨a, n', h1, hq a h2⟩
theorem sure_of {a : α} (h : m = ret a) (q : Q a) : Sure m Q := by rw [h]; exact sure_ret q
end
theorem sure_for (I : Nat → Env → Prop) {step : D → Env → M Fl} : ∀ {ds : List D} {σ : Env}, I 0 σ → (∀ i d σ, ds[i]? = some d → I i σ → Sure (step d σ) fun f => ∃ σ', (f = .nx σ' ∨ f = .ct σ') ∧ I (i + 1) σ') →
    Sure (forL step ds σ) fun f => ∃ σ', f = .nx σ' ∧ I ds.length σ' := by
  intro ds
  induction ds generalizing I with
  | nil => intro σ h0 _; exact sure_ret ⟨σ, rfl, h0⟩
  | cons d ds ih =>
    intro σ h0 hs
    unfold forL
    refine sure_bnd ((hs 0 d σ rfl h0).mono fun f ⟨σ1, h1, h2⟩ => ?_)
    have := ih (fun i => I (i + 1)) h2 fun i d' σ'' h => hs (i + 1) d' σ'' (by simpa using h)
    rcases h1 with rfl | rfl <;> exact this
theorem sure_lc (P : D → Prop) {step : D → M (Option D)} : ∀ {ds : List D}, (∀ d ∈ ds, Sure (step d) fun o => ∃ x, o = some x ∧ P x) → Sure (lcL step ds) fun l => l.length = ds.length ∧ ∀ x ∈ l, P x
  | [], _ => sure_ret ⟨rfl, fun x hx => by cases hx⟩
  | d :: ds, h => by
    unfold lcL
    refine sure_bnd ((h d List.mem_cons_self).mono fun o ⟨x, e, px⟩ => ?_)
    subst e
    refine sure_bnd ((sure_lc P fun y hy => h y (List.mem_cons_of_mem _ hy)).mono fun l ⟨h1, h2⟩ => sure_ret ⟨by simp [h1], fun y hy => ?_⟩)
    rcases List.mem_cons.mp hy with rfl | hy
    · exact px
    · exact h2 y hy
/-- behind one statement -/
def Nx (C : Nat → List D → M D) (r : List St) (Q : Fl → Prop) (f : Fl) : Prop := match f with
  | .nx σ1 => Sure (execs C r σ1) Q
  | f => Q f
theorem sure_seq {C : Nat → List D → M D} {s : St} {r : List St} {σ : Env} {Q : Fl → Prop} (h : Sure (exec C s σ) (Nx C r Q)) : Sure (execs C (s :: r) σ) Q := by
  unfold execs
  refine sure_bnd (h.mono fun f hf => ?_)
  cases f <;> first | exact hf | exact sure_ret hf
theorem nx_go {C : Nat → List D → M D} {r : List St} {σ : Env} {Q : Fl → Prop} (h : Sure (execs C r σ) Q) : Nx C r Q (.nx σ) := h
theorem sure_nx {C : Nat → List D → M D} {r : List St} {σ : Env} {Q : Fl → Prop} (h : Sure (execs C r σ) Q) : Sure (ret (.nx σ)) (Nx C r Q) := sure_ret h
theorem sure_end {C : Nat → List D → M D} {σ : Env} {Q : Fl → Prop} (h : Q (.nx σ)) : Sure (execs C [] σ) Q := sure_ret h
/-! ### the helpers that stand in every law -/
def hb_next : List St := [(.wat 0), (.ifs (.cmp .gt (.idx (.var 0) (.cst (.str (S [97, 116])))) (.bl .len [(.idx (.var 0) (.cst (.str (S [100, 114, 97, 119, 115]))))])) [(.ret (.cst (.int 0)))] []), (.ret (.bin .mod (.bl .int [(.idx (.idx (.var 0) (.cst (.str (S [100, 114, 97, 119, 115])))) (.bin .sub (.idx (.var 0) (.cst (.str (S [97, 116])))) (.cst (.int 1))))]) (.var 1)))]
def hb_pick (f : Nat) : List St := [(.ret (.idx (.var 1) (.call f [(.var 0), (.bl .len [(.var 1)])])))]
def hb_says : List St := [(.ret (.and (.isi .bool (.var 0)) (.cmp .eq (.var 0) (.var 1))))]
def he_same : Tm := (.var 2)
def hc_same (f : Nat) : Tm := (.not (.call f [(.idx (.var 0) (.var 2)), (.idx (.var 1) (.var 2))]))
def hb_same (f : Nat) : List St := [(.ifs (.isi .tuple (.var 1)) [(.ifs (.or (.not (.isi .tuple (.var 0))) (.cmp .ne (.bl .len [(.var 0)]) (.bl .len [(.var 1)]))) [(.ret (.cst (.bool false)))] []), (.ret (.cmp .eq (.lc [2] (.v 2) (.rg1 (.bl .len [(.var 1)])) (some (hc_same f)) he_same) (.lst [])))] []), (.ifs (.isN (.var 1)) [(.ret (.isN (.var 0)))] []), (.ifs (.isi .str (.var 1)) [(.ret (.and (.isi .str (.var 0)) (.cmp .eq (.var 0) (.var 1))))] []), (.ret (.and (.isi .int (.var 0)) (.and (.cmp .eq (.isi .bool (.var 0)) (.isi .bool (.var 1))) (.cmp .eq (.var 0) (.var 1)))))]
def hb_draws_1 : List St := [(.ifs (.cmp .gt (.var 6) (.cst (.int 0))) [(.app 2 (.bin .mod (.bl .int [(.var 6)]) (.cst (.int 997)))), (.asg (.v 6) (.bin .fdiv (.var 6) (.cst (.int 997))))] [])]
def hb_draws_2 : List St := [(.asg (.v 5) (.bl .abs [(.bl .int [(.idx (.var 0) (.var 4))])])), (.asg (.v 3) (.bin .mod (.bl .int [(.bin .add (.bin .add (.bin .mul (.var 3) (.cst (.int 48271))) (.bin .mod (.var 5) (.cst (.int 1000003)))) (.var 4))]) (.cst (.int 65537)))), (.asg (.v 6) (.cst (.int 0))), (.ifs (.cmp .ge (.var 5) (.bin .pow (.cst (.int 10)) (.cst (.int 18)))) [(.asg (.v 6) (.var 5))] [(.app 2 (.bin .mod (.bl .int [(.var 5)]) (.cst (.int 997)))), (.app 2 (.bin .mod (.bin .mod (.bl .int [(.bin .add (.bin .mul (.var 3) (.cst (.int 69621))) (.cst (.int 5)))]) (.cst (.int 65521))) (.cst (.int 997))))]), (.for_ (.v 7) (.rg1 (.cst (.int 60))) hb_draws_1)]
def hb_draws_3 : List St := [(.asg (.v 3) (.bin .mod (.bl .int [(.bin .add (.bin .add (.bin .mul (.var 3) (.cst (.int 16807))) (.var 4)) (.cst (.int 1)))]) (.cst (.int 65537)))), (.app 2 (.bin .mod (.bl .int [(.var 3)]) (.cst (.int 997))))]
def hb_draws : List St := [(.own 2 (.lst [])), (.asg (.v 3) (.cst (.int 7))), (.for_ (.v 4) (.rg1 (.bl .len [(.var 0)])) hb_draws_2), (.for_ (.v 4) (.rg1 (.var 1)) hb_draws_3), (.ret (.slc (.var 2) none (some (.var 1))))]
section
variable {T : List Fn} {f k : Nat}
theorem sure_next (h : T[f]? = some ⟨2, 2, hb_next⟩) {many : Int} (hm : 0 < many) : Sure (cal T (k + 1) f [W, .int many]) fun d => ∃ r : Int, d = .int r ∧ 0 ≤ r ∧ r < many := fun ns n => by
  rw [cal_at h]
  unfold runF hb_next
  have hl : (blD .len [.list (ns.map PyData.int)]) = some (.int ns.length) := by rw [len_lst, List.length_map]
  by_cases hn : (ns.length : Int) < (n : Int) + 1
  · refine ⟨.int 0, n + 1, ?_, 0, rfl, by omega, hm⟩
    simp [bnd, lift, exec, execs, ev, evs, idxM, idxD, Env.read, Env.keep, Sl.read, Sl.keep, hl, gt_int, boolD, hn]
  · obtain ⟨z, hz⟩ : ∃ z, ns[n]? = some z := ⟨ns[n]'(by omega), List.getElem?_eq_getElem _⟩
    refine ⟨.int (z % many), n + 1, ?_, _, rfl, Int.emod_nonneg _ (by omega), Int.emod_lt_of_pos _ hm⟩
    simp [bnd, lift, exec, execs, ev, evs, idxM, idxD, Env.read, Env.keep, Sl.read, Sl.keep, hl, gt_int, boolD, hn, sub_int, mod_int hm, int_int, atL, hz]
theorem sure_pick (h : T[f]? = some ⟨2, 2, hb_next⟩) {g : Nat} (hg : T[g]? = some ⟨2, 2, hb_pick f⟩) {xs : List D} (hx : xs ≠ []) : Sure (cal T (k + 2) g [W, .list xs]) fun d => d ∈ xs := by
  have hl : 0 < xs.length := List.length_pos_iff.mpr hx
  rw [cal_at hg]
  unfold runF hb_pick
  try simp -dsimp -implicitDefEqProofs (disch := first | omega | (simp; omega)) only [ev_var, ev_cst, ev_tup, ev_lst, ev_bin, ev_neg, ev_not, ev_and, ev_or, ev_cmp, ev_isN, ev_notN, ev_chn, ev_ite, ev_idx, ev_slc, ev_call, ev_bl, ev_mt, ev_isi, ev_lc, evI_it, evI_rg1, evI_rg2, evI_enum, exec_asg, exec_own, exec_par, exec_aug, exec_app, exec_ext, exec_ins, exec_put, exec_aput, exec_ifs, exec_for_, exec_whl, exec_ret, exec_retn, exec_brk, exec_cnt, exec_pass, exec_close, evs_nil, evs_cons, evo_none, evo_some, evc_none, evc_some, execs_nil, execs_cons, nxt_nx, nxt_rt, nxt_bk, nxt_ct, List.length_cons, List.length_nil, List.map_cons, List.map_nil, bnd_r, lift_ret, Env.read, Env.keep, Sl.read, Sl.keep, List.cons_append, List.nil_append, List.getElem?_cons_zero, List.getElem?_cons_succ, List.set_cons_zero, List.set_cons_succ, bindT, bindTs, closeS, ownS, keepP, if_true, if_false, ↓reduceIte, Bool.false_eq_true, Nat.reduceAdd, Nat.reduceSub, List.replicate_succ, List.replicate_zero, boolD_b, intD_i, isN_none, isN_int, isN_bool, isN_str, isN_tup, isN_lst, Bool.not_true, Bool.not_false, augD, add_int, sub_int, mul_int, fdiv_int, mod_int, mul_str, add_str, add_tup, add_lst, mul_lst, eq_int, ne_int, lt_int, gt_int, le_int, ge_int, eq_str, ne_str, len_str, len_lst, len_tup, abs_int, int_int, int_bool, min2_int, max2_int, tuple_lst, tuple_tup, list_lst, list_tup, slc_str, slc_lst, slc_tup, repS_one, repL_one, idx_t0, idx_t1, idx_t2, idx_l0, rg1_if, rg2_if, eq_self_str, eqv_bool, eq_nil, wipeE, isiD, lcS_v, forS_v, forS_t, lcS_t, app_if, ext_if, en_str, en_lst, items_str, items_lst, items_tup, Int.toNat_natCast, ev_lc2, lcS2_v, lcS2_t, tgV, tgVs, ev_rev, ev_itl, evI_rg3, rg3_if, List.append_nil, hideE, hideS]
  refine sure_bnd (sure_bnd (sure_bnd (sure_bnd ((sure_next h (by omega)).mono fun d hd => ?_))))
  obtain ⟨r, rfl, h1, h2⟩ := hd
  have e : xs[r.toNat]? = some (xs[r.toNat]'(by omega)) := List.getElem?_eq_getElem _
  rw [idx_lst h1 e]
  exact sure_ret (sure_ret (sure_ret (sure_ret (List.getElem_mem _))))
/-- plain data, so deep -/
def plainD : Nat → D → Bool
  | _, .none => true
  | _, .bool _ => true
  | _, .int _ => true
  | _, .str _ => true
  | k + 1, .tuple xs => xs.all (plainD k) && decide (xs.length ≤ 1000)
  | _, _ => false
theorem filter_none {α β : Type} : ∀ l : List α, l.filterMap (fun _ => (none : Option β)) = []
  | [] => rfl
  | _ :: l => by rw [List.filterMap_cons, filter_none l]
theorem same_none (h : T[f]? = some ⟨2, 3, hb_same f⟩) : cal T (k + 1) f [.none, .none] = ret (.bool true) := by
  rw [cal_at h]
  unfold runF hb_same
  try simp -dsimp -implicitDefEqProofs (disch := first | omega | (simp; omega)) only [ev_var, ev_cst, ev_tup, ev_lst, ev_bin, ev_neg, ev_not, ev_and, ev_or, ev_cmp, ev_isN, ev_notN, ev_chn, ev_ite, ev_idx, ev_slc, ev_call, ev_bl, ev_mt, ev_isi, ev_lc, evI_it, evI_rg1, evI_rg2, evI_enum, exec_asg, exec_own, exec_par, exec_aug, exec_app, exec_ext, exec_ins, exec_put, exec_aput, exec_ifs, exec_for_, exec_whl, exec_ret, exec_retn, exec_brk, exec_cnt, exec_pass, exec_close, evs_nil, evs_cons, evo_none, evo_some, evc_none, evc_some, execs_nil, execs_cons, nxt_nx, nxt_rt, nxt_bk, nxt_ct, List.length_cons, List.length_nil, List.map_cons, List.map_nil, bnd_r, lift_ret, Env.read, Env.keep, Sl.read, Sl.keep, List.cons_append, List.nil_append, List.getElem?_cons_zero, List.getElem?_cons_succ, List.set_cons_zero, List.set_cons_succ, bindT, bindTs, closeS, ownS, keepP, if_true, if_false, ↓reduceIte, Bool.false_eq_true, Nat.reduceAdd, Nat.reduceSub, List.replicate_succ, List.replicate_zero, boolD_b, intD_i, isN_none, isN_int, isN_bool, isN_str, isN_tup, isN_lst, Bool.not_true, Bool.not_false, augD, add_int, sub_int, mul_int, fdiv_int, mod_int, mul_str, add_str, add_tup, add_lst, mul_lst, eq_int, ne_int, lt_int, gt_int, le_int, ge_int, eq_str, ne_str, len_str, len_lst, len_tup, abs_int, int_int, int_bool, min2_int, max2_int, tuple_lst, tuple_tup, list_lst, list_tup, slc_str, slc_lst, slc_tup, repS_one, repL_one, idx_t0, idx_t1, idx_t2, idx_l0, rg1_if, rg2_if, eq_self_str, eqv_bool, eq_nil, wipeE, isiD, lcS_v, forS_v, forS_t, lcS_t, app_if, ext_if, en_str, en_lst, items_str, items_lst, items_tup, Int.toNat_natCast, ev_lc2, lcS2_v, lcS2_t, tgV, tgVs, ev_rev, ev_itl, evI_rg3, rg3_if, List.append_nil, hideE, hideS]
theorem same_bool (h : T[f]? = some ⟨2, 3, hb_same f⟩) {a b : Bool} : cal T (k + 1) f [.bool a, .bool b] = ret (.bool (a == b)) := by
  rw [cal_at h]
  unfold runF hb_same
  try simp -dsimp -implicitDefEqProofs (disch := first | omega | (simp; omega)) only [ev_var, ev_cst, ev_tup, ev_lst, ev_bin, ev_neg, ev_not, ev_and, ev_or, ev_cmp, ev_isN, ev_notN, ev_chn, ev_ite, ev_idx, ev_slc, ev_call, ev_bl, ev_mt, ev_isi, ev_lc, evI_it, evI_rg1, evI_rg2, evI_enum, exec_asg, exec_own, exec_par, exec_aug, exec_app, exec_ext, exec_ins, exec_put, exec_aput, exec_ifs, exec_for_, exec_whl, exec_ret, exec_retn, exec_brk, exec_cnt, exec_pass, exec_close, evs_nil, evs_cons, evo_none, evo_some, evc_none, evc_some, execs_nil, execs_cons, nxt_nx, nxt_rt, nxt_bk, nxt_ct, List.length_cons, List.length_nil, List.map_cons, List.map_nil, bnd_r, lift_ret, Env.read, Env.keep, Sl.read, Sl.keep, List.cons_append, List.nil_append, List.getElem?_cons_zero, List.getElem?_cons_succ, List.set_cons_zero, List.set_cons_succ, bindT, bindTs, closeS, ownS, keepP, if_true, if_false, ↓reduceIte, Bool.false_eq_true, Nat.reduceAdd, Nat.reduceSub, List.replicate_succ, List.replicate_zero, boolD_b, intD_i, isN_none, isN_int, isN_bool, isN_str, isN_tup, isN_lst, Bool.not_true, Bool.not_false, augD, add_int, sub_int, mul_int, fdiv_int, mod_int, mul_str, add_str, add_tup, add_lst, mul_lst, eq_int, ne_int, lt_int, gt_int, le_int, ge_int, eq_str, ne_str, len_str, len_lst, len_tup, abs_int, int_int, int_bool, min2_int, max2_int, tuple_lst, tuple_tup, list_lst, list_tup, slc_str, slc_lst, slc_tup, repS_one, repL_one, idx_t0, idx_t1, idx_t2, idx_l0, rg1_if, rg2_if, eq_self_str, eqv_bool, eq_nil, wipeE, isiD, lcS_v, forS_v, forS_t, lcS_t, app_if, ext_if, en_str, en_lst, items_str, items_lst, items_tup, Int.toNat_natCast, ev_lc2, lcS2_v, lcS2_t, tgV, tgVs, ev_rev, ev_itl, evI_rg3, rg3_if, List.append_nil, hideE, hideS, beq_self_eq_true]
theorem same_int (h : T[f]? = some ⟨2, 3, hb_same f⟩) {a b : Int} : cal T (k + 1) f [.int a, .int b] = ret (.bool (decide (a = b))) := by
  rw [cal_at h]
  unfold runF hb_same
  try simp -dsimp -implicitDefEqProofs (disch := first | omega | (simp; omega)) only [ev_var, ev_cst, ev_tup, ev_lst, ev_bin, ev_neg, ev_not, ev_and, ev_or, ev_cmp, ev_isN, ev_notN, ev_chn, ev_ite, ev_idx, ev_slc, ev_call, ev_bl, ev_mt, ev_isi, ev_lc, evI_it, evI_rg1, evI_rg2, evI_enum, exec_asg, exec_own, exec_par, exec_aug, exec_app, exec_ext, exec_ins, exec_put, exec_aput, exec_ifs, exec_for_, exec_whl, exec_ret, exec_retn, exec_brk, exec_cnt, exec_pass, exec_close, evs_nil, evs_cons, evo_none, evo_some, evc_none, evc_some, execs_nil, execs_cons, nxt_nx, nxt_rt, nxt_bk, nxt_ct, List.length_cons, List.length_nil, List.map_cons, List.map_nil, bnd_r, lift_ret, Env.read, Env.keep, Sl.read, Sl.keep, List.cons_append, List.nil_append, List.getElem?_cons_zero, List.getElem?_cons_succ, List.set_cons_zero, List.set_cons_succ, bindT, bindTs, closeS, ownS, keepP, if_true, if_false, ↓reduceIte, Bool.false_eq_true, Nat.reduceAdd, Nat.reduceSub, List.replicate_succ, List.replicate_zero, boolD_b, intD_i, isN_none, isN_int, isN_bool, isN_str, isN_tup, isN_lst, Bool.not_true, Bool.not_false, augD, add_int, sub_int, mul_int, fdiv_int, mod_int, mul_str, add_str, add_tup, add_lst, mul_lst, eq_int, ne_int, lt_int, gt_int, le_int, ge_int, eq_str, ne_str, len_str, len_lst, len_tup, abs_int, int_int, int_bool, min2_int, max2_int, tuple_lst, tuple_tup, list_lst, list_tup, slc_str, slc_lst, slc_tup, repS_one, repL_one, idx_t0, idx_t1, idx_t2, idx_l0, rg1_if, rg2_if, eq_self_str, eqv_bool, eq_nil, wipeE, isiD, lcS_v, forS_v, forS_t, lcS_t, app_if, ext_if, en_str, en_lst, items_str, items_lst, items_tup, Int.toNat_natCast, ev_lc2, lcS2_v, lcS2_t, tgV, tgVs, ev_rev, ev_itl, evI_rg3, rg3_if, List.append_nil, hideE, hideS, beq_self_eq_true]
theorem same_strE (h : T[f]? = some ⟨2, 3, hb_same f⟩) {a : Str} : cal T (k + 1) f [.str a, .str a] = ret (.bool true) := by
  rw [cal_at h]
  unfold runF hb_same
  try simp -dsimp -implicitDefEqProofs (disch := first | omega | (simp; omega)) only [ev_var, ev_cst, ev_tup, ev_lst, ev_bin, ev_neg, ev_not, ev_and, ev_or, ev_cmp, ev_isN, ev_notN, ev_chn, ev_ite, ev_idx, ev_slc, ev_call, ev_bl, ev_mt, ev_isi, ev_lc, evI_it, evI_rg1, evI_rg2, evI_enum, exec_asg, exec_own, exec_par, exec_aug, exec_app, exec_ext, exec_ins, exec_put, exec_aput, exec_ifs, exec_for_, exec_whl, exec_ret, exec_retn, exec_brk, exec_cnt, exec_pass, exec_close, evs_nil, evs_cons, evo_none, evo_some, evc_none, evc_some, execs_nil, execs_cons, nxt_nx, nxt_rt, nxt_bk, nxt_ct, List.length_cons, List.length_nil, List.map_cons, List.map_nil, bnd_r, lift_ret, Env.read, Env.keep, Sl.read, Sl.keep, List.cons_append, List.nil_append, List.getElem?_cons_zero, List.getElem?_cons_succ, List.set_cons_zero, List.set_cons_succ, bindT, bindTs, closeS, ownS, keepP, if_true, if_false, ↓reduceIte, Bool.false_eq_true, Nat.reduceAdd, Nat.reduceSub, List.replicate_succ, List.replicate_zero, boolD_b, intD_i, isN_none, isN_int, isN_bool, isN_str, isN_tup, isN_lst, Bool.not_true, Bool.not_false, augD, add_int, sub_int, mul_int, fdiv_int, mod_int, mul_str, add_str, add_tup, add_lst, mul_lst, eq_int, ne_int, lt_int, gt_int, le_int, ge_int, eq_str, ne_str, len_str, len_lst, len_tup, abs_int, int_int, int_bool, min2_int, max2_int, tuple_lst, tuple_tup, list_lst, list_tup, slc_str, slc_lst, slc_tup, repS_one, repL_one, idx_t0, idx_t1, idx_t2, idx_l0, rg1_if, rg2_if, eq_self_str, eqv_bool, eq_nil, wipeE, isiD, lcS_v, forS_v, forS_t, lcS_t, app_if, ext_if, en_str, en_lst, items_str, items_lst, items_tup, Int.toNat_natCast, ev_lc2, lcS2_v, lcS2_t, tgV, tgVs, ev_rev, ev_itl, evI_rg3, rg3_if, List.append_nil, hideE, hideS, decide_true]
theorem same_tup (h : T[f]? = some ⟨2, 3, hb_same f⟩) {xs : List D} (hl : xs.length ≤ 1000) (ih : ∀ x ∈ xs, cal T k f [x, x] = ret (.bool true)) : cal T (k + 1) f [.tuple xs, .tuple xs] = ret (.bool true) := by
  rw [cal_at h]
  unfold runF hb_same
  try simp -dsimp -implicitDefEqProofs (disch := first | omega | (simp; omega)) only [ev_var, ev_cst, ev_tup, ev_lst, ev_bin, ev_neg, ev_not, ev_and, ev_or, ev_cmp, ev_isN, ev_notN, ev_chn, ev_ite, ev_idx, ev_slc, ev_call, ev_bl, ev_mt, ev_isi, ev_lc, evI_it, evI_rg1, evI_rg2, evI_enum, exec_asg, exec_own, exec_par, exec_aug, exec_app, exec_ext, exec_ins, exec_put, exec_aput, exec_ifs, exec_for_, exec_whl, exec_ret, exec_retn, exec_brk, exec_cnt, exec_pass, exec_close, evs_nil, evs_cons, evo_none, evo_some, evc_none, evc_some, execs_nil, execs_cons, nxt_nx, nxt_rt, nxt_bk, nxt_ct, List.length_cons, List.length_nil, List.map_cons, List.map_nil, bnd_r, lift_ret, Env.read, Env.keep, Sl.read, Sl.keep, List.cons_append, List.nil_append, List.getElem?_cons_zero, List.getElem?_cons_succ, List.set_cons_zero, List.set_cons_succ, bindT, bindTs, closeS, ownS, keepP, if_true, if_false, ↓reduceIte, Bool.false_eq_true, Nat.reduceAdd, Nat.reduceSub, List.replicate_succ, List.replicate_zero, boolD_b, intD_i, isN_none, isN_int, isN_bool, isN_str, isN_tup, isN_lst, Bool.not_true, Bool.not_false, augD, add_int, sub_int, mul_int, fdiv_int, mod_int, mul_str, add_str, add_tup, add_lst, mul_lst, eq_int, ne_int, lt_int, gt_int, le_int, ge_int, eq_str, ne_str, len_str, len_lst, len_tup, abs_int, int_int, int_bool, min2_int, max2_int, tuple_lst, tuple_tup, list_lst, list_tup, slc_str, slc_lst, slc_tup, repS_one, repL_one, idx_t0, idx_t1, idx_t2, idx_l0, rg1_if, rg2_if, eq_self_str, eqv_bool, eq_nil, wipeE, isiD, lcS_v, forS_v, forS_t, lcS_t, app_if, ext_if, en_str, en_lst, items_str, items_lst, items_tup, Int.toNat_natCast, ev_lc2, lcS2_v, lcS2_t, tgV, tgVs, ev_rev, ev_itl, evI_rg3, rg3_if, List.append_nil, hideE, hideS, decide_true]
  rw [rgD_nat, lcL_of (fun k : Nat => PyData.int (k : Int)) (fun _ => none) fun i hi => ?_, filter_none]
  · try simp -dsimp -implicitDefEqProofs (disch := first | omega | (simp; omega)) only [ev_var, ev_cst, ev_tup, ev_lst, ev_bin, ev_neg, ev_not, ev_and, ev_or, ev_cmp, ev_isN, ev_notN, ev_chn, ev_ite, ev_idx, ev_slc, ev_call, ev_bl, ev_mt, ev_isi, ev_lc, evI_it, evI_rg1, evI_rg2, evI_enum, exec_asg, exec_own, exec_par, exec_aug, exec_app, exec_ext, exec_ins, exec_put, exec_aput, exec_ifs, exec_for_, exec_whl, exec_ret, exec_retn, exec_brk, exec_cnt, exec_pass, exec_close, evs_nil, evs_cons, evo_none, evo_some, evc_none, evc_some, execs_nil, execs_cons, nxt_nx, nxt_rt, nxt_bk, nxt_ct, List.length_cons, List.length_nil, List.map_cons, List.map_nil, bnd_r, lift_ret, Env.read, Env.keep, Sl.read, Sl.keep, List.cons_append, List.nil_append, List.getElem?_cons_zero, List.getElem?_cons_succ, List.set_cons_zero, List.set_cons_succ, bindT, bindTs, closeS, ownS, keepP, if_true, if_false, ↓reduceIte, Bool.false_eq_true, Nat.reduceAdd, Nat.reduceSub, List.replicate_succ, List.replicate_zero, boolD_b, intD_i, isN_none, isN_int, isN_bool, isN_str, isN_tup, isN_lst, Bool.not_true, Bool.not_false, augD, add_int, sub_int, mul_int, fdiv_int, mod_int, mul_str, add_str, add_tup, add_lst, mul_lst, eq_int, ne_int, lt_int, gt_int, le_int, ge_int, eq_str, ne_str, len_str, len_lst, len_tup, abs_int, int_int, int_bool, min2_int, max2_int, tuple_lst, tuple_tup, list_lst, list_tup, slc_str, slc_lst, slc_tup, repS_one, repL_one, idx_t0, idx_t1, idx_t2, idx_l0, rg1_if, rg2_if, eq_self_str, eqv_bool, eq_nil, wipeE, isiD, lcS_v, forS_v, forS_t, lcS_t, app_if, ext_if, en_str, en_lst, items_str, items_lst, items_tup, Int.toNat_natCast, ev_lc2, lcS2_v, lcS2_t, tgV, tgVs, ev_rev, ev_itl, evI_rg3, rg3_if, List.append_nil, hideE, hideS]
  · have hi : i < xs.length := by simpa using hi
    have e2 : xs[((i : Nat) : Int).toNat]? = some xs[i] := by simp
    have e3 := ih xs[i] (List.getElem_mem _)
    unfold hc_same
    try simp -dsimp -implicitDefEqProofs (disch := first | omega | (simp; omega)) only [ev_var, ev_cst, ev_tup, ev_lst, ev_bin, ev_neg, ev_not, ev_and, ev_or, ev_cmp, ev_isN, ev_notN, ev_chn, ev_ite, ev_idx, ev_slc, ev_call, ev_bl, ev_mt, ev_isi, ev_lc, evI_it, evI_rg1, evI_rg2, evI_enum, exec_asg, exec_own, exec_par, exec_aug, exec_app, exec_ext, exec_ins, exec_put, exec_aput, exec_ifs, exec_for_, exec_whl, exec_ret, exec_retn, exec_brk, exec_cnt, exec_pass, exec_close, evs_nil, evs_cons, evo_none, evo_some, evc_none, evc_some, execs_nil, execs_cons, nxt_nx, nxt_rt, nxt_bk, nxt_ct, List.length_cons, List.length_nil, List.map_cons, List.map_nil, bnd_r, lift_ret, Env.read, Env.keep, Sl.read, Sl.keep, List.cons_append, List.nil_append, List.getElem?_cons_zero, List.getElem?_cons_succ, List.set_cons_zero, List.set_cons_succ, bindT, bindTs, closeS, ownS, keepP, if_true, if_false, ↓reduceIte, Bool.false_eq_true, Nat.reduceAdd, Nat.reduceSub, List.replicate_succ, List.replicate_zero, boolD_b, intD_i, isN_none, isN_int, isN_bool, isN_str, isN_tup, isN_lst, Bool.not_true, Bool.not_false, augD, add_int, sub_int, mul_int, fdiv_int, mod_int, mul_str, add_str, add_tup, add_lst, mul_lst, eq_int, ne_int, lt_int, gt_int, le_int, ge_int, eq_str, ne_str, len_str, len_lst, len_tup, abs_int, int_int, int_bool, min2_int, max2_int, tuple_lst, tuple_tup, list_lst, list_tup, slc_str, slc_lst, slc_tup, repS_one, repL_one, idx_t0, idx_t1, idx_t2, idx_l0, rg1_if, rg2_if, eq_self_str, eqv_bool, eq_nil, wipeE, isiD, lcS_v, forS_v, forS_t, lcS_t, app_if, ext_if, en_str, en_lst, items_str, items_lst, items_tup, Int.toNat_natCast, ev_lc2, lcS2_v, lcS2_t, tgV, tgVs, ev_rev, ev_itl, evI_rg3, rg3_if, List.append_nil, hideE, hideS, idx_tup (Int.natCast_nonneg i) e2, e3]
theorem same_self (h : T[f]? = some ⟨2, 3, hb_same f⟩) (k : Nat) : ∀ v : D, plainD k v = true → cal T (k + 1) f [v, v] = ret (.bool true) := by
  induction k with
  | zero =>
    intro v hp
    cases v with
    | none => exact same_none h
    | bool b => rw [same_bool h]; simp
    | int b => rw [same_int h]; simp
    | str b => exact same_strE h
    | _ => simp [plainD] at hp
  | succ k ih =>
    intro v hp
    cases v with
    | none => exact same_none h
    | bool b => rw [same_bool h]; simp
    | int b => rw [same_int h]; simp
    | str b => exact same_strE h
    | tuple xs =>
      simp only [plainD, Bool.and_eq_true, List.all_eq_true, decide_eq_true_eq] at hp
      exact same_tup h hp.2 fun x hx => ih x (hp.1 x hx)
    | _ => simp [plainD] at hp
theorem same_str (h : T[f]? = some ⟨2, 3, hb_same f⟩) {a b : List Nat} : cal T (k + 1) f [.str (S a), .str (S b)] = ret (.bool (decide (a = b))) := by
  rw [cal_at h]
  unfold runF hb_same
  try simp -dsimp -implicitDefEqProofs (disch := first | omega | (simp; omega)) only [ev_var, ev_cst, ev_tup, ev_lst, ev_bin, ev_neg, ev_not, ev_and, ev_or, ev_cmp, ev_isN, ev_notN, ev_chn, ev_ite, ev_idx, ev_slc, ev_call, ev_bl, ev_mt, ev_isi, ev_lc, evI_it, evI_rg1, evI_rg2, evI_enum, exec_asg, exec_own, exec_par, exec_aug, exec_app, exec_ext, exec_ins, exec_put, exec_aput, exec_ifs, exec_for_, exec_whl, exec_ret, exec_retn, exec_brk, exec_cnt, exec_pass, exec_close, evs_nil, evs_cons, evo_none, evo_some, evc_none, evc_some, execs_nil, execs_cons, nxt_nx, nxt_rt, nxt_bk, nxt_ct, List.length_cons, List.length_nil, List.map_cons, List.map_nil, bnd_r, lift_ret, Env.read, Env.keep, Sl.read, Sl.keep, List.cons_append, List.nil_append, List.getElem?_cons_zero, List.getElem?_cons_succ, List.set_cons_zero, List.set_cons_succ, bindT, bindTs, closeS, ownS, keepP, if_true, if_false, ↓reduceIte, Bool.false_eq_true, Nat.reduceAdd, Nat.reduceSub, List.replicate_succ, List.replicate_zero, boolD_b, intD_i, isN_none, isN_int, isN_bool, isN_str, isN_tup, isN_lst, Bool.not_true, Bool.not_false, augD, add_int, sub_int, mul_int, fdiv_int, mod_int, mul_str, add_str, add_tup, add_lst, mul_lst, eq_int, ne_int, lt_int, gt_int, le_int, ge_int, eq_str, ne_str, len_str, len_lst, len_tup, abs_int, int_int, int_bool, min2_int, max2_int, tuple_lst, tuple_tup, list_lst, list_tup, slc_str, slc_lst, slc_tup, repS_one, repL_one, idx_t0, idx_t1, idx_t2, idx_l0, rg1_if, rg2_if, eq_self_str, eqv_bool, eq_nil, wipeE, isiD, lcS_v, forS_v, forS_t, lcS_t, app_if, ext_if, en_str, en_lst, items_str, items_lst, items_tup, Int.toNat_natCast, ev_lc2, lcS2_v, lcS2_t, tgV, tgVs, ev_rev, ev_itl, evI_rg3, rg3_if, List.append_nil, hideE, hideS]
theorem says_bool (h : T[f]? = some ⟨2, 2, hb_says⟩) {a b : Bool} : cal T (k + 1) f [.bool a, .bool b] = ret (.bool (a == b)) := by
  rw [cal_at h]
  unfold runF hb_says
  try simp -dsimp -implicitDefEqProofs (disch := first | omega | (simp; omega)) only [ev_var, ev_cst, ev_tup, ev_lst, ev_bin, ev_neg, ev_not, ev_and, ev_or, ev_cmp, ev_isN, ev_notN, ev_chn, ev_ite, ev_idx, ev_slc, ev_call, ev_bl, ev_mt, ev_isi, ev_lc, evI_it, evI_rg1, evI_rg2, evI_enum, exec_asg, exec_own, exec_par, exec_aug, exec_app, exec_ext, exec_ins, exec_put, exec_aput, exec_ifs, exec_for_, exec_whl, exec_ret, exec_retn, exec_brk, exec_cnt, exec_pass, exec_close, evs_nil, evs_cons, evo_none, evo_some, evc_none, evc_some, execs_nil, execs_cons, nxt_nx, nxt_rt, nxt_bk, nxt_ct, List.length_cons, List.length_nil, List.map_cons, List.map_nil, bnd_r, lift_ret, Env.read, Env.keep, Sl.read, Sl.keep, List.cons_append, List.nil_append, List.getElem?_cons_zero, List.getElem?_cons_succ, List.set_cons_zero, List.set_cons_succ, bindT, bindTs, closeS, ownS, keepP, if_true, if_false, ↓reduceIte, Bool.false_eq_true, Nat.reduceAdd, Nat.reduceSub, List.replicate_succ, List.replicate_zero, boolD_b, intD_i, isN_none, isN_int, isN_bool, isN_str, isN_tup, isN_lst, Bool.not_true, Bool.not_false, augD, add_int, sub_int, mul_int, fdiv_int, mod_int, mul_str, add_str, add_tup, add_lst, mul_lst, eq_int, ne_int, lt_int, gt_int, le_int, ge_int, eq_str, ne_str, len_str, len_lst, len_tup, abs_int, int_int, int_bool, min2_int, max2_int, tuple_lst, tuple_tup, list_lst, list_tup, slc_str, slc_lst, slc_tup, repS_one, repL_one, idx_t0, idx_t1, idx_t2, idx_l0, rg1_if, rg2_if, eq_self_str, eqv_bool, eq_nil, wipeE, isiD, lcS_v, forS_v, forS_t, lcS_t, app_if, ext_if, en_str, en_lst, items_str, items_lst, items_tup, Int.toNat_natCast, ev_lc2, lcS2_v, lcS2_t, tgV, tgVs, ev_rev, ev_itl, evI_rg3, rg3_if, List.append_nil, hideE, hideS]
/-! the draws -/
theorem len_F {ns : List Int} : blD .len [F ns] = some (.int ns.length) := by
  show some (PyData.int ((ns.map PyData.int).length : Nat)) = _
  rw [List.length_map]
theorem idx_F {ns : List Int} {i : Nat} (h : i < ns.length) : idxM (F ns) (.int (i : Int)) = ret (.int ns[i]) := by
  funext s
  show (match (if (0 : Int) ≤ (i : Int) then (ns.map PyData.int)[(i : Int).toNat]? else none) with
    | some d => some (d, s)
    | none => none) = _
  rw [if_pos (Int.natCast_nonneg i)]
  simp [h]
theorem draws_in {C : Nat → List D → M D} (N : Nat) {ns : List Int} {many : Int} : ∀ (d : D) (σ : Env), (∃ (dr : List Int) (mx re : Int) (s4 s5 s7 : Sl), σ = [.cl (F ns), .cl (.int many), .ol (dr.map .int), .cl (.int mx), s4, s5, .cl (.int re), s7] ∧ dr.length ≤ N) → N < 100000 →
    ∃ σ', execs C hb_draws_1 (σ.set 7 (.cl d)) = ret (.nx σ') ∧ ∃ (dr : List Int) (mx re : Int) (s4 s5 s7 : Sl), σ' = [.cl (F ns), .cl (.int many), .ol (dr.map .int), .cl (.int mx), s4, s5, .cl (.int re), s7] ∧ dr.length ≤ N + 1 := by
  rintro d σ ⟨dr, mx, re, s4, s5, s7, rfl, hl⟩ hN
  unfold hb_draws_1
  have hlm : (16000000 : Nat) = lineMax := rfl
  by_cases h : 0 < re
  · refine ⟨[.cl (F ns), .cl (.int many), .ol ((dr ++ [re % 997]).map .int), .cl (.int mx), s4, s5, .cl (.int (re / 997)), .cl d], ?_, dr ++ [re % 997], mx, _, s4, s5, _, rfl, by simp; omega⟩
    have hz : (dr.map PyData.int).length < lineMax := by rw [List.length_map, ← hlm]; omega
    try simp -dsimp -implicitDefEqProofs (disch := first | omega | (simp; omega)) only [ev_var, ev_cst, ev_tup, ev_lst, ev_bin, ev_neg, ev_not, ev_and, ev_or, ev_cmp, ev_isN, ev_notN, ev_chn, ev_ite, ev_idx, ev_slc, ev_call, ev_bl, ev_mt, ev_isi, ev_lc, evI_it, evI_rg1, evI_rg2, evI_enum, exec_asg, exec_own, exec_par, exec_aug, exec_app, exec_ext, exec_ins, exec_put, exec_aput, exec_ifs, exec_for_, exec_whl, exec_ret, exec_retn, exec_brk, exec_cnt, exec_pass, exec_close, evs_nil, evs_cons, evo_none, evo_some, evc_none, evc_some, execs_nil, execs_cons, nxt_nx, nxt_rt, nxt_bk, nxt_ct, List.length_cons, List.length_nil, List.map_cons, List.map_nil, bnd_r, lift_ret, Env.read, Env.keep, Sl.read, Sl.keep, List.cons_append, List.nil_append, List.getElem?_cons_zero, List.getElem?_cons_succ, List.set_cons_zero, List.set_cons_succ, bindT, bindTs, closeS, ownS, keepP, if_true, if_false, ↓reduceIte, Bool.false_eq_true, Nat.reduceAdd, Nat.reduceSub, List.replicate_succ, List.replicate_zero, boolD_b, intD_i, isN_none, isN_int, isN_bool, isN_str, isN_tup, isN_lst, Bool.not_true, Bool.not_false, augD, add_int, sub_int, mul_int, fdiv_int, mod_int, mul_str, add_str, add_tup, add_lst, mul_lst, eq_int, ne_int, lt_int, gt_int, le_int, ge_int, eq_str, ne_str, len_str, len_lst, len_tup, abs_int, int_int, int_bool, min2_int, max2_int, tuple_lst, tuple_tup, list_lst, list_tup, slc_str, slc_lst, slc_tup, repS_one, repL_one, idx_t0, idx_t1, idx_t2, idx_l0, rg1_if, rg2_if, eq_self_str, eqv_bool, eq_nil, wipeE, isiD, lcS_v, forS_v, forS_t, lcS_t, app_if, ext_if, en_str, en_lst, items_str, items_lst, items_tup, Int.toNat_natCast, ev_lc2, lcS2_v, lcS2_t, tgV, tgVs, ev_rev, ev_itl, evI_rg3, rg3_if, List.append_nil, hideE, hideS, h, decide_true, if_pos hz, List.map_append]
  · refine ⟨_, ?_, dr, mx, re, s4, s5, .cl d, rfl, by omega⟩
    try simp -dsimp -implicitDefEqProofs (disch := first | omega | (simp; omega)) only [ev_var, ev_cst, ev_tup, ev_lst, ev_bin, ev_neg, ev_not, ev_and, ev_or, ev_cmp, ev_isN, ev_notN, ev_chn, ev_ite, ev_idx, ev_slc, ev_call, ev_bl, ev_mt, ev_isi, ev_lc, evI_it, evI_rg1, evI_rg2, evI_enum, exec_asg, exec_own, exec_par, exec_aug, exec_app, exec_ext, exec_ins, exec_put, exec_aput, exec_ifs, exec_for_, exec_whl, exec_ret, exec_retn, exec_brk, exec_cnt, exec_pass, exec_close, evs_nil, evs_cons, evo_none, evo_some, evc_none, evc_some, execs_nil, execs_cons, nxt_nx, nxt_rt, nxt_bk, nxt_ct, List.length_cons, List.length_nil, List.map_cons, List.map_nil, bnd_r, lift_ret, Env.read, Env.keep, Sl.read, Sl.keep, List.cons_append, List.nil_append, List.getElem?_cons_zero, List.getElem?_cons_succ, List.set_cons_zero, List.set_cons_succ, bindT, bindTs, closeS, ownS, keepP, if_true, if_false, ↓reduceIte, Bool.false_eq_true, Nat.reduceAdd, Nat.reduceSub, List.replicate_succ, List.replicate_zero, boolD_b, intD_i, isN_none, isN_int, isN_bool, isN_str, isN_tup, isN_lst, Bool.not_true, Bool.not_false, augD, add_int, sub_int, mul_int, fdiv_int, mod_int, mul_str, add_str, add_tup, add_lst, mul_lst, eq_int, ne_int, lt_int, gt_int, le_int, ge_int, eq_str, ne_str, len_str, len_lst, len_tup, abs_int, int_int, int_bool, min2_int, max2_int, tuple_lst, tuple_tup, list_lst, list_tup, slc_str, slc_lst, slc_tup, repS_one, repL_one, idx_t0, idx_t1, idx_t2, idx_l0, rg1_if, rg2_if, eq_self_str, eqv_bool, eq_nil, wipeE, isiD, lcS_v, forS_v, forS_t, lcS_t, app_if, ext_if, en_str, en_lst, items_str, items_lst, items_tup, Int.toNat_natCast, ev_lc2, lcS2_v, lcS2_t, tgV, tgVs, ev_rev, ev_itl, evI_rg3, rg3_if, List.append_nil, hideE, hideS, h, decide_false]
theorem draws_in2 {C : Nat → List D → M D} (N : Nat) (hN : N < 90000) {ns : List Int} {many : Int} {i : Nat} (hi : i < ns.length) : ∀ σ : Env, (∃ (dr : List Int) (mx : Int) (s5 s6 s7 s4 : Sl), σ = [.cl (F ns), .cl (.int many), .ol (dr.map .int), .cl (.int mx), s4, s5, s6, s7] ∧ dr.length ≤ N) →
    ∃ σ', execs C hb_draws_2 (σ.set 4 (.cl (.int (i : Int)))) = ret (.nx σ') ∧ ∃ (dr : List Int) (mx : Int) (s5 s6 s7 s4 : Sl), σ' = [.cl (F ns), .cl (.int many), .ol (dr.map .int), .cl (.int mx), s4, s5, s6, s7] ∧ dr.length ≤ N + 62 := by
  rintro σ ⟨dr, mx, s5, s6, s7, s4, rfl, hl⟩
  unfold hb_draws_2
  have hlm : (16000000 : Nat) = lineMax := rfl
  have tail : ∀ (dr : List Int) (mx re : Int) (s5 s7 : Sl), dr.length ≤ N + 2 → ∃ σ', bnd (forL (forS C (.v 7) hb_draws_1) (rgD 0 60) [.cl (F ns), .cl (.int many), .ol (dr.map .int), .cl (.int mx), .cl (.int (i : Int)), s5, .cl (.int re), s7]) (nxt C []) = ret (.nx σ') ∧
      ∃ (dr : List Int) (mx : Int) (s5 s6 s7 s4 : Sl), σ' = [.cl (F ns), .cl (.int many), .ol (dr.map .int), .cl (.int mx), s4, s5, s6, s7] ∧ dr.length ≤ N + 62 := by
    intro dr mx re s5 s7 hd
    obtain ⟨σ', h1, dr', mx', re', s4', s5', s7', rfl, h2⟩ := forL_nx (step := forS C (.v 7) hb_draws_1) (fun j σ => ∃ (dr : List Int) (mx re : Int) (s4 s5 s7 : Sl), σ = [.cl (F ns), .cl (.int many), .ol (dr.map .int), .cl (.int mx), s4, s5, .cl (.int re), s7] ∧ dr.length ≤ N + 2 + j ∧ j ≤ 60)
      (ds := rgD 0 60) (σ := [.cl (F ns), .cl (.int many), .ol (dr.map .int), .cl (.int mx), .cl (.int (i : Int)), s5, .cl (.int re), s7]) ⟨dr, mx, re, _, _, _, rfl, by omega, by omega⟩ fun j d σ hj hI => by
        obtain ⟨dr, mx, re, s4, s5, s7, hσ, h1, h2⟩ := hI
        have hj' : j < 60 := by
          have := (List.getElem?_eq_some_iff.mp hj).1
          simpa [rgD] using this
        obtain ⟨σ', e, dr', mx', re', s4', s5', s7', e2, h3⟩ := draws_in (C := C) (N + 2 + j) d σ ⟨dr, mx, re, s4, s5, s7, hσ, h1⟩ (by omega)
        exact ⟨σ', .inl (by rw [forS_v]; exact e), dr', mx', re', s4', s5', s7', e2, by omega, by omega⟩
    refine ⟨_, by rw [h1]; rfl, dr', mx', s5', _, s7', s4', rfl, ?_⟩
    have : (rgD 0 60).length = 60 := rfl
    omega
  have hz : (dr.map PyData.int).length < lineMax := by rw [List.length_map, ← hlm]; omega
  have hz2 : ∀ x : D, (dr.map PyData.int ++ [x]).length < lineMax := fun x => by rw [List.length_append, List.length_map, ← hlm]; simp; omega
  by_cases hc : (10 : Int) ^ (18 : Int).toNat ≤ (if ns[i] < 0 then -ns[i] else ns[i])
  · have := tail dr ((mx * 48271 + (if ns[i] < 0 then -ns[i] else ns[i]) % 1000003 + i) % 65537) (if ns[i] < 0 then -ns[i] else ns[i]) (.cl (.int (if ns[i] < 0 then -ns[i] else ns[i]))) s7 (by omega)
    try simp -dsimp -implicitDefEqProofs (disch := first | omega | (simp; omega)) only [ev_var, ev_cst, ev_tup, ev_lst, ev_bin, ev_neg, ev_not, ev_and, ev_or, ev_cmp, ev_isN, ev_notN, ev_chn, ev_ite, ev_idx, ev_slc, ev_call, ev_bl, ev_mt, ev_isi, ev_lc, evI_it, evI_rg1, evI_rg2, evI_enum, exec_asg, exec_own, exec_par, exec_aug, exec_app, exec_ext, exec_ins, exec_put, exec_aput, exec_ifs, exec_for_, exec_whl, exec_ret, exec_retn, exec_brk, exec_cnt, exec_pass, exec_close, evs_nil, evs_cons, evo_none, evo_some, evc_none, evc_some, execs_nil, execs_cons, nxt_nx, nxt_rt, nxt_bk, nxt_ct, List.length_cons, List.length_nil, List.map_cons, List.map_nil, bnd_r, lift_ret, Env.read, Env.keep, Sl.read, Sl.keep, List.cons_append, List.nil_append, List.getElem?_cons_zero, List.getElem?_cons_succ, List.set_cons_zero, List.set_cons_succ, bindT, bindTs, closeS, ownS, keepP, if_true, if_false, ↓reduceIte, Bool.false_eq_true, Nat.reduceAdd, Nat.reduceSub, List.replicate_succ, List.replicate_zero, boolD_b, intD_i, isN_none, isN_int, isN_bool, isN_str, isN_tup, isN_lst, Bool.not_true, Bool.not_false, augD, add_int, sub_int, mul_int, fdiv_int, mod_int, mul_str, add_str, add_tup, add_lst, mul_lst, eq_int, ne_int, lt_int, gt_int, le_int, ge_int, eq_str, ne_str, len_str, len_lst, len_tup, abs_int, int_int, int_bool, min2_int, max2_int, tuple_lst, tuple_tup, list_lst, list_tup, slc_str, slc_lst, slc_tup, repS_one, repL_one, idx_t0, idx_t1, idx_t2, idx_l0, rg1_if, rg2_if, eq_self_str, eqv_bool, eq_nil, wipeE, isiD, lcS_v, forS_v, forS_t, lcS_t, app_if, ext_if, en_str, en_lst, items_str, items_lst, items_tup, Int.toNat_natCast, ev_lc2, lcS2_v, lcS2_t, tgV, tgVs, ev_rev, ev_itl, evI_rg3, rg3_if, List.append_nil, hideE, hideS, idx_F hi, pow_int, hc, decide_true]
    exact this
  · have := tail (dr ++ [(if ns[i] < 0 then -ns[i] else ns[i]) % 997] ++ [((mx * 48271 + (if ns[i] < 0 then -ns[i] else ns[i]) % 1000003 + i) % 65537 * 69621 + 5) % 65521 % 997]) ((mx * 48271 + (if ns[i] < 0 then -ns[i] else ns[i]) % 1000003 + i) % 65537) 0 (.cl (.int (if ns[i] < 0 then -ns[i] else ns[i]))) s7 (by simp; omega)
    try simp -dsimp -implicitDefEqProofs (disch := first | omega | (simp; omega)) only [ev_var, ev_cst, ev_tup, ev_lst, ev_bin, ev_neg, ev_not, ev_and, ev_or, ev_cmp, ev_isN, ev_notN, ev_chn, ev_ite, ev_idx, ev_slc, ev_call, ev_bl, ev_mt, ev_isi, ev_lc, evI_it, evI_rg1, evI_rg2, evI_enum, exec_asg, exec_own, exec_par, exec_aug, exec_app, exec_ext, exec_ins, exec_put, exec_aput, exec_ifs, exec_for_, exec_whl, exec_ret, exec_retn, exec_brk, exec_cnt, exec_pass, exec_close, evs_nil, evs_cons, evo_none, evo_some, evc_none, evc_some, execs_nil, execs_cons, nxt_nx, nxt_rt, nxt_bk, nxt_ct, List.length_cons, List.length_nil, List.map_cons, List.map_nil, bnd_r, lift_ret, Env.read, Env.keep, Sl.read, Sl.keep, List.cons_append, List.nil_append, List.getElem?_cons_zero, List.getElem?_cons_succ, List.set_cons_zero, List.set_cons_succ, bindT, bindTs, closeS, ownS, keepP, if_true, if_false, ↓reduceIte, Bool.false_eq_true, Nat.reduceAdd, Nat.reduceSub, List.replicate_succ, List.replicate_zero, boolD_b, intD_i, isN_none, isN_int, isN_bool, isN_str, isN_tup, isN_lst, Bool.not_true, Bool.not_false, augD, add_int, sub_int, mul_int, fdiv_int, mod_int, mul_str, add_str, add_tup, add_lst, mul_lst, eq_int, ne_int, lt_int, gt_int, le_int, ge_int, eq_str, ne_str, len_str, len_lst, len_tup, abs_int, int_int, int_bool, min2_int, max2_int, tuple_lst, tuple_tup, list_lst, list_tup, slc_str, slc_lst, slc_tup, repS_one, repL_one, idx_t0, idx_t1, idx_t2, idx_l0, rg1_if, rg2_if, eq_self_str, eqv_bool, eq_nil, wipeE, isiD, lcS_v, forS_v, forS_t, lcS_t, app_if, ext_if, en_str, en_lst, items_str, items_lst, items_tup, Int.toNat_natCast, ev_lc2, lcS2_v, lcS2_t, tgV, tgVs, ev_rev, ev_itl, evI_rg3, rg3_if, List.append_nil, hideE, hideS, idx_F hi, pow_int, hc, decide_false, if_pos hz, if_pos (hz2 _)]
    simpa using this
theorem draws_ok (h : T[f]? = some ⟨2, 8, hb_draws⟩) {ns : List Int} (hns : ns.length ≤ 63) {many : Int} (hm : 0 ≤ many ∧ many ≤ 1000) : ∃ ds : List Int, cal T (k + 1) f [F ns, .int many] = ret (.list (ds.map .int)) := by
  rw [cal_at h]
  unfold runF hb_draws
  have hlm : (16000000 : Nat) = lineMax := rfl
  try simp -dsimp -implicitDefEqProofs (disch := first | omega | (simp; omega)) only [ev_var, ev_cst, ev_tup, ev_lst, ev_bin, ev_neg, ev_not, ev_and, ev_or, ev_cmp, ev_isN, ev_notN, ev_chn, ev_ite, ev_idx, ev_slc, ev_call, ev_bl, ev_mt, ev_isi, ev_lc, evI_it, evI_rg1, evI_rg2, evI_enum, exec_asg, exec_own, exec_par, exec_aug, exec_app, exec_ext, exec_ins, exec_put, exec_aput, exec_ifs, exec_for_, exec_whl, exec_ret, exec_retn, exec_brk, exec_cnt, exec_pass, exec_close, evs_nil, evs_cons, evo_none, evo_some, evc_none, evc_some, execs_nil, execs_cons, nxt_nx, nxt_rt, nxt_bk, nxt_ct, List.length_cons, List.length_nil, List.map_cons, List.map_nil, bnd_r, lift_ret, Env.read, Env.keep, Sl.read, Sl.keep, List.cons_append, List.nil_append, List.getElem?_cons_zero, List.getElem?_cons_succ, List.set_cons_zero, List.set_cons_succ, bindT, bindTs, closeS, ownS, keepP, if_true, if_false, ↓reduceIte, Bool.false_eq_true, Nat.reduceAdd, Nat.reduceSub, List.replicate_succ, List.replicate_zero, boolD_b, intD_i, isN_none, isN_int, isN_bool, isN_str, isN_tup, isN_lst, Bool.not_true, Bool.not_false, augD, add_int, sub_int, mul_int, fdiv_int, mod_int, mul_str, add_str, add_tup, add_lst, mul_lst, eq_int, ne_int, lt_int, gt_int, le_int, ge_int, eq_str, ne_str, len_str, len_lst, len_tup, abs_int, int_int, int_bool, min2_int, max2_int, tuple_lst, tuple_tup, list_lst, list_tup, slc_str, slc_lst, slc_tup, repS_one, repL_one, idx_t0, idx_t1, idx_t2, idx_l0, rg1_if, rg2_if, eq_self_str, eqv_bool, eq_nil, wipeE, isiD, lcS_v, forS_v, forS_t, lcS_t, app_if, ext_if, en_str, en_lst, items_str, items_lst, items_tup, Int.toNat_natCast, ev_lc2, lcS2_v, lcS2_t, tgV, tgVs, ev_rev, ev_itl, evI_rg3, rg3_if, List.append_nil, hideE, hideS, len_F]
  obtain ⟨σ1, h1, dr, mx, s4, s5, s6, s7, rfl, h2, _⟩ := forL_nx (step := forS (cal T k) (.v 4) hb_draws_2) (fun j σ => ∃ (dr : List Int) (mx : Int) (s5 s6 s7 s4 : Sl), σ = [.cl (F ns), .cl (.int many), .ol (dr.map .int), .cl (.int mx), s4, s5, s6, s7] ∧ dr.length ≤ 62 * j ∧ j ≤ ns.length)
    (ds := rgD 0 ns.length) (σ := [.cl (F ns), .cl (.int many), .ol [], .cl (.int 7), .un, .un, .un, .un]) ⟨[], 7, _, _, _, _, rfl, by simp, by omega⟩ fun j d σ hj hI => by
      obtain ⟨dr, mx, s5, s6, s7, s4, hσ, h1, h2⟩ := hI
      rw [rgD_nat, List.getElem?_map] at hj
      obtain ⟨j', e1, rfl⟩ := Option.map_eq_some_iff.mp hj
      have hj' : j < ns.length := by
        have := (List.getElem?_eq_some_iff.mp e1).1
        simpa using this
      have e3 : j' = j := by
        rw [List.getElem?_range (by simpa using hj')] at e1
        exact (Option.some.inj e1).symm
      subst e3
      obtain ⟨σ', e, dr', mx', s5', s6', s7', s4', e2, h3⟩ := draws_in2 (C := cal T k) (62 * j') (by omega) hj' σ ⟨dr, mx, s5, s6, s7, s4, hσ, h1⟩
      exact ⟨σ', .inl (by rw [forS_v]; exact e), dr', mx', s5', s6', s7', s4', e2, by omega, by omega⟩
  rw [h1]
  try simp -dsimp -implicitDefEqProofs (disch := first | omega | (simp; omega)) only [ev_var, ev_cst, ev_tup, ev_lst, ev_bin, ev_neg, ev_not, ev_and, ev_or, ev_cmp, ev_isN, ev_notN, ev_chn, ev_ite, ev_idx, ev_slc, ev_call, ev_bl, ev_mt, ev_isi, ev_lc, evI_it, evI_rg1, evI_rg2, evI_enum, exec_asg, exec_own, exec_par, exec_aug, exec_app, exec_ext, exec_ins, exec_put, exec_aput, exec_ifs, exec_for_, exec_whl, exec_ret, exec_retn, exec_brk, exec_cnt, exec_pass, exec_close, evs_nil, evs_cons, evo_none, evo_some, evc_none, evc_some, execs_nil, execs_cons, nxt_nx, nxt_rt, nxt_bk, nxt_ct, List.length_cons, List.length_nil, List.map_cons, List.map_nil, bnd_r, lift_ret, Env.read, Env.keep, Sl.read, Sl.keep, List.cons_append, List.nil_append, List.getElem?_cons_zero, List.getElem?_cons_succ, List.set_cons_zero, List.set_cons_succ, bindT, bindTs, closeS, ownS, keepP, if_true, if_false, ↓reduceIte, Bool.false_eq_true, Nat.reduceAdd, Nat.reduceSub, List.replicate_succ, List.replicate_zero, boolD_b, intD_i, isN_none, isN_int, isN_bool, isN_str, isN_tup, isN_lst, Bool.not_true, Bool.not_false, augD, add_int, sub_int, mul_int, fdiv_int, mod_int, mul_str, add_str, add_tup, add_lst, mul_lst, eq_int, ne_int, lt_int, gt_int, le_int, ge_int, eq_str, ne_str, len_str, len_lst, len_tup, abs_int, int_int, int_bool, min2_int, max2_int, tuple_lst, tuple_tup, list_lst, list_tup, slc_str, slc_lst, slc_tup, repS_one, repL_one, idx_t0, idx_t1, idx_t2, idx_l0, rg1_if, rg2_if, eq_self_str, eqv_bool, eq_nil, wipeE, isiD, lcS_v, forS_v, forS_t, lcS_t, app_if, ext_if, en_str, en_lst, items_str, items_lst, items_tup, Int.toNat_natCast, ev_lc2, lcS2_v, lcS2_t, tgV, tgVs, ev_rev, ev_itl, evI_rg3, rg3_if, List.append_nil, hideE, hideS]
  obtain ⟨σ2, h3, dr2, mx2, s4', s5', s6', s7', rfl, h4⟩ := forL_nx (step := forS (cal T k) (.v 4) hb_draws_3) (fun j σ => ∃ (dr : List Int) (mx : Int) (s5 s6 s7 s4 : Sl), σ = [.cl (F ns), .cl (.int many), .ol (dr.map .int), .cl (.int mx), s4, s5, s6, s7] ∧ dr.length ≤ 4000 + j ∧ j ≤ 1000)
    (ds := rgD 0 many) (σ := [.cl (F ns), .cl (.int many), .ol (dr.map .int), .cl (.int mx), s7, s4, s5, s6]) ⟨dr, mx, _, _, _, _, rfl, by
      have : (rgD 0 (ns.length : Int)).length = ns.length := by simp [rgD]
      omega, by omega⟩ fun j d σ hj hI => by
      obtain ⟨dr, mx, s5, s6, s7, s4, rfl, h1, h2⟩ := hI
      rw [rgD_nat, List.getElem?_map] at hj
      obtain ⟨j', e1, rfl⟩ := Option.map_eq_some_iff.mp hj
      have hj' : j < many.toNat := by
        have := (List.getElem?_eq_some_iff.mp e1).1
        simpa using this
      have hz : (dr.map PyData.int).length < lineMax := by rw [List.length_map, ← hlm]; omega
      refine ⟨[.cl (F ns), .cl (.int many), .ol ((dr ++ [(mx * 16807 + j' + 1) % 65537 % 997]).map .int), .cl (.int ((mx * 16807 + j' + 1) % 65537)), .cl (.int (j' : Int)), s5, s6, s7], .inl ?_, _, _, _, _, _, _, rfl, by simp; omega, by omega⟩
      unfold hb_draws_3
      try simp -dsimp -implicitDefEqProofs (disch := first | omega | (simp; omega)) only [ev_var, ev_cst, ev_tup, ev_lst, ev_bin, ev_neg, ev_not, ev_and, ev_or, ev_cmp, ev_isN, ev_notN, ev_chn, ev_ite, ev_idx, ev_slc, ev_call, ev_bl, ev_mt, ev_isi, ev_lc, evI_it, evI_rg1, evI_rg2, evI_enum, exec_asg, exec_own, exec_par, exec_aug, exec_app, exec_ext, exec_ins, exec_put, exec_aput, exec_ifs, exec_for_, exec_whl, exec_ret, exec_retn, exec_brk, exec_cnt, exec_pass, exec_close, evs_nil, evs_cons, evo_none, evo_some, evc_none, evc_some, execs_nil, execs_cons, nxt_nx, nxt_rt, nxt_bk, nxt_ct, List.length_cons, List.length_nil, List.map_cons, List.map_nil, bnd_r, lift_ret, Env.read, Env.keep, Sl.read, Sl.keep, List.cons_append, List.nil_append, List.getElem?_cons_zero, List.getElem?_cons_succ, List.set_cons_zero, List.set_cons_succ, bindT, bindTs, closeS, ownS, keepP, if_true, if_false, ↓reduceIte, Bool.false_eq_true, Nat.reduceAdd, Nat.reduceSub, List.replicate_succ, List.replicate_zero, boolD_b, intD_i, isN_none, isN_int, isN_bool, isN_str, isN_tup, isN_lst, Bool.not_true, Bool.not_false, augD, add_int, sub_int, mul_int, fdiv_int, mod_int, mul_str, add_str, add_tup, add_lst, mul_lst, eq_int, ne_int, lt_int, gt_int, le_int, ge_int, eq_str, ne_str, len_str, len_lst, len_tup, abs_int, int_int, int_bool, min2_int, max2_int, tuple_lst, tuple_tup, list_lst, list_tup, slc_str, slc_lst, slc_tup, repS_one, repL_one, idx_t0, idx_t1, idx_t2, idx_l0, rg1_if, rg2_if, eq_self_str, eqv_bool, eq_nil, wipeE, isiD, lcS_v, forS_v, forS_t, lcS_t, app_if, ext_if, en_str, en_lst, items_str, items_lst, items_tup, Int.toNat_natCast, ev_lc2, lcS2_v, lcS2_t, tgV, tgVs, ev_rev, ev_itl, evI_rg3, rg3_if, List.append_nil, hideE, hideS, if_pos hz, List.map_append]
  rw [h3]
  try simp -dsimp -implicitDefEqProofs (disch := first | omega | (simp; omega)) only [ev_var, ev_cst, ev_tup, ev_lst, ev_bin, ev_neg, ev_not, ev_and, ev_or, ev_cmp, ev_isN, ev_notN, ev_chn, ev_ite, ev_idx, ev_slc, ev_call, ev_bl, ev_mt, ev_isi, ev_lc, evI_it, evI_rg1, evI_rg2, evI_enum, exec_asg, exec_own, exec_par, exec_aug, exec_app, exec_ext, exec_ins, exec_put, exec_aput, exec_ifs, exec_for_, exec_whl, exec_ret, exec_retn, exec_brk, exec_cnt, exec_pass, exec_close, evs_nil, evs_cons, evo_none, evo_some, evc_none, evc_some, execs_nil, execs_cons, nxt_nx, nxt_rt, nxt_bk, nxt_ct, List.length_cons, List.length_nil, List.map_cons, List.map_nil, bnd_r, lift_ret, Env.read, Env.keep, Sl.read, Sl.keep, List.cons_append, List.nil_append, List.getElem?_cons_zero, List.getElem?_cons_succ, List.set_cons_zero, List.set_cons_succ, bindT, bindTs, closeS, ownS, keepP, if_true, if_false, ↓reduceIte, Bool.false_eq_true, Nat.reduceAdd, Nat.reduceSub, List.replicate_succ, List.replicate_zero, boolD_b, intD_i, isN_none, isN_int, isN_bool, isN_str, isN_tup, isN_lst, Bool.not_true, Bool.not_false, augD, add_int, sub_int, mul_int, fdiv_int, mod_int, mul_str, add_str, add_tup, add_lst, mul_lst, eq_int, ne_int, lt_int, gt_int, le_int, ge_int, eq_str, ne_str, len_str, len_lst, len_tup, abs_int, int_int, int_bool, min2_int, max2_int, tuple_lst, tuple_tup, list_lst, list_tup, slc_str, slc_lst, slc_tup, repS_one, repL_one, idx_t0, idx_t1, idx_t2, idx_l0, rg1_if, rg2_if, eq_self_str, eqv_bool, eq_nil, wipeE, isiD, lcS_v, forS_v, forS_t, lcS_t, app_if, ext_if, en_str, en_lst, items_str, items_lst, items_tup, Int.toNat_natCast, ev_lc2, lcS2_v, lcS2_t, tgV, tgVs, ev_rev, ev_itl, evI_rg3, rg3_if, List.append_nil, hideE, hideS, slcL_to]
  exact ⟨dr2.take many.toNat, by rw [List.map_take]⟩
/-- the law: its draws, then its body from a live state -/
theorem law_go (h : T[f]? = some ⟨2, 8, hb_draws⟩) {ns : List Int} (hns : ns.length ≤ 63) {many : Int} (hm : 0 ≤ many ∧ many ≤ 1000) {n : Nat} {body : List St}
    (hB : Sure (execs (cal T (k + 1)) body (.cl (F ns) :: .cl W :: List.replicate n .un)) fun f => f = .rt (.bool true)) :
    ∃ s, execs (cal T (k + 1)) (.w0 1 (.call f [(.var 0), (.cst (.int many))]) :: body) ([.cl (F ns)] ++ List.replicate (n + 1) .un) none = some (.rt (.bool true), s) := by
  obtain ⟨ds, hd⟩ := draws_ok (k := k) h hns hm
  have e1 : ev (cal T (k + 1)) false (.call f [(.var 0), (.cst (.int many))]) ([.cl (F ns)] ++ List.replicate (n + 1) .un) = ret (.list (ds.map .int)) := by
    try simp -dsimp -implicitDefEqProofs (disch := first | omega | (simp; omega)) only [ev_var, ev_cst, ev_tup, ev_lst, ev_bin, ev_neg, ev_not, ev_and, ev_or, ev_cmp, ev_isN, ev_notN, ev_chn, ev_ite, ev_idx, ev_slc, ev_call, ev_bl, ev_mt, ev_isi, ev_lc, evI_it, evI_rg1, evI_rg2, evI_enum, exec_asg, exec_own, exec_par, exec_aug, exec_app, exec_ext, exec_ins, exec_put, exec_aput, exec_ifs, exec_for_, exec_whl, exec_ret, exec_retn, exec_brk, exec_cnt, exec_pass, exec_close, evs_nil, evs_cons, evo_none, evo_some, evc_none, evc_some, execs_nil, execs_cons, nxt_nx, nxt_rt, nxt_bk, nxt_ct, List.length_cons, List.length_nil, List.map_cons, List.map_nil, bnd_r, lift_ret, Env.read, Env.keep, Sl.read, Sl.keep, List.cons_append, List.nil_append, List.getElem?_cons_zero, List.getElem?_cons_succ, List.set_cons_zero, List.set_cons_succ, bindT, bindTs, closeS, ownS, keepP, if_true, if_false, ↓reduceIte, Bool.false_eq_true, Nat.reduceAdd, Nat.reduceSub, List.replicate_succ, List.replicate_zero, boolD_b, intD_i, isN_none, isN_int, isN_bool, isN_str, isN_tup, isN_lst, Bool.not_true, Bool.not_false, augD, add_int, sub_int, mul_int, fdiv_int, mod_int, mul_str, add_str, add_tup, add_lst, mul_lst, eq_int, ne_int, lt_int, gt_int, le_int, ge_int, eq_str, ne_str, len_str, len_lst, len_tup, abs_int, int_int, int_bool, min2_int, max2_int, tuple_lst, tuple_tup, list_lst, list_tup, slc_str, slc_lst, slc_tup, repS_one, repL_one, idx_t0, idx_t1, idx_t2, idx_l0, rg1_if, rg2_if, eq_self_str, eqv_bool, eq_nil, wipeE, isiD, lcS_v, forS_v, forS_t, lcS_t, app_if, ext_if, en_str, en_lst, items_str, items_lst, items_tup, Int.toNat_natCast, ev_lc2, lcS2_v, lcS2_t, tgV, tgVs, ev_rev, ev_itl, evI_rg3, rg3_if, List.append_nil, hideE, hideS, hd]
  obtain ⟨a, n', h1, rfl⟩ := hB ds 0
  refine ⟨some (ds, n'), ?_⟩
  rw [execs_cons]
  have e2 : exec (cal T (k + 1)) (.w0 1 (.call f [(.var 0), (.cst (.int many))])) ([.cl (F ns)] ++ List.replicate (n + 1) .un) none = some (.nx (.cl (F ns) :: .cl W :: List.replicate n .un), some (ds, 0)) := by
    rw [exec_w0, e1, bnd_r]
    simp only [ints_map]
    rfl
  rw [bnd_some e2]
  exact h1
/-- a list of texts -/
theorem un_str {P : List Nat → Prop} : ∀ {l : List D}, (∀ x ∈ l, ∃ t, x = .str (S t) ∧ P t) → ∃ xs : List (List Nat), l = xs.map (fun t => .str (S t)) ∧ ∀ t ∈ xs, P t
  | [], _ => ⟨[], rfl, fun t ht => by cases ht⟩
  | x :: l, h => by
    obtain ⟨t, rfl, ht⟩ := h x List.mem_cons_self
    obtain ⟨xs, rfl, hx⟩ := un_str fun y hy => h y (List.mem_cons_of_mem _ hy)
    refine ⟨t :: xs, rfl, fun u hu => ?_⟩
    rcases List.mem_cons.mp hu with rfl | hu
    · exact ht
    · exact hx u hu
theorem joinS_le {sep : List Nat} {m : Nat} (hs : sep.length ≤ m) : ∀ {xs : List (List Nat)}, (∀ t ∈ xs, t.length ≤ m) → (joinS sep xs).length ≤ 2 * m * xs.length
  | [], _ => by simp [joinS]
  | [x], h => by
    have := h x List.mem_cons_self
    simp only [joinS, List.length_cons, List.length_nil]
    omega
  | x :: y :: l, h => by
    have h1 := h x List.mem_cons_self
    have h2 := joinS_le hs (xs := y :: l) fun t ht => h t (List.mem_cons_of_mem _ ht)
    rw [joinS]
    · simp only [List.length_append, List.length_cons] at *
      rw [Nat.mul_add]
      omega
    · intro z; cases z
theorem joinS_pos {sep : List Nat} : ∀ {xs : List (List Nat)}, xs ≠ [] → (∀ t ∈ xs, 0 < t.length) → 0 < (joinS sep xs).length
  | [], h, _ => absurd rfl h
  | [x], _, h => h x List.mem_cons_self
  | x :: y :: l, _, h => by
    have h1 := h x List.mem_cons_self
    rw [joinS]
    · simp only [List.length_append]
      omega
    · intro z; cases z
theorem sum_le {m : Nat} : ∀ {xs : List (List Nat)}, (∀ t ∈ xs, t.length ≤ m) → (xs.map List.length).sum ≤ m * xs.length
  | [], _ => by simp
  | x :: l, h => by
    have h1 := h x List.mem_cons_self
    have h2 := sum_le fun t ht => h t (List.mem_cons_of_mem _ ht)
    simp only [List.map_cons, List.sum_cons, List.length_cons]
    rw [Nat.mul_add]
    omega
end
end Q

set_option Elab.async false
set_option linter.all false
set_option maxRecDepth 100000
/-! P2: more of what the laws share: lists of ints and pairs, tests, fractions, captions. -/
namespace Q
open PySem
/-! ### filters -/
theorem ret_ite {α : Type} {b : Bool} {x y : α} : (if b = true then (ret x : M α) else ret y) = ret (if b = true then x else y) := by cases b <;> rfl
theorem lcL_fil {α : Type} {step : D → M (Option D)} (g : α → D) (p : α → Bool) (e : α → D) : ∀ {l : List α}, (∀ x ∈ l, step (g x) = ret (if p x = true then some (e x) else none)) → lcL step (l.map g) = ret ((l.filter p).map e)
  | [], _ => rfl
  | x :: l, h => by
    rw [List.map_cons, lcL, h x List.mem_cons_self, bnd_r, lcL_fil g p e fun y hy => h y (List.mem_cons_of_mem _ hy), bnd_r, List.filter_cons]
    cases p x <;> rfl
/-- the ints a .. b - 1 -/
def rgI (a b : Int) : List Int := (List.range (b - a).toNat).map fun k : Nat => a + k
theorem rgD_I {a b : Int} : rgD a b = (rgI a b).map .int := by
  unfold rgD rgI
  rw [List.map_map]
  rfl
theorem mem_rgI {a b x : Int} : x ∈ rgI a b ↔ a ≤ x ∧ x < b := by
  unfold rgI
  rw [List.mem_map]
  constructor
  · rintro ⟨k, hk, rfl⟩
    have := List.mem_range.mp hk
    omega
  · intro h
    exact ⟨(x - a).toNat, List.mem_range.mpr (by omega), by omega⟩
theorem rgI_len {a b : Int} : (rgI a b).length = (b - a).toNat := by simp [rgI]
theorem rgI_nil {a b : Int} (h : b ≤ a) : rgI a b = [] := by
  unfold rgI
  rw [show (b - a).toNat = 0 by omega]
  rfl
theorem rgI_cons {a b : Int} (h : a < b) : rgI a b = a :: rgI (a + 1) b := by
  unfold rgI
  rw [show (b - a).toNat = (b - (a + 1)).toNat + 1 by omega, List.range_succ_eq_map, List.map_cons, List.map_map]
  congr 1
  · simp
  · apply List.map_congr_left
    intro k _
    simp
    omega
theorem rgI_snoc {a b : Int} (h : a ≤ b) : rgI a (b + 1) = rgI a b ++ [b] := by
  unfold rgI
  rw [show (b + 1 - a).toNat = (b - a).toNat + 1 by omega, List.range_succ, List.map_append]
  congr 1
  simp
  omega
theorem rgI_at {a b : Int} {i : Nat} (h : i < (b - a).toNat) : (rgI a b)[i]? = some (a + i) := by
  simp [rgI, h]
theorem rgI_app {a b c : Int} (h : a ≤ b) (h2 : b ≤ c) : rgI a c = rgI a b ++ rgI b c := by
  apply List.ext_getElem?
  intro i
  by_cases h3 : i < (b - a).toNat
  · rw [List.getElem?_append_left (by rw [rgI_len]; exact h3), rgI_at h3, rgI_at (by omega)]
  · rw [List.getElem?_append_right (by rw [rgI_len]; omega), rgI_len]
    by_cases h4 : i < (c - a).toNat
    · rw [rgI_at h4, rgI_at (by omega)]
      congr 1
      omega
    · rw [List.getElem?_eq_none (by rw [rgI_len]; omega), List.getElem?_eq_none (by rw [rgI_len]; omega)]
/-- ascending, each once -/
def Asc (l : List Int) : Prop := l.Pairwise (· < ·)
theorem asc_rgI {a b : Int} : Asc (rgI a b) := by
  unfold Asc rgI
  rw [List.pairwise_map]
  exact List.pairwise_lt_range.imp fun h => by omega
theorem asc_ext : ∀ {l m : List Int}, Asc l → Asc m → (∀ x, x ∈ l ↔ x ∈ m) → l = m
  | [], [], _, _, _ => rfl
  | [], y :: m, _, _, h => by have := (h y).mpr List.mem_cons_self; cases this
  | x :: l, [], _, _, h => by have := (h x).mp List.mem_cons_self; cases this
  | x :: l, y :: m, h1, h2, h => by
    obtain ⟨a1, a2⟩ := List.pairwise_cons.mp h1
    obtain ⟨b1, b2⟩ := List.pairwise_cons.mp h2
    have e : x = y := by
      rcases List.mem_cons.mp ((h x).mp List.mem_cons_self) with q | q
      · exact q
      · rcases List.mem_cons.mp ((h y).mpr List.mem_cons_self) with q2 | q2
        · exact q2.symm
        · have := b1 x q
          have := a1 y q2
          omega
    subst e
    rw [asc_ext a2 b2 fun z => ?_]
    constructor
    · intro hz
      rcases List.mem_cons.mp ((h z).mp (List.mem_cons_of_mem _ hz)) with q | q
      · subst q
        have := a1 _ hz
        omega
      · exact q
    · intro hz
      rcases List.mem_cons.mp ((h z).mpr (List.mem_cons_of_mem _ hz)) with q | q
      · subst q
        have := b1 _ hz
        omega
      · exact q
theorem Asc.filter {l : List Int} (h : Asc l) (p : Int → Bool) : Asc (l.filter p) := List.Pairwise.filter p h
theorem pr_ints {l : List Int} : ∀ x ∈ l.map PyData.int, gd 59 x = true := gd_map_int (f := id)
theorem pr_P {l : List (Int × Int)} : ∀ x ∈ l.map encP, gd 59 x = true := fun x hx => by
  obtain ⟨p, _, rfl⟩ := List.mem_map.mp hx
  rfl
theorem isEmpty_map {α β : Type} {f : α → β} {l : List α} : (l.map f).isEmpty = l.isEmpty := by cases l <;> rfl
theorem ne_ints {l : List Int} : cmpD .ne (.list (l.map PyData.int)) (.list []) = some (.bool (!l.isEmpty)) := by rw [ne_nil' pr_ints, isEmpty_map]
theorem eq_ints {l : List Int} : cmpD .eq (.list (l.map PyData.int)) (.list []) = some (.bool l.isEmpty) := by rw [eq_nil' pr_ints, isEmpty_map]
theorem ne_Ps {l : List (Int × Int)} : cmpD .ne (.list (l.map encP)) (.list []) = some (.bool (!l.isEmpty)) := by rw [ne_nil' pr_P, isEmpty_map]
theorem eq_Ps {l : List (Int × Int)} : cmpD .eq (.list (l.map encP)) (.list []) = some (.bool l.isEmpty) := by rw [eq_nil' pr_P, isEmpty_map]
/-- lists that are a fixed thing over and over -/
theorem ne_cst {α : Type} {l : List α} {d : D} (h : gd 59 d = true) : cmpD .ne (.list (l.map fun _ => d)) (.list []) = some (.bool (!l.isEmpty)) := by
  rw [ne_nil' (fun x hx => by obtain ⟨_, _, rfl⟩ := List.mem_map.mp hx; exact h), isEmpty_map]
theorem eq_cst {α : Type} {l : List α} {d : D} (h : gd 59 d = true) : cmpD .eq (.list (l.map fun _ => d)) (.list []) = some (.bool l.isEmpty) := by
  rw [eq_nil' (fun x hx => by obtain ⟨_, _, rfl⟩ := List.mem_map.mp hx; exact h), isEmpty_map]
theorem gd_ints {l : List Int} : gd 60 (.list (l.map PyData.int)) = true := by
  unfold gd
  exact List.all_eq_true.mpr pr_ints
theorem gd_intsT {l : List Int} : gd 60 (.tuple (l.map PyData.int)) = true := by
  unfold gd
  exact List.all_eq_true.mpr pr_ints
theorem any_ints {l : List Int} {k : Int} : ((l.map PyData.int).any fun y => PyData.eqv y (.int k)) = decide (k ∈ l) := by
  induction l with
  | nil => rfl
  | cons x l ih =>
    rw [List.map_cons, List.any_cons, ih]
    have e : PyData.eqv (.int x) (.int k) = decide (x = k) := rfl
    rw [e]
    by_cases h : x = k
    · subst h; simp
    · simp [h, Ne.symm h]
theorem in_ints {l : List Int} {k : Int} : cmpD .in_ (.int k) (.list (l.map PyData.int)) = some (.bool (decide (k ∈ l))) := by
  simp only [cmpD, inD]
  rw [if_pos ⟨rfl, gd_ints⟩, any_ints]
  rfl
theorem nin_ints {l : List Int} {k : Int} : cmpD .nin (.int k) (.list (l.map PyData.int)) = some (.bool (!decide (k ∈ l))) := by
  simp only [cmpD, inD]
  rw [if_pos ⟨rfl, gd_ints⟩, any_ints]
  rfl
theorem in_intsT {l : List Int} {k : Int} : cmpD .in_ (.int k) (.tuple (l.map PyData.int)) = some (.bool (decide (k ∈ l))) := by
  simp only [cmpD, inD]
  rw [if_pos ⟨rfl, gd_intsT⟩, any_ints]
  rfl
theorem nin_intsT {l : List Int} {k : Int} : cmpD .nin (.int k) (.tuple (l.map PyData.int)) = some (.bool (!decide (k ∈ l))) := by
  simp only [cmpD, inD]
  rw [if_pos ⟨rfl, gd_intsT⟩, any_ints]
  rfl
theorem bools_map {α : Type} (p : α → Bool) : ∀ l : List α, boolsD (l.map fun x => .bool (p x)) = some (l.map p)
  | [] => rfl
  | x :: l => by rw [List.map_cons, boolsD, bools_map p l]; rfl
theorem any_map {α : Type} {p : α → Bool} {l : List α} : blD .any [.list (l.map fun x => .bool (p x))] = some (.bool (l.any p)) := by
  show (boolsD _).map _ = _
  rw [bools_map]
  simp
theorem all_map {α : Type} {p : α → Bool} {l : List α} : blD .all [.list (l.map fun x => .bool (p x))] = some (.bool (l.all p)) := by
  show (boolsD _).map _ = _
  rw [bools_map]
  simp
theorem sum_ints {l : List Int} : blD .sum [.list (l.map PyData.int)] = some (.int l.sum) := sum_lst (ints_map l)
/-! the last of a list -/
theorem idx_neg1 {xs : List D} {d : D} : idxM (.list (xs ++ [d])) (.int (-1)) = ret d := by
  funext s
  have e : idxD (.list (xs ++ [d])) (.int (-1)) s = some d := by
    show atL (xs ++ [d]) (-1) = some d
    unfold atL
    rw [if_neg (by omega), if_pos (by simp; omega)]
    rw [show (-1 + ((xs ++ [d]).length : Int)).toNat = xs.length by simp; omega]
    simp
  unfold idxM
  rw [e]
  rfl
theorem idx_neg1T {xs : List D} {d : D} : idxM (.tuple (xs ++ [d])) (.int (-1)) = ret d := by
  funext s
  have e : idxD (.tuple (xs ++ [d])) (.int (-1)) s = some d := by
    show atL (xs ++ [d]) (-1) = some d
    unfold atL
    rw [if_neg (by omega), if_pos (by simp; omega)]
    rw [show (-1 + ((xs ++ [d]).length : Int)).toNat = xs.length by simp; omega]
    simp
  unfold idxM
  rw [e]
  rfl
theorem idx_lastL {xs : List D} {d : D} {n : Int} (h : n = xs.length) : idxM (.list (xs ++ [d])) (.int n) = ret d :=
  idx_lst (by omega) (by rw [h]; simp)
theorem set_last {α : Type} {xs : List α} {x y : α} : (xs ++ [x]).set xs.length y = xs ++ [y] := by
  rw [List.set_append]
  simp
/-! greatest and least over places -/
theorem arg_min (f : Nat → Int) : ∀ n, 0 < n → ∃ b, b < n ∧ (∀ j, j < n → f b ≤ f j) ∧ ∀ j, j < b → f b < f j
  | 1, _ => ⟨0, by omega, fun j hj => by rw [show j = 0 by omega]; exact Int.le_refl _, fun j hj => by omega⟩
  | n + 2, _ => by
    obtain ⟨b, h1, h2, h3⟩ := arg_min f (n + 1) (by omega)
    by_cases h : f (n + 1) < f b
    · refine ⟨n + 1, by omega, fun j hj => ?_, fun j hj => ?_⟩
      · by_cases e : j = n + 1
        · subst e; exact Int.le_refl _
        · have := h2 j (by omega); omega
      · have := h2 j (by omega); omega
    · refine ⟨b, by omega, fun j hj => ?_, h3⟩
      by_cases e : j = n + 1
      · subst e; omega
      · exact h2 j (by omega)
theorem min_places {f : Nat → Int} {n b : Nat} (hb : b < n) (h1 : ∀ j, j < n → f b ≤ f j) (h2 : ∀ j, j < b → f b < f j) : blD .min1 [.list (((List.range n).map fun k => (f k, (k : Int))).map encP)] = some (encP (f b, (b : Int))) := by
  refine min_P (List.mem_map.mpr ⟨b, List.mem_range.mpr hb, rfl⟩) fun x hx => ?_
  obtain ⟨j, hj, rfl⟩ := List.mem_map.mp hx
  have hj := List.mem_range.mp hj
  have := h1 j hj
  unfold ltP
  rw [decide_eq_false]
  by_cases e : j < b
  · have := h2 j e
    simp
    omega
  · simp
    omega
theorem min_vals {f : Nat → Int} {n b : Nat} (hb : b < n) (h1 : ∀ j, j < n → f b ≤ f j) : blD .min1 [.list (((List.range n).map f).map .int)] = some (.int (f b)) := by
  refine min_ints (List.mem_map.mpr ⟨b, List.mem_range.mpr hb, rfl⟩) fun x hx => ?_
  obtain ⟨j, hj, rfl⟩ := List.mem_map.mp hx
  exact h1 j (List.mem_range.mp hj)
theorem max_vals {f : Nat → Int} {n b : Nat} (hb : b < n) (h1 : ∀ j, j < n → f j ≤ f b) : blD .max1 [.list (((List.range n).map f).map .int)] = some (.int (f b)) := by
  refine max_ints (List.mem_map.mpr ⟨b, List.mem_range.mpr hb, rfl⟩) fun x hx => ?_
  obtain ⟨j, hj, rfl⟩ := List.mem_map.mp hx
  exact h1 j (List.mem_range.mp hj)
theorem index_vals {f : Nat → Int} {n b : Nat} (hb : b < n) (h2 : ∀ j, j < b → f j ≠ f b) : mtD .index (.list (((List.range n).map f).map .int)) [.int (f b)] = some (.int b) := by
  refine index_ints ?_ fun j hj e => ?_
  · rw [List.getElem?_map, List.getElem?_range hb]
    rfl
  · rw [List.getElem?_map, List.getElem?_range (by omega)] at e
    exact h2 j hj (Option.some.inj e)
/-! fractions -/
def hc_div : Tm := (.cmp .ne (.var 1) (.cst (.int 0)))
def hb_div2 : List St := [(.par [(0, false), (1, false)] [(.var 1), (.bin .mod (.var 0) (.var 1))])]
def hb_divisor : List St := [(.whl hc_div hb_div2), (.ret (.ite (.cmp .ne (.var 0) (.cst (.int 0))) (.var 0) (.cst (.int 1))))]
def hb_fraction (f : Nat) : List St := [(.asg (.v 2) (.bin .mul (.call f [(.bl .abs [(.var 0)]), (.bl .abs [(.var 1)])]) (.ite (.cmp .gt (.var 1) (.cst (.int 0))) (.cst (.int 1)) (.neg (.cst (.int 1)))))), (.ret (.tup [(.bin .fdiv (.var 0) (.var 2)), (.bin .fdiv (.var 1) (.var 2))]))]
def hc_lfr : Tm := (.cmp .ne (.var 3) (.cst (.int 0)))
def hb_lfr2 : List St := [(.par [(2, false), (3, false)] [(.var 3), (.bin .mod (.var 2) (.var 3))])]
def hb_lfraction : List St := [(.par [(2, false), (3, false)] [(.bl .abs [(.var 0)]), (.bl .abs [(.var 1)])]), (.whl hc_lfr hb_lfr2), (.ret (.ite (.cmp .gt (.var 1) (.cst (.int 0))) (.tup [(.bin .fdiv (.var 0) (.var 2)), (.bin .fdiv (.var 1) (.var 2))]) (.tup [(.bin .sub (.cst (.int 0)) (.bin .fdiv (.var 0) (.var 2))), (.bin .sub (.cst (.int 0)) (.bin .fdiv (.var 1) (.var 2)))])))]
theorem fuel_big' : 100000000000000000000000000 < fuelW := by
  unfold fuelW
  decide
/-- a loop that goes up to the first n -/
theorem whl_up {test : Env → M Bool} {step : Env → M Fl} (enc : Nat → Env) (n : Nat) : ∀ (d j fuel : Nat), n - j = d → j ≤ n → d < fuel → (∀ i, i < n → test (enc i) = ret true) → test (enc n) = ret false → (∀ i, i < n → step (enc i) = ret (.nx (enc (i + 1)))) → whlN test step fuel (enc j) = ret (.nx (enc n))
  | 0, j, fuel + 1, hd, hj, hf, h1, h2, h3 => by
    have : j = n := by omega
    subst this
    rw [whlN, h2]
    rfl
  | d + 1, j, fuel + 1, hd, hj, hf, h1, h2, h3 => by
    rw [whlN, h1 j (by omega), bnd_r, if_pos rfl, h3 j (by omega), bnd_r]
    exact whl_up enc n d (j + 1) fuel (by omega) (by omega) (by omega) h1 h2 h3
theorem whl_gcd {test : Env → M Bool} {step : Env → M Fl} (enc : Nat → Nat → Env) (ht : ∀ a b : Nat, test (enc a b) = ret (!decide (b = 0))) (hs : ∀ a b : Nat, 0 < b → step (enc a b) = ret (.nx (enc b (a % b)))) :
    ∀ (fuel a b : Nat), b < fuel → whlN test step fuel (enc a b) = ret (.nx (enc (Nat.gcd a b) 0))
  | 0, a, b, h => by omega
  | fuel + 1, a, b, h => by
    rw [whlN, ht, bnd_r]
    by_cases hb : b = 0
    · subst hb
      simp
    · have h2 := Nat.mod_lt a (by omega : b > 0)
      rw [if_pos (by simp [hb]), hs a b (by omega), bnd_r]
      show whlN test step fuel (enc b (a % b)) = _
      rw [whl_gcd enc ht hs fuel b (a % b) (by omega)]
      rw [Nat.gcd_comm b, ← Nat.gcd_rec, Nat.gcd_comm]
/-- a / b, by whole numbers without a common part -/
def fracD (a b : Int) : D := .tuple [.int (a / (Nat.gcd a.natAbs b.natAbs : Nat)), .int (b / (Nat.gcd a.natAbs b.natAbs : Nat))]
section
variable {T : List Fn} {f k : Nat}
theorem ne_int0 {b : Nat} : cmpD .ne (.int (b : Int)) (.int 0) = some (.bool (!decide (b = 0))) := by
  rw [ne_int]
  congr 3
  simp
theorem mod_nat {a b : Nat} (h : 0 < b) : binD .mod (.int (a : Int)) (.int (b : Int)) = some (.int ((a % b : Nat) : Int)) := by
  rw [mod_int (by omega)]
  rfl
theorem divisor_eq (h : T[f]? = some ⟨2, 2, hb_divisor⟩) {a b : Nat} (hb : 0 < b ∧ b < 1000000000000000000) : cal T (k + 1) f [.int (a : Int), .int (b : Int)] = ret (.int (Nat.gcd a b : Nat)) := by
  rw [cal_at h]
  unfold runF hb_divisor
  have e := whl_gcd (test := whlT (cal T k) hc_div) (step := execs (cal T k) hb_div2) (fun a b => [.cl (.int (a : Int)), .cl (.int (b : Int))]) (fun a b => by
    unfold whlT hc_div
    try simp -dsimp -implicitDefEqProofs (disch := first | omega | (simp; omega)) only [ev_var, ev_cst, ev_tup, ev_lst, ev_bin, ev_neg, ev_not, ev_and, ev_or, ev_cmp, ev_isN, ev_notN, ev_chn, ev_ite, ev_idx, ev_slc, ev_call, ev_bl, ev_mt, ev_isi, ev_lc, evI_it, evI_rg1, evI_rg2, evI_enum, exec_asg, exec_own, exec_par, exec_aug, exec_app, exec_ext, exec_ins, exec_put, exec_aput, exec_ifs, exec_for_, exec_whl, exec_ret, exec_retn, exec_brk, exec_cnt, exec_pass, exec_close, evs_nil, evs_cons, evo_none, evo_some, evc_none, evc_some, execs_nil, execs_cons, nxt_nx, nxt_rt, nxt_bk, nxt_ct, List.length_cons, List.length_nil, List.map_cons, List.map_nil, bnd_r, lift_ret, Env.read, Env.keep, Sl.read, Sl.keep, List.cons_append, List.nil_append, List.getElem?_cons_zero, List.getElem?_cons_succ, List.set_cons_zero, List.set_cons_succ, bindT, bindTs, closeS, ownS, keepP, if_true, if_false, ↓reduceIte, Bool.false_eq_true, Nat.reduceAdd, Nat.reduceSub, List.replicate_succ, List.replicate_zero, boolD_b, intD_i, isN_none, isN_int, isN_bool, isN_str, isN_tup, isN_lst, Bool.not_true, Bool.not_false, augD, add_int, sub_int, mul_int, fdiv_int, mod_int, mul_str, add_str, add_tup, add_lst, mul_lst, eq_int, ne_int, lt_int, gt_int, le_int, ge_int, eq_str, ne_str, len_str, len_lst, len_tup, abs_int, int_int, int_bool, min2_int, max2_int, tuple_lst, tuple_tup, list_lst, list_tup, slc_str, slc_lst, slc_tup, repS_one, repL_one, idx_t0, idx_t1, idx_t2, idx_l0, rg1_if, rg2_if, eq_self_str, eqv_bool, eq_nil, wipeE, isiD, lcS_v, forS_v, forS_t, lcS_t, app_if, ext_if, en_str, en_lst, items_str, items_lst, items_tup, Int.toNat_natCast, ev_lc2, lcS2_v, lcS2_t, tgV, tgVs, ev_rev, ev_itl, evI_rg3, rg3_if, List.append_nil, hideE, hideS]
    simp) (fun a b h => by
    unfold hb_div2
    try simp -dsimp -implicitDefEqProofs (disch := first | omega | (simp; omega)) only [ev_var, ev_cst, ev_tup, ev_lst, ev_bin, ev_neg, ev_not, ev_and, ev_or, ev_cmp, ev_isN, ev_notN, ev_chn, ev_ite, ev_idx, ev_slc, ev_call, ev_bl, ev_mt, ev_isi, ev_lc, evI_it, evI_rg1, evI_rg2, evI_enum, exec_asg, exec_own, exec_par, exec_aug, exec_app, exec_ext, exec_ins, exec_put, exec_aput, exec_ifs, exec_for_, exec_whl, exec_ret, exec_retn, exec_brk, exec_cnt, exec_pass, exec_close, evs_nil, evs_cons, evo_none, evo_some, evc_none, evc_some, execs_nil, execs_cons, nxt_nx, nxt_rt, nxt_bk, nxt_ct, List.length_cons, List.length_nil, List.map_cons, List.map_nil, bnd_r, lift_ret, Env.read, Env.keep, Sl.read, Sl.keep, List.cons_append, List.nil_append, List.getElem?_cons_zero, List.getElem?_cons_succ, List.set_cons_zero, List.set_cons_succ, bindT, bindTs, closeS, ownS, keepP, if_true, if_false, ↓reduceIte, Bool.false_eq_true, Nat.reduceAdd, Nat.reduceSub, List.replicate_succ, List.replicate_zero, boolD_b, intD_i, isN_none, isN_int, isN_bool, isN_str, isN_tup, isN_lst, Bool.not_true, Bool.not_false, augD, add_int, sub_int, mul_int, fdiv_int, mod_int, mul_str, add_str, add_tup, add_lst, mul_lst, eq_int, ne_int, lt_int, gt_int, le_int, ge_int, eq_str, ne_str, len_str, len_lst, len_tup, abs_int, int_int, int_bool, min2_int, max2_int, tuple_lst, tuple_tup, list_lst, list_tup, slc_str, slc_lst, slc_tup, repS_one, repL_one, idx_t0, idx_t1, idx_t2, idx_l0, rg1_if, rg2_if, eq_self_str, eqv_bool, eq_nil, wipeE, isiD, lcS_v, forS_v, forS_t, lcS_t, app_if, ext_if, en_str, en_lst, items_str, items_lst, items_tup, Int.toNat_natCast, ev_lc2, lcS2_v, lcS2_t, tgV, tgVs, ev_rev, ev_itl, evI_rg3, rg3_if, List.append_nil, hideE, hideS]
    rw [Int.natCast_emod]) fuelW a b (by have := fuel_big'; omega)
  have hg : 0 < Nat.gcd a b := Nat.gcd_pos_of_pos_right _ hb.1
  try simp -dsimp -implicitDefEqProofs (disch := first | omega | (simp; omega)) only [ev_var, ev_cst, ev_tup, ev_lst, ev_bin, ev_neg, ev_not, ev_and, ev_or, ev_cmp, ev_isN, ev_notN, ev_chn, ev_ite, ev_idx, ev_slc, ev_call, ev_bl, ev_mt, ev_isi, ev_lc, evI_it, evI_rg1, evI_rg2, evI_enum, exec_asg, exec_own, exec_par, exec_aug, exec_app, exec_ext, exec_ins, exec_put, exec_aput, exec_ifs, exec_for_, exec_whl, exec_ret, exec_retn, exec_brk, exec_cnt, exec_pass, exec_close, evs_nil, evs_cons, evo_none, evo_some, evc_none, evc_some, execs_nil, execs_cons, nxt_nx, nxt_rt, nxt_bk, nxt_ct, List.length_cons, List.length_nil, List.map_cons, List.map_nil, bnd_r, lift_ret, Env.read, Env.keep, Sl.read, Sl.keep, List.cons_append, List.nil_append, List.getElem?_cons_zero, List.getElem?_cons_succ, List.set_cons_zero, List.set_cons_succ, bindT, bindTs, closeS, ownS, keepP, if_true, if_false, ↓reduceIte, Bool.false_eq_true, Nat.reduceAdd, Nat.reduceSub, List.replicate_succ, List.replicate_zero, boolD_b, intD_i, isN_none, isN_int, isN_bool, isN_str, isN_tup, isN_lst, Bool.not_true, Bool.not_false, augD, add_int, sub_int, mul_int, fdiv_int, mod_int, mul_str, add_str, add_tup, add_lst, mul_lst, eq_int, ne_int, lt_int, gt_int, le_int, ge_int, eq_str, ne_str, len_str, len_lst, len_tup, abs_int, int_int, int_bool, min2_int, max2_int, tuple_lst, tuple_tup, list_lst, list_tup, slc_str, slc_lst, slc_tup, repS_one, repL_one, idx_t0, idx_t1, idx_t2, idx_l0, rg1_if, rg2_if, eq_self_str, eqv_bool, eq_nil, wipeE, isiD, lcS_v, forS_v, forS_t, lcS_t, app_if, ext_if, en_str, en_lst, items_str, items_lst, items_tup, Int.toNat_natCast, ev_lc2, lcS2_v, lcS2_t, tgV, tgVs, ev_rev, ev_itl, evI_rg3, rg3_if, List.append_nil, hideE, hideS, e]
  rw [decide_eq_false (by omega)]
  try simp -dsimp -implicitDefEqProofs (disch := first | omega | (simp; omega)) only [ev_var, ev_cst, ev_tup, ev_lst, ev_bin, ev_neg, ev_not, ev_and, ev_or, ev_cmp, ev_isN, ev_notN, ev_chn, ev_ite, ev_idx, ev_slc, ev_call, ev_bl, ev_mt, ev_isi, ev_lc, evI_it, evI_rg1, evI_rg2, evI_enum, exec_asg, exec_own, exec_par, exec_aug, exec_app, exec_ext, exec_ins, exec_put, exec_aput, exec_ifs, exec_for_, exec_whl, exec_ret, exec_retn, exec_brk, exec_cnt, exec_pass, exec_close, evs_nil, evs_cons, evo_none, evo_some, evc_none, evc_some, execs_nil, execs_cons, nxt_nx, nxt_rt, nxt_bk, nxt_ct, List.length_cons, List.length_nil, List.map_cons, List.map_nil, bnd_r, lift_ret, Env.read, Env.keep, Sl.read, Sl.keep, List.cons_append, List.nil_append, List.getElem?_cons_zero, List.getElem?_cons_succ, List.set_cons_zero, List.set_cons_succ, bindT, bindTs, closeS, ownS, keepP, if_true, if_false, ↓reduceIte, Bool.false_eq_true, Nat.reduceAdd, Nat.reduceSub, List.replicate_succ, List.replicate_zero, boolD_b, intD_i, isN_none, isN_int, isN_bool, isN_str, isN_tup, isN_lst, Bool.not_true, Bool.not_false, augD, add_int, sub_int, mul_int, fdiv_int, mod_int, mul_str, add_str, add_tup, add_lst, mul_lst, eq_int, ne_int, lt_int, gt_int, le_int, ge_int, eq_str, ne_str, len_str, len_lst, len_tup, abs_int, int_int, int_bool, min2_int, max2_int, tuple_lst, tuple_tup, list_lst, list_tup, slc_str, slc_lst, slc_tup, repS_one, repL_one, idx_t0, idx_t1, idx_t2, idx_l0, rg1_if, rg2_if, eq_self_str, eqv_bool, eq_nil, wipeE, isiD, lcS_v, forS_v, forS_t, lcS_t, app_if, ext_if, en_str, en_lst, items_str, items_lst, items_tup, Int.toNat_natCast, ev_lc2, lcS2_v, lcS2_t, tgV, tgVs, ev_rev, ev_itl, evI_rg3, rg3_if, List.append_nil, hideE, hideS]
theorem gcd_le_r (a b : Nat) (h : 0 < b) : 0 < Nat.gcd a b ∧ Nat.gcd a b ≤ b := ⟨Nat.gcd_pos_of_pos_right _ h, Nat.gcd_le_right _ h⟩
theorem abs_nat {i : Int} : (if i < 0 then -i else i) = (i.natAbs : Int) := by
  by_cases h : i < 0
  · rw [if_pos h]; omega
  · rw [if_neg h]; omega
theorem fraction_eq {g : Nat} (hg : T[g]? = some ⟨2, 2, hb_divisor⟩) (h : T[f]? = some ⟨2, 3, hb_fraction g⟩) {a b : Int} (hb : 0 < b ∧ b < 1000000000000000000) : cal T (k + 2) f [.int a, .int b] = ret (fracD a b) := by
  rw [cal_at h]
  unfold runF hb_fraction
  obtain ⟨h1, h2⟩ := gcd_le_r a.natAbs b.natAbs (by omega)
  try simp -dsimp -implicitDefEqProofs (disch := first | omega | (simp; omega)) only [ev_var, ev_cst, ev_tup, ev_lst, ev_bin, ev_neg, ev_not, ev_and, ev_or, ev_cmp, ev_isN, ev_notN, ev_chn, ev_ite, ev_idx, ev_slc, ev_call, ev_bl, ev_mt, ev_isi, ev_lc, evI_it, evI_rg1, evI_rg2, evI_enum, exec_asg, exec_own, exec_par, exec_aug, exec_app, exec_ext, exec_ins, exec_put, exec_aput, exec_ifs, exec_for_, exec_whl, exec_ret, exec_retn, exec_brk, exec_cnt, exec_pass, exec_close, evs_nil, evs_cons, evo_none, evo_some, evc_none, evc_some, execs_nil, execs_cons, nxt_nx, nxt_rt, nxt_bk, nxt_ct, List.length_cons, List.length_nil, List.map_cons, List.map_nil, bnd_r, lift_ret, Env.read, Env.keep, Sl.read, Sl.keep, List.cons_append, List.nil_append, List.getElem?_cons_zero, List.getElem?_cons_succ, List.set_cons_zero, List.set_cons_succ, bindT, bindTs, closeS, ownS, keepP, if_true, if_false, ↓reduceIte, Bool.false_eq_true, Nat.reduceAdd, Nat.reduceSub, List.replicate_succ, List.replicate_zero, boolD_b, intD_i, isN_none, isN_int, isN_bool, isN_str, isN_tup, isN_lst, Bool.not_true, Bool.not_false, augD, add_int, sub_int, mul_int, fdiv_int, mod_int, mul_str, add_str, add_tup, add_lst, mul_lst, eq_int, ne_int, lt_int, gt_int, le_int, ge_int, eq_str, ne_str, len_str, len_lst, len_tup, abs_int, int_int, int_bool, min2_int, max2_int, tuple_lst, tuple_tup, list_lst, list_tup, slc_str, slc_lst, slc_tup, repS_one, repL_one, idx_t0, idx_t1, idx_t2, idx_l0, rg1_if, rg2_if, eq_self_str, eqv_bool, eq_nil, wipeE, isiD, lcS_v, forS_v, forS_t, lcS_t, app_if, ext_if, en_str, en_lst, items_str, items_lst, items_tup, Int.toNat_natCast, ev_lc2, lcS2_v, lcS2_t, tgV, tgVs, ev_rev, ev_itl, evI_rg3, rg3_if, List.append_nil, hideE, hideS, abs_nat, divisor_eq hg, hb.1, decide_true, Int.mul_one]
  rfl
theorem lfraction_eq (h : T[f]? = some ⟨2, 4, hb_lfraction⟩) {a b : Int} (hb : 0 < b ∧ b < 1000000000000000000) : cal T (k + 1) f [.int a, .int b] = ret (fracD a b) := by
  rw [cal_at h]
  unfold runF hb_lfraction
  obtain ⟨h1, h2⟩ := gcd_le_r a.natAbs b.natAbs (by omega)
  have e := whl_gcd (test := whlT (cal T k) hc_lfr) (step := execs (cal T k) hb_lfr2) (fun x y => [.cl (.int a), .cl (.int b), .cl (.int (x : Int)), .cl (.int (y : Int))]) (fun x y => by
    unfold whlT hc_lfr
    try simp -dsimp -implicitDefEqProofs (disch := first | omega | (simp; omega)) only [ev_var, ev_cst, ev_tup, ev_lst, ev_bin, ev_neg, ev_not, ev_and, ev_or, ev_cmp, ev_isN, ev_notN, ev_chn, ev_ite, ev_idx, ev_slc, ev_call, ev_bl, ev_mt, ev_isi, ev_lc, evI_it, evI_rg1, evI_rg2, evI_enum, exec_asg, exec_own, exec_par, exec_aug, exec_app, exec_ext, exec_ins, exec_put, exec_aput, exec_ifs, exec_for_, exec_whl, exec_ret, exec_retn, exec_brk, exec_cnt, exec_pass, exec_close, evs_nil, evs_cons, evo_none, evo_some, evc_none, evc_some, execs_nil, execs_cons, nxt_nx, nxt_rt, nxt_bk, nxt_ct, List.length_cons, List.length_nil, List.map_cons, List.map_nil, bnd_r, lift_ret, Env.read, Env.keep, Sl.read, Sl.keep, List.cons_append, List.nil_append, List.getElem?_cons_zero, List.getElem?_cons_succ, List.set_cons_zero, List.set_cons_succ, bindT, bindTs, closeS, ownS, keepP, if_true, if_false, ↓reduceIte, Bool.false_eq_true, Nat.reduceAdd, Nat.reduceSub, List.replicate_succ, List.replicate_zero, boolD_b, intD_i, isN_none, isN_int, isN_bool, isN_str, isN_tup, isN_lst, Bool.not_true, Bool.not_false, augD, add_int, sub_int, mul_int, fdiv_int, mod_int, mul_str, add_str, add_tup, add_lst, mul_lst, eq_int, ne_int, lt_int, gt_int, le_int, ge_int, eq_str, ne_str, len_str, len_lst, len_tup, abs_int, int_int, int_bool, min2_int, max2_int, tuple_lst, tuple_tup, list_lst, list_tup, slc_str, slc_lst, slc_tup, repS_one, repL_one, idx_t0, idx_t1, idx_t2, idx_l0, rg1_if, rg2_if, eq_self_str, eqv_bool, eq_nil, wipeE, isiD, lcS_v, forS_v, forS_t, lcS_t, app_if, ext_if, en_str, en_lst, items_str, items_lst, items_tup, Int.toNat_natCast, ev_lc2, lcS2_v, lcS2_t, tgV, tgVs, ev_rev, ev_itl, evI_rg3, rg3_if, List.append_nil, hideE, hideS]
    simp) (fun x y h => by
    unfold hb_lfr2
    try simp -dsimp -implicitDefEqProofs (disch := first | omega | (simp; omega)) only [ev_var, ev_cst, ev_tup, ev_lst, ev_bin, ev_neg, ev_not, ev_and, ev_or, ev_cmp, ev_isN, ev_notN, ev_chn, ev_ite, ev_idx, ev_slc, ev_call, ev_bl, ev_mt, ev_isi, ev_lc, evI_it, evI_rg1, evI_rg2, evI_enum, exec_asg, exec_own, exec_par, exec_aug, exec_app, exec_ext, exec_ins, exec_put, exec_aput, exec_ifs, exec_for_, exec_whl, exec_ret, exec_retn, exec_brk, exec_cnt, exec_pass, exec_close, evs_nil, evs_cons, evo_none, evo_some, evc_none, evc_some, execs_nil, execs_cons, nxt_nx, nxt_rt, nxt_bk, nxt_ct, List.length_cons, List.length_nil, List.map_cons, List.map_nil, bnd_r, lift_ret, Env.read, Env.keep, Sl.read, Sl.keep, List.cons_append, List.nil_append, List.getElem?_cons_zero, List.getElem?_cons_succ, List.set_cons_zero, List.set_cons_succ, bindT, bindTs, closeS, ownS, keepP, if_true, if_false, ↓reduceIte, Bool.false_eq_true, Nat.reduceAdd, Nat.reduceSub, List.replicate_succ, List.replicate_zero, boolD_b, intD_i, isN_none, isN_int, isN_bool, isN_str, isN_tup, isN_lst, Bool.not_true, Bool.not_false, augD, add_int, sub_int, mul_int, fdiv_int, mod_int, mul_str, add_str, add_tup, add_lst, mul_lst, eq_int, ne_int, lt_int, gt_int, le_int, ge_int, eq_str, ne_str, len_str, len_lst, len_tup, abs_int, int_int, int_bool, min2_int, max2_int, tuple_lst, tuple_tup, list_lst, list_tup, slc_str, slc_lst, slc_tup, repS_one, repL_one, idx_t0, idx_t1, idx_t2, idx_l0, rg1_if, rg2_if, eq_self_str, eqv_bool, eq_nil, wipeE, isiD, lcS_v, forS_v, forS_t, lcS_t, app_if, ext_if, en_str, en_lst, items_str, items_lst, items_tup, Int.toNat_natCast, ev_lc2, lcS2_v, lcS2_t, tgV, tgVs, ev_rev, ev_itl, evI_rg3, rg3_if, List.append_nil, hideE, hideS]
    rw [Int.natCast_emod]) fuelW a.natAbs b.natAbs (by have := fuel_big'; omega)
  try simp -dsimp -implicitDefEqProofs (disch := first | omega | (simp; omega)) only [ev_var, ev_cst, ev_tup, ev_lst, ev_bin, ev_neg, ev_not, ev_and, ev_or, ev_cmp, ev_isN, ev_notN, ev_chn, ev_ite, ev_idx, ev_slc, ev_call, ev_bl, ev_mt, ev_isi, ev_lc, evI_it, evI_rg1, evI_rg2, evI_enum, exec_asg, exec_own, exec_par, exec_aug, exec_app, exec_ext, exec_ins, exec_put, exec_aput, exec_ifs, exec_for_, exec_whl, exec_ret, exec_retn, exec_brk, exec_cnt, exec_pass, exec_close, evs_nil, evs_cons, evo_none, evo_some, evc_none, evc_some, execs_nil, execs_cons, nxt_nx, nxt_rt, nxt_bk, nxt_ct, List.length_cons, List.length_nil, List.map_cons, List.map_nil, bnd_r, lift_ret, Env.read, Env.keep, Sl.read, Sl.keep, List.cons_append, List.nil_append, List.getElem?_cons_zero, List.getElem?_cons_succ, List.set_cons_zero, List.set_cons_succ, bindT, bindTs, closeS, ownS, keepP, if_true, if_false, ↓reduceIte, Bool.false_eq_true, Nat.reduceAdd, Nat.reduceSub, List.replicate_succ, List.replicate_zero, boolD_b, intD_i, isN_none, isN_int, isN_bool, isN_str, isN_tup, isN_lst, Bool.not_true, Bool.not_false, augD, add_int, sub_int, mul_int, fdiv_int, mod_int, mul_str, add_str, add_tup, add_lst, mul_lst, eq_int, ne_int, lt_int, gt_int, le_int, ge_int, eq_str, ne_str, len_str, len_lst, len_tup, abs_int, int_int, int_bool, min2_int, max2_int, tuple_lst, tuple_tup, list_lst, list_tup, slc_str, slc_lst, slc_tup, repS_one, repL_one, idx_t0, idx_t1, idx_t2, idx_l0, rg1_if, rg2_if, eq_self_str, eqv_bool, eq_nil, wipeE, isiD, lcS_v, forS_v, forS_t, lcS_t, app_if, ext_if, en_str, en_lst, items_str, items_lst, items_tup, Int.toNat_natCast, ev_lc2, lcS2_v, lcS2_t, tgV, tgVs, ev_rev, ev_itl, evI_rg3, rg3_if, List.append_nil, hideE, hideS, abs_nat, e, hb.1, decide_true]
  rfl
end
/-- a list of ints -/
theorem un_int {P : Int → Prop} : ∀ {l : List D}, (∀ x ∈ l, ∃ t : Int, x = .int t ∧ P t) → ∃ xs : List Int, l = xs.map .int ∧ ∀ t ∈ xs, P t
  | [], _ => ⟨[], rfl, fun t ht => by cases ht⟩
  | x :: l, h => by
    obtain ⟨t, rfl, ht⟩ := h x List.mem_cons_self
    obtain ⟨xs, rfl, hx⟩ := un_int fun y hy => h y (List.mem_cons_of_mem _ hy)
    refine ⟨t :: xs, rfl, fun u hu => ?_⟩
    rcases List.mem_cons.mp hu with rfl | hu
    · exact ht
    · exact hx u hu
/-- some of them -/
theorem sure_lcF {α : Type} {step : D → M (Option D)} (g : α → D) : ∀ {l : List α}, (∀ x ∈ l, Sure (step (g x)) fun o => o = none ∨ o = some (g x)) → Sure (lcL step (l.map g)) fun out => ∃ s : List α, out = s.map g ∧ s.Sublist l
  | [], _ => sure_ret ⟨[], rfl, .slnil⟩
  | x :: l, h => by
    rw [List.map_cons]
    unfold lcL
    refine sure_bnd ((h x List.mem_cons_self).mono fun o ho => ?_)
    refine sure_bnd ((sure_lcF g fun y hy => h y (List.mem_cons_of_mem _ hy)).mono fun out hout => ?_)
    obtain ⟨s, rfl, hs⟩ := hout
    rcases ho with rfl | rfl
    · exact sure_ret ⟨s, rfl, hs.cons x⟩
    · exact sure_ret ⟨x :: s, rfl, hs.cons_cons x⟩
theorem any_fil {α : Type} {p : α → Bool} : ∀ {l : List α}, (!(l.filter p).isEmpty) = l.any p
  | [] => rfl
  | x :: l => by
    rw [List.filter_cons, List.any_cons, ← any_fil (l := l)]
    cases p x <;> rfl
theorem none_fil {α : Type} {p : α → Bool} {l : List α} : (l.filter p).isEmpty = !l.any p := by
  rw [← any_fil, Bool.not_not]
theorem first_nat (p : Nat → Bool) : ∀ n, p n = true → ∃ b, b ≤ n ∧ p b = true ∧ ∀ j, j < b → p j = false
  | 0, h => ⟨0, Nat.le_refl _, h, fun j hj => by omega⟩
  | n + 1, h => by
    by_cases q : ∃ j, j ≤ n ∧ p j = true
    · obtain ⟨j, j1, j2⟩ := q
      have key : ∀ m, ∀ j, j ≤ m → p j = true → ∃ b, b ≤ j ∧ p b = true ∧ ∀ i, i < b → p i = false := fun m => by
        induction m with
        | zero => intro j hj hp; exact ⟨j, Nat.le_refl _, hp, fun i hi => by omega⟩
        | succ m ih =>
          intro j hj hp
          by_cases r : ∃ i, i < j ∧ p i = true
          · obtain ⟨i, i1, i2⟩ := r
            obtain ⟨b, b1, b2, b3⟩ := ih i (by omega) i2
            exact ⟨b, by omega, b2, b3⟩
          · exact ⟨j, Nat.le_refl _, hp, fun i hi => by
              cases e : p i with
              | false => rfl
              | true => exact absurd ⟨i, hi, e⟩ r⟩
      obtain ⟨b, b1, b2, b3⟩ := key n j j1 j2
      exact ⟨b, by omega, b2, b3⟩
    · exact ⟨n + 1, Nat.le_refl _, h, fun i hi => by
        cases e : p i with
        | false => rfl
        | true => exact absurd ⟨i, by omega, e⟩ q⟩
end Q

set_option Elab.async false
set_option linter.all false
set_option maxRecDepth 100000
/-! P3: the captions that many laws draw. -/
namespace Q
open PySem
def capW : List D := [(.str (S [119, 101])), (.str (S [103, 111])), (.str (S [110, 111, 119])), (.str (S [102, 97, 114])), (.str (S [111, 39, 101, 114])), (.str (S [110, 111, 44])), (.str (S [115, 116, 111, 112, 33]))]
def he_cap1 (p : Nat) : Tm := (.call p [(.var 0), (.lst [(.cst (.str (S [119, 101]))), (.cst (.str (S [103, 111]))), (.cst (.str (S [110, 111, 119]))), (.cst (.str (S [102, 97, 114]))), (.cst (.str (S [111, 39, 101, 114]))), (.cst (.str (S [110, 111, 44]))), (.cst (.str (S [115, 116, 111, 112, 33])))])])
def he_cap2 (n p : Nat) : Tm := (.mt .join (.cst (.str (S [32]))) [(.lc [7] (.v 7) (.rg1 (.bin .add (.cst (.int 1)) (.call n [(.var 0), (.cst (.int 4))]))) none (he_cap1 p))])
def hb_cap3 (n p : Nat) : List St := [(.asg (.v 5) (.bin .add (.var 3) (.call p [(.var 0), (.lst [(.cst (.int 0)), (.cst (.int 0)), (.cst (.int 100)), (.cst (.int 700)), (.cst (.int 1500))])]))), (.asg (.v 3) (.bin .add (.bin .add (.var 5) (.cst (.int 1))) (.bin .mul (.call n [(.var 0), (.cst (.int 25))]) (.cst (.int 100))))), (.asg (.v 6) (.bl .tuple [(.lc [8] (.v 8) (.rg1 (.bin .add (.cst (.int 1)) (.call n [(.var 0), (.cst (.int 2))]))) none (he_cap2 n p))])), (.app 2 (.tup [(.var 5), (.var 3), (.var 6)]))]
def hb_captions (n p : Nat) : List St := [(.par [(2, true), (3, false)] [(.lst []), (.cst (.int 0))]), (.for_ (.v 4) (.rg1 (.call n [(.var 0), (.bin .add (.var 1) (.cst (.int 1)))])) (hb_cap3 n p)), (.ret (.bl .tuple [(.var 2)]))]
/-- a caption: from, to, its lines -/
abbrev Cap := Int × Int × List (List Nat)
def encL (l : List (List Nat)) : D := .tuple (l.map fun t => .str (S t))
def encC (c : Cap) : D := .tuple [.int c.1, .int c.2.1, encL c.2.2]
structure CapOk (c : Cap) : Prop where
  from0 : 0 ≤ c.1
  order : c.1 < c.2.1
  few : 0 < c.2.2.length ∧ c.2.2.length ≤ 2
  lens : ∀ t ∈ c.2.2, 0 < t.length ∧ t.length ≤ 40
structure CapsOk (most : Nat) (l : List Cap) : Prop where
  len : l.length ≤ most
  asc : l.Pairwise fun a b => a.2.1 ≤ b.1
  ok : ∀ c ∈ l, CapOk c ∧ c.2.1 ≤ 4000 * most
theorem rg_get {n : Int} {i : Nat} {d : D} (h : (rgD 0 n)[i]? = some d) : d = .int (i : Int) ∧ i < n.toNat := by
  rw [rgD_nat, List.getElem?_map] at h
  obtain ⟨j, e1, rfl⟩ := Option.map_eq_some_iff.mp h
  have hi : i < n.toNat := by
    have := (List.getElem?_eq_some_iff.mp e1).1
    simpa using this
  rw [List.getElem?_range hi] at e1
  cases e1
  exact ⟨rfl, hi⟩
theorem rg_len {n : Int} : (rgD 0 n).length = n.toNat := by simp [rgD]
section
variable {T : List Fn} {f k n p : Nat}
theorem sure_cap2 (hn : T[n]? = some ⟨2, 2, hb_next⟩) (hp : T[p]? = some ⟨2, 2, hb_pick n⟩) {s1 s2 s3 s4 s5 s6 s7 s8 : Sl} : Sure (ev (cal T (k + 2)) false (he_cap2 n p) [.cl W, s1, s2, s3, s4, s5, s6, s7, s8]) fun d => ∃ t, d = .str (S t) ∧ (0 < t.length ∧ t.length ≤ 40) := by
  unfold he_cap2
  try simp -dsimp -implicitDefEqProofs (disch := first | omega | (simp; omega)) only [ev_var, ev_cst, ev_tup, ev_lst, ev_bin, ev_neg, ev_not, ev_and, ev_or, ev_cmp, ev_isN, ev_notN, ev_chn, ev_ite, ev_idx, ev_slc, ev_call, ev_bl, ev_mt, ev_isi, ev_lc, evI_it, evI_rg1, evI_rg2, evI_enum, exec_asg, exec_own, exec_par, exec_aug, exec_app, exec_ext, exec_ins, exec_put, exec_aput, exec_ifs, exec_for_, exec_whl, exec_ret, exec_retn, exec_brk, exec_cnt, exec_pass, exec_close, evs_nil, evs_cons, evo_none, evo_some, evc_none, evc_some, execs_nil, execs_cons, nxt_nx, nxt_rt, nxt_bk, nxt_ct, List.length_cons, List.length_nil, List.map_cons, List.map_nil, bnd_r, lift_ret, Env.read, Env.keep, Sl.read, Sl.keep, List.cons_append, List.nil_append, List.getElem?_cons_zero, List.getElem?_cons_succ, List.set_cons_zero, List.set_cons_succ, bindT, bindTs, closeS, ownS, keepP, if_true, if_false, ↓reduceIte, Bool.false_eq_true, Nat.reduceAdd, Nat.reduceSub, List.replicate_succ, List.replicate_zero, boolD_b, intD_i, isN_none, isN_int, isN_bool, isN_str, isN_tup, isN_lst, Bool.not_true, Bool.not_false, augD, add_int, sub_int, mul_int, fdiv_int, mod_int, mul_str, add_str, add_tup, add_lst, mul_lst, eq_int, ne_int, lt_int, gt_int, le_int, ge_int, eq_str, ne_str, len_str, len_lst, len_tup, abs_int, int_int, int_bool, min2_int, max2_int, tuple_lst, tuple_tup, list_lst, list_tup, slc_str, slc_lst, slc_tup, repS_one, repL_one, idx_t0, idx_t1, idx_t2, idx_l0, rg1_if, rg2_if, eq_self_str, eqv_bool, eq_nil, wipeE, isiD, lcS_v, forS_v, forS_t, lcS_t, app_if, ext_if, en_str, en_lst, items_str, items_lst, items_tup, Int.toNat_natCast, ev_lc2, lcS2_v, lcS2_t, tgV, tgVs, ev_rev, ev_itl, evI_rg3, rg3_if, List.append_nil, hideE, hideS, bnd_assoc]
  refine sure_bnd ((sure_next hn (by omega)).mono fun d hd => ?_)
  obtain ⟨m, rfl, h1, h2⟩ := hd
  try simp -dsimp -implicitDefEqProofs (disch := first | omega | (simp; omega)) only [ev_var, ev_cst, ev_tup, ev_lst, ev_bin, ev_neg, ev_not, ev_and, ev_or, ev_cmp, ev_isN, ev_notN, ev_chn, ev_ite, ev_idx, ev_slc, ev_call, ev_bl, ev_mt, ev_isi, ev_lc, evI_it, evI_rg1, evI_rg2, evI_enum, exec_asg, exec_own, exec_par, exec_aug, exec_app, exec_ext, exec_ins, exec_put, exec_aput, exec_ifs, exec_for_, exec_whl, exec_ret, exec_retn, exec_brk, exec_cnt, exec_pass, exec_close, evs_nil, evs_cons, evo_none, evo_some, evc_none, evc_some, execs_nil, execs_cons, nxt_nx, nxt_rt, nxt_bk, nxt_ct, List.length_cons, List.length_nil, List.map_cons, List.map_nil, bnd_r, lift_ret, Env.read, Env.keep, Sl.read, Sl.keep, List.cons_append, List.nil_append, List.getElem?_cons_zero, List.getElem?_cons_succ, List.set_cons_zero, List.set_cons_succ, bindT, bindTs, closeS, ownS, keepP, if_true, if_false, ↓reduceIte, Bool.false_eq_true, Nat.reduceAdd, Nat.reduceSub, List.replicate_succ, List.replicate_zero, boolD_b, intD_i, isN_none, isN_int, isN_bool, isN_str, isN_tup, isN_lst, Bool.not_true, Bool.not_false, augD, add_int, sub_int, mul_int, fdiv_int, mod_int, mul_str, add_str, add_tup, add_lst, mul_lst, eq_int, ne_int, lt_int, gt_int, le_int, ge_int, eq_str, ne_str, len_str, len_lst, len_tup, abs_int, int_int, int_bool, min2_int, max2_int, tuple_lst, tuple_tup, list_lst, list_tup, slc_str, slc_lst, slc_tup, repS_one, repL_one, idx_t0, idx_t1, idx_t2, idx_l0, rg1_if, rg2_if, eq_self_str, eqv_bool, eq_nil, wipeE, isiD, lcS_v, forS_v, forS_t, lcS_t, app_if, ext_if, en_str, en_lst, items_str, items_lst, items_tup, Int.toNat_natCast, ev_lc2, lcS2_v, lcS2_t, tgV, tgVs, ev_rev, ev_itl, evI_rg3, rg3_if, List.append_nil, hideE, hideS, bnd_assoc]
  refine sure_bnd ((sure_lc (fun x => ∃ t, x = .str (S t) ∧ (0 < t.length ∧ t.length ≤ 5)) fun d hd => ?_).mono fun l hl => ?_)
  · unfold he_cap1
    try simp -dsimp -implicitDefEqProofs (disch := first | omega | (simp; omega)) only [ev_var, ev_cst, ev_tup, ev_lst, ev_bin, ev_neg, ev_not, ev_and, ev_or, ev_cmp, ev_isN, ev_notN, ev_chn, ev_ite, ev_idx, ev_slc, ev_call, ev_bl, ev_mt, ev_isi, ev_lc, evI_it, evI_rg1, evI_rg2, evI_enum, exec_asg, exec_own, exec_par, exec_aug, exec_app, exec_ext, exec_ins, exec_put, exec_aput, exec_ifs, exec_for_, exec_whl, exec_ret, exec_retn, exec_brk, exec_cnt, exec_pass, exec_close, evs_nil, evs_cons, evo_none, evo_some, evc_none, evc_some, execs_nil, execs_cons, nxt_nx, nxt_rt, nxt_bk, nxt_ct, List.length_cons, List.length_nil, List.map_cons, List.map_nil, bnd_r, lift_ret, Env.read, Env.keep, Sl.read, Sl.keep, List.cons_append, List.nil_append, List.getElem?_cons_zero, List.getElem?_cons_succ, List.set_cons_zero, List.set_cons_succ, bindT, bindTs, closeS, ownS, keepP, if_true, if_false, ↓reduceIte, Bool.false_eq_true, Nat.reduceAdd, Nat.reduceSub, List.replicate_succ, List.replicate_zero, boolD_b, intD_i, isN_none, isN_int, isN_bool, isN_str, isN_tup, isN_lst, Bool.not_true, Bool.not_false, augD, add_int, sub_int, mul_int, fdiv_int, mod_int, mul_str, add_str, add_tup, add_lst, mul_lst, eq_int, ne_int, lt_int, gt_int, le_int, ge_int, eq_str, ne_str, len_str, len_lst, len_tup, abs_int, int_int, int_bool, min2_int, max2_int, tuple_lst, tuple_tup, list_lst, list_tup, slc_str, slc_lst, slc_tup, repS_one, repL_one, idx_t0, idx_t1, idx_t2, idx_l0, rg1_if, rg2_if, eq_self_str, eqv_bool, eq_nil, wipeE, isiD, lcS_v, forS_v, forS_t, lcS_t, app_if, ext_if, en_str, en_lst, items_str, items_lst, items_tup, Int.toNat_natCast, ev_lc2, lcS2_v, lcS2_t, tgV, tgVs, ev_rev, ev_itl, evI_rg3, rg3_if, List.append_nil, hideE, hideS, bnd_assoc]
    refine sure_bnd ((sure_pick hn hp (xs := capW) (by simp [capW])).mono fun d hd => ?_)
    refine sure_ret ⟨d, rfl, ?_⟩
    simp only [capW, List.mem_cons, List.not_mem_nil, or_false] at hd
    rcases hd with rfl | rfl | rfl | rfl | rfl | rfl | rfl <;> exact ⟨_, rfl, by simp⟩
  · obtain ⟨hl, hx⟩ := hl
    obtain ⟨xs, rfl, hx2⟩ := un_str hx
    rw [rg_len, List.length_map] at hl
    have l1 := sum_le (m := 5) fun t ht => (hx2 t ht).2
    have l2 := joinS_le (sep := [32]) (m := 5) (by simp) fun t ht => (hx2 t ht).2
    have l3 := joinS_pos (sep := [32]) (xs := xs) (fun z => by rw [z] at hl; simp at hl; omega) fun t ht => (hx2 t ht).1
    try simp -dsimp -implicitDefEqProofs (disch := first | omega | (simp; omega)) only [ev_var, ev_cst, ev_tup, ev_lst, ev_bin, ev_neg, ev_not, ev_and, ev_or, ev_cmp, ev_isN, ev_notN, ev_chn, ev_ite, ev_idx, ev_slc, ev_call, ev_bl, ev_mt, ev_isi, ev_lc, evI_it, evI_rg1, evI_rg2, evI_enum, exec_asg, exec_own, exec_par, exec_aug, exec_app, exec_ext, exec_ins, exec_put, exec_aput, exec_ifs, exec_for_, exec_whl, exec_ret, exec_retn, exec_brk, exec_cnt, exec_pass, exec_close, evs_nil, evs_cons, evo_none, evo_some, evc_none, evc_some, execs_nil, execs_cons, nxt_nx, nxt_rt, nxt_bk, nxt_ct, List.length_cons, List.length_nil, List.map_cons, List.map_nil, bnd_r, lift_ret, Env.read, Env.keep, Sl.read, Sl.keep, List.cons_append, List.nil_append, List.getElem?_cons_zero, List.getElem?_cons_succ, List.set_cons_zero, List.set_cons_succ, bindT, bindTs, closeS, ownS, keepP, if_true, if_false, ↓reduceIte, Bool.false_eq_true, Nat.reduceAdd, Nat.reduceSub, List.replicate_succ, List.replicate_zero, boolD_b, intD_i, isN_none, isN_int, isN_bool, isN_str, isN_tup, isN_lst, Bool.not_true, Bool.not_false, augD, add_int, sub_int, mul_int, fdiv_int, mod_int, mul_str, add_str, add_tup, add_lst, mul_lst, eq_int, ne_int, lt_int, gt_int, le_int, ge_int, eq_str, ne_str, len_str, len_lst, len_tup, abs_int, int_int, int_bool, min2_int, max2_int, tuple_lst, tuple_tup, list_lst, list_tup, slc_str, slc_lst, slc_tup, repS_one, repL_one, idx_t0, idx_t1, idx_t2, idx_l0, rg1_if, rg2_if, eq_self_str, eqv_bool, eq_nil, wipeE, isiD, lcS_v, forS_v, forS_t, lcS_t, app_if, ext_if, en_str, en_lst, items_str, items_lst, items_tup, Int.toNat_natCast, ev_lc2, lcS2_v, lcS2_t, tgV, tgVs, ev_rev, ev_itl, evI_rg3, rg3_if, List.append_nil, hideE, hideS, join_S]
    exact sure_ret ⟨_, rfl, l3, by omega⟩
theorem sure_captions (hn : T[n]? = some ⟨2, 2, hb_next⟩) (hp : T[p]? = some ⟨2, 2, hb_pick n⟩) (h : T[f]? = some ⟨2, 9, hb_captions n p⟩) {most : Nat} (hm : most ≤ 20) :
    Sure (cal T (k + 3) f [W, .int most]) fun d => ∃ l : List Cap, d = .tuple (l.map encC) ∧ CapsOk most l := by
  rw [cal_at h]
  unfold runF hb_captions
  try simp -dsimp -implicitDefEqProofs (disch := first | omega | (simp; omega)) only [ev_var, ev_cst, ev_tup, ev_lst, ev_bin, ev_neg, ev_not, ev_and, ev_or, ev_cmp, ev_isN, ev_notN, ev_chn, ev_ite, ev_idx, ev_slc, ev_call, ev_bl, ev_mt, ev_isi, ev_lc, evI_it, evI_rg1, evI_rg2, evI_enum, exec_asg, exec_own, exec_par, exec_aug, exec_app, exec_ext, exec_ins, exec_put, exec_aput, exec_ifs, exec_for_, exec_whl, exec_ret, exec_retn, exec_brk, exec_cnt, exec_pass, exec_close, evs_nil, evs_cons, evo_none, evo_some, evc_none, evc_some, execs_nil, execs_cons, nxt_nx, nxt_rt, nxt_bk, nxt_ct, List.length_cons, List.length_nil, List.map_cons, List.map_nil, bnd_r, lift_ret, Env.read, Env.keep, Sl.read, Sl.keep, List.cons_append, List.nil_append, List.getElem?_cons_zero, List.getElem?_cons_succ, List.set_cons_zero, List.set_cons_succ, bindT, bindTs, closeS, ownS, keepP, if_true, if_false, ↓reduceIte, Bool.false_eq_true, Nat.reduceAdd, Nat.reduceSub, List.replicate_succ, List.replicate_zero, boolD_b, intD_i, isN_none, isN_int, isN_bool, isN_str, isN_tup, isN_lst, Bool.not_true, Bool.not_false, augD, add_int, sub_int, mul_int, fdiv_int, mod_int, mul_str, add_str, add_tup, add_lst, mul_lst, eq_int, ne_int, lt_int, gt_int, le_int, ge_int, eq_str, ne_str, len_str, len_lst, len_tup, abs_int, int_int, int_bool, min2_int, max2_int, tuple_lst, tuple_tup, list_lst, list_tup, slc_str, slc_lst, slc_tup, repS_one, repL_one, idx_t0, idx_t1, idx_t2, idx_l0, rg1_if, rg2_if, eq_self_str, eqv_bool, eq_nil, wipeE, isiD, lcS_v, forS_v, forS_t, lcS_t, app_if, ext_if, en_str, en_lst, items_str, items_lst, items_tup, Int.toNat_natCast, ev_lc2, lcS2_v, lcS2_t, tgV, tgVs, ev_rev, ev_itl, evI_rg3, rg3_if, List.append_nil, hideE, hideS, bnd_assoc]
  refine sure_bnd ((sure_next hn (by omega)).mono fun d hd => ?_)
  obtain ⟨m, rfl, m1, m2⟩ := hd
  try simp -dsimp -implicitDefEqProofs (disch := first | omega | (simp; omega)) only [ev_var, ev_cst, ev_tup, ev_lst, ev_bin, ev_neg, ev_not, ev_and, ev_or, ev_cmp, ev_isN, ev_notN, ev_chn, ev_ite, ev_idx, ev_slc, ev_call, ev_bl, ev_mt, ev_isi, ev_lc, evI_it, evI_rg1, evI_rg2, evI_enum, exec_asg, exec_own, exec_par, exec_aug, exec_app, exec_ext, exec_ins, exec_put, exec_aput, exec_ifs, exec_for_, exec_whl, exec_ret, exec_retn, exec_brk, exec_cnt, exec_pass, exec_close, evs_nil, evs_cons, evo_none, evo_some, evc_none, evc_some, execs_nil, execs_cons, nxt_nx, nxt_rt, nxt_bk, nxt_ct, List.length_cons, List.length_nil, List.map_cons, List.map_nil, bnd_r, lift_ret, Env.read, Env.keep, Sl.read, Sl.keep, List.cons_append, List.nil_append, List.getElem?_cons_zero, List.getElem?_cons_succ, List.set_cons_zero, List.set_cons_succ, bindT, bindTs, closeS, ownS, keepP, if_true, if_false, ↓reduceIte, Bool.false_eq_true, Nat.reduceAdd, Nat.reduceSub, List.replicate_succ, List.replicate_zero, boolD_b, intD_i, isN_none, isN_int, isN_bool, isN_str, isN_tup, isN_lst, Bool.not_true, Bool.not_false, augD, add_int, sub_int, mul_int, fdiv_int, mod_int, mul_str, add_str, add_tup, add_lst, mul_lst, eq_int, ne_int, lt_int, gt_int, le_int, ge_int, eq_str, ne_str, len_str, len_lst, len_tup, abs_int, int_int, int_bool, min2_int, max2_int, tuple_lst, tuple_tup, list_lst, list_tup, slc_str, slc_lst, slc_tup, repS_one, repL_one, idx_t0, idx_t1, idx_t2, idx_l0, rg1_if, rg2_if, eq_self_str, eqv_bool, eq_nil, wipeE, isiD, lcS_v, forS_v, forS_t, lcS_t, app_if, ext_if, en_str, en_lst, items_str, items_lst, items_tup, Int.toNat_natCast, ev_lc2, lcS2_v, lcS2_t, tgV, tgVs, ev_rev, ev_itl, evI_rg3, rg3_if, List.append_nil, hideE, hideS, bnd_assoc]
  refine sure_bnd ((sure_for (fun j σ => ∃ (l : List Cap) (now : Int) (s4 s5 s6 s7 s8 : Sl), σ = [.cl W, .cl (.int most), .ol (l.map encC), .cl (.int now), s4, s5, s6, s7, s8] ∧ l.length = j ∧ (0 ≤ now ∧ now ≤ 4000 * j) ∧ l.Pairwise (fun a b => a.2.1 ≤ b.1) ∧ ∀ c ∈ l, CapOk c ∧ c.2.1 ≤ now)
    ⟨[], 0, _, _, _, _, _, rfl, rfl, by omega, .nil, fun c hc => by cases hc⟩ fun j d σ hj hI => ?_).mono fun fl hf => ?_)
  · obtain ⟨l, now, s4, s5, s6, s7, s8, rfl, h1, h2, h3, h4⟩ := hI
    have hj2 := (rg_get hj).2
    have hln : (16000000 : Nat) = lineMax := rfl
    rw [forS_v]
    unfold hb_cap3
    try simp -dsimp -implicitDefEqProofs (disch := first | omega | (simp; omega)) only [ev_var, ev_cst, ev_tup, ev_lst, ev_bin, ev_neg, ev_not, ev_and, ev_or, ev_cmp, ev_isN, ev_notN, ev_chn, ev_ite, ev_idx, ev_slc, ev_call, ev_bl, ev_mt, ev_isi, ev_lc, evI_it, evI_rg1, evI_rg2, evI_enum, exec_asg, exec_own, exec_par, exec_aug, exec_app, exec_ext, exec_ins, exec_put, exec_aput, exec_ifs, exec_for_, exec_whl, exec_ret, exec_retn, exec_brk, exec_cnt, exec_pass, exec_close, evs_nil, evs_cons, evo_none, evo_some, evc_none, evc_some, execs_nil, execs_cons, nxt_nx, nxt_rt, nxt_bk, nxt_ct, List.length_cons, List.length_nil, List.map_cons, List.map_nil, bnd_r, lift_ret, Env.read, Env.keep, Sl.read, Sl.keep, List.cons_append, List.nil_append, List.getElem?_cons_zero, List.getElem?_cons_succ, List.set_cons_zero, List.set_cons_succ, bindT, bindTs, closeS, ownS, keepP, if_true, if_false, ↓reduceIte, Bool.false_eq_true, Nat.reduceAdd, Nat.reduceSub, List.replicate_succ, List.replicate_zero, boolD_b, intD_i, isN_none, isN_int, isN_bool, isN_str, isN_tup, isN_lst, Bool.not_true, Bool.not_false, augD, add_int, sub_int, mul_int, fdiv_int, mod_int, mul_str, add_str, add_tup, add_lst, mul_lst, eq_int, ne_int, lt_int, gt_int, le_int, ge_int, eq_str, ne_str, len_str, len_lst, len_tup, abs_int, int_int, int_bool, min2_int, max2_int, tuple_lst, tuple_tup, list_lst, list_tup, slc_str, slc_lst, slc_tup, repS_one, repL_one, idx_t0, idx_t1, idx_t2, idx_l0, rg1_if, rg2_if, eq_self_str, eqv_bool, eq_nil, wipeE, isiD, lcS_v, forS_v, forS_t, lcS_t, app_if, ext_if, en_str, en_lst, items_str, items_lst, items_tup, Int.toNat_natCast, ev_lc2, lcS2_v, lcS2_t, tgV, tgVs, ev_rev, ev_itl, evI_rg3, rg3_if, List.append_nil, hideE, hideS, bnd_assoc]
    refine sure_bnd ((sure_pick hn hp (xs := [.int 0, .int 0, .int 100, .int 700, .int 1500]) (by simp)).mono fun d hd => ?_)
    have hd : ∃ x : Int, d = .int x ∧ 0 ≤ x ∧ x ≤ 1500 := by
      simp only [List.mem_cons, List.not_mem_nil, or_false] at hd
      rcases hd with rfl | rfl | rfl | rfl | rfl <;> exact ⟨_, rfl, by omega, by omega⟩
    obtain ⟨x, rfl, x1, x2⟩ := hd
    try simp -dsimp -implicitDefEqProofs (disch := first | omega | (simp; omega)) only [ev_var, ev_cst, ev_tup, ev_lst, ev_bin, ev_neg, ev_not, ev_and, ev_or, ev_cmp, ev_isN, ev_notN, ev_chn, ev_ite, ev_idx, ev_slc, ev_call, ev_bl, ev_mt, ev_isi, ev_lc, evI_it, evI_rg1, evI_rg2, evI_enum, exec_asg, exec_own, exec_par, exec_aug, exec_app, exec_ext, exec_ins, exec_put, exec_aput, exec_ifs, exec_for_, exec_whl, exec_ret, exec_retn, exec_brk, exec_cnt, exec_pass, exec_close, evs_nil, evs_cons, evo_none, evo_some, evc_none, evc_some, execs_nil, execs_cons, nxt_nx, nxt_rt, nxt_bk, nxt_ct, List.length_cons, List.length_nil, List.map_cons, List.map_nil, bnd_r, lift_ret, Env.read, Env.keep, Sl.read, Sl.keep, List.cons_append, List.nil_append, List.getElem?_cons_zero, List.getElem?_cons_succ, List.set_cons_zero, List.set_cons_succ, bindT, bindTs, closeS, ownS, keepP, if_true, if_false, ↓reduceIte, Bool.false_eq_true, Nat.reduceAdd, Nat.reduceSub, List.replicate_succ, List.replicate_zero, boolD_b, intD_i, isN_none, isN_int, isN_bool, isN_str, isN_tup, isN_lst, Bool.not_true, Bool.not_false, augD, add_int, sub_int, mul_int, fdiv_int, mod_int, mul_str, add_str, add_tup, add_lst, mul_lst, eq_int, ne_int, lt_int, gt_int, le_int, ge_int, eq_str, ne_str, len_str, len_lst, len_tup, abs_int, int_int, int_bool, min2_int, max2_int, tuple_lst, tuple_tup, list_lst, list_tup, slc_str, slc_lst, slc_tup, repS_one, repL_one, idx_t0, idx_t1, idx_t2, idx_l0, rg1_if, rg2_if, eq_self_str, eqv_bool, eq_nil, wipeE, isiD, lcS_v, forS_v, forS_t, lcS_t, app_if, ext_if, en_str, en_lst, items_str, items_lst, items_tup, Int.toNat_natCast, ev_lc2, lcS2_v, lcS2_t, tgV, tgVs, ev_rev, ev_itl, evI_rg3, rg3_if, List.append_nil, hideE, hideS, bnd_assoc]
    refine sure_bnd ((sure_next hn (by omega)).mono fun d hd => ?_)
    obtain ⟨y, rfl, y1, y2⟩ := hd
    try simp -dsimp -implicitDefEqProofs (disch := first | omega | (simp; omega)) only [ev_var, ev_cst, ev_tup, ev_lst, ev_bin, ev_neg, ev_not, ev_and, ev_or, ev_cmp, ev_isN, ev_notN, ev_chn, ev_ite, ev_idx, ev_slc, ev_call, ev_bl, ev_mt, ev_isi, ev_lc, evI_it, evI_rg1, evI_rg2, evI_enum, exec_asg, exec_own, exec_par, exec_aug, exec_app, exec_ext, exec_ins, exec_put, exec_aput, exec_ifs, exec_for_, exec_whl, exec_ret, exec_retn, exec_brk, exec_cnt, exec_pass, exec_close, evs_nil, evs_cons, evo_none, evo_some, evc_none, evc_some, execs_nil, execs_cons, nxt_nx, nxt_rt, nxt_bk, nxt_ct, List.length_cons, List.length_nil, List.map_cons, List.map_nil, bnd_r, lift_ret, Env.read, Env.keep, Sl.read, Sl.keep, List.cons_append, List.nil_append, List.getElem?_cons_zero, List.getElem?_cons_succ, List.set_cons_zero, List.set_cons_succ, bindT, bindTs, closeS, ownS, keepP, if_true, if_false, ↓reduceIte, Bool.false_eq_true, Nat.reduceAdd, Nat.reduceSub, List.replicate_succ, List.replicate_zero, boolD_b, intD_i, isN_none, isN_int, isN_bool, isN_str, isN_tup, isN_lst, Bool.not_true, Bool.not_false, augD, add_int, sub_int, mul_int, fdiv_int, mod_int, mul_str, add_str, add_tup, add_lst, mul_lst, eq_int, ne_int, lt_int, gt_int, le_int, ge_int, eq_str, ne_str, len_str, len_lst, len_tup, abs_int, int_int, int_bool, min2_int, max2_int, tuple_lst, tuple_tup, list_lst, list_tup, slc_str, slc_lst, slc_tup, repS_one, repL_one, idx_t0, idx_t1, idx_t2, idx_l0, rg1_if, rg2_if, eq_self_str, eqv_bool, eq_nil, wipeE, isiD, lcS_v, forS_v, forS_t, lcS_t, app_if, ext_if, en_str, en_lst, items_str, items_lst, items_tup, Int.toNat_natCast, ev_lc2, lcS2_v, lcS2_t, tgV, tgVs, ev_rev, ev_itl, evI_rg3, rg3_if, List.append_nil, hideE, hideS, bnd_assoc]
    refine sure_bnd ((sure_next hn (by omega)).mono fun d hd => ?_)
    obtain ⟨z, rfl, z1, z2⟩ := hd
    try simp -dsimp -implicitDefEqProofs (disch := first | omega | (simp; omega)) only [ev_var, ev_cst, ev_tup, ev_lst, ev_bin, ev_neg, ev_not, ev_and, ev_or, ev_cmp, ev_isN, ev_notN, ev_chn, ev_ite, ev_idx, ev_slc, ev_call, ev_bl, ev_mt, ev_isi, ev_lc, evI_it, evI_rg1, evI_rg2, evI_enum, exec_asg, exec_own, exec_par, exec_aug, exec_app, exec_ext, exec_ins, exec_put, exec_aput, exec_ifs, exec_for_, exec_whl, exec_ret, exec_retn, exec_brk, exec_cnt, exec_pass, exec_close, evs_nil, evs_cons, evo_none, evo_some, evc_none, evc_some, execs_nil, execs_cons, nxt_nx, nxt_rt, nxt_bk, nxt_ct, List.length_cons, List.length_nil, List.map_cons, List.map_nil, bnd_r, lift_ret, Env.read, Env.keep, Sl.read, Sl.keep, List.cons_append, List.nil_append, List.getElem?_cons_zero, List.getElem?_cons_succ, List.set_cons_zero, List.set_cons_succ, bindT, bindTs, closeS, ownS, keepP, if_true, if_false, ↓reduceIte, Bool.false_eq_true, Nat.reduceAdd, Nat.reduceSub, List.replicate_succ, List.replicate_zero, boolD_b, intD_i, isN_none, isN_int, isN_bool, isN_str, isN_tup, isN_lst, Bool.not_true, Bool.not_false, augD, add_int, sub_int, mul_int, fdiv_int, mod_int, mul_str, add_str, add_tup, add_lst, mul_lst, eq_int, ne_int, lt_int, gt_int, le_int, ge_int, eq_str, ne_str, len_str, len_lst, len_tup, abs_int, int_int, int_bool, min2_int, max2_int, tuple_lst, tuple_tup, list_lst, list_tup, slc_str, slc_lst, slc_tup, repS_one, repL_one, idx_t0, idx_t1, idx_t2, idx_l0, rg1_if, rg2_if, eq_self_str, eqv_bool, eq_nil, wipeE, isiD, lcS_v, forS_v, forS_t, lcS_t, app_if, ext_if, en_str, en_lst, items_str, items_lst, items_tup, Int.toNat_natCast, ev_lc2, lcS2_v, lcS2_t, tgV, tgVs, ev_rev, ev_itl, evI_rg3, rg3_if, List.append_nil, hideE, hideS, bnd_assoc]
    refine sure_bnd ((sure_lc (fun x => ∃ t, x = .str (S t) ∧ (0 < t.length ∧ t.length ≤ 40)) fun d hd => ?_).mono fun q hq => ?_)
    · try simp -dsimp -implicitDefEqProofs (disch := first | omega | (simp; omega)) only [ev_var, ev_cst, ev_tup, ev_lst, ev_bin, ev_neg, ev_not, ev_and, ev_or, ev_cmp, ev_isN, ev_notN, ev_chn, ev_ite, ev_idx, ev_slc, ev_call, ev_bl, ev_mt, ev_isi, ev_lc, evI_it, evI_rg1, evI_rg2, evI_enum, exec_asg, exec_own, exec_par, exec_aug, exec_app, exec_ext, exec_ins, exec_put, exec_aput, exec_ifs, exec_for_, exec_whl, exec_ret, exec_retn, exec_brk, exec_cnt, exec_pass, exec_close, evs_nil, evs_cons, evo_none, evo_some, evc_none, evc_some, execs_nil, execs_cons, nxt_nx, nxt_rt, nxt_bk, nxt_ct, List.length_cons, List.length_nil, List.map_cons, List.map_nil, bnd_r, lift_ret, Env.read, Env.keep, Sl.read, Sl.keep, List.cons_append, List.nil_append, List.getElem?_cons_zero, List.getElem?_cons_succ, List.set_cons_zero, List.set_cons_succ, bindT, bindTs, closeS, ownS, keepP, if_true, if_false, ↓reduceIte, Bool.false_eq_true, Nat.reduceAdd, Nat.reduceSub, List.replicate_succ, List.replicate_zero, boolD_b, intD_i, isN_none, isN_int, isN_bool, isN_str, isN_tup, isN_lst, Bool.not_true, Bool.not_false, augD, add_int, sub_int, mul_int, fdiv_int, mod_int, mul_str, add_str, add_tup, add_lst, mul_lst, eq_int, ne_int, lt_int, gt_int, le_int, ge_int, eq_str, ne_str, len_str, len_lst, len_tup, abs_int, int_int, int_bool, min2_int, max2_int, tuple_lst, tuple_tup, list_lst, list_tup, slc_str, slc_lst, slc_tup, repS_one, repL_one, idx_t0, idx_t1, idx_t2, idx_l0, rg1_if, rg2_if, eq_self_str, eqv_bool, eq_nil, wipeE, isiD, lcS_v, forS_v, forS_t, lcS_t, app_if, ext_if, en_str, en_lst, items_str, items_lst, items_tup, Int.toNat_natCast, ev_lc2, lcS2_v, lcS2_t, tgV, tgVs, ev_rev, ev_itl, evI_rg3, rg3_if, List.append_nil, hideE, hideS, bnd_assoc]
      refine sure_bnd ((sure_cap2 hn hp).mono fun d hd => sure_ret ⟨d, rfl, hd⟩)
    · obtain ⟨q1, q2⟩ := hq
      obtain ⟨ts, rfl, q3⟩ := un_str q2
      rw [rg_len, List.length_map] at q1
      try simp -dsimp -implicitDefEqProofs (disch := first | omega | (simp; omega)) only [ev_var, ev_cst, ev_tup, ev_lst, ev_bin, ev_neg, ev_not, ev_and, ev_or, ev_cmp, ev_isN, ev_notN, ev_chn, ev_ite, ev_idx, ev_slc, ev_call, ev_bl, ev_mt, ev_isi, ev_lc, evI_it, evI_rg1, evI_rg2, evI_enum, exec_asg, exec_own, exec_par, exec_aug, exec_app, exec_ext, exec_ins, exec_put, exec_aput, exec_ifs, exec_for_, exec_whl, exec_ret, exec_retn, exec_brk, exec_cnt, exec_pass, exec_close, evs_nil, evs_cons, evo_none, evo_some, evc_none, evc_some, execs_nil, execs_cons, nxt_nx, nxt_rt, nxt_bk, nxt_ct, List.length_cons, List.length_nil, List.map_cons, List.map_nil, bnd_r, lift_ret, Env.read, Env.keep, Sl.read, Sl.keep, List.cons_append, List.nil_append, List.getElem?_cons_zero, List.getElem?_cons_succ, List.set_cons_zero, List.set_cons_succ, bindT, bindTs, closeS, ownS, keepP, if_true, if_false, ↓reduceIte, Bool.false_eq_true, Nat.reduceAdd, Nat.reduceSub, List.replicate_succ, List.replicate_zero, boolD_b, intD_i, isN_none, isN_int, isN_bool, isN_str, isN_tup, isN_lst, Bool.not_true, Bool.not_false, augD, add_int, sub_int, mul_int, fdiv_int, mod_int, mul_str, add_str, add_tup, add_lst, mul_lst, eq_int, ne_int, lt_int, gt_int, le_int, ge_int, eq_str, ne_str, len_str, len_lst, len_tup, abs_int, int_int, int_bool, min2_int, max2_int, tuple_lst, tuple_tup, list_lst, list_tup, slc_str, slc_lst, slc_tup, repS_one, repL_one, idx_t0, idx_t1, idx_t2, idx_l0, rg1_if, rg2_if, eq_self_str, eqv_bool, eq_nil, wipeE, isiD, lcS_v, forS_v, forS_t, lcS_t, app_if, ext_if, en_str, en_lst, items_str, items_lst, items_tup, Int.toNat_natCast, ev_lc2, lcS2_v, lcS2_t, tgV, tgVs, ev_rev, ev_itl, evI_rg3, rg3_if, List.append_nil, hideE, hideS, bnd_assoc, List.length_map]
      refine sure_ret ⟨_, .inl rfl, l ++ [(now + x, now + x + 1 + y * 100, ts)], _, _, _, _, _, _, by rw [List.map_append]; rfl, by simp [h1], ⟨by omega, by omega⟩, ?_, fun c hc => ?_⟩
      · rw [List.pairwise_append]
        refine ⟨h3, List.pairwise_singleton _ _, fun a ha b hb => ?_⟩
        have hb : b = (now + x, now + x + 1 + y * 100, ts) := by simpa using hb
        subst hb
        have := (h4 a ha).2
        show a.2.1 ≤ now + x
        omega
      · rcases List.mem_append.mp hc with hc | hc
        · have := h4 c hc
          exact ⟨this.1, by omega⟩
        · have hb : c = (now + x, now + x + 1 + y * 100, ts) := by simpa using hc
          subst hb
          exact ⟨⟨by show 0 ≤ now + x; omega, by show now + x < now + x + 1 + y * 100; omega, by show 0 < ts.length ∧ ts.length ≤ 2; omega, q3⟩, by show now + x + 1 + y * 100 ≤ _; omega⟩
  · obtain ⟨σ', rfl, l, now, s4, s5, s6, s7, s8, rfl, h1, h2, h3, h4⟩ := hf
    rw [rg_len] at h1 h2
    try simp -dsimp -implicitDefEqProofs (disch := first | omega | (simp; omega)) only [ev_var, ev_cst, ev_tup, ev_lst, ev_bin, ev_neg, ev_not, ev_and, ev_or, ev_cmp, ev_isN, ev_notN, ev_chn, ev_ite, ev_idx, ev_slc, ev_call, ev_bl, ev_mt, ev_isi, ev_lc, evI_it, evI_rg1, evI_rg2, evI_enum, exec_asg, exec_own, exec_par, exec_aug, exec_app, exec_ext, exec_ins, exec_put, exec_aput, exec_ifs, exec_for_, exec_whl, exec_ret, exec_retn, exec_brk, exec_cnt, exec_pass, exec_close, evs_nil, evs_cons, evo_none, evo_some, evc_none, evc_some, execs_nil, execs_cons, nxt_nx, nxt_rt, nxt_bk, nxt_ct, List.length_cons, List.length_nil, List.map_cons, List.map_nil, bnd_r, lift_ret, Env.read, Env.keep, Sl.read, Sl.keep, List.cons_append, List.nil_append, List.getElem?_cons_zero, List.getElem?_cons_succ, List.set_cons_zero, List.set_cons_succ, bindT, bindTs, closeS, ownS, keepP, if_true, if_false, ↓reduceIte, Bool.false_eq_true, Nat.reduceAdd, Nat.reduceSub, List.replicate_succ, List.replicate_zero, boolD_b, intD_i, isN_none, isN_int, isN_bool, isN_str, isN_tup, isN_lst, Bool.not_true, Bool.not_false, augD, add_int, sub_int, mul_int, fdiv_int, mod_int, mul_str, add_str, add_tup, add_lst, mul_lst, eq_int, ne_int, lt_int, gt_int, le_int, ge_int, eq_str, ne_str, len_str, len_lst, len_tup, abs_int, int_int, int_bool, min2_int, max2_int, tuple_lst, tuple_tup, list_lst, list_tup, slc_str, slc_lst, slc_tup, repS_one, repL_one, idx_t0, idx_t1, idx_t2, idx_l0, rg1_if, rg2_if, eq_self_str, eqv_bool, eq_nil, wipeE, isiD, lcS_v, forS_v, forS_t, lcS_t, app_if, ext_if, en_str, en_lst, items_str, items_lst, items_tup, Int.toNat_natCast, ev_lc2, lcS2_v, lcS2_t, tgV, tgVs, ev_rev, ev_itl, evI_rg3, rg3_if, List.append_nil, hideE, hideS, bnd_assoc]
    refine sure_ret ⟨l, rfl, by omega, h3, fun c hc => ⟨(h4 c hc).1, ?_⟩⟩
    have := (h4 c hc).2
    omega
end
end Q

set_option linter.all false
namespace Q.K41
open Q
abbrev f_shown_at : Nat := 0
abbrev f_divisor : Nat := 1
abbrev f_fraction : Nat := 2
abbrev f_runs_at : Nat := 3
abbrev f_loud_runs : Nat := 4
abbrev f_joined_runs : Nat := 5
abbrev f_long_runs : Nat := 6
abbrev f_speech_runs : Nat := 7
abbrev f_two_levels : Nat := 8
abbrev f_level_for : Nat := 9
abbrev f_places_of : Nat := 10
abbrev f_runs_off : Nat := 11
abbrev f_best_level : Nat := 12
abbrev f_covered_runs : Nat := 13
abbrev f_late_captions : Nat := 14
abbrev f_bare_runs : Nat := 15
abbrev f_run_gaps : Nat := 16
abbrev f_busiest : Nat := 17
abbrev f__law_draws : Nat := 18
abbrev f__law_next : Nat := 19
abbrev f__law_pick : Nat := 20
abbrev f__law_same : Nat := 21
abbrev f__law_fraction : Nat := 22
abbrev f__law_captions : Nat := 23
abbrev f__law_runs : Nat := 24
abbrev f__law_joined : Nat := 25
abbrev f__law_places : Nat := 26
abbrev f__law_off : Nat := 27
abbrev f_law : Nat := 28
def e_shown_at_1 : Tm := (.var 3)
def c_shown_at_2 : Tm := (.chn .le .lt (.idx (.idx (.var 0) (.var 3)) (.cst (.int 0))) (.var 1) (.idx (.idx (.var 0) (.var 3)) (.cst (.int 1))))
def b_shown_at : List St := [(.asg (.v 2) (.lc [3] (.v 3) (.rg1 (.bl .len [(.var 0)])) (some c_shown_at_2) e_shown_at_1)), (.ret (.ite (.cmp .ne (.var 2) (.lst [])) (.idx (.var 2) (.cst (.int 0))) (.cst .none)))]
def N_shown_at : List PySem.Str := [PySem.Str.ofString "captions", PySem.Str.ofString "moment", PySem.Str.ofString "able", PySem.Str.ofString "k"]
def b_divisor : List St := hb_divisor
def N_divisor : List PySem.Str := [PySem.Str.ofString "a", PySem.Str.ofString "b"]
def b_fraction : List St := hb_fraction f_divisor
def N_fraction : List PySem.Str := [PySem.Str.ofString "a", PySem.Str.ofString "b", PySem.Str.ofString "common"]
def b_runs_at_1 : List St := [(.ifs (.and (.cmp .ne (.var 1) (.lst [])) (.cmp .eq (.idx (.idx (.var 1) (.neg (.cst (.int 1)))) (.cst (.int 1))) (.var 2))) [(.put 1 (.neg (.cst (.int 1))) (.tup [(.idx (.idx (.var 1) (.neg (.cst (.int 1)))) (.cst (.int 0))), (.bin .add (.var 2) (.cst (.int 1)))]))] [(.app 1 (.tup [(.var 2), (.bin .add (.var 2) (.cst (.int 1)))]))])]
def b_runs_at : List St := [(.own 1 (.lst [])), (.for_ (.v 2) (.it (.var 0)) b_runs_at_1), (.ret (.bl .tuple [(.var 1)]))]
def N_runs_at : List PySem.Str := [PySem.Str.ofString "places", PySem.Str.ofString "found", PySem.Str.ofString "k"]
def e_loud_runs_1 : Tm := (.var 2)
def c_loud_runs_2 : Tm := (.cmp .ge (.idx (.var 0) (.var 2)) (.var 1))
def b_loud_runs : List St := [(.ret (.call f_runs_at [(.lc [2] (.v 2) (.rg1 (.bl .len [(.var 0)])) (some c_loud_runs_2) e_loud_runs_1)]))]
def N_loud_runs : List PySem.Str := [PySem.Str.ofString "row", PySem.Str.ofString "level", PySem.Str.ofString "k"]
def b_joined_runs_1 : List St := [(.ifs (.and (.cmp .ne (.var 2) (.lst [])) (.cmp .le (.bin .sub (.var 3) (.idx (.idx (.var 2) (.neg (.cst (.int 1)))) (.cst (.int 1)))) (.var 1))) [(.put 2 (.neg (.cst (.int 1))) (.tup [(.idx (.idx (.var 2) (.neg (.cst (.int 1)))) (.cst (.int 0))), (.var 4)]))] [(.app 2 (.tup [(.var 3), (.var 4)]))])]
def b_joined_runs : List St := [(.own 2 (.lst [])), (.for_ (.t [(.v 3), (.v 4)]) (.it (.var 0)) b_joined_runs_1), (.ret (.bl .tuple [(.var 2)]))]
def N_joined_runs : List PySem.Str := [PySem.Str.ofString "runs", PySem.Str.ofString "gap", PySem.Str.ofString "found", PySem.Str.ofString "first", PySem.Str.ofString "last"]
def e_long_runs_1 : Tm := (.tup [(.var 2), (.var 3)])
def c_long_runs_2 : Tm := (.cmp .ge (.bin .sub (.var 3) (.var 2)) (.var 1))
def b_long_runs : List St := [(.ret (.bl .tuple [(.lc [2, 3] (.t [(.v 2), (.v 3)]) (.it (.var 0)) (some c_long_runs_2) e_long_runs_1)]))]
def N_long_runs : List PySem.Str := [PySem.Str.ofString "runs", PySem.Str.ofString "least", PySem.Str.ofString "first", PySem.Str.ofString "last"]
def b_speech_runs : List St := [(.ret (.call f_long_runs [(.call f_joined_runs [(.call f_loud_runs [(.var 0), (.var 1)]), (.var 2)]), (.var 3)]))]
def N_speech_runs : List PySem.Str := [PySem.Str.ofString "row", PySem.Str.ofString "level", PySem.Str.ofString "gap", PySem.Str.ofString "least"]
def e_two_levels_1 : Tm := (.tup [(.var 3), (.var 4)])
def c_two_levels_2 : Tm := (.cmp .ge (.bl .max1 [(.slc (.var 0) (some (.var 3)) (some (.var 4)))]) (.var 1))
def b_two_levels : List St := [(.ret (.bl .tuple [(.lc [3, 4] (.t [(.v 3), (.v 4)]) (.it (.call f_loud_runs [(.var 0), (.var 2)])) (some c_two_levels_2) e_two_levels_1)]))]
def N_two_levels : List PySem.Str := [PySem.Str.ofString "row", PySem.Str.ofString "high", PySem.Str.ofString "low", PySem.Str.ofString "first", PySem.Str.ofString "last"]
def e_level_for_1 : Tm := (.cst (.int 1))
def c_level_for_2 : Tm := (.cmp .ge (.var 3) (.var 2))
def c_level_for_3 : Tm := (.cmp .gt (.bin .mul (.bl .len [(.lc [3] (.v 3) (.it (.var 0)) (some c_level_for_2) e_level_for_1)]) (.idx (.var 1) (.cst (.int 1)))) (.bin .mul (.idx (.var 1) (.cst (.int 0))) (.bl .len [(.var 0)])))
def b_level_for_4 : List St := [(.aug 2 .add (.cst (.int 1)))]
def b_level_for : List St := [(.asg (.v 2) (.cst (.int 0))), (.whl c_level_for_3 b_level_for_4), (.ret (.var 2))]
def N_level_for : List PySem.Str := [PySem.Str.ofString "row", PySem.Str.ofString "share", PySem.Str.ofString "level", PySem.Str.ofString "number"]
def e_places_of_1 : Tm := (.var 3)
def b_places_of : List St := [(.ret (.lc2 [1, 2, 3] (.t [(.v 1), (.v 2)]) (.it (.var 0)) (.v 3) (.rg2 (.var 1) (.var 2)) none e_places_of_1))]
def N_places_of : List PySem.Str := [PySem.Str.ofString "runs", PySem.Str.ofString "first", PySem.Str.ofString "last", PySem.Str.ofString "k"]
def e_runs_off_1 : Tm := (.cst (.int 1))
def c_runs_off_2 : Tm := (.cmp .nin (.var 4) (.var 3))
def e_runs_off_3 : Tm := (.cst (.int 1))
def c_runs_off_4 : Tm := (.cmp .nin (.var 4) (.var 2))
def b_runs_off : List St := [(.par [(2, false), (3, false)] [(.call f_places_of [(.var 0)]), (.call f_places_of [(.var 1)])]), (.ret (.bin .add (.bl .len [(.lc [4] (.v 4) (.it (.var 2)) (some c_runs_off_2) e_runs_off_1)]) (.bl .len [(.lc [4] (.v 4) (.it (.var 3)) (some c_runs_off_4) e_runs_off_3)])))]
def N_runs_off : List PySem.Str := [PySem.Str.ofString "one", PySem.Str.ofString "other", PySem.Str.ofString "first", PySem.Str.ofString "second", PySem.Str.ofString "k"]
def e_best_level_1 : Tm := (.tup [(.call f_runs_off [(.call f_loud_runs [(.var 0), (.var 3)]), (.var 1)]), (.var 3)])
def b_best_level : List St := [(.asg (.v 2) (.itl false (.rg1 (.bin .add (.bl .max1 [(.bin .add (.tup [(.cst (.int 0))]) (.var 0))]) (.cst (.int 2)))))), (.ret (.bl .min1 [(.lc [3] (.v 3) (.it (.var 2)) none e_best_level_1)]))]
def N_best_level : List PySem.Str := [PySem.Str.ofString "row", PySem.Str.ofString "runs", PySem.Str.ofString "levels", PySem.Str.ofString "level"]
def e_covered_runs_1 : Tm := (.var 4)
def c_covered_runs_2 : Tm := (.notN (.call f_shown_at [(.var 1), (.bin .mul (.cst (.int 100)) (.var 4))]))
def b_covered_runs : List St := [(.asg (.v 2) (.call f_places_of [(.var 0)])), (.asg (.v 3) (.lc [4] (.v 4) (.it (.var 2)) (some c_covered_runs_2) e_covered_runs_1)), (.ret (.ite (.cmp .ne (.var 2) (.lst [])) (.call f_fraction [(.bl .len [(.var 3)]), (.bl .len [(.var 2)])]) (.tup [(.cst (.int 1)), (.cst (.int 1))])))]
def N_covered_runs : List PySem.Str := [PySem.Str.ofString "runs", PySem.Str.ofString "captions", PySem.Str.ofString "places", PySem.Str.ofString "good", PySem.Str.ofString "k"]
def e_late_captions_1 : Tm := (.cmp .le (.bl .abs [(.bin .sub (.idx (.idx (.var 1) (.var 4)) (.cst (.int 0))) (.bin .mul (.cst (.int 100)) (.var 5)))]) (.var 2))
def b_late_captions_2 : List St := [(.ifs (.not (.bl .any [(.lc [5, 6] (.t [(.v 5), (.v 6)]) (.it (.var 0)) none e_late_captions_1)])) [(.app 3 (.var 4))] [])]
def b_late_captions : List St := [(.own 3 (.lst [])), (.for_ (.v 4) (.rg1 (.bl .len [(.var 1)])) b_late_captions_2), (.ret (.bl .tuple [(.var 3)]))]
def N_late_captions : List PySem.Str := [PySem.Str.ofString "runs", PySem.Str.ofString "captions", PySem.Str.ofString "most", PySem.Str.ofString "found", PySem.Str.ofString "k", PySem.Str.ofString "first", PySem.Str.ofString "_"]
def e_bare_runs_1 : Tm := (.var 2)
def e_bare_runs_2 : Tm := (.isN (.call f_shown_at [(.var 1), (.bin .mul (.cst (.int 100)) (.var 3))]))
def c_bare_runs_3 : Tm := (.bl .all [(.lc [3] (.v 3) (.it (.call f_places_of [(.tup [(.var 2)])])) none e_bare_runs_2)])
def b_bare_runs : List St := [(.ret (.bl .tuple [(.lc [2] (.v 2) (.it (.var 0)) (some c_bare_runs_3) e_bare_runs_1)]))]
def N_bare_runs : List PySem.Str := [PySem.Str.ofString "runs", PySem.Str.ofString "captions", PySem.Str.ofString "run", PySem.Str.ofString "k"]
def b_run_gaps_1 : List St := [(.ifs (.cmp .lt (.var 3) (.bl .min2 [(.var 4), (.var 1)])) [(.app 2 (.tup [(.var 3), (.bl .min2 [(.var 4), (.var 1)])]))] []), (.asg (.v 3) (.bl .max2 [(.var 3), (.var 5)]))]
def b_run_gaps : List St := [(.par [(2, true), (3, false)] [(.lst []), (.cst (.int 0))]), (.for_ (.t [(.v 4), (.v 5)]) (.it (.var 0)) b_run_gaps_1), (.ret (.bl .tuple [(.bin .add (.var 2) (.ite (.cmp .lt (.var 3) (.var 1)) (.lst [(.tup [(.var 3), (.var 1)])]) (.lst [])))]))]
def N_run_gaps : List PySem.Str := [PySem.Str.ofString "runs", PySem.Str.ofString "end", PySem.Str.ofString "found", PySem.Str.ofString "now", PySem.Str.ofString "first", PySem.Str.ofString "last"]
def e_busiest_1 : Tm := (.cst (.int 1))
def c_busiest_2 : Tm := (.chn .le .lt (.var 5) (.var 4) (.bin .add (.var 5) (.var 1)))
def e_busiest_3 : Tm := (.tup [(.neg (.bl .len [(.lc [4] (.v 4) (.it (.var 2)) (some c_busiest_2) e_busiest_1)])), (.var 5)])
def b_busiest : List St := [(.asg (.v 2) (.call f_places_of [(.var 0)])), (.asg (.v 3) (.lc [5] (.v 5) (.rg1 (.bin .add (.bl .max1 [(.bin .add (.lst [(.neg (.cst (.int 1)))]) (.var 2))]) (.cst (.int 1)))) none e_busiest_3)), (.ret (.ite (.cmp .ne (.var 3) (.lst [])) (.tup [(.neg (.idx (.bl .min1 [(.var 3)]) (.cst (.int 0)))), (.idx (.bl .min1 [(.var 3)]) (.cst (.int 1)))]) (.tup [(.cst (.int 0)), (.cst (.int 0))])))]
def N_busiest : List PySem.Str := [PySem.Str.ofString "runs", PySem.Str.ofString "wide", PySem.Str.ofString "places", PySem.Str.ofString "rows", PySem.Str.ofString "k", PySem.Str.ofString "at"]
def b__law_draws : List St := hb_draws
def N__law_draws : List PySem.Str := [PySem.Str.ofString "script", PySem.Str.ofString "many", PySem.Str.ofString "draws", PySem.Str.ofString "mixed", PySem.Str.ofString "k", PySem.Str.ofString "cell", PySem.Str.ofString "rest", PySem.Str.ofString "turn"]
def b__law_next : List St := hb_next
def N__law_next : List PySem.Str := [PySem.Str.ofString "w", PySem.Str.ofString "many"]
def b__law_pick : List St := hb_pick f__law_next
def N__law_pick : List PySem.Str := [PySem.Str.ofString "w", PySem.Str.ofString "rows"]
def b__law_same : List St := hb_same f__law_same
def N__law_same : List PySem.Str := [PySem.Str.ofString "seen", PySem.Str.ofString "due", PySem.Str.ofString "k"]
def b__law_fraction : List St := hb_lfraction
def N__law_fraction : List PySem.Str := [PySem.Str.ofString "a", PySem.Str.ofString "b", PySem.Str.ofString "x", PySem.Str.ofString "y"]
def b__law_captions : List St := hb_captions f__law_next f__law_pick
def N__law_captions : List PySem.Str := [PySem.Str.ofString "w", PySem.Str.ofString "most", PySem.Str.ofString "found", PySem.Str.ofString "now", PySem.Str.ofString "k", PySem.Str.ofString "begin", PySem.Str.ofString "lines", PySem.Str.ofString "x", PySem.Str.ofString "j"]
def b__law_runs_1 : List St := [(.ifs (.and (.cmp .ne (.var 1) (.lst [])) (.cmp .eq (.idx (.idx (.var 1) (.bin .sub (.bl .len [(.var 1)]) (.cst (.int 1)))) (.cst (.int 1))) (.var 2))) [(.put 1 (.bin .sub (.bl .len [(.var 1)]) (.cst (.int 1))) (.tup [(.idx (.idx (.var 1) (.bin .sub (.bl .len [(.var 1)]) (.cst (.int 1)))) (.cst (.int 0))), (.bin .add (.var 2) (.cst (.int 1)))]))] [(.app 1 (.tup [(.var 2), (.bin .add (.var 2) (.cst (.int 1)))]))])]
def b__law_runs : List St := [(.own 1 (.lst [])), (.for_ (.v 2) (.it (.var 0)) b__law_runs_1), (.close 1), (.ret (.var 1))]
def N__law_runs : List PySem.Str := [PySem.Str.ofString "places", PySem.Str.ofString "found", PySem.Str.ofString "k"]
def b__law_joined_1 : List St := [(.ifs (.and (.cmp .ne (.var 2) (.lst [])) (.cmp .le (.bin .sub (.var 3) (.idx (.idx (.var 2) (.bin .sub (.bl .len [(.var 2)]) (.cst (.int 1)))) (.cst (.int 1)))) (.var 1))) [(.put 2 (.bin .sub (.bl .len [(.var 2)]) (.cst (.int 1))) (.tup [(.idx (.idx (.var 2) (.bin .sub (.bl .len [(.var 2)]) (.cst (.int 1)))) (.cst (.int 0))), (.var 4)]))] [(.app 2 (.tup [(.var 3), (.var 4)]))])]
def b__law_joined : List St := [(.own 2 (.lst [])), (.for_ (.t [(.v 3), (.v 4)]) (.it (.var 0)) b__law_joined_1), (.close 2), (.ret (.var 2))]
def N__law_joined : List PySem.Str := [PySem.Str.ofString "runs", PySem.Str.ofString "gap", PySem.Str.ofString "found", PySem.Str.ofString "a", PySem.Str.ofString "b"]
def b__law_places_1 : List St := [(.asg (.v 1) (.bin .add (.var 1) (.itl false (.rg2 (.var 2) (.var 3)))))]
def b__law_places : List St := [(.asg (.v 1) (.lst [])), (.for_ (.t [(.v 2), (.v 3)]) (.it (.var 0)) b__law_places_1), (.ret (.var 1))]
def N__law_places : List PySem.Str := [PySem.Str.ofString "runs", PySem.Str.ofString "found", PySem.Str.ofString "a", PySem.Str.ofString "b"]
def e__law_off_1 : Tm := (.var 4)
def c__law_off_2 : Tm := (.cmp .nin (.var 4) (.var 3))
def e__law_off_3 : Tm := (.var 4)
def c__law_off_4 : Tm := (.cmp .nin (.var 4) (.var 2))
def b__law_off : List St := [(.par [(2, false), (3, false)] [(.call f__law_places [(.var 0)]), (.call f__law_places [(.var 1)])]), (.ret (.bin .add (.bl .len [(.lc [4] (.v 4) (.it (.var 2)) (some c__law_off_2) e__law_off_1)]) (.bl .len [(.lc [4] (.v 4) (.it (.var 3)) (some c__law_off_4) e__law_off_3)])))]
def N__law_off : List PySem.Str := [PySem.Str.ofString "one", PySem.Str.ofString "other", PySem.Str.ofString "first", PySem.Str.ofString "second", PySem.Str.ofString "k"]
def e_law_2 : Tm := (.call f__law_pick [(.var 1), (.lst [(.cst (.int 0)), (.cst (.int 0)), (.cst (.int 1)), (.cst (.int 4)), (.cst (.int 6)), (.cst (.int 9))])])
def e_law_3 : Tm := (.var 4)
def c_law_4 : Tm := (.cmp .ge (.idx (.var 3) (.var 4)) (.var 5))
def e_law_5 : Tm := (.var 10)
def c_law_6 : Tm := (.cmp .ge (.bin .sub (.idx (.var 10) (.cst (.int 1))) (.idx (.var 10) (.cst (.int 0)))) (.var 7))
def e_law_7 : Tm := (.var 10)
def c_law_8 : Tm := (.cmp .ge (.bin .sub (.idx (.var 10) (.cst (.int 1))) (.idx (.var 10) (.cst (.int 0)))) (.var 7))
def e_law_9 : Tm := (.var 4)
def c_law_10 : Tm := (.cmp .ge (.idx (.var 3) (.var 4)) (.var 11))
def e_law_11 : Tm := (.var 10)
def e_law_12 : Tm := (.var 4)
def c_law_13 : Tm := (.cmp .ge (.idx (.var 3) (.var 4)) (.var 5))
def c_law_14 : Tm := (.cmp .ne (.lc [4] (.v 4) (.rg2 (.idx (.var 10) (.cst (.int 0))) (.idx (.var 10) (.cst (.int 1)))) (some c_law_13) e_law_12) (.lst []))
def e_law_15 : Tm := (.var 15)
def e_law_16 : Tm := (.cst (.int 1))
def c_law_17 : Tm := (.cmp .ge (.var 16) (.var 15))
def c_law_18 : Tm := (.cmp .le (.bin .mul (.bl .len [(.lc [16] (.v 16) (.it (.var 3)) (some c_law_17) e_law_16)]) (.idx (.var 13) (.cst (.int 1)))) (.bin .mul (.idx (.var 13) (.cst (.int 0))) (.bl .len [(.var 3)])))
def e_law_19 : Tm := (.var 4)
def c_law_20 : Tm := (.cmp .eq (.call f__law_next [(.var 1), (.cst (.int 3))]) (.cst (.int 0)))
def e_law_21 : Tm := (.var 4)
def c_law_22 : Tm := (.cmp .ge (.idx (.var 3) (.var 4)) (.var 15))
def b_law_23 : List St := [(.app 18 (.call f__law_off [(.call f__law_runs [(.lc [4] (.v 4) (.rg1 (.bl .len [(.var 3)])) (some c_law_22) e_law_21)]), (.var 17)]))]
def e_law_24 : Tm := (.var 4)
def e_law_25 : Tm := (.cst (.int 1))
def c_law_26 : Tm := (.chn .le .lt (.var 22) (.bin .mul (.cst (.int 100)) (.var 4)) (.var 23))
def c_law_27 : Tm := (.cmp .ne (.lc [22, 23, 24] (.t [(.v 22), (.v 23), (.v 24)]) (.it (.var 19)) (some c_law_26) e_law_25) (.lst []))
def e_law_28 : Tm := (.var 10)
def e_law_29 : Tm := (.var 4)
def c_law_30 : Tm := (.cmp .in_ (.var 4) (.var 21))
def c_law_31 : Tm := (.cmp .eq (.lc [4] (.v 4) (.rg2 (.idx (.var 10) (.cst (.int 0))) (.idx (.var 10) (.cst (.int 1)))) (some c_law_30) e_law_29) (.lst []))
def e_law_32 : Tm := (.var 4)
def e_law_33 : Tm := (.cst (.int 1))
def c_law_34 : Tm := (.cmp .le (.bl .abs [(.bin .sub (.idx (.idx (.var 19) (.var 4)) (.cst (.int 0))) (.bin .mul (.cst (.int 100)) (.var 22)))]) (.var 26))
def c_law_35 : Tm := (.cmp .eq (.lc [22, 23] (.t [(.v 22), (.v 23)]) (.it (.var 17)) (some c_law_34) e_law_33) (.lst []))
def e_law_36 : Tm := (.var 4)
def c_law_37 : Tm := (.cmp .nin (.var 4) (.var 20))
def e_law_38 : Tm := (.var 4)
def c_law_39 : Tm := (.chn .le .lt (.var 31) (.var 4) (.bin .add (.var 31) (.var 29)))
def b_law_40 : List St := [(.app 30 (.bl .len [(.lc [4] (.v 4) (.it (.var 20)) (some c_law_39) e_law_38)]))]
def t_1_30 : List St := (.ifs (.not (.call f__law_same [(.call f_busiest [(.bl .tuple [(.var 17)]), (.var 29)]), (.ite (.cmp .ne (.var 30) (.lst [])) (.tup [(.bl .max1 [(.var 30)]), (.mt .index (.var 30) [(.bl .max1 [(.var 30)])])]) (.tup [(.cst (.int 0)), (.cst (.int 0))]))])) [(.ret (.cst (.bool false)))] []) :: []
def t_1_29 : List St := (.for_ (.v 31) (.rg1 (.bin .add (.bl .max1 [(.bin .add (.lst [(.neg (.cst (.int 1)))]) (.var 20))]) (.cst (.int 1)))) b_law_40) :: t_1_30
def t_1_28 : List St := (.par [(29, false), (30, true)] [(.bin .add (.cst (.int 1)) (.call f__law_next [(.var 1), (.cst (.int 5))])), (.lst [])]) :: t_1_29
def t_1_27 : List St := (.ifs (.not (.call f__law_same [(.call f_run_gaps [(.bl .tuple [(.var 17)]), (.var 28)]), (.bl .tuple [(.call f__law_runs [(.lc [4] (.v 4) (.rg1 (.var 28)) (some c_law_37) e_law_36)])])])) [(.ret (.cst (.bool false)))] []) :: t_1_28
def t_1_26 : List St := (.asg (.v 28) (.call f__law_next [(.var 1), (.cst (.int 20))])) :: t_1_27
def t_1_25 : List St := (.ifs (.not (.call f__law_same [(.call f_late_captions [(.bl .tuple [(.var 17)]), (.var 19), (.var 26)]), (.bl .tuple [(.var 27)])])) [(.ret (.cst (.bool false)))] []) :: t_1_26
def t_1_24 : List St := (.asg (.v 27) (.lc [4] (.v 4) (.rg1 (.bl .len [(.var 19)])) (some c_law_35) e_law_32)) :: t_1_25
def t_1_23 : List St := (.asg (.v 26) (.bin .mul (.call f__law_next [(.var 1), (.cst (.int 9))]) (.cst (.int 100)))) :: t_1_24
def t_1_22 : List St := (.ifs (.not (.call f__law_same [(.call f_bare_runs [(.bl .tuple [(.var 17)]), (.var 19)]), (.bl .tuple [(.var 25)])])) [(.ret (.cst (.bool false)))] []) :: t_1_23
def t_1_21 : List St := (.asg (.v 25) (.lc [10] (.v 10) (.it (.var 17)) (some c_law_31) e_law_28)) :: t_1_22
def t_1_20 : List St := (.ifs (.not (.call f__law_same [(.call f_covered_runs [(.bl .tuple [(.var 17)]), (.var 19)]), (.ite (.cmp .ne (.var 20) (.lst [])) (.call f__law_fraction [(.bl .len [(.var 21)]), (.bl .len [(.var 20)])]) (.tup [(.cst (.int 1)), (.cst (.int 1))]))])) [(.ret (.cst (.bool false)))] []) :: t_1_21
def t_1_19 : List St := (.asg (.v 21) (.lc [4] (.v 4) (.it (.var 20)) (some c_law_27) e_law_24)) :: t_1_20
def t_1_18 : List St := (.asg (.v 20) (.call f__law_places [(.var 17)])) :: t_1_19
def t_1_17 : List St := (.asg (.v 19) (.call f__law_captions [(.var 1), (.cst (.int 4))])) :: t_1_18
def t_1_16 : List St := (.ifs (.or (.not (.call f__law_same [(.call f_best_level [(.var 3), (.bl .tuple [(.var 17)])]), (.tup [(.bl .min1 [(.var 18)]), (.mt .index (.var 18) [(.bl .min1 [(.var 18)])])])])) (.not (.call f__law_same [(.call f_runs_off [(.bl .tuple [(.var 8)]), (.bl .tuple [(.var 17)])]), (.call f__law_off [(.var 8), (.var 17)])]))) [(.ret (.cst (.bool false)))] []) :: t_1_17
def t_1_15 : List St := (.for_ (.v 15) (.rg1 (.bin .add (.bl .max1 [(.bin .add (.tup [(.cst (.int 0))]) (.var 3))]) (.cst (.int 2)))) b_law_23) :: t_1_16
def t_1_14 : List St := (.own 18 (.lst [])) :: t_1_15
def t_1_13 : List St := (.asg (.v 17) (.call f__law_runs [(.lc [4] (.v 4) (.rg1 (.cst (.int 16))) (some c_law_20) e_law_19)])) :: t_1_14
def t_1_12 : List St := (.ifs (.not (.call f__law_same [(.call f_level_for [(.var 3), (.var 13)]), (.idx (.var 14) (.cst (.int 0)))])) [(.ret (.cst (.bool false)))] []) :: t_1_13
def t_1_11 : List St := (.asg (.v 14) (.lc [15] (.v 15) (.rg1 (.cst (.int 12))) (some c_law_18) e_law_15)) :: t_1_12
def t_1_10 : List St := (.asg (.v 13) (.call f__law_pick [(.var 1), (.lst [(.tup [(.cst (.int 0)), (.cst (.int 1))]), (.tup [(.cst (.int 1)), (.cst (.int 2))]), (.tup [(.cst (.int 1)), (.cst (.int 3))]), (.tup [(.cst (.int 1)), (.cst (.int 1))])])])) :: t_1_11
def t_1_9 : List St := (.ifs (.not (.call f__law_same [(.call f_two_levels [(.var 3), (.var 5), (.var 11)]), (.bl .tuple [(.lc [10] (.v 10) (.it (.var 12)) (some c_law_14) e_law_11)])])) [(.ret (.cst (.bool false)))] []) :: t_1_10
def t_1_8 : List St := (.asg (.v 12) (.call f__law_runs [(.lc [4] (.v 4) (.rg1 (.bl .len [(.var 3)])) (some c_law_10) e_law_9)])) :: t_1_9
def t_1_7 : List St := (.asg (.v 11) (.call f__law_next [(.var 1), (.bin .add (.var 5) (.cst (.int 1)))])) :: t_1_8
def t_1_6 : List St := (.ifs (.not (.call f__law_same [(.call f_speech_runs [(.var 3), (.var 5), (.var 6), (.var 7)]), (.bl .tuple [(.var 9)])])) [(.ret (.cst (.bool false)))] []) :: t_1_7
def t_1_5 : List St := (.ifs (.not (.call f__law_same [(.call f_long_runs [(.bl .tuple [(.var 8)]), (.var 7)]), (.bl .tuple [(.lc [10] (.v 10) (.it (.var 8)) (some c_law_8) e_law_7)])])) [(.ret (.cst (.bool false)))] []) :: t_1_6
def t_1_4 : List St := (.asg (.v 9) (.lc [10] (.v 10) (.it (.call f__law_joined [(.var 8), (.var 6)])) (some c_law_6) e_law_5)) :: t_1_5
def t_1_3 : List St := (.ifs (.or (.not (.call f__law_same [(.call f_loud_runs [(.var 3), (.var 5)]), (.bl .tuple [(.var 8)])])) (.not (.call f__law_same [(.call f_joined_runs [(.bl .tuple [(.var 8)]), (.var 6)]), (.bl .tuple [(.call f__law_joined [(.var 8), (.var 6)])])]))) [(.ret (.cst (.bool false)))] []) :: t_1_4
def t_1_2 : List St := (.asg (.v 8) (.call f__law_runs [(.lc [4] (.v 4) (.rg1 (.bl .len [(.var 3)])) (some c_law_4) e_law_3)])) :: t_1_3
def t_1_1 : List St := (.par [(5, false), (6, false), (7, false)] [(.call f__law_next [(.var 1), (.cst (.int 10))]), (.call f__law_next [(.var 1), (.cst (.int 4))]), (.bin .add (.cst (.int 1)) (.call f__law_next [(.var 1), (.cst (.int 3))]))]) :: t_1_2
def t_1_0 : List St := (.asg (.v 3) (.bl .tuple [(.lc [4] (.v 4) (.rg1 (.call f__law_next [(.var 1), (.cst (.int 15))])) none e_law_2)])) :: t_1_1
def b_law_41 : List St := t_1_0
def b_law : List St := [(.w0 1 (.call f__law_draws [(.var 0), (.cst (.int 400))])), (.for_ (.v 2) (.rg1 (.cst (.int 5))) b_law_41), (.ret (.cst (.bool true)))]
def N_law : List PySem.Str := [PySem.Str.ofString "script", PySem.Str.ofString "w", PySem.Str.ofString "turn", PySem.Str.ofString "row", PySem.Str.ofString "k", PySem.Str.ofString "level", PySem.Str.ofString "gap", PySem.Str.ofString "least", PySem.Str.ofString "loud", PySem.Str.ofString "long", PySem.Str.ofString "run", PySem.Str.ofString "low", PySem.Str.ofString "quiet", PySem.Str.ofString "share", PySem.Str.ofString "able", PySem.Str.ofString "own", PySem.Str.ofString "number", PySem.Str.ofString "runs", PySem.Str.ofString "offs", PySem.Str.ofString "captions", PySem.Str.ofString "places", PySem.Str.ofString "told", PySem.Str.ofString "a", PySem.Str.ofString "b", PySem.Str.ofString "lines", PySem.Str.ofString "bare", PySem.Str.ofString "most", PySem.Str.ofString "late", PySem.Str.ofString "end", PySem.Str.ofString "wide", PySem.Str.ofString "counts", PySem.Str.ofString "at"]
def e_law0 : Tm := (.call f__law_draws [(.var 0), (.cst (.int 400))])
def b_law0 : List St := [(.for_ (.v 2) (.rg1 (.cst (.int 5))) b_law_41), (.ret (.cst (.bool true)))]
def tbl : List Fn := [
  ⟨2, 4, b_shown_at⟩,
  ⟨2, 2, b_divisor⟩,
  ⟨2, 3, b_fraction⟩,
  ⟨1, 3, b_runs_at⟩,
  ⟨2, 3, b_loud_runs⟩,
  ⟨2, 5, b_joined_runs⟩,
  ⟨2, 4, b_long_runs⟩,
  ⟨4, 4, b_speech_runs⟩,
  ⟨3, 5, b_two_levels⟩,
  ⟨2, 4, b_level_for⟩,
  ⟨1, 4, b_places_of⟩,
  ⟨2, 5, b_runs_off⟩,
  ⟨2, 4, b_best_level⟩,
  ⟨2, 5, b_covered_runs⟩,
  ⟨3, 7, b_late_captions⟩,
  ⟨2, 4, b_bare_runs⟩,
  ⟨2, 6, b_run_gaps⟩,
  ⟨2, 6, b_busiest⟩,
  ⟨2, 8, b__law_draws⟩,
  ⟨2, 2, b__law_next⟩,
  ⟨2, 2, b__law_pick⟩,
  ⟨2, 3, b__law_same⟩,
  ⟨2, 4, b__law_fraction⟩,
  ⟨2, 9, b__law_captions⟩,
  ⟨1, 3, b__law_runs⟩,
  ⟨2, 5, b__law_joined⟩,
  ⟨1, 4, b__law_places⟩,
  ⟨2, 5, b__law_off⟩,
  ⟨1, 32, b_law⟩]
end Q.K41

set_option Elab.async false
set_option linter.all false
set_option maxRecDepth 100000
set_option maxHeartbeats 1000000
/-! L1a: what plain data stands for in the model's heap; steps of the heap; judgements. -/
namespace Q
open PySem PySem.Spec PyProof.Rows L2

/-! ### data and heaps -/
def kD : L2.Key → D
  | .inl i => .int i
  | .inr x => .str x
def okK : L2.Key → Bool
  | .inl _ => true
  | .inr x => okS x
/-- every tracked thing of H stands so in H' -/
abbrev Sm (H H' : Hp) : Prop := ∀ a o, H a = some o → H' a = some o
theorem Sm.refl {H : Hp} : Sm H H := fun _ _ e => e
theorem Sm.trans {H1 H2 H3 : Hp} (a : Sm H1 H2) (b : Sm H2 H3) : Sm H1 H3 := fun x o e => b x o (a x o e)
theorem Sm.non {H1 H2 : Hp} (s : Sm H1 H2) {a : Addr} (h : H2 a = none) : H1 a = none := by
  cases e : H1 a with
  | none => rfl
  | some o => rw [s a o e] at h; cases h
theorem Sm.new {H : Hp} {p : Addr} {o : HO} (h : H p = none) : Sm H (upd H p o) := fun b x e => by
  rw [upd_ne (ne_of_none e h)]
  exact e
theorem Sm.rd {H H' : Hp} (s : Sm H H') {a : Addr} {u : HO} (h : Rd H a u) : Rd H' a u := by
  rcases h with h | ⟨o, h⟩
  · exact .inl (s _ _ h)
  · exact .inr ⟨o, s _ _ h⟩
theorem Sm.sqL {K : PySem.W.Frag} {H H' : Hp} (s : Sm H H') {a : Addr} {xs : List V} (h : SqL K H a xs) : SqL K H' a xs := by
  rcases h with h | h
  · exact .inl (s.rd h)
  · exact .inr h
theorem Sm.sqT {K : PySem.W.Frag} {H H' : Hp} (s : Sm H H') {a : Addr} {xs : List V} (h : SqT K H a xs) : SqT K H' a xs := by
  rcases h with h | h
  · exact .inl (s.rd h)
  · exact .inr h

mutual
/-- v stands for d in H; ow: where the law's state object is -/
inductive Rep (K : PySem.W.Frag) (ow : Option Addr) (H : Hp) : V → D → Prop
  | non : Rep K ow H .non .none
  | bl (b : Bool) : Rep K ow H (.bl b) (.bool b)
  | int (i : Int) : Rep K ow H (.int i) (.int i)
  | str {x : Str} (h : okS x = true) : Rep K ow H (.str x) (.str x)
  | lst {a : Addr} {xs : List V} {ds : List D} : H a = some (.lst xs) → RepL K ow H xs ds → Rep K ow H (.ref a) (.list ds)
  | tup {a : Addr} {xs : List V} {ds : List D} : SqT K H a xs → RepL K ow H xs ds → Rep K ow H (.ref a) (.tuple ds)
  | dct {a : Addr} {kvs : List (L2.Key × V)} {ps : List (D × D)} : Rd H a (.dK kvs) → RepK K ow H kvs ps → Rep K ow H (.ref a) (.dict ps)
  | dctT {a : Addr} {kvs : List (List L2.Key × V)} {ps : List (D × D)} : Rd H a (.dT kvs) → RepT K ow H kvs ps → Rep K ow H (.ref a) (.dict ps)
  | st {a : Addr} : ow = some a → Rep K ow H (.ref a) W
  | scr {a : Addr} {ns : List Int} : SqL K H a (ns.map V.int) → Rep K ow H (.ref a) (F ns)
inductive RepL (K : PySem.W.Frag) (ow : Option Addr) (H : Hp) : List V → List D → Prop
  | nil : RepL K ow H [] []
  | cons {v : V} {d : D} {vs : List V} {ds : List D} : Rep K ow H v d → RepL K ow H vs ds → RepL K ow H (v :: vs) (d :: ds)
inductive RepK (K : PySem.W.Frag) (ow : Option Addr) (H : Hp) : List (L2.Key × V) → List (D × D) → Prop
  | nil : RepK K ow H [] []
  | cons {k : L2.Key} {v : V} {d : D} {kvs : List (L2.Key × V)} {ps : List (D × D)} : okK k = true → Rep K ow H v d → RepK K ow H kvs ps → RepK K ow H ((k, v) :: kvs) ((kD k, d) :: ps)
inductive RepT (K : PySem.W.Frag) (ow : Option Addr) (H : Hp) : List (List L2.Key × V) → List (D × D) → Prop
  | nil : RepT K ow H [] []
  | cons {k : List L2.Key} {v : V} {d : D} {kvs : List (List L2.Key × V)} {ps : List (D × D)} : k.all okK = true → Rep K ow H v d → RepT K ow H kvs ps → RepT K ow H ((k, v) :: kvs) ((.tuple (k.map kD), d) :: ps)
end

section
variable {K : PySem.W.Frag} {ow : Option Addr} {H H' : Hp}
mutual
theorem Rep.mono (s : Sm H H') : ∀ {v : V} {d : D}, Rep K ow H v d → Rep K ow H' v d
  | _, _, .non => .non
  | _, _, .bl b => .bl b
  | _, _, .int i => .int i
  | _, _, .str h => .str h
  | _, _, .lst h r => .lst (s _ _ h) (r.mono s)
  | _, _, .tup h r => .tup (s.sqT h) (r.mono s)
  | _, _, .dct h r => .dct (s.rd h) (r.mono s)
  | _, _, .dctT h r => .dctT (s.rd h) (r.mono s)
  | _, _, .st h => .st h
  | _, _, .scr h => .scr (s.sqL h)
theorem RepL.mono (s : Sm H H') : ∀ {v : List V} {d : List D}, RepL K ow H v d → RepL K ow H' v d
  | _, _, .nil => .nil
  | _, _, .cons h r => .cons (h.mono s) (r.mono s)
theorem RepK.mono (s : Sm H H') : ∀ {v : List (L2.Key × V)} {d : List (D × D)}, RepK K ow H v d → RepK K ow H' v d
  | _, _, .nil => .nil
  | _, _, .cons k h r => .cons k (h.mono s) (r.mono s)
theorem RepT.mono (s : Sm H H') : ∀ {v : List (List L2.Key × V)} {d : List (D × D)}, RepT K ow H v d → RepT K ow H' v d
  | _, _, .nil => .nil
  | _, _, .cons k h r => .cons k (h.mono s) (r.mono s)
end
mutual
/-- where no state object is, any place will do -/
theorem Rep.own {w : Option Addr} : ∀ {v : V} {d : D}, Rep K none H v d → Rep K w H v d
  | _, _, .non => .non
  | _, _, .bl b => .bl b
  | _, _, .int i => .int i
  | _, _, .str h => .str h
  | _, _, .lst h r => .lst h r.own
  | _, _, .tup h r => .tup h r.own
  | _, _, .dct h r => .dct h r.own
  | _, _, .dctT h r => .dctT h r.own
  | _, _, .st h => by cases h
  | _, _, .scr h => .scr h
theorem RepL.own {w : Option Addr} : ∀ {v : List V} {d : List D}, RepL K none H v d → RepL K w H v d
  | _, _, .nil => .nil
  | _, _, .cons h r => .cons h.own r.own
theorem RepK.own {w : Option Addr} : ∀ {v : List (L2.Key × V)} {d : List (D × D)}, RepK K none H v d → RepK K w H v d
  | _, _, .nil => .nil
  | _, _, .cons k h r => .cons k h.own r.own
theorem RepT.own {w : Option Addr} : ∀ {v : List (List L2.Key × V)} {d : List (D × D)}, RepT K none H v d → RepT K w H v d
  | _, _, .nil => .nil
  | _, _, .cons k h r => .cons k h.own r.own
end
theorem RepL.length : ∀ {v : List V} {d : List D}, RepL K ow H v d → v.length = d.length
  | _, _, .nil => rfl
  | _, _, .cons _ r => by rw [List.length_cons, List.length_cons, r.length]
theorem RepL.append : ∀ {v v' : List V} {d d' : List D}, RepL K ow H v d → RepL K ow H v' d' → RepL K ow H (v ++ v') (d ++ d')
  | _, _, _, _, .nil, r => r
  | _, _, _, _, .cons h q, r => .cons h (q.append r)
theorem RepL.get : ∀ {vs : List V} {ds : List D} {i : Nat} {d : D}, RepL K ow H vs ds → ds[i]? = some d → ∃ v, vs[i]? = some v ∧ Rep K ow H v d
  | _, _, _, _, .nil, e => by simp at e
  | _, _, 0, _, .cons h _, e => by simp at e; subst e; exact ⟨_, rfl, h⟩
  | _, _, i + 1, d, .cons _ r, e => by
    obtain ⟨v, h1, h2⟩ := RepL.get (i := i) (d := d) r (by simpa using e)
    exact ⟨v, by simpa using h1, h2⟩
theorem RepL.get' : ∀ {vs : List V} {ds : List D} {i : Nat} {v : V}, RepL K ow H vs ds → vs[i]? = some v → ∃ d, ds[i]? = some d ∧ Rep K ow H v d
  | _, _, _, _, .nil, e => by simp at e
  | _, _, 0, _, .cons h _, e => by simp at e; subst e; exact ⟨_, rfl, h⟩
  | _, _, i + 1, d, .cons _ r, e => by
    obtain ⟨v, h1, h2⟩ := RepL.get' (i := i) (v := d) r (by simpa using e)
    exact ⟨v, by simpa using h1, h2⟩
theorem RepL.set : ∀ {vs : List V} {ds : List D} {v : V} {d : D} (i : Nat), Rep K ow H v d → RepL K ow H vs ds → RepL K ow H (vs.set i v) (ds.set i d)
  | _, _, _, _, _, _, .nil => .nil
  | _, _, _, _, 0, h, .cons _ r => .cons h r
  | _, _, _, _, i + 1, h, .cons h' r => .cons h' (RepL.set i h r)
theorem RepL.take : ∀ {vs : List V} {ds : List D} (n : Nat), RepL K ow H vs ds → RepL K ow H (vs.take n) (ds.take n)
  | _, _, 0, _ => .nil
  | _, _, _ + 1, .nil => .nil
  | _, _, n + 1, .cons h r => .cons h (r.take n)
theorem RepL.drop : ∀ {vs : List V} {ds : List D} (n : Nat), RepL K ow H vs ds → RepL K ow H (vs.drop n) (ds.drop n)
  | _, _, 0, r => r
  | _, _, _ + 1, .nil => .nil
  | _, _, n + 1, .cons _ r => r.drop n
theorem RepL.reverse : ∀ {vs : List V} {ds : List D}, RepL K ow H vs ds → RepL K ow H vs.reverse ds.reverse
  | _, _, .nil => .nil
  | _, _, .cons h r => by
    rw [List.reverse_cons, List.reverse_cons]
    exact r.reverse.append (.cons h .nil)
theorem RepL.rep {vs : List V} {ds : List D} (r : RepL K ow H vs ds) : ∀ n : Nat, RepL K ow H (List.replicate n vs).flatten (repL ds n)
  | 0 => .nil
  | n + 1 => by
    show RepL K ow H (List.replicate (n + 1) vs).flatten (List.replicate (n + 1) ds).flatten
    rw [List.replicate_succ, List.replicate_succ, List.flatten_cons, List.flatten_cons]
    exact r.append (RepL.rep r n)
theorem RepK.length : ∀ {v : List (L2.Key × V)} {d : List (D × D)}, RepK K ow H v d → v.length = d.length
  | _, _, .nil => rfl
  | _, _, .cons _ _ r => by rw [List.length_cons, List.length_cons, r.length]
theorem RepT.length : ∀ {v : List (List L2.Key × V)} {d : List (D × D)}, RepT K ow H v d → v.length = d.length
  | _, _, .nil => rfl
  | _, _, .cons _ _ r => by rw [List.length_cons, List.length_cons, r.length]
end

/-! ### the state object -/
def WOk (K : PySem.W.Frag) (Hc H : Hp) : Option Addr → Ws → Prop
  | none, none => True
  | some a, some (ns, n) => ∃ al : Addr, H a = some (.dK [(.inr (Str.ofString "draws"), .ref al), (.inr (Str.ofString "at"), .int (n : Nat))]) ∧ Hc a = none ∧ Hc al = some (.lst (ns.map V.int))
  | _, _ => False
/-! ### steps: what is kept (Hc: closed; H: all) -/
structure Stp (ow : Option Addr) (Hc H Hc' H' : Hp) : Prop where
  cl : Sm Hc Hc'
  sub : Sm Hc' H'
  keep : ∀ a o, H a = some o → ow ≠ some a → H' a = some o
  fresh : ∀ a, Hc a = none → H a ≠ none → Hc' a = none
theorem Stp.refl {ow : Option Addr} {Hc H : Hp} (s : Sm Hc H) : Stp ow Hc H Hc H := ⟨Sm.refl, s, fun _ _ e _ => e, fun _ e _ => e⟩
theorem Stp.trans {ow : Option Addr} {Hc H Hc1 H1 Hc2 H2 : Hp} (a : Stp ow Hc H Hc1 H1) (wk : ∀ x, ow = some x → H1 x ≠ none ∨ H x = none) (b : Stp ow Hc1 H1 Hc2 H2) : Stp ow Hc H Hc2 H2 := by
  refine ⟨a.cl.trans b.cl, b.sub, fun x o e n => b.keep x o (a.keep x o e n) n, fun x e n => b.fresh x (a.fresh x e n) ?_⟩
  cases hx : H x with
  | none => exact absurd hx n
  | some o =>
    by_cases ho : ow = some x
    · rcases wk x ho with z | z
      · exact z
      · rw [hx] at z; cases z
    · rw [a.keep x o hx ho]; exact fun z => nomatch z
theorem WOk.there {K : PySem.W.Frag} {Hc H : Hp} {ow : Option Addr} {st : Ws} (h : WOk K Hc H ow st) : ∀ x, ow = some x → H x ≠ none := fun x e => by
  subst e
  cases st with
  | none => exact h.elim
  | some p =>
    obtain ⟨al, h1, _⟩ := h
    rw [h1]; exact fun z => nomatch z
/-- a new object, closed -/
theorem Stp.new {ow : Option Addr} {Hc H : Hp} {p : Addr} {o : HO} (s : Sm Hc H) (h : H p = none) : Stp ow Hc H (upd Hc p o) (upd H p o) := by
  refine ⟨Sm.new (s.non h), fun a x e => ?_, fun a x e _ => Sm.new h a x e, fun a e n => ?_⟩
  · by_cases ha : a = p
    · subst ha; rw [upd_same] at e ⊢; exact e
    · rw [upd_ne ha] at e ⊢; exact s a x e
  · rw [upd_ne (fun z => n (by rw [z]; exact h))]; exact e
/-- a new object, open -/
theorem Stp.open {ow : Option Addr} {Hc H : Hp} {p : Addr} {o : HO} (s : Sm Hc H) (h : H p = none) : Stp ow Hc H Hc (upd H p o) :=
  ⟨Sm.refl, s.trans (Sm.new h), fun a x e _ => Sm.new h a x e, fun _ e _ => e⟩
theorem WOk.new {K : PySem.W.Frag} {Hc H : Hp} {ow : Option Addr} {st : Ws} {p : Addr} {o : HO} (h : WOk K Hc H ow st) (hp : H p = none) (s : Sm Hc H) : WOk K (upd Hc p o) (upd H p o) ow st := by
  cases ow with
  | none =>
    cases st with
    | none => trivial
    | some q => exact h.elim
  | some a =>
    cases st with
    | none => exact h.elim
    | some q =>
      obtain ⟨al, h1, h2, h3⟩ := h
      have ne : a ≠ p := ne_of_none h1 hp
      exact ⟨al, by rw [upd_ne ne]; exact h1, by rw [upd_ne ne]; exact h2, Sm.new (s.non hp) _ _ h3⟩
theorem WOk.open {K : PySem.W.Frag} {Hc H : Hp} {ow : Option Addr} {st : Ws} {p : Addr} {o : HO} (h : WOk K Hc H ow st) (hp : H p = none) : WOk K Hc (upd H p o) ow st := by
  cases ow with
  | none =>
    cases st with
    | none => trivial
    | some q => exact h.elim
  | some a =>
    cases st with
    | none => exact h.elim
    | some q =>
      obtain ⟨al, h1, h2, h3⟩ := h
      exact ⟨al, by rw [upd_ne (ne_of_none h1 hp)]; exact h1, h2, h3⟩

/-! ### lists and dicts that are one's own -/
inductive Open (K : PySem.W.Frag) (ow : Option Addr) (Hc H : Hp) : Addr → D → Prop
  | lst {a : Addr} {xs : List V} {ds : List D} : H a = some (.lst xs) → RepL K ow Hc xs ds → Hc a = none → ow ≠ some a → Open K ow Hc H a (.list ds)
  | dct {a : Addr} {kvs : List (L2.Key × V)} {ps : List (D × D)} : H a = some (.dK kvs) → RepK K ow Hc kvs ps → Hc a = none → ow ≠ some a → Open K ow Hc H a (.dict ps)
  | dctT {a : Addr} {kvs : List (List L2.Key × V)} {ps : List (D × D)} : H a = some (.dT kvs) → RepT K ow Hc kvs ps → Hc a = none → ow ≠ some a → Open K ow Hc H a (.dict ps)
theorem Open.stp {K : PySem.W.Frag} {ow : Option Addr} {Hc H Hc' H' : Hp} {a : Addr} {d : D} (s : Stp ow Hc H Hc' H') (h : Open K ow Hc H a d) : Open K ow Hc' H' a d := by
  cases h with
  | lst h1 h2 h3 h4 => exact .lst (s.keep _ _ h1 h4) (h2.mono s.cl) (s.fresh _ h3 (by rw [h1]; exact fun z => nomatch z)) h4
  | dct h1 h2 h3 h4 => exact .dct (s.keep _ _ h1 h4) (h2.mono s.cl) (s.fresh _ h3 (by rw [h1]; exact fun z => nomatch z)) h4
  | dctT h1 h2 h3 h4 => exact .dctT (s.keep _ _ h1 h4) (h2.mono s.cl) (s.fresh _ h3 (by rw [h1]; exact fun z => nomatch z)) h4
theorem Open.free {K : PySem.W.Frag} {ow : Option Addr} {Hc H : Hp} {a : Addr} {d : D} (h : Open K ow Hc H a d) : Hc a = none ∧ ow ≠ some a ∧ ∃ o, H a = some o := by
  cases h with
  | lst h1 _ h3 h4 => exact ⟨h3, h4, _, h1⟩
  | dct h1 _ h3 h4 => exact ⟨h3, h4, _, h1⟩
  | dctT h1 _ h3 h4 => exact ⟨h3, h4, _, h1⟩
/-- it is closed: from now on it stands -/
theorem Open.close {K : PySem.W.Frag} {ow : Option Addr} {Hc H : Hp} {a : Addr} {d : D} (s : Sm Hc H) (h : Open K ow Hc H a d) :
    ∃ Hc', Sm Hc Hc' ∧ Sm Hc' H ∧ Rep K ow Hc' (.ref a) d ∧ (∀ b, b ≠ a → Hc' b = Hc b) := by
  obtain ⟨h3, h4, o, ho⟩ := h.free
  have e1 : Sm Hc (upd Hc a o) := Sm.new h3
  have e2 : Sm (upd Hc a o) H := fun b x e => by
    by_cases hb : b = a
    · subst hb; rw [upd_same] at e; cases e; exact ho
    · rw [upd_ne hb] at e; exact s b x e
  refine ⟨upd Hc a o, e1, e2, ?_, fun b hb => upd_ne hb⟩
  cases h with
  | lst q r _ _ => rw [q] at ho; cases ho; exact .lst upd_same (r.mono e1)
  | dct q r _ _ => rw [q] at ho; cases ho; exact .dct (.inl upd_same) (r.mono e1)
  | dctT q r _ _ => rw [q] at ho; cases ho; exact .dctT (.inl upd_same) (r.mono e1)
/-- how a value is held: to be kept, to be read, one's own (new since H0) -/
inductive Kd | keep | read | own
def RepV (K : PySem.W.Frag) (ow : Option Addr) (H0 Hc H : Hp) (v : V) (d : D) : Kd → Prop
  | .keep => Rep K ow Hc v d
  | .read => Rep K ow Hc v d ∨ ∃ a, v = .ref a ∧ Open K ow Hc H a d
  | .own => ∃ a, v = .ref a ∧ Open K ow Hc H a d ∧ H0 a = none
theorem RepV.stp {K : PySem.W.Frag} {ow : Option Addr} {H0 Hc H Hc' H' : Hp} {v : V} {d : D} {k : Kd} (s : Stp ow Hc H Hc' H') (h : RepV K ow H0 Hc H v d k) : RepV K ow H0 Hc' H' v d k := by
  cases k with
  | keep => exact Rep.mono s.cl h
  | read =>
    rcases h with h | ⟨a, e, h⟩
    · exact .inl (Rep.mono s.cl h)
    · exact .inr ⟨a, e, h.stp s⟩
  | own =>
    obtain ⟨a, e, h, n⟩ := h
    exact ⟨a, e, h.stp s, n⟩

/-! ### judgements by meaning -/
def EvE (X : Cx) (e : Expr) : TE := fun σ H Q => ∀ (pins : List (Addr × Obj)) (s : Shared), Inv X pins σ H s → wpAny (model X.prog X.w) X.A (eval e X.env) (EP X pins σ Q) X.xe s
def EvT (X : Cx) (e : Expr) : TT := fun σ H Q => ∀ (pins : List (Addr × Obj)) (s : Shared), Inv X pins σ H s → wpAny (model X.prog X.w) X.A (isTrue e X.env (eval e X.env)) (TP X pins σ Q) X.xe s
theorem pe_sem {X : Cx} {e : Expr} : PE X e (EvE X e) := ⟨fun pins s _ _ _ I h => h pins s I⟩
theorem pt_sem {X : Cx} {e : Expr} : PT X e (EvT X e) := ⟨fun pins s _ _ _ I h => h pins s I⟩
theorem evE_of {X : Cx} {e : Expr} {t : TE} {σ : L2.St} {H : Hp} {Q : VK} (h : PE X e t) (q : t σ H Q) : EvE X e σ H Q := fun pins s I => h.run pins s σ H Q I q
theorem evT_of {X : Cx} {e : Expr} {t : TT} {σ : L2.St} {H : Hp} {Q : Bool → Hp → Prop} (h : PT X e t) (q : t σ H Q) : EvT X e σ H Q := fun pins s I => h.run pins s σ H Q I q
def EvA (X : Cx) (es : List Expr) : TA := fun σ H Q => ∀ (pos : Pos) (pins : List (Addr × Obj)) (s : Shared), Inv X pins σ H s → wpAny (model X.prog X.w) X.A (spliced (backTo pos (starEach es X.env))) (AP X pins σ Q) X.xe s
theorem pa_sem {X : Cx} {es : List Expr} : PA X es (EvA X es) := ⟨fun pos pins s _ _ _ I h => h pos pins s I⟩
theorem evA_of {X : Cx} {es : List Expr} {t : TA} {σ : L2.St} {H : Hp} {Q : List V → Hp → Prop} (h : PA X es t) (q : t σ H Q) : EvA X es σ H Q := fun pos pins s I => h.run pos pins s σ H Q I q
def EvS (X : Cx) (st : Stmt) : TS := fun D σ H => ∀ (pins : List (Addr × Obj)) (s : Shared), Inv X pins σ H s → wpAny (model X.prog X.w) X.A (PySem.exec st X.env) (SP X pins D) X.xe s
def EvSs (X : Cx) (st : List Stmt) : TS := fun D σ H => ∀ (pins : List (Addr × Obj)) (s : Shared), Inv X pins σ H s → wpAny (model X.prog X.w) X.A (PySem.execs st X.env) (SP X pins D) X.xe s
theorem ps_sem {X : Cx} {e : Stmt} : PS X e (EvS X e) := ⟨fun pins s _ _ _ I h => h pins s I⟩
theorem pss_sem {X : Cx} {e : List Stmt} : PSs X e (EvSs X e) := ⟨fun pins s _ _ _ I h => h pins s I⟩
theorem evS_of {X : Cx} {e : Stmt} {t : TS} {σ : L2.St} {H : Hp} {D : Ends} (h : PS X e t) (q : t D σ H) : EvS X e D σ H := fun pins s I => h.run pins s σ H D I q
theorem evSs_of {X : Cx} {e : List Stmt} {t : TS} {σ : L2.St} {H : Hp} {D : Ends} (h : PSs X e t) (q : t D σ H) : EvSs X e D σ H := fun pins s I => h.run pins s σ H D I q

/-- e, run where Hc is closed and H tracked, gives a value for d, held so -/
def Gv (k : Kd) (X : Cx) (ow : Option Addr) (e : Expr) (σ : L2.St) (Hc H : Hp) (d : D) (st' : Ws) : Prop :=
  ∀ Q : VK, (∀ v Hc' H', Stp ow Hc H Hc' H' → WOk X.K Hc' H' ow st' → RepV X.K ow H Hc' H' v d k → Q v H') → EvE X e σ H Q
def Gt (X : Cx) (ow : Option Addr) (e : Expr) (σ : L2.St) (Hc H : Hp) (b : Bool) (st' : Ws) : Prop :=
  ∀ Q : Bool → Hp → Prop, (∀ Hc' H', Stp ow Hc H Hc' H' → WOk X.K Hc' H' ow st' → Q b H') → EvT X e σ H Q
theorem Gv.read {X : Cx} {ow : Option Addr} {e : Expr} {σ : L2.St} {Hc H : Hp} {d : D} {st' : Ws} (h : Gv .keep X ow e σ Hc H d st') : Gv .read X ow e σ Hc H d st' :=
  fun Q q => h Q fun v Hc' H' s w r => q v Hc' H' s w (.inl r)
theorem Gv.close {X : Cx} {ow : Option Addr} {e : Expr} {σ : L2.St} {Hc H : Hp} {d : D} {st' : Ws} (h : Gv .own X ow e σ Hc H d st') : Gv .keep X ow e σ Hc H d st' := fun Q q => h Q fun v Hc' H' s w r => by
  obtain ⟨a, rfl, o, n⟩ := r
  obtain ⟨h3, h4, _⟩ := o.free
  obtain ⟨Hc2, e1, e2, r, hb⟩ := o.close s.sub
  refine q _ Hc2 H' ⟨s.cl.trans e1, e2, s.keep, fun b e n' => ?_⟩ ?_ r
  · rw [hb b fun z => n' (by rw [z]; exact n)]
    exact s.fresh b e n'
  · cases ow with
    | none =>
      cases st' with
      | none => trivial
      | some q => exact w.elim
    | some aw =>
      cases st' with
      | none => exact w.elim
      | some p =>
        obtain ⟨al, w1, w2, w3⟩ := w
        exact ⟨al, w1, by rw [hb aw fun z => h4 (by rw [z])]; exact w2, e1 _ _ w3⟩
end Q

set_option Elab.async false
set_option linter.all false
set_option maxRecDepth 100000
set_option maxHeartbeats 1000000
/-! L1b: the operators keep what data stands for. -/
namespace Q
open PySem PySem.Spec PyProof.Rows L2

section
variable {K : PySem.W.Frag} {ow : Option Addr} {H0 Hc H : Hp} {v : V}
theorem RepV.int {i : Int} {k : Kd} (h : RepV K ow H0 Hc H v (.int i) k) : v = .int i := by
  cases k with
  | keep => cases (show Rep K ow Hc v _ from h); rfl
  | read =>
    rcases (show Rep K ow Hc v _ ∨ _ from h) with h | ⟨a, e, h⟩
    · cases h; rfl
    · cases h
  | own =>
    obtain ⟨a, e, h, _⟩ := h
    cases h
theorem RepV.bl {i : Bool} {k : Kd} (h : RepV K ow H0 Hc H v (.bool i) k) : v = .bl i := by
  cases k with
  | keep => cases (show Rep K ow Hc v _ from h); rfl
  | read =>
    rcases (show Rep K ow Hc v _ ∨ _ from h) with h | ⟨a, e, h⟩
    · cases h; rfl
    · cases h
  | own =>
    obtain ⟨a, e, h, _⟩ := h
    cases h
theorem RepV.non {k : Kd} (h : RepV K ow H0 Hc H v .none k) : v = .non := by
  cases k with
  | keep => cases (show Rep K ow Hc v _ from h); rfl
  | read =>
    rcases (show Rep K ow Hc v _ ∨ _ from h) with h | ⟨a, e, h⟩
    · cases h; rfl
    · cases h
  | own =>
    obtain ⟨a, e, h, _⟩ := h
    cases h
theorem RepV.str {x : Str} {k : Kd} (h : RepV K ow H0 Hc H v (.str x) k) : v = .str x ∧ okS x = true := by
  cases k with
  | keep => cases (show Rep K ow Hc v _ from h) with | str h' => exact ⟨rfl, h'⟩
  | read =>
    rcases (show Rep K ow Hc v _ ∨ _ from h) with h | ⟨a, e, h⟩
    · cases h with | str h' => exact ⟨rfl, h'⟩
    · cases h
  | own =>
    obtain ⟨a, e, h, _⟩ := h
    cases h
theorem RepV.tup {ds : List D} {k : Kd} (h : RepV K ow H0 Hc H v (.tuple ds) k) (s : Sm Hc H) : ∃ a xs, v = .ref a ∧ SqT K H a xs ∧ SqT K Hc a xs ∧ RepL K ow Hc xs ds := by
  cases k with
  | keep => cases (show Rep K ow Hc v _ from h) with | tup h' r => exact ⟨_, _, rfl, s.sqT h', h', r⟩
  | read =>
    rcases (show Rep K ow Hc v _ ∨ _ from h) with h | ⟨a, e, h⟩
    · cases h with | tup h' r => exact ⟨_, _, rfl, s.sqT h', h', r⟩
    · cases h
  | own =>
    obtain ⟨a, e, h, _⟩ := h
    cases h
theorem RepV.lst {ds : List D} {k : Kd} (h : RepV K ow H0 Hc H v (.list ds) k) (s : Sm Hc H) : ∃ a xs, v = .ref a ∧ H a = some (.lst xs) ∧ RepL K ow Hc xs ds := by
  cases k with
  | keep => cases (show Rep K ow Hc v _ from h) with | lst h' r => exact ⟨_, _, rfl, s _ _ h', r⟩
  | read =>
    rcases (show Rep K ow Hc v _ ∨ _ from h) with h | ⟨a, e, hh⟩
    · cases h with | lst h' r => exact ⟨_, _, rfl, s _ _ h', r⟩
    · subst e
      cases hh with | lst h' r _ _ => exact ⟨_, _, rfl, h', r⟩
  | own =>
    obtain ⟨a, e, h2, _⟩ := h
    subst e
    cases h2 with | lst h' r _ _ => exact ⟨_, _, rfl, h', r⟩
end

/-! ### texts -/
theorem okS_iff {x : Str} : okS x = true ↔ (∀ c ∈ x.cps.toList, c < 0x110000) ∧ x.cps.size ≤ strMax := by
  unfold okS
  rw [Bool.and_eq_true, decide_eq_true_eq, Array.all_eq_true']
  constructor
  · rintro ⟨h1, h2⟩
    exact ⟨fun c hc => by simpa using h1 c (by simpa using hc), h2⟩
  · rintro ⟨h1, h2⟩
    exact ⟨fun c hc => by simpa using h1 c (by simpa using hc), h2⟩
theorem okS_len {x : Str} (h : okS x = true) : x.length ≤ sizeLine := by
  have := (okS_iff.mp h).2
  have e : strMax ≤ sizeLine := by decide
  exact Nat.le_trans this e
theorem okS_S {l : List Nat} (h1 : ∀ c ∈ l, c < 0x110000) (h2 : l.length ≤ strMax) : okS (S l) = true := okS_iff.mpr ⟨by simpa using h1, by simpa using h2⟩
theorem okS_app {x y : Str} (hx : okS x = true) (hy : okS y = true) (h : x.cps.size + y.cps.size ≤ strMax) : okS ⟨x.cps ++ y.cps⟩ = true := by
  refine okS_iff.mpr ⟨fun c hc => ?_, by simpa using h⟩
  have hc' : c ∈ x.cps.toList ∨ c ∈ y.cps.toList := by simpa using hc
  rcases hc' with q | q
  · exact (okS_iff.mp hx).1 c q
  · exact (okS_iff.mp hy).1 c q

/-! ### what a rule gives: Res -/
/-- Q holds of every value that stands for d behind a step -/
abbrev Res (K : PySem.W.Frag) (ow : Option Addr) (Hc H : Hp) (d : D) (st : Ws) (Q : VK) : Prop :=
  ∀ v Hc' H', Stp ow Hc H Hc' H' → WOk K Hc' H' ow st → Rep K ow Hc' v d → Q v H'
section
variable {K : PySem.W.Frag} {ow : Option Addr} {Hc H : Hp} {st : Ws} {Q : VK} {d : D}
theorem Res.here {v : V} (q : Res K ow Hc H d st Q) (s : Sm Hc H) (w : WOk K Hc H ow st) (r : Rep K ow Hc v d) : Q v H := q v Hc H (.refl s) w r
theorem Res.newT {xs : List V} {ds : List D} (q : Res K ow Hc H (.tuple ds) st Q) (s : Sm Hc H) (w : WOk K Hc H ow st) (r : RepL K ow Hc xs ds) {p : Addr} (h : H p = none) : Q (.ref p) (upd H p (.tup xs)) :=
  q _ (upd Hc p (.tup xs)) _ (.new s h) (w.new h s) (.tup (.inl (.inl upd_same)) (r.mono (Sm.new (s.non h))))
theorem Res.newL {xs : List V} {ds : List D} (q : Res K ow Hc H (.list ds) st Q) (s : Sm Hc H) (w : WOk K Hc H ow st) (r : RepL K ow Hc xs ds) {p : Addr} (h : H p = none) : Q (.ref p) (upd H p (.lst xs)) :=
  q _ (upd Hc p (.lst xs)) _ (.new s h) (w.new h s) (.lst upd_same (r.mono (Sm.new (s.non h))))
end
theorem foldl_arr {α : Type} (a : Array α) : ∀ (n : Nat) (acc : Array α), (List.replicate n a).foldl (· ++ ·) acc = acc ++ ((List.replicate n a.toList).flatten).toArray
  | 0, acc => by simp
  | n + 1, acc => by
    rw [List.replicate_succ, List.foldl_cons, foldl_arr a n, List.replicate_succ, List.flatten_cons]
    apply Array.ext'
    simp
/-- as the layer's (for a text times an int) -/
theorem op_mul_str {X : Cx} : OpR X (binaryOp .Mult) (fun x y H Q => ∃ z k, x = .str z ∧ y = .int k ∧ (-(2 ^ 60) < k ∧ k < 2 ^ 60) ∧ z.cps.size * k.toNat ≤ strMax ∧ Q (.str (S (repS z.cps.toList k.toNat))) H) := by
  intro pins s σ H x y v u Q I rx ry h
  obtain ⟨z, k, rfl, rfl, ⟨hk0, hk⟩, hz, q⟩ := h
  obtain ⟨t, rfl⟩ := rx
  obtain ⟨t', rfl⟩ := ry
  by_cases h1 : k < 1
  · refine PySem.P.mul_str_none h1 (by omega) ⟨.str Str.empty, H, I.tok _, ⟨_, rfl⟩, ?_⟩
    have e : k.toNat = 0 := by omega
    rw [e] at q
    exact q
  · have hk2 : k = (k.toNat : Int) := by omega
    have hz' : z.length * k.toNat ≤ strMax := hz
    have hmax : (strMax : Nat) = 16000000 := rfl
    refine PySem.P.mul_str (by rw [decide_eq_false (by omega), decide_eq_false (by omega)]; rfl) (fun _ h2 => ?_) (fun _ _ => ?_) ?_
    · intro hc
      have : (z.length : Int) * k ≤ 16000000 := by
        rw [hk2, ← Int.natCast_mul]
        omega
      have h3 : (2 ^ 63 - 1 : Int) / k + 1 ≤ z.length := hc
      have h4 : (2 ^ 63 - 1 : Int) < ((2 ^ 63 - 1 : Int) / k + 1) * k := Int.lt_ediv_add_one_mul_self _ (by omega)
      have h5 : ((2 ^ 63 - 1 : Int) / k + 1) * k ≤ z.length * k := Int.mul_le_mul_of_nonneg_right h3 (by omega)
      omega
    · unfold Builtin.Str.tooLong
      have hl : strMax ≤ sizeLine := by decide
      exact decide_eq_false (by omega)
    · rw [if_neg h1]
      by_cases h2 : (k == 1 || z.length == 0) = true
      · rw [if_pos h2]
        refine ⟨.str z, H, I, ⟨_, rfl⟩, ?_⟩
        have e : S (repS z.cps.toList k.toNat) = z := by
          rcases Bool.or_eq_true _ _ ▸ h2 with h2 | h2
          · have : k = 1 := by simpa using h2
            subst this
            show (⟨([z.cps.toList].flatten).toArray⟩ : Str) = z
            simp
          · have : z.cps = #[] := by
              have : z.cps.size = 0 := by simpa [Str.length] using h2
              exact Array.eq_empty_of_size_eq_zero this
            show (⟨(List.flatten _).toArray⟩ : Str) = z
            rw [this]
            cases z
            simp at this
            subst this
            congr
            simp
        rw [e] at q
        exact q
      · rw [if_neg h2]
        have e : (⟨(List.replicate k.toNat z.cps).foldl (· ++ ·) #[]⟩ : Str) = S (repS z.cps.toList k.toNat) := by
          rw [foldl_arr]
          simp [repS, S]
        rw [e]
        refine ⟨?_, .str (S (repS z.cps.toList k.toNat)), H, I.tok _, ⟨s.toks, rfl⟩, q⟩
        show (List.toArray (repS z.cps.toList k.toNat)).size ≤ sizeLine
        have hl : strMax ≤ sizeLine := by decide
        have : (repS z.cps.toList k.toNat).length = z.cps.size * k.toNat := by
          simp [repS, Nat.mul_comm]
        rw [List.size_toArray, this]
        omega
def oOp : Op → Operator
  | .add => .Add
  | .sub => .Sub
  | .mul => .Mult
  | .fdiv => .FloorDiv
  | .mod => .Mod
  | .pow => .Pow
/-- r serves f at x, y and gives d -/
abbrev Serves2 (X : Cx) (ow : Option Addr) (f : Value → Value → Sem Value) (x y d : D) : Prop :=
  ∃ r : R2, OpR X f r ∧ ∀ (v u : V) (Hc H : Hp) (st : Ws) (Q : VK), Sm Hc H → WOk X.K Hc H ow st → RepV X.K ow H Hc H v x .read → RepV X.K ow H Hc H u y .read → Res X.K ow Hc H d st Q → r v u H Q
theorem log_62 {j : Int} (h0 : 0 < j) (h : j < 2 ^ 62) : j.natAbs.log2 < 9000 := by
  have h1 : j.natAbs < 2 ^ 62 := by omega
  exact Nat.lt_of_lt_of_le (PySem.Flt.log2_lt_of (by decide) h1) (by decide)
theorem bin_ok {X : Cx} {ow : Option Addr} {op : Op} {x y d : D} (h : binD op x y = some d) : Serves2 X ow (binaryOp (oOp op)) x y d := by
  have hmax : strMax = 16000000 := rfl
  have hln : lineMax = 16000000 := rfl
  have hsl : (16000000 : Nat) ≤ sizeLine := by decide
  cases op with
  | add =>
    have h : addD x y = some d := h
    unfold addD at h
    split at h
    · cases h
      refine ⟨_, op_add, fun v u Hc H st Q s w rx ry q => ?_⟩
      exact ⟨_, _, rx.int, ry.int, q.here s w (.int _)⟩
    · split at h
      · rename_i hz
        cases h
        refine ⟨_, op_add_str, fun v u Hc H st Q s w rx ry q => ?_⟩
        obtain ⟨e1, k1⟩ := rx.str
        obtain ⟨e2, k2⟩ := ry.str
        refine ⟨_, _, e1, e2, ?_, q.here s w (.str (okS_app k1 k2 hz))⟩
        show _ + _ ≤ sizeLine
        exact Nat.le_trans hz (by rw [hmax]; exact hsl)
      · cases h
    · split at h
      · rename_i hz
        cases h
        refine ⟨_, op_catA, fun v u Hc H st Q s w rx ry q => ?_⟩
        obtain ⟨a, xs, rfl, ha, hac, ra⟩ := rx.tup s
        obtain ⟨b, ys, rfl, hb, hbc, rb⟩ := ry.tup s
        have l1 := ra.length
        have l2 := rb.length
        refine ⟨a, b, xs, ys, rfl, rfl, ha, hb, by omega, fun e => ?_, fun e1 e2 => ?_, fun e1 e2 p hp => ?_⟩
        · subst e
          cases ra
          exact q.here s w (.tup hbc rb)
        · subst e2
          cases rb
          rw [List.append_nil] at q
          exact q.here s w (.tup hac ra)
        · exact q.newT s w (ra.append rb) hp
      · cases h
    · split at h
      · rename_i hz
        cases h
        refine ⟨_, op_cat, fun v u Hc H st Q s w rx ry q => ?_⟩
        obtain ⟨a, xs, rfl, ha, ra⟩ := rx.lst s
        obtain ⟨b, ys, rfl, hb, rb⟩ := ry.lst s
        have l1 := ra.length
        have l2 := rb.length
        exact ⟨a, b, xs, ys, rfl, rfl, ha, hb, by omega, fun p hp => q.newL s w (ra.append rb) hp⟩
      · cases h
    · cases h
  | sub =>
    unfold binD at h
    split at h <;> first | cases h | skip
    all_goals (first | (rename_i e; cases e) | skip)
    all_goals (first | cases h | skip)
    refine ⟨_, op_sub, fun v u Hc H st Q s w rx ry q => ?_⟩
    exact ⟨_, _, rx.int, ry.int, q.here s w (.int _)⟩
  | mul =>
    have h : mulD x y = some d := h
    unfold mulD at h
    split at h
    · split at h
      · rename_i hz
        cases h
        refine ⟨_, op_mul, fun v u Hc H st Q s w rx ry q => ?_⟩
        exact ⟨_, _, rx.int, ry.int, by rcases hz with hz | hz; exact .inl ⟨by omega, by omega⟩; exact .inr ⟨by omega, by omega⟩, q.here s w (.int _)⟩
      · cases h
    · split at h
      · rename_i hz
        cases h
        refine ⟨_, op_mul_str, fun v u Hc H st Q s w rx ry q => ?_⟩
        obtain ⟨e1, k1⟩ := rx.str
        refine ⟨_, _, e1, ry.int, ⟨hz.1, hz.2.1⟩, hz.2.2, q.here s w (.str (okS_S (fun c hc => ?_) ?_))⟩
        · have : c ∈ (List.replicate _ _).flatten := hc
          obtain ⟨l, hl, hcl⟩ := List.mem_flatten.mp this
          rw [(List.mem_replicate.mp hl).2] at hcl
          exact (okS_iff.mp k1).1 c hcl
        · have e : ∀ (l : List Nat) (n : Nat), (repS l n).length = l.length * n := fun l n => by simp [repS, Nat.mul_comm]
          rw [e, Array.length_toList]
          exact hz.2.2
      · cases h
    · split at h
      · rename_i hz
        cases h
        refine ⟨_, op_rep, fun v u Hc H st Q s w rx ry q => ?_⟩
        obtain ⟨a, xs, rfl, ha, ra⟩ := rx.lst s
        have l1 := ra.length
        refine ⟨a, _, xs, rfl, ry.int, ha, by omega, by omega, by rw [l1]; omega, fun p hp => q.newL s w (ra.rep _) hp⟩
      · cases h
    · cases h
  | fdiv =>
    unfold binD at h
    split at h <;> first | cases h | skip
    all_goals (first | (rename_i e; cases e) | skip)
    all_goals (split at h <;> first | cases h | skip)
    rename_i hz
    refine ⟨_, op_fdivW, fun v u Hc H st Q s w rx ry q => ?_⟩
    exact ⟨_, _, rx.int, ry.int, ⟨hz.1, log_62 hz.1 hz.2⟩, q.here s w (.int _)⟩
  | mod =>
    unfold binD at h
    split at h <;> first | cases h | skip
    all_goals (first | (rename_i e; cases e) | skip)
    all_goals (split at h <;> first | cases h | skip)
    rename_i hz
    refine ⟨_, op_mod, fun v u Hc H st Q s w rx ry q => ?_⟩
    exact ⟨_, _, rx.int, ry.int, hz, q.here s w (.int _)⟩
  | pow =>
    unfold binD at h
    split at h <;> first | cases h | skip
    all_goals (first | (rename_i e; cases e) | skip)
    all_goals (split at h <;> first | cases h | skip)
    rename_i hz
    refine ⟨_, op_pow, fun v u Hc H st Q s w rx ry q => ?_⟩
    exact ⟨_, _, rx.int, ry.int, ⟨hz.1, by omega, hz.2.2⟩, q.here s w (.int _)⟩
end Q

set_option Elab.async false
set_option linter.all false
set_option maxRecDepth 100000
set_option maxHeartbeats 1000000
/-! L1c: comparisons. -/
namespace Q
open PySem PySem.Spec PyProof.Rows L2
mutual
theorem gd_depth : ∀ (n : Nat) (d : D), gd n d = true → PyData.depth d ≤ n
  | _, .none, _ => Nat.zero_le _
  | _, .bool _, _ => Nat.zero_le _
  | _, .int _, _ => Nat.zero_le _
  | _, .str _, _ => Nat.zero_le _
  | _, .dict _, h => by simp [gd] at h
  | 0, .list _, h => by simp [gd] at h
  | 0, .tuple _, h => by simp [gd] at h
  | n + 1, .list xs, h => Nat.succ_le_succ (gd_depthAll n xs (by simpa [gd] using h))
  | n + 1, .tuple xs, h => Nat.succ_le_succ (gd_depthAll n xs (by simpa [gd] using h))
theorem gd_depthAll : ∀ (n : Nat) (ds : List D), (∀ x ∈ ds, gd n x = true) → PyData.depthAll ds ≤ n
  | _, [], _ => Nat.zero_le _
  | n, x :: xs, h => Nat.max_le.mpr ⟨gd_depth n x (h x List.mem_cons_self), gd_depthAll n xs fun y hy => h y (List.mem_cons_of_mem _ hy)⟩
end
theorem strOk_of {x : Str} (h : okS x = true) : PyData.strOk x = true := by
  unfold okS at h
  exact (Bool.and_eq_true _ _ ▸ h).1
section
variable {K : PySem.W.Frag} {ow : Option Addr} {Hc H : Hp}
mutual
theorem Rep.dp (s : Sm Hc H) : ∀ {v : V} {d : D} (n : Nat), Rep K ow Hc v d → gd n d = true → Dp K H v d ∧ PyData.canLay0 d = true
  | _, _, _, .non, _ => ⟨.non, rfl⟩
  | _, _, _, .bl b, _ => ⟨.bl b, rfl⟩
  | _, _, _, .int i, _ => ⟨.int i, rfl⟩
  | _, _, _, .str h, _ => ⟨.str _, strOk_of h⟩
  | _, _, 0, .lst h r, g => by simp [gd] at g
  | _, _, 0, .tup h r, g => by simp [gd] at g
  | _, _, n + 1, .lst h r, g => by
    obtain ⟨h1, h2⟩ := RepL.dp s n r (by simpa [gd] using g)
    exact ⟨.lst (.inl (.inl (s _ _ h))) h1, h2⟩
  | _, _, n + 1, .tup h r, g => by
    obtain ⟨h1, h2⟩ := RepL.dp s n r (by simpa [gd] using g)
    exact ⟨.tup (s.sqT h) h1, h2⟩
  | _, _, n, .dct h r, g => by cases n <;> simp [gd] at g
  | _, _, n, .dctT h r, g => by cases n <;> simp [gd] at g
  | _, _, n, .st h, g => by cases n <;> simp [gd] at g
  | _, _, n, .scr h, g => by cases n <;> simp [gd] at g
theorem RepL.dp (s : Sm Hc H) : ∀ {v : List V} {d : List D} (n : Nat), RepL K ow Hc v d → (∀ x ∈ d, gd n x = true) → DpAll K H v d ∧ PyData.canLayAll0 d = true
  | _, _, _, .nil, _ => ⟨.nil, rfl⟩
  | _, _, n, .cons h r, g => by
    obtain ⟨h1, h2⟩ := Rep.dp s n h (g _ List.mem_cons_self)
    obtain ⟨h3, h4⟩ := RepL.dp s n r fun y hy => g y (List.mem_cons_of_mem _ hy)
    exact ⟨.cons h1 h3, by show (_ && _) = true; rw [h2, h4]; rfl⟩
end
theorem RepV.dp {H0 : Hp} {v : V} {d : D} {k : Kd} (s : Sm Hc H) (h : RepV K ow H0 Hc H v d k) (g : gd 60 d = true) : Dp K H v d ∧ SeqAt.shaped d = true := by
  have hd : PyData.depth d ≤ 64 := Nat.le_trans (gd_depth 60 d g) (by decide)
  have fin : ∀ {p}, Dp K H v d ∧ PyData.canLay0 d = true → p = (Dp K H v d ∧ SeqAt.shaped d = true) → p := fun q e => e ▸ ⟨q.1, by unfold SeqAt.shaped; rw [q.2, decide_eq_true hd]; rfl⟩
  have opn : ∀ {a}, v = .ref a → Open K ow Hc H a d → Dp K H v d ∧ PyData.canLay0 d = true := fun {a} e o => by
    subst e
    cases o with
    | lst h1 r _ _ =>
      obtain ⟨q1, q2⟩ := RepL.dp s 59 r (by simpa [gd] using g)
      exact ⟨.lst (.inl (.inl h1)) q1, q2⟩
    | dct _ _ _ _ => simp [gd] at g
    | dctT _ _ _ _ => simp [gd] at g
  cases k with
  | keep => exact fin (Rep.dp s 60 h g) rfl
  | read =>
    rcases (show Rep K ow Hc v _ ∨ _ from h) with h | ⟨a, e, hh⟩
    · exact fin (Rep.dp s 60 h g) rfl
    · exact fin (opn e hh) rfl
  | own =>
    obtain ⟨a, e, hh, _⟩ := h
    exact fin (opn e hh) rfl
end
/-- x in t (a tuple) -/
theorem op_inTD {X : Cx} (hu : X.A.units + 65 < cLine) : OpR X (compareOp .In) (fun x y H Q => ∃ d ds, Dp X.K H x d ∧ Dp X.K H y (.tuple ds) ∧ SeqAt.shaped d = true ∧ SeqAt.shaped (.tuple ds) = true ∧ Q (.bl (ds.any fun z => PyData.eqv z d)) H) := by
  intro pins s σ H x y v u Q I rx ry h
  obtain ⟨d, ds, hd, he, sd, se, q⟩ := h
  obtain ⟨as, r1⟩ := Dp.reads I d x v hd rx
  obtain ⟨bs, r2⟩ := Dp.reads I (.tuple ds) y u he ry
  exact SeqAt.in_tuple_reads r2 r1 (SeqAt.canLay_of_shaped se) (SeqAt.canLay_of_shaped sd) (room_in_shaped sd hu) ⟨.bl _, H, I, rfl, q⟩
theorem op_notInTD {X : Cx} (hu : X.A.units + 65 < cLine) : OpR X (compareOp .NotIn) (fun x y H Q => ∃ d ds, Dp X.K H x d ∧ Dp X.K H y (.tuple ds) ∧ SeqAt.shaped d = true ∧ SeqAt.shaped (.tuple ds) = true ∧ Q (.bl (!ds.any fun z => PyData.eqv z d)) H) := by
  intro pins s σ H x y v u Q I rx ry h
  obtain ⟨d, ds, hd, he, sd, se, q⟩ := h
  obtain ⟨as, r1⟩ := Dp.reads I d x v hd rx
  obtain ⟨bs, r2⟩ := Dp.reads I (.tuple ds) y u he ry
  exact SeqAt.notIn_tuple_reads r2 r1 (SeqAt.canLay_of_shaped se) (SeqAt.canLay_of_shaped sd) (room_in_shaped sd hu) ⟨.bl _, H, I, rfl, q⟩
mutual
theorem alk_eq : ∀ x y : D, alk x y = PySem.W.alike x y
  | .none, .none => by simp [alk, PySem.W.alike]
  | .bool _, .bool _ => by simp [alk, PySem.W.alike]
  | .int _, .int _ => by simp [alk, PySem.W.alike]
  | .str _, .str _ => by simp [alk, PySem.W.alike]
  | .list xs, .list ys => by simp [alk, PySem.W.alike, alkL_eq xs ys]
  | .tuple xs, .tuple ys => by simp [alk, PySem.W.alike, alkL_eq xs ys]
  | .none, .bool _ | .none, .int _ | .none, .str _ | .none, .list _ | .none, .tuple _ | .none, .dict _ => by simp [alk, PySem.W.alike]
  | .bool _, .none | .bool _, .int _ | .bool _, .str _ | .bool _, .list _ | .bool _, .tuple _ | .bool _, .dict _ => by simp [alk, PySem.W.alike]
  | .int _, .none | .int _, .bool _ | .int _, .str _ | .int _, .list _ | .int _, .tuple _ | .int _, .dict _ => by simp [alk, PySem.W.alike]
  | .str _, .none | .str _, .bool _ | .str _, .int _ | .str _, .list _ | .str _, .tuple _ | .str _, .dict _ => by simp [alk, PySem.W.alike]
  | .list _, .none | .list _, .bool _ | .list _, .int _ | .list _, .str _ | .list _, .tuple _ | .list _, .dict _ => by simp [alk, PySem.W.alike]
  | .tuple _, .none | .tuple _, .bool _ | .tuple _, .int _ | .tuple _, .str _ | .tuple _, .list _ | .tuple _, .dict _ => by simp [alk, PySem.W.alike]
  | .dict _, .none | .dict _, .bool _ | .dict _, .int _ | .dict _, .str _ | .dict _, .list _ | .dict _, .tuple _ | .dict _, .dict _ => by simp [alk, PySem.W.alike]
theorem alkL_eq : ∀ x y : List D, alkL x y = PySem.W.alikeAll x y
  | [], _ => by simp [alkL, PySem.W.alikeAll]
  | _ :: _, [] => by simp [alkL, PySem.W.alikeAll]
  | x :: xs, y :: ys => by simp [alkL, PySem.W.alikeAll, alk_eq x y, alkL_eq xs ys]
end
mutual
theorem ltd_eq : ∀ x y : D, PySem.W.alike x y = true → PySem.W.dataLt x y = ltd x y
  | .none, .none, _ => rfl
  | .bool a, .bool b, _ => by rw [PySem.W.dataLt_bool]; cases a <;> cases b <;> rfl
  | .int a, .int b, _ => by rw [PySem.W.dataLt_int]; rfl
  | .str a, .str b, _ => by rw [PySem.W.dataLt_str]; rfl
  | .list xs, .list ys, h => by
    rw [PySem.W.dataLt_list]
    exact ltds_eq xs ys (by simpa [PySem.W.alike] using h)
  | .tuple xs, .tuple ys, h => by
    rw [PySem.W.dataLt_tuple]
    exact ltds_eq xs ys (by simpa [PySem.W.alike] using h)
  | .none, .bool _, h | .none, .int _, h | .none, .str _, h | .none, .list _, h | .none, .tuple _, h | .none, .dict _, h => by simp [PySem.W.alike] at h
  | .bool _, .none, h | .bool _, .int _, h | .bool _, .str _, h | .bool _, .list _, h | .bool _, .tuple _, h | .bool _, .dict _, h => by simp [PySem.W.alike] at h
  | .int _, .none, h | .int _, .bool _, h | .int _, .str _, h | .int _, .list _, h | .int _, .tuple _, h | .int _, .dict _, h => by simp [PySem.W.alike] at h
  | .str _, .none, h | .str _, .bool _, h | .str _, .int _, h | .str _, .list _, h | .str _, .tuple _, h | .str _, .dict _, h => by simp [PySem.W.alike] at h
  | .list _, .none, h | .list _, .bool _, h | .list _, .int _, h | .list _, .str _, h | .list _, .tuple _, h | .list _, .dict _, h => by simp [PySem.W.alike] at h
  | .tuple _, .none, h | .tuple _, .bool _, h | .tuple _, .int _, h | .tuple _, .str _, h | .tuple _, .list _, h | .tuple _, .dict _, h => by simp [PySem.W.alike] at h
  | .dict _, .none, h | .dict _, .bool _, h | .dict _, .int _, h | .dict _, .str _, h | .dict _, .list _, h | .dict _, .tuple _, h | .dict _, .dict _, h => by simp [PySem.W.alike] at h
theorem ltds_eq : ∀ x y : List D, PySem.W.alikeAll x y = true → PyProof.Rows.lexLt PyProof.Rows.itemOrd (PySem.W.keyToksAll x) (PySem.W.keyToksAll y) = ltds x y
  | [], [], _ => by
    show _ = false
    exact PyProof.Rows.lex_irrefl _
  | x :: xs, [], _ => by
    show _ = false
    rw [PySem.W.toks_all_cons]
    exact (PyProof.Rows.lex_diff (O := PyProof.Rows.itemOrd) (x := Sum.inl 1) (y := Sum.inl 0) (by intro z; cases z)).trans rfl
  | [], y :: ys, _ => by
    show _ = true
    rw [PySem.W.toks_all_cons]
    exact (PyProof.Rows.lex_diff (O := PyProof.Rows.itemOrd) (x := Sum.inl 0) (y := Sum.inl 1) (by intro z; cases z)).trans rfl
  | x :: xs, y :: ys, h => by
    obtain ⟨h1, h2⟩ := PySem.W.alike_all_cons h
    show _ = (if PyData.eqv x y = true then ltds xs ys else ltd x y)
    cases e : PyData.eqv x y with
    | true => rw [PySem.W.dataLt_all_yes h1 e, if_pos rfl, ltds_eq xs ys h2]
    | false => rw [PySem.W.dataLt_all_no h1 e, if_neg (by decide), ltd_eq x y h1]
end
theorem isN_ne {x : D} (h : isN x = false) : x ≠ .none := fun e => by subst e; cases h
theorem op_ltA {X : Cx} (hu : X.A.units + 60 < cLine) : OpR X (compareOp .Lt) (fun x y H Q => ∃ d e, Dp X.K H x d ∧ Dp X.K H y e ∧ alk d e = true ∧ isN d = false ∧ d.depth ≤ 60 ∧ Q (.bl (ltd d e)) H) := by
  intro pins s σ H x y v u Q I rx ry h
  obtain ⟨d, e, hd, he, ha, hn, hz, q⟩ := h
  obtain ⟨as, r1⟩ := Dp.reads I d x v hd rx
  obtain ⟨bs, r2⟩ := Dp.reads I e y u he ry
  rw [alk_eq] at ha
  have hm : min d.depth e.depth ≤ d.depth := Nat.min_le_left _ _
  exact PySem.W.rcLt_alike d e X.A s v u as bs r1 r2 ha (isN_ne hn) (by omega) X.prog X.w _ _ ⟨.bl _, H, I, by rw [ltd_eq d e ha]; rfl, q⟩
theorem op_gtA {X : Cx} (hu : X.A.units + 60 < cLine) : OpR X (compareOp .Gt) (fun x y H Q => ∃ d e, Dp X.K H x d ∧ Dp X.K H y e ∧ alk e d = true ∧ isN e = false ∧ e.depth ≤ 60 ∧ Q (.bl (ltd e d)) H) := by
  intro pins s σ H x y v u Q I rx ry h
  obtain ⟨d, e, hd, he, ha, hn, hz, q⟩ := h
  obtain ⟨as, r1⟩ := Dp.reads I d x v hd rx
  obtain ⟨bs, r2⟩ := Dp.reads I e y u he ry
  rw [alk_eq] at ha
  have hm : min d.depth e.depth ≤ e.depth := Nat.min_le_right _ _
  have ha' : PySem.W.alike d e = true := by rw [PySem.W.alike_comm]; exact ha
  exact PySem.W.rcGt_alike d e X.A s v u as bs r1 r2 ha' (fun z => by subst z; cases e <;> first | (simp [isN] at hn; done) | (simp [PySem.W.alike] at ha; done)) (by omega) X.prog X.w _ _ ⟨.bl _, H, I, by rw [ltd_eq e d ha]; rfl, q⟩
def oCp : Cp → CmpOp
  | .eq => .Eq
  | .ne => .NotEq
  | .lt => .Lt
  | .le => .LtE
  | .gt => .Gt
  | .ge => .GtE
  | .in_ => .In
  | .nin => .NotIn
section
variable {X : Cx} {ow : Option Addr} {x y d : D}
theorem lt_ok (hu : X.A.units + 100 < cLine) {b : Bool} (h : ltD x y = some b) : Serves2 X ow (compareOp .Lt) x y (.bool b) := by
  unfold ltD at h
  split at h
  · rename_i g
    cases h
    refine ⟨_, op_ltA (by omega), fun v u Hc H st Q s w rx ry q => ?_⟩
    exact ⟨x, y, (rx.dp s g.2.2.1).1, (ry.dp s g.2.2.2).1, g.1, g.2.1, gd_depth 60 x g.2.2.1, q.here s w (.bl _)⟩
  · cases h
theorem gt_ok (hu : X.A.units + 100 < cLine) {b : Bool} (h : ltD y x = some b) : Serves2 X ow (compareOp .Gt) x y (.bool b) := by
  unfold ltD at h
  split at h
  · rename_i g
    cases h
    refine ⟨_, op_gtA (by omega), fun v u Hc H st Q s w rx ry q => ?_⟩
    exact ⟨x, y, (rx.dp s g.2.2.2).1, (ry.dp s g.2.2.1).1, g.1, g.2.1, gd_depth 60 y g.2.2.1, q.here s w (.bl _)⟩
  · cases h
theorem in_ok (hu : X.A.units + 100 < cLine) {b : Bool} (h : inD x y = some b) : Serves2 X ow (compareOp .In) x y (.bool b) ∧ Serves2 X ow (compareOp .NotIn) x y (.bool (!b)) := by
  unfold inD at h
  split at h
  · split at h
    · rename_i g
      cases h
      refine ⟨⟨_, op_inD (by omega), fun v u Hc H st Q s w rx ry q => ?_⟩, ⟨_, op_notInD (by omega), fun v u Hc H st Q s w rx ry q => ?_⟩⟩
      all_goals
        obtain ⟨h1, h2⟩ := rx.dp s g.1
        obtain ⟨h3, h4⟩ := ry.dp s g.2
        exact ⟨_, _, h1, h3, h2, h4, q.here s w (.bl _)⟩
    · cases h
  · split at h
    · rename_i g
      cases h
      refine ⟨⟨_, op_inTD (by omega), fun v u Hc H st Q s w rx ry q => ?_⟩, ⟨_, op_notInTD (by omega), fun v u Hc H st Q s w rx ry q => ?_⟩⟩
      all_goals
        obtain ⟨h1, h2⟩ := rx.dp s g.1
        obtain ⟨h3, h4⟩ := ry.dp s g.2
        exact ⟨_, _, h1, h3, h2, h4, q.here s w (.bl _)⟩
    · cases h
  · rename_i a b
    split at h
    case h_2 => cases h
    rename_i c e
    cases h
    have ea : a = ⟨#[c]⟩ := by
      obtain ⟨l⟩ := a
      have e : l.toList = [c] := e
      rw [show l = #[c] from Array.ext' e]
    subst ea
    refine ⟨⟨_, op_in_sign, fun v u Hc H st Q s w rx ry q => ?_⟩, ⟨_, op_notIn_sign, fun v u Hc H st Q s w rx ry q => ?_⟩⟩
    all_goals exact ⟨_, _, rx.str.1, ry.str.1, q.here s w (.bl _)⟩
  · simp [dctD] at h
theorem cmp_ok (hu : X.A.units + 100 < cLine) {c : Cp} (h : cmpD c x y = some d) : Serves2 X ow (compareOp (oCp c)) x y d := by
  cases c with
  | eq =>
    have h : (eqD x y).map PyData.bool = some d := h
    unfold eqD at h
    split at h
    · rename_i g
      cases h
      refine ⟨_, op_eqD (by omega), fun v u Hc H st Q s w rx ry q => ?_⟩
      obtain ⟨h1, h2⟩ := rx.dp s g.1
      obtain ⟨h3, h4⟩ := ry.dp s g.2
      exact ⟨_, _, h1, h3, h2, h4, q.here s w (.bl _)⟩
    · cases h
  | ne =>
    have h : ((eqD x y).map fun k => PyData.bool (!k)) = some d := h
    unfold eqD at h
    split at h
    · rename_i g
      cases h
      refine ⟨_, op_neD (by omega), fun v u Hc H st Q s w rx ry q => ?_⟩
      obtain ⟨h1, h2⟩ := rx.dp s g.1
      obtain ⟨h3, h4⟩ := ry.dp s g.2
      exact ⟨_, _, h1, h3, h2, h4, q.here s w (.bl _)⟩
    · cases h
  | lt =>
    have h : (ltD x y).map PyData.bool = some d := h
    cases e : ltD x y with
    | none => rw [e] at h; cases h
    | some b => rw [e] at h; cases h; exact lt_ok hu e
  | gt =>
    have h : (ltD y x).map PyData.bool = some d := h
    cases e : ltD y x with
    | none => rw [e] at h; cases h
    | some b => rw [e] at h; cases h; exact gt_ok hu e
  | le =>
    unfold cmpD at h
    split at h <;> first | cases h | skip
    all_goals (first | (rename_i e; cases e) | skip)
    all_goals (first | cases h | skip)
    exact ⟨_, op_le, fun v u Hc H st Q s w rx ry q => ⟨_, _, rx.int, ry.int, q.here s w (.bl _)⟩⟩
  | ge =>
    unfold cmpD at h
    split at h <;> first | cases h | skip
    all_goals (first | (rename_i e; cases e) | skip)
    all_goals (first | cases h | skip)
    exact ⟨_, op_ge, fun v u Hc H st Q s w rx ry q => ⟨_, _, rx.int, ry.int, q.here s w (.bl _)⟩⟩
  | in_ =>
    have h : (inD x y).map PyData.bool = some d := h
    cases e : inD x y with
    | none => rw [e] at h; cases h
    | some b => rw [e] at h; cases h; exact (in_ok hu e).1
  | nin =>
    have h : ((inD x y).map fun k => PyData.bool (!k)) = some d := h
    cases e : inD x y with
    | none => rw [e] at h; cases h
    | some b => rw [e] at h; cases h; exact (in_ok hu e).2
end
end Q

set_option Elab.async false
set_option linter.all false
set_option maxRecDepth 100000
set_option maxHeartbeats 1000000
/-! L1d: subscripts, slices, built-in functions, methods. -/
namespace Q
open PySem PySem.Spec PyProof.Rows L2
/-- arguments, to be read -/
inductive RdL (K : PySem.W.Frag) (ow : Option Addr) (Hc H : Hp) : List V → List D → Prop
  | nil : RdL K ow Hc H [] []
  | cons {v : V} {d : D} {vs : List V} {ds : List D} : RepV K ow H Hc H v d .read → RdL K ow Hc H vs ds → RdL K ow Hc H (v :: vs) (d :: ds)
section
variable {K : PySem.W.Frag} {ow : Option Addr} {Hc H : Hp}
theorem RdL.one {vs : List V} {d : D} (h : RdL K ow Hc H vs [d]) : ∃ v, vs = [v] ∧ RepV K ow H Hc H v d .read := by
  cases h with
  | cons h t => cases t; exact ⟨_, rfl, h⟩
theorem RdL.two {vs : List V} {d e : D} (h : RdL K ow Hc H vs [d, e]) : ∃ v u, vs = [v, u] ∧ RepV K ow H Hc H v d .read ∧ RepV K ow H Hc H u e .read := by
  cases h with
  | cons h t => cases t with | cons h2 t => cases t; exact ⟨_, _, rfl, h, h2⟩
/-- what a result is to be: kept, or one's own -/
abbrev ResV (K : PySem.W.Frag) (ow : Option Addr) (Hc H : Hp) (d : D) (st : Ws) (k : Kd) (Q : VK) : Prop :=
  ∀ v Hc' H', Stp ow Hc H Hc' H' → WOk K Hc' H' ow st → RepV K ow H Hc' H' v d k → Q v H'
theorem ResV.keep {d : D} {st : Ws} {Q : VK} (q : ResV K ow Hc H d st .keep Q) : Res K ow Hc H d st Q := q
theorem ResV.ownL {xs : List V} {ds : List D} {st : Ws} {Q : VK} (q : ResV K ow Hc H (.list ds) st .own Q) (s : Sm Hc H) (w : WOk K Hc H ow st) (r : RepL K ow Hc xs ds) {p : Addr} (h : H p = none) : Q (.ref p) (upd H p (.lst xs)) := by
  refine q _ Hc _ (.open s h) (w.open h) ⟨p, rfl, .lst upd_same r (s.non h) fun e => ?_, h⟩
  exact w.there _ e h
theorem intsD_of : ∀ {vs : List V} {ds : List D} {ns : List Int}, RepL K ow H vs ds → intsD ds = some ns → vs = ns.map V.int
  | _, [], ns, .nil, e => by cases e; rfl
  | _, d :: ds, ns, .cons h r, e => by
    cases d <;> first | (simp [intsD] at e; done) | skip
    rename_i i
    cases h
    cases e2 : intsD ds with
    | none => simp [intsD, e2] at e
    | some l =>
      simp [intsD, e2] at e
      subst e
      rw [List.map_cons, intsD_of r e2]
theorem boolsD_of : ∀ {vs : List V} {ds : List D} {ns : List Bool}, RepL K ow H vs ds → boolsD ds = some ns → vs = ns.map V.bl
  | _, [], ns, .nil, e => by cases e; rfl
  | _, d :: ds, ns, .cons h r, e => by
    cases d <;> first | (simp [boolsD] at e; done) | skip
    rename_i i
    cases h
    cases e2 : boolsD ds with
    | none => simp [boolsD, e2] at e
    | some l =>
      simp [boolsD, e2] at e
      subst e
      rw [List.map_cons, boolsD_of r e2]
theorem strsD_of : ∀ {vs : List V} {ds : List D} {ns : List Str}, RepL K ow H vs ds → strsD ds = some ns → vs = ns.map V.str ∧ ∀ x ∈ ns, okS x = true
  | _, [], ns, .nil, e => by cases e; exact ⟨rfl, fun x h => by cases h⟩
  | _, d :: ds, ns, .cons h r, e => by
    cases d <;> first | (simp [strsD] at e; done) | skip
    rename_i i
    cases h with
    | str hok =>
      cases e2 : strsD ds with
      | none => simp [strsD, e2] at e
      | some l =>
        simp [strsD, e2] at e
        subst e
        obtain ⟨h1, h2⟩ := strsD_of r e2
        refine ⟨by rw [List.map_cons, h1], fun x hx => ?_⟩
        rcases List.mem_cons.mp hx with rfl | hx
        · exact hok
        · exact h2 x hx
theorem repL_ints (ns : List Int) : RepL K ow H (ns.map V.int) (ns.map .int) := by
  induction ns with
  | nil => exact .nil
  | cons n ns ih => exact .cons (.int n) ih
end
section
variable {K : PySem.W.Frag} {ow : Option Addr} {H : Hp}
theorem RepK.nn : ∀ {kvs : List (L2.Key × V)} {ps : List (D × D)}, RepK K ow H kvs ps → ∀ p ∈ ps, p.1 ≠ .none
  | _, _, .nil, p, h => by cases h
  | _, _, .cons (k := k) _ _ r, p, h => by
    rcases List.mem_cons.mp h with rfl | h
    · cases k <;> exact fun z => nomatch z
    · exact r.nn p h
theorem RepT.nn : ∀ {kvs : List (List L2.Key × V)} {ps : List (D × D)}, RepT K ow H kvs ps → ∀ p ∈ ps, p.1 ≠ .none
  | _, _, .nil, p, h => by cases h
  | _, _, .cons (k := k) _ _ r, p, h => by
    rcases List.mem_cons.mp h with rfl | h
    · exact fun z => nomatch z
    · exact r.nn p h
theorem Rep.stW {v : V} {d : D} (h : Rep K ow H v d) (e : d = W) : ∃ a, v = .ref a ∧ ow = some a := by
  cases h with
  | st h => exact ⟨_, rfl, h⟩
  | dct _ r => cases e; exact absurd rfl (r.nn _ List.mem_cons_self)
  | dctT _ r => cases e; exact absurd rfl (r.nn _ List.mem_cons_self)
  | scr _ => cases e
  | _ => cases e
theorem Rep.scrF {v : V} {d : D} {xs : List D} (h : Rep K ow H v d) (e : d = .dict [(.none, .list xs), (.none, .none)]) : ∃ (a : Addr) (ns : List Int), v = .ref a ∧ xs = ns.map PyData.int ∧ SqL K H a (ns.map V.int) := by
  cases h with
  | scr h => cases e; exact ⟨_, _, rfl, rfl, h⟩
  | dct _ r => cases e; exact absurd rfl (r.nn _ List.mem_cons_self)
  | dctT _ r => cases e; exact absurd rfl (r.nn _ List.mem_cons_self)
  | st _ => cases e
  | _ => cases e
theorem RepV.nn {H0 Hc : Hp} {v : V} {d e : D} {ps : List (D × D)} {k : Kd} (h : RepV K ow H0 Hc H v (.dict ((.none, d) :: ps)) k) : Rep K ow Hc v (.dict ((.none, d) :: ps)) := by
  have opn : ∀ a, Open K ow Hc H a (.dict ((.none, d) :: ps)) → False := fun a o => by
    cases o with
    | dct _ r _ _ => exact absurd rfl (r.nn _ List.mem_cons_self)
    | dctT _ r _ _ => exact absurd rfl (r.nn _ List.mem_cons_self)
  cases k with
  | keep => exact h
  | read =>
    rcases (show Rep K ow Hc v _ ∨ _ from h) with hh | ⟨a, _, hh⟩
    · exact hh
    · exact (opn a hh).elim
  | own =>
    obtain ⟨a, _, hh, _⟩ := h
    exact (opn a hh).elim
end
/-! ### subscripts -/
theorem atL_of {K : PySem.W.Frag} {ow : Option Addr} {H : Hp} {vs : List V} {ds : List D} {i : Int} {d : D} (r : RepL K ow H vs ds) (h : atL ds i = some d) : ∃ v, atI vs i = some v ∧ Rep K ow H v d := by
  have hl := r.length
  unfold atL at h
  by_cases h0 : 0 ≤ i
  · rw [if_pos h0] at h
    obtain ⟨v, h1, h2⟩ := r.get h
    refine ⟨v, ?_, h2⟩
    have := atI_nat h1
    rwa [Int.toNat_of_nonneg h0] at this
  · rw [if_neg h0] at h
    by_cases h1 : -(ds.length : Int) ≤ i
    · rw [if_pos h1] at h
      obtain ⟨v, h2, h3⟩ := r.get h
      refine ⟨v, ?_, h3⟩
      have e : ixN vs.length i = some (i + ds.length).toNat := by
        unfold ixN
        rw [hl, if_neg h0, if_pos h1]
      unfold atI
      rw [e]
      exact h2
    · rw [if_neg h1] at h; cases h
theorem atL_plain {α : Type} {xs : List α} {i : Int} {c : α} (h : atL xs i = some c) : atI xs i = some c := by
  unfold atL at h
  unfold atI ixN
  by_cases h0 : 0 ≤ i
  · rw [if_pos h0] at h
    have hj := (List.getElem?_eq_some_iff.mp h).1
    rw [if_pos h0, if_pos (by omega)]
    exact h
  · rw [if_neg h0] at h
    rw [if_neg h0]
    by_cases h1 : -(xs.length : Int) ≤ i
    · rw [if_pos h1] at h
      rw [if_pos h1]
      exact h
    · rw [if_neg h1] at h; cases h
theorem atL_mem {α : Type} {xs : List α} {i : Int} {c : α} (h : atL xs i = some c) : c ∈ xs := by
  unfold atL at h
  split at h
  · exact List.mem_of_getElem? h
  · split at h
    · exact List.mem_of_getElem? h
    · cases h
def noSlE : Expr → Bool
  | .Slice .. => false
  | _ => true
theorem plainIx {b : Expr} (h : noSlE b = true) : PlainIx b := fun _ _ => by cases b <;> first | rfl | cases h
theorem noSl {b : Expr} (h : noSlE b = true) : NoSl b := fun _ _ => by cases b <;> first | rfl | cases h
/-- a[b], by a rule -/
def IxRule (X : Cx) (r : R2) : Prop := ∀ (a b : Expr) (pos : Pos) (ta tb : TE), PE X a ta → PE X b tb → noSlE b = true → PE X (.Subscript a b pos) (tOp r ta tb)
theorem ixRule_of {X : Cx} {r : R2} (h : IxR X r) : IxRule X r := fun _ _ _ _ _ ha hb hs => pe_ix h ha hb (plainIx hs)
theorem str_at : (S [97, 116] : Str) = Str.ofString "at" := by decide +kernel
theorem str_draws : (S [100, 114, 97, 119, 115] : Str) = Str.ofString "draws" := by decide +kernel
theorem idx_ok {X : Cx} {ow : Option Addr} {x y d : D} {st : Ws} (hu : X.A.units + 100 < cLine) (h : idxD x y st = some d) :
    ∃ r : R2, IxRule X r ∧ ∀ (v u : V) (Hc H : Hp) (Q : VK), Sm Hc H → WOk X.K Hc H ow st → RepV X.K ow H Hc H v x .read → RepV X.K ow H Hc H u y .read → Res X.K ow Hc H d st Q → r v u H Q := by
  unfold idxD at h
  split at h
  · refine ⟨_, ixRule_of ix_list, fun v u Hc H Q s w rx ry q => ?_⟩
    obtain ⟨a, xs, rfl, ha, ra⟩ := rx.lst s
    obtain ⟨z, h1, h2⟩ := atL_of ra h
    exact ⟨a, xs, _, z, rfl, ry.int, .inl (.inl ha), h1, q.here s w h2⟩
  · refine ⟨_, ixRule_of ix_tup, fun v u Hc H Q s w rx ry q => ?_⟩
    obtain ⟨a, xs, rfl, ha, _, ra⟩ := rx.tup s
    obtain ⟨z, h1, h2⟩ := atL_of ra h
    exact ⟨a, xs, _, z, rfl, ry.int, ha, h1, q.here s w h2⟩
  · rename_i x i
    cases e : atL x.cps.toList i with
    | none => rw [e] at h; cases h
    | some c =>
      rw [e] at h
      cases h
      refine ⟨_, ixRule_of ix_str, fun v u Hc H Q s w rx ry q => ?_⟩
      obtain ⟨e1, k1⟩ := rx.str
      refine ⟨_, _, c, e1, ry.int, okS_len k1, atL_plain e, q.here s w (.str (okS_S (fun z hz => ?_) (by show 1 ≤ strMax; decide)))⟩
      have : z = c := by simpa using hz
      subst this
      exact (okS_iff.mp k1).1 _ (atL_mem e)
  · rename_i k ns n
    refine ⟨fun x y H2 Q => ∃ a v, x = .ref a ∧ DGet H2 a y (some v) ∧ Q v H2, fun a b pos ta tb ha hb hs => pe_dget (by omega) ha hb (noSl hs), fun v u Hc H Q s w rx ry q => ?_⟩
    have hw : ∃ a, v = .ref a ∧ ow = some a := (RepV.nn (e := .none) rx).stW rfl
    obtain ⟨a, rfl, e⟩ := hw
    subst e
    obtain ⟨al, w1, w2, w3⟩ := w
    obtain ⟨e1, k1⟩ := ry.str
    subst e1
    split at h
    · rename_i ek
      cases h
      subst ek
      refine ⟨a, .int n, rfl, ?_, q.here s ⟨al, w1, w2, w3⟩ (.int _)⟩
      have g := DGet.k (k := Sum.inr (Str.ofString "at")) w1
      rw [str_at]
      exact g
    · split at h
      · rename_i ek
        cases h
        subst ek
        refine ⟨a, .ref al, rfl, ?_, q.here s ⟨al, w1, w2, w3⟩ ?_⟩
        · have g := DGet.k (k := Sum.inr (Str.ofString "draws")) w1
          rw [str_draws]
          exact g
        · exact .lst w3 (repL_ints ns)
      · cases h
  · rename_i xs i
    split at h
    case isFalse => cases h
    rename_i h0
    refine ⟨_, ixRule_of ix_list, fun v u Hc H Q s w rx ry q => ?_⟩
    obtain ⟨a, ns, rfl, rfl, hs⟩ := (RepV.nn (e := .none) rx).scrF rfl
    have hd : ∃ n, ns[i.toNat]? = some n ∧ d = .int n := by
      rw [List.getElem?_map] at h
      cases e : ns[i.toNat]? with
      | none => rw [e] at h; cases h
      | some n => rw [e] at h; cases h; exact ⟨n, rfl, rfl⟩
    obtain ⟨n, h1, rfl⟩ := hd
    refine ⟨a, _, i, .int n, rfl, ry.int, s.sqL hs, ?_, q.here s w (.int n)⟩
    have := atI_nat (xs := ns.map V.int) (j := i.toNat) (v := .int n) (by rw [List.getElem?_map, h1]; rfl)
    rwa [Int.toNat_of_nonneg h0] at this
  · cases h
/-! ### slices -/
theorem cutB_eq : ∀ (n d : Nat) (i : Option Int), cutB n d i = HT.sIx n d i
  | _, _, none => rfl
  | _, _, some _ => rfl
theorem slcL_le {α : Type} (xs : List α) (lo hi : Option Int) : (slcL xs lo hi).length ≤ xs.length := by
  unfold slcL
  rw [List.length_take, List.length_drop]
  omega
theorem slcL_mem {α : Type} {xs : List α} {lo hi : Option Int} {c : α} (h : c ∈ slcL xs lo hi) : c ∈ xs := List.mem_of_mem_drop (List.mem_of_mem_take h)
theorem slcL_rep {K : PySem.W.Frag} {ow : Option Addr} {H : Hp} {vs : List V} {ds : List D} (r : RepL K ow H vs ds) (lo hi : Option Int) : RepL K ow H (cutV vs lo hi) (slcL ds lo hi) := by
  unfold cutV slcL
  rw [cutB_eq, cutB_eq, r.length]
  exact (r.drop _).take _
theorem slc_ok {X : Cx} {ow : Option Addr} {x d : D} {lo hi : Option Int} (h : slcD x lo hi = some d) :
    ∃ r : V → Option Int → Option Int → Hp → VK → Prop, SlR X r ∧ ∀ (v : V) (Hc H : Hp) (st : Ws) (Q : VK), Sm Hc H → WOk X.K Hc H ow st → RepV X.K ow H Hc H v x .read → Res X.K ow Hc H d st Q → r v lo hi H Q := by
  unfold slcD at h
  split at h
  · cases h
    refine ⟨_, sl_list, fun v Hc H st Q s w rx q => ?_⟩
    obtain ⟨a, xs, rfl, ha, ra⟩ := rx.lst s
    exact ⟨a, xs, rfl, .inl (.inl ha), fun p hp => q.newL s w (slcL_rep ra lo hi) hp⟩
  · rename_i xs0
    cases h
    refine ⟨_, sl_tupA, fun v Hc H st Q s w rx q => ?_⟩
    obtain ⟨a, xs, rfl, ha, hc, ra⟩ := rx.tup s
    refine ⟨a, xs, rfl, ha, fun e => ?_, fun _ p hp => q.newT s w (slcL_rep ra lo hi) hp⟩
    have e2 : slcL xs0 lo hi = xs0 := by
      unfold slcL
      rw [cutB_eq, cutB_eq, ← ra.length, e.1, e.2]
      simp [ra.length]
    rw [e2] at q
    exact q.here s w (.tup hc ra)
  · rename_i z0
    cases h
    refine ⟨_, sl_str, fun v Hc H st Q s w rx q => ?_⟩
    obtain ⟨e1, k1⟩ := rx.str
    refine ⟨_, e1, okS_len k1, ?_⟩
    have e2 : cutS z0 lo hi = S (slcL z0.cps.toList lo hi) := by
      unfold cutS slcL
      rw [cutB_eq, cutB_eq, Array.length_toList]
      rfl
    rw [e2]
    refine q.here s w (.str (okS_S (fun c hc => (okS_iff.mp k1).1 c (slcL_mem hc)) ?_))
    exact Nat.le_trans (slcL_le _ _ _) (by rw [Array.length_toList]; exact (okS_iff.mp k1).2)
  · cases h
/-! ### built-in functions -/
/-- r serves the call f(ds) and gives d, held so -/
abbrev ServesC (X : Cx) (ow : Option Addr) (f : Value) (ds : List D) (d : D) (k : Kd) : Prop :=
  ∃ r, CallR X f r ∧ ∀ (vs : List V) (Hc H : Hp) (st : Ws) (Q : VK), Sm Hc H → WOk X.K Hc H ow st → RdL X.K ow Hc H vs ds → ResV X.K ow Hc H d st k Q → r vs H Q
inductive BlV | fn (id : String) | ty (n : String)
def BlV.val : BlV → Value
  | .fn id => .builtin id
  | .ty n => .type n
def tyN : Ty → String
  | .bool => "bool"
  | .int => "int"
  | .str => "str"
  | .tuple => "tuple"
  | .dict => "dict"
/-- the built-in name, and what it is -/
def blV : Bl → Option (String × BlV)
  | .len => some ("len", .fn "len")
  | .abs => some ("abs", .fn "abs")
  | .int => some ("int", .ty "int")
  | .sum => some ("sum", .fn "sum")
  | .all => some ("all", .fn "all")
  | .any => some ("any", .fn "any")
  | .tuple => some ("tuple", .ty "tuple")
  | .list => some ("list", .ty "list")
  | .sorted => some ("sorted", .fn "sorted")
  | .max1 => some ("max", .fn "max")
  | .max2 => some ("max", .fn "max")
  | .min1 => some ("min", .fn "min")
  | .min2 => some ("min", .fn "min")
  | .str => some ("str", .ty "str")
  | _ => none
section
variable {X : Cx} {ow : Option Addr} {d : D}
theorem allAlk_of {xs : List D} (h : allAlk xs = true) : PySem.W.AlikeAll xs ∧ ∀ x ∈ xs, gd 60 x = true := by
  unfold allAlk at h
  rw [List.all_eq_true] at h
  refine ⟨⟨fun x hx y hy => ?_, fun x hx => ?_⟩, fun x hx => ?_⟩
  · have := h x hx
    simp only [Bool.and_eq_true, List.all_eq_true] at this
    rw [← alk_eq]
    exact this.2 y hy
  · have := h x hx
    simp only [Bool.and_eq_true, List.all_eq_true, Bool.not_eq_true'] at this
    exact isN_ne this.1.1
  · have := h x hx
    simp only [Bool.and_eq_true] at this
    exact this.1.2
theorem dpAll_of {K : PySem.W.Frag} {Hc H : Hp} {vs : List V} {ds : List D} (s : Sm Hc H) (r : RepL K ow Hc vs ds) (h : ∀ x ∈ ds, gd 60 x = true) : DpAll K H vs ds ∧ PyData.depthAll ds ≤ 60 :=
  ⟨(RepL.dp s 60 r h).1, gd_depthAll 60 ds h⟩
theorem fold_in {f : D → D → Bool} : ∀ (r : List D) (x : D), r.foldl (fun a y => if f a y = true then y else a) x ∈ x :: r
  | [], x => List.mem_cons_self
  | y :: r, x => by
    rw [List.foldl_cons]
    have := fold_in (f := f) r (if f x y = true then y else x)
    rcases List.mem_cons.mp this with e | e
    · rw [e]
      split
      · exact List.mem_cons_of_mem _ List.mem_cons_self
      · exact List.mem_cons_self
    · exact List.mem_cons_of_mem _ (List.mem_cons_of_mem _ e)
theorem fold_congr {f g : D → D → Bool} (P : D → Prop) (hfg : ∀ a b, P a → P b → f a b = g a b) : ∀ (r : List D) (x : D), P x → (∀ y ∈ r, P y) → r.foldl (fun a y => if f a y = true then y else a) x = r.foldl (fun a y => if g a y = true then y else a) x
  | [], x, _, _ => rfl
  | y :: r, x, hx, h => by
    rw [List.foldl_cons, List.foldl_cons, hfg x y hx (h y List.mem_cons_self)]
    refine fold_congr P hfg r _ ?_ fun z hz => h z (List.mem_cons_of_mem _ hz)
    split
    · exact h y List.mem_cons_self
    · exact hx
/-- min, max of a list or a tuple: the value at its place -/
theorem best_at {K : PySem.W.Frag} {pins : List (Addr × Obj)} {s : Shared} {σ : L2.St} {Hc H : Hp} {vs : List V} {its : List Value} {x : D} {xs : List D} {m : D} {i : Nat} {v : Value} {h' : Heap} {bs : List Addr} (I : Inv X pins σ H s) (sm : Sm Hc H) (rl : RepL X.K ow Hc vs (x :: xs)) (rv : Vals vs its)
    (ha : PySem.W.AlikeAll (x :: xs)) (hg : ∀ y ∈ x :: xs, gd 60 y = true) (hm : m ∈ x :: xs) (hv : its[i]? = some v) (rd : Reads h' v m bs) (hk : ∀ b o, s.heap.get? b = some o → h'.get? b = some o) : ∃ z, RelV z v ∧ Rep X.K ow Hc z m := by
  have hi : i < its.length := (List.getElem?_eq_some_iff.mp hv).1
  have hl := rv.length
  obtain ⟨d, hd, rd2⟩ := rl.get' (i := i) (v := vs[i]'(by omega)) (by simp [show i < vs.length by omega])
  obtain ⟨u, hu, ru⟩ := rv.get (i := i) (x := vs[i]'(by omega)) (by simp [show i < vs.length by omega])
  rw [hv] at hu
  cases hu
  have hdm : d ∈ x :: xs := List.mem_of_getElem? hd
  obtain ⟨as, q⟩ := Dp.reads I d _ v (Rep.dp sm 60 rd2 (hg d hdm)).1 ru
  have q' : Reads h' v d as := PyProof.Rows.Reads.keeps hk q
  have e := PySem.W.alike_unique d m v as bs (ha.1 d hdm m hm) q' rd
  subst e
  exact ⟨_, ru, rd2⟩
def rBest (K : PySem.W.Frag) (ow : Option Addr) (x : D) (xs : List D) (m : D) : List V → Hp → VK → Prop := fun ws H Q => ∃ (a : Addr) (vs : List V) (Hc : Hp), ws = [.ref a] ∧ (SqL K H a vs ∨ SqT K H a vs) ∧ Sm Hc H ∧ RepL K ow Hc vs (x :: xs) ∧ ∀ z, Rep K ow Hc z m → Q z H
theorem cr_maxA (hc : X.calm = true) (hu : X.A.units + 100 < cLine) {x : D} {xs : List D} (ha : allAlk (x :: xs) = true) : CallR X (.builtin "max") (rBest X.K ow x xs (xs.foldl (fun a y => if ltd a y = true then y else a) x)) := by
  intro pins s σ H ws us Q I r h
  obtain ⟨a, vs, Hc, rfl, hs, sm, rl, q⟩ := h
  obtain ⟨u, rfl, ru⟩ := vals1 r
  obtain rfl : u = Value.ref a := ru
  obtain ⟨hal, hg⟩ := allAlk_of ha
  obtain ⟨hdp, hdep⟩ := dpAll_of sm rl hg
  have e : PySem.W.maxD x xs = xs.foldl (fun a y => if ltd a y = true then y else a) x :=
    fold_congr (fun y => y ∈ x :: xs) (fun a b h1 h2 => ltd_eq a b (hal.1 a h1 b h2)) xs x List.mem_cons_self fun y hy => List.mem_cons_of_mem _ hy
  have hm := fold_in (f := fun a y => ltd a y) xs x
  rcases hs with hs | hs
  · obtain ⟨its, rv, hl, _⟩ := I.list hs
    obtain ⟨as, ra⟩ := Dp.readsAll I _ _ _ hdp rv
    refine PySem.W.max_list_data (I.ok.hd hc) hl.isList (by simpa using ra) hal (by omega) fun i v h' tk bs hv rd hk => ?_
    rw [e] at rd
    obtain ⟨z, rz, qz⟩ := best_at (K := X.K) I sm rl rv hal hg hm (by simpa using hv) rd hk
    exact ⟨z, H, I.kept (t' := tk) hk, rz, q z qz⟩
  · obtain ⟨its, rv, ⟨o, h1, h2, n, h3⟩, _⟩ := I.tuple hs
    obtain ⟨as, ra⟩ := Dp.readsAll I _ _ _ hdp rv
    refine PySem.W.max_tuple_data (I.ok.hd hc) ⟨o, h1, h2, n, h3⟩ (by simpa using ra) hal (by omega) fun i v h' tk bs hv rd hk => ?_
    rw [e] at rd
    obtain ⟨z, rz, qz⟩ := best_at (K := X.K) I sm rl rv hal hg hm (by simpa using hv) rd hk
    exact ⟨z, H, I.kept (t' := tk) hk, rz, q z qz⟩
theorem cr_minA (hc : X.calm = true) (hu : X.A.units + 100 < cLine) {x : D} {xs : List D} (ha : allAlk (x :: xs) = true) : CallR X (.builtin "min") (rBest X.K ow x xs (xs.foldl (fun a y => if ltd y a = true then y else a) x)) := by
  intro pins s σ H ws us Q I r h
  obtain ⟨a, vs, Hc, rfl, hs, sm, rl, q⟩ := h
  obtain ⟨u, rfl, ru⟩ := vals1 r
  obtain rfl : u = Value.ref a := ru
  obtain ⟨hal, hg⟩ := allAlk_of ha
  obtain ⟨hdp, hdep⟩ := dpAll_of sm rl hg
  have e : PySem.W.minD x xs = xs.foldl (fun a y => if ltd y a = true then y else a) x :=
    fold_congr (f := fun a y => PySem.W.dataLt y a) (g := fun a y => ltd y a) (fun y => y ∈ x :: xs) (fun a b h1 h2 => ltd_eq b a (hal.1 b h2 a h1)) xs x List.mem_cons_self fun y hy => List.mem_cons_of_mem _ hy
  have hm := fold_in (f := fun a y => ltd y a) xs x
  rcases hs with hs | hs
  · obtain ⟨its, rv, hl, _⟩ := I.list hs
    obtain ⟨as, ra⟩ := Dp.readsAll I _ _ _ hdp rv
    refine PySem.W.min_list_data (I.ok.hd hc) hl.isList (by simpa using ra) hal (by omega) fun i v h' tk bs hv rd hk => ?_
    rw [e] at rd
    obtain ⟨z, rz, qz⟩ := best_at (K := X.K) I sm rl rv hal hg hm (by simpa using hv) rd hk
    exact ⟨z, H, I.kept (t' := tk) hk, rz, q z qz⟩
  · obtain ⟨its, rv, ⟨o, h1, h2, n, h3⟩, _⟩ := I.tuple hs
    obtain ⟨as, ra⟩ := Dp.readsAll I _ _ _ hdp rv
    refine PySem.W.min_tuple_data (I.ok.hd hc) ⟨o, h1, h2, n, h3⟩ (by simpa using ra) hal (by omega) fun i v h' tk bs hv rd hk => ?_
    rw [e] at rd
    obtain ⟨z, rz, qz⟩ := best_at (K := X.K) I sm rl rv hal hg hm (by simpa using hv) rd hk
    exact ⟨z, H, I.kept (t' := tk) hk, rz, q z qz⟩
end
end Q

set_option Elab.async false
set_option linter.all false
set_option maxRecDepth 100000
set_option maxHeartbeats 1000000
/-! L1e: built-in functions, methods. -/
namespace Q
open PySem PySem.Spec PyProof.Rows L2
section
variable {X : Cx} {ow : Option Addr}
theorem repL_zip {K : PySem.W.Frag} {H : Hp} : ∀ {vs : List V} {ds : List D}, RepL K ow H vs ds → (∀ p ∈ vs.zip ds, Rep K ow H p.1 p.2) ∧ (vs.zip ds).map (·.2) = ds ∧ (vs.zip ds).map (·.1) = vs
  | _, _, .nil => ⟨fun p h => by simp at h, rfl, rfl⟩
  | _, _, .cons h r => by
    have ih := repL_zip r
    refine ⟨fun p hp => ?_, by simp [ih.2.1], by simp [ih.2.2]⟩
    rcases List.mem_cons.mp (by simpa using hp) with e | e
    · rw [e]; exact h
    · exact ih.1 p e
theorem repL_of {K : PySem.W.Frag} {H : Hp} : ∀ {ps : List (V × D)}, (∀ p ∈ ps, Rep K ow H p.1 p.2) → RepL K ow H (ps.map (·.1)) (ps.map (·.2))
  | [], _ => .nil
  | p :: ps, h => .cons (h p List.mem_cons_self) (repL_of fun q hq => h q (List.mem_cons_of_mem _ hq))
theorem sortable_of {xs : List D} (h : allAlk xs = true) (h2 : xs.all isTp = true ∨ xs.all (fun x => !isTu x) = true) : PySem.W.Sortable xs := by
  rcases h2 with h2 | h2
  · refine .inl fun d hd => ?_
    have := List.all_eq_true.mp h2 d hd
    unfold isTp at this
    split at this
    · exact ⟨_, _, rfl⟩
    · cases this
  · refine .inr fun d hd => ⟨(allAlk_of h).1.2 d hd, fun ys e => ?_⟩
    have := List.all_eq_true.mp h2 d hd
    subst e
    simp [isTu] at this
theorem each_vals {vs : List V} {its : List Value} (rv : Vals vs its) : ∀ {ds : List D}, vs.length = ds.length → PySem.W.EachIs (fun v (b : V × D) => RelV b.1 v) its (vs.zip ds) := by
  induction rv with
  | nil => intro ds _; exact .nil
  | cons r _ ih =>
    intro ds h
    cases ds with
    | nil => simp at h
    | cons d ds => exact .cons r (ih (by simpa using h))
theorem vals_each : ∀ {ps : List (V × D)} {its : List Value}, PySem.W.EachIs (fun v (b : V × D) => RelV b.1 v) its ps → Vals (ps.map (·.1)) its
  | _, _, .nil => .nil
  | _, _, .cons h t => .cons h (vals_each t)
theorem each_readsD {h : Heap} {vs : List V} : ∀ {ds : List D} {its : List Value} {as : List Addr}, vs.length = ds.length → ReadsAll h its ds as → PySem.W.EachIs (fun v (b : V × D) => ∃ as, Reads h v b.2 as) its (vs.zip ds) := by
  induction vs with
  | nil =>
    intro ds its as e r
    cases ds with
    | nil => cases r; exact .nil
    | cons d ds => simp at e
  | cons v vs ih =>
    intro ds its as e r
    cases ds with
    | nil => simp at e
    | cons d ds =>
      cases r with
      | cons h1 h2 => exact .cons ⟨_, h1⟩ (ih (by simpa using e) h2)
def rSortA (K : PySem.W.Frag) (ow : Option Addr) (ds : List D) : List V → Hp → VK → Prop := fun ws H Q => ∃ (a : Addr) (vs : List V) (Hc : Hp), ws = [.ref a] ∧ SqL K H a vs ∧ Sm Hc H ∧ RepL K ow Hc vs ds ∧
  ∀ ys p, RepL K ow Hc ys (ds.mergeSort fun a b => !ltd b a) → H p = none → Q (.ref p) (upd H p (.lst ys))
theorem cr_sortA (hu : X.A.units + 100 < cLine) {ds : List D} (ha : allAlk ds = true) (hk : ds.all isTp = true ∨ ds.all (fun x => !isTu x) = true) : CallR X (.builtin "sorted") (rSortA X.K ow ds) := by
  intro pins s σ H ws us Q I r h
  obtain ⟨a, vs, Hc, rfl, hs, sm, rl, q⟩ := h
  obtain ⟨u, rfl, ru⟩ := vals1 r
  obtain rfl : u = Value.ref a := ru
  obtain ⟨hal, hg⟩ := allAlk_of ha
  obtain ⟨hdp, hdep⟩ := dpAll_of sm rl hg
  obtain ⟨its, rv, hl, hz⟩ := I.list hs
  obtain ⟨as, ra⟩ := Dp.readsAll I _ _ _ hdp rv
  have hl2 := rl.length
  obtain ⟨z1, z2, z3⟩ := repL_zip rl
  refine PySem.W.sorted_data (β := V × D) (R := fun v b => RelV b.1 v) (enc := fun b => b.2) (bs := vs.zip ds) hl.isList (each_vals rv hl2) (each_readsD hl2 ra) ?_ ?_ ?_ (fun b hb => ?_) fun out hlen hout => ?_
  · rw [z2]; exact hal.1
  · rw [z2]; exact sortable_of ha hk
  · rw [List.length_zip, ← hl2, Nat.min_self]; exact hz
  · have hb2 : b.2 ∈ ds := by rw [← z2]; exact List.mem_map.mpr ⟨b, hb, rfl⟩
    have := gd_depth 60 _ (hg _ hb2)
    omega
  · obtain ⟨ep, he⟩ := PyProof.Rows.sortedAll_at s.heap its out.toArray
    have hperm := List.mergeSort_perm (vs.zip ds) (PySem.W.dataLe false fun b : V × D => b.2)
    have hy : RepL X.K ow Hc (((vs.zip ds).mergeSort (PySem.W.dataLe false fun b : V × D => b.2)).map (·.1)) (((vs.zip ds).mergeSort (PySem.W.dataLe false fun b : V × D => b.2)).map (·.2)) :=
      repL_of fun p hp => z1 p (hperm.mem_iff.mp hp)
    have e2 : ((vs.zip ds).mergeSort (PySem.W.dataLe false fun b : V × D => b.2)).map (·.2) = ds.mergeSort fun a b => !ltd b a := by
      rw [List.map_mergeSort (s := fun a b => !ltd b a), z2]
      intro p hp r' hr
      have hp2 : p.2 ∈ ds := by rw [← z2]; exact List.mem_map.mpr ⟨p, hp, rfl⟩
      have hr2 : r'.2 ∈ ds := by rw [← z2]; exact List.mem_map.mpr ⟨r', hr, rfl⟩
      show (!PySem.W.dataLt r'.2 p.2) = (!ltd r'.2 p.2)
      rw [ltd_eq _ _ (hal.1 _ hr2 _ hp2)]
    rw [e2] at hy
    have hyl : (((vs.zip ds).mergeSort (PySem.W.dataLe false fun b : V × D => b.2)).map (·.1)).length ≤ sizeLine := by
      rw [List.length_map, List.length_mergeSort, List.length_zip, ← hl2, Nat.min_self]; exact hz
    exact ⟨.ref _, upd H (s.heap.objs.size + 1) (.lst _), I.laid (t' := s.toks) (fun _ _ => PyProof.Rows.sortedAll_old) (Nat.le_succ _) ⟨hyl, out, ep, vals_each hout, he⟩, rfl, q _ _ hy (I.hok.fresh (Nat.le_succ _))⟩
theorem bl_ok (hc : X.calm = true) (hu : X.A.units + 100 < cLine) {b : Bl} {n : String} {f : BlV} {ds : List D} {d : D} (hb : blV b = some (n, f)) (h : blD b ds = some d) : ServesC X ow f.val ds d .keep := by
  unfold blD at h
  split at h
  all_goals (first | (cases h; done) | skip)
  all_goals (simp only [blV, Option.some.injEq, Prod.mk.injEq] at hb)
  all_goals (first | (cases hb; done) | skip)
  all_goals (obtain ⟨rfl, rfl⟩ := hb)
  · -- len
    rename_i a
    unfold lenD at h
    split at h
    · cases h
      refine ⟨_, call_len_seq, fun vs Hc H st Q s w r0 q => ?_⟩
      obtain ⟨v, rfl, r⟩ := r0.one
      obtain ⟨p, xs, rfl, ha, ra⟩ := r.lst s
      refine ⟨p, xs, rfl, .inl (.inl (.inl ha)), ?_⟩
      rw [ra.length]
      exact q.keep.here s w (.int _)
    · cases h
      refine ⟨_, call_len_seq, fun vs Hc H st Q s w r0 q => ?_⟩
      obtain ⟨v, rfl, r⟩ := r0.one
      obtain ⟨p, xs, rfl, ha, _, ra⟩ := r.tup s
      refine ⟨p, xs, rfl, .inr ha, ?_⟩
      rw [ra.length]
      exact q.keep.here s w (.int _)
    · cases h
      refine ⟨_, call_len_str, fun vs Hc H st Q s w r0 q => ?_⟩
      obtain ⟨v, rfl, r⟩ := r0.one
      obtain ⟨rfl, k⟩ := r.str
      exact ⟨_, rfl, okS_len k, q.keep.here s w (.int _)⟩
    · cases h
      refine ⟨_, call_len_seq, fun vs Hc H st Q s w r0 q => ?_⟩
      obtain ⟨v, rfl, r⟩ := r0.one
      obtain ⟨p, ns, rfl, rfl, hs⟩ := (RepV.nn (e := .none) r).scrF rfl
      refine ⟨p, _, rfl, .inl (s.sqL hs), ?_⟩
      have e : (ns.map V.int).length = (ns.map PyData.int).length := by simp
      rw [e]
      exact q.keep.here s w (.int _)
    · cases h
  · cases h
    refine ⟨_, call_abs, fun vs Hc H st Q s w r0 q => ?_⟩
    obtain ⟨v, rfl, r⟩ := r0.one
    obtain rfl := r.int
    exact ⟨_, rfl, q.keep.here s w (.int _)⟩
  · cases h
    refine ⟨_, call_int1, fun vs Hc H st Q s w r0 q => ?_⟩
    obtain ⟨v, rfl, r⟩ := r0.one
    obtain rfl := r.int
    exact .inl ⟨_, rfl, q.keep.here s w (.int _)⟩
  · cases h
    refine ⟨_, call_int1, fun vs Hc H st Q s w r0 q => ?_⟩
    obtain ⟨v, rfl, r⟩ := r0.one
    obtain rfl := r.bl
    exact .inr ⟨_, rfl, q.keep.here s w (.int _)⟩
  · rename_i xs
    cases e : intsD xs with
    | none => rw [e] at h; cases h
    | some ns =>
      rw [e] at h
      cases h
      refine ⟨_, cr_sum hc, fun vs Hc H st Q s w r0 q => ?_⟩
      obtain ⟨v, rfl, r⟩ := r0.one
      obtain ⟨p, ys, rfl, ha, ra⟩ := r.lst s
      rw [intsD_of ra e] at ha
      exact ⟨p, ns, rfl, .inl (.inl ha), q.keep.here s w (.int _)⟩
  · rename_i xs
    cases e : boolsD xs with
    | none => rw [e] at h; cases h
    | some ns =>
      rw [e] at h
      cases h
      refine ⟨_, cr_all hc, fun vs Hc H st Q s w r0 q => ?_⟩
      obtain ⟨v, rfl, r⟩ := r0.one
      obtain ⟨p, ys, rfl, ha, ra⟩ := r.lst s
      rw [boolsD_of ra e] at ha
      exact ⟨p, ns, rfl, .inl (.inl ha), q.keep.here s w (.bl _)⟩
  · rename_i xs
    cases e : boolsD xs with
    | none => rw [e] at h; cases h
    | some ns =>
      rw [e] at h
      cases h
      refine ⟨_, cr_any hc, fun vs Hc H st Q s w r0 q => ?_⟩
      obtain ⟨v, rfl, r⟩ := r0.one
      obtain ⟨p, ys, rfl, ha, ra⟩ := r.lst s
      rw [boolsD_of ra e] at ha
      exact ⟨p, ns, rfl, .inl (.inl ha), q.keep.here s w (.bl _)⟩
  · cases h
    refine ⟨_, call_tuple_of, fun vs Hc H st Q s w r0 q => ?_⟩
    obtain ⟨v, rfl, r⟩ := r0.one
    obtain ⟨p, ys, rfl, ha, hac, ra⟩ := r.tup s
    exact ⟨p, ys, rfl, .inr ⟨ha, q.keep.here s w (.tup hac ra)⟩⟩
  · cases h
    refine ⟨_, call_tuple_of, fun vs Hc H st Q s w r0 q => ?_⟩
    obtain ⟨v, rfl, r⟩ := r0.one
    obtain ⟨p, ys, rfl, ha, ra⟩ := r.lst s
    exact ⟨p, ys, rfl, .inl ⟨.inl (.inl ha), fun l hl => q.keep.newT s w ra hl⟩⟩
  · cases h
    refine ⟨_, call_list_of, fun vs Hc H st Q s w r0 q => ?_⟩
    obtain ⟨v, rfl, r⟩ := r0.one
    obtain ⟨p, ys, rfl, ha, ra⟩ := r.lst s
    exact ⟨p, ys, rfl, .inl (.inl (.inl ha)), fun l hl => q.keep.newL s w ra hl⟩
  · cases h
    refine ⟨_, call_list_of, fun vs Hc H st Q s w r0 q => ?_⟩
    obtain ⟨v, rfl, r⟩ := r0.one
    obtain ⟨p, ys, rfl, ha, _, ra⟩ := r.tup s
    exact ⟨p, ys, rfl, .inr ha, fun l hl => q.keep.newL s w ra hl⟩
  · rename_i xs
    unfold sortD at h
    split at h
    · rename_i g
      cases h
      refine ⟨_, cr_sortA (ow := ow) hu g.1 g.2, fun vs Hc H st Q s w r0 q => ?_⟩
      obtain ⟨v, rfl, r⟩ := r0.one
      obtain ⟨p, ys, rfl, ha, ra⟩ := r.lst s
      exact ⟨p, ys, Hc, rfl, .inl (.inl ha), s, ra, fun zs l rz hl => q.keep.newL s w rz hl⟩
    · cases h
  · rename_i xs
    unfold maxL at h
    split at h
    · cases h
    split at h
    · rename_i g
      cases h
      refine ⟨_, cr_maxA (ow := ow) hc hu g, fun vs Hc H st Q s w r0 q => ?_⟩
      obtain ⟨v, rfl, r⟩ := r0.one
      obtain ⟨p, ys, rfl, ha, ra⟩ := r.lst s
      exact ⟨p, ys, Hc, rfl, .inl (.inl (.inl ha)), s, ra, fun z rz => q.keep.here s w rz⟩
    · cases h
  · rename_i xs
    unfold maxL at h
    split at h
    · cases h
    split at h
    · rename_i g
      cases h
      refine ⟨_, cr_maxA (ow := ow) hc hu g, fun vs Hc H st Q s w r0 q => ?_⟩
      obtain ⟨v, rfl, r⟩ := r0.one
      obtain ⟨p, ys, rfl, ha, _, ra⟩ := r.tup s
      exact ⟨p, ys, Hc, rfl, .inr ha, s, ra, fun z rz => q.keep.here s w rz⟩
    · cases h
  · rename_i xs
    unfold minL at h
    split at h
    · cases h
    split at h
    · rename_i g
      cases h
      refine ⟨_, cr_minA (ow := ow) hc hu g, fun vs Hc H st Q s w r0 q => ?_⟩
      obtain ⟨v, rfl, r⟩ := r0.one
      obtain ⟨p, ys, rfl, ha, ra⟩ := r.lst s
      exact ⟨p, ys, Hc, rfl, .inl (.inl (.inl ha)), s, ra, fun z rz => q.keep.here s w rz⟩
    · cases h
  · rename_i xs
    unfold minL at h
    split at h
    · cases h
    split at h
    · rename_i g
      cases h
      refine ⟨_, cr_minA (ow := ow) hc hu g, fun vs Hc H st Q s w r0 q => ?_⟩
      obtain ⟨v, rfl, r⟩ := r0.one
      obtain ⟨p, ys, rfl, ha, _, ra⟩ := r.tup s
      exact ⟨p, ys, Hc, rfl, .inr ha, s, ra, fun z rz => q.keep.here s w rz⟩
    · cases h
  · cases h
    refine ⟨_, call_max2 hc, fun vs Hc H st Q s w r0 q => ?_⟩
    obtain ⟨v, u, rfl, r, r2⟩ := r0.two
    obtain rfl := r.int
    obtain rfl := r2.int
    exact ⟨_, _, rfl, q.keep.here s w (.int _)⟩
  · cases h
    refine ⟨_, call_min2 hc, fun vs Hc H st Q s w r0 q => ?_⟩
    obtain ⟨v, u, rfl, r, r2⟩ := r0.two
    obtain rfl := r.int
    obtain rfl := r2.int
    exact ⟨_, _, rfl, q.keep.here s w (.int _)⟩
end
end Q

set_option Elab.async false
set_option linter.all false
set_option maxRecDepth 100000
set_option maxHeartbeats 1000000
/-! L1f: isinstance, methods, own results. -/
namespace Q
open PySem PySem.Spec PyProof.Rows L2
section
variable {X : Cx} {ow : Option Addr}
theorem tyX_of {K : PySem.W.Frag} {Hc H : Hp} {v : V} {ds : List D} (s : Sm Hc H) (h : RepV K ow H Hc H v (.tuple ds) .read) : TyX K H v (.type "tuple") := by
  obtain ⟨a, xs, rfl, ha, _, _⟩ := h.tup s
  rcases ha with (h | ⟨o, h⟩) | ⟨o, its, n, h1, h2, _⟩
  · exact .base (.tup h)
  · exact .fTuple h
  · exact .kTuple h1 h2
theorem isi_ok {t : Ty} {x : D} {b : Bool} (h : isiD t x = some b) :
    ∃ r, CallR X (.builtin "isinstance") r ∧ ∀ (v : V) (Hc H : Hp) (st : Ws) (Q : VK), Sm Hc H → WOk X.K Hc H ow st → RepV X.K ow H Hc H v x .read → Res X.K ow Hc H (.bool b) st Q → r [v, .ty (tyN t)] H Q := by
  refine ⟨_, call_isi, fun v Hc H st Q s w rx q => ?_⟩
  have fin : ∀ {T : String}, TyX X.K H v (.type T) → kitB T (tyN t) = some b → rIsi X.K [v, .ty (tyN t)] H Q := fun {T} ty e =>
    ⟨v, _, _, _, b, rfl, .ty _, ty, kit_ty e, q.here s w (.bl _)⟩
  cases x with
  | none =>
    obtain rfl := rx.non
    refine fin (.base .non) ?_
    cases t <;> (simp only [isiD] at h; cases h; decide +kernel)
  | bool k =>
    obtain rfl := rx.bl
    refine fin (.base (.bl k)) ?_
    cases t <;> (simp only [isiD] at h; cases h; decide +kernel)
  | int k =>
    obtain rfl := rx.int
    refine fin (.base (.int k)) ?_
    cases t <;> (simp only [isiD] at h; cases h; decide +kernel)
  | str k =>
    obtain ⟨rfl, _⟩ := rx.str
    refine fin (.base (.str k)) ?_
    cases t <;> (simp only [isiD] at h; cases h; decide +kernel)
  | list k =>
    obtain ⟨a, xs, rfl, ha, _⟩ := rx.lst s
    refine fin (.base (.lst ha)) ?_
    cases t <;> (simp only [isiD] at h; cases h; decide +kernel)
  | tuple k =>
    refine fin (tyX_of s rx) ?_
    cases t <;> (simp only [isiD] at h; cases h; decide +kernel)
  | dict k => cases t <;> (simp only [isiD] at h; cases h)
theorem bl_own (hc : X.calm = true) (hu : X.A.units + 100 < cLine) {b : Bl} {n : String} {f : BlV} {ds : List D} {d : D} (hb : blV b = some (n, f)) (ho : b = .list ∨ b = .sorted) (h : blD b ds = some d) : ServesC X ow f.val ds d .own := by
  rcases ho with rfl | rfl
  · simp only [blV, Option.some.injEq, Prod.mk.injEq] at hb
    obtain ⟨rfl, rfl⟩ := hb
    unfold blD at h
    split at h
    all_goals (first | (cases h; done) | skip)
    all_goals (rename_i e; first | (cases e; done) | skip)
    · cases h
      refine ⟨_, call_list_of, fun vs Hc H st Q s w r0 q => ?_⟩
      obtain ⟨v, rfl, r⟩ := r0.one
      obtain ⟨p, ys, rfl, ha, ra⟩ := r.lst s
      exact ⟨p, ys, rfl, .inl (.inl (.inl ha)), fun l hl => q.ownL s w ra hl⟩
    · cases h
      refine ⟨_, call_list_of, fun vs Hc H st Q s w r0 q => ?_⟩
      obtain ⟨v, rfl, r⟩ := r0.one
      obtain ⟨p, ys, rfl, ha, _, ra⟩ := r.tup s
      exact ⟨p, ys, rfl, .inr ha, fun l hl => q.ownL s w ra hl⟩
  · simp only [blV, Option.some.injEq, Prod.mk.injEq] at hb
    obtain ⟨rfl, rfl⟩ := hb
    unfold blD at h
    split at h
    all_goals (first | (cases h; done) | skip)
    all_goals (rename_i e; first | (cases e; done) | skip)
    rename_i xs _
    unfold sortD at h
    split at h
    · rename_i g
      cases h
      refine ⟨_, cr_sortA (ow := ow) hu g.1 g.2, fun vs Hc H st Q s w r0 q => ?_⟩
      obtain ⟨v, rfl, r⟩ := r0.one
      obtain ⟨p, ys, rfl, ha, ra⟩ := r.lst s
      exact ⟨p, ys, Hc, rfl, .inl (.inl ha), s, ra, fun zs l rz hl => q.ownL s w rz hl⟩
    · cases h
/-! ### methods -/
theorem join_eqS (z : Str) : ∀ ys : List Str, (Txt.join z ys) = S (joinS z.cps.toList (ys.map (·.cps.toList))) := by
  intro ys
  rw [TL.join_eq]
  induction ys with
  | nil => rfl
  | cons y ys ih =>
    cases ys with
    | nil => cases y; rfl
    | cons x ys =>
      show y ++ z ++ Str.join z (x :: ys) = _
      rw [ih]
      show (⟨(y.cps ++ z.cps) ++ _⟩ : Str) = _
      have : joinS z.cps.toList ((y :: x :: ys).map (·.cps.toList)) = y.cps.toList ++ z.cps.toList ++ joinS z.cps.toList ((x :: ys).map (·.cps.toList)) := rfl
      rw [this]
      show (⟨_⟩ : Str) = ⟨_⟩
      congr 1
      apply Array.ext'
      simp
theorem joinS_mem {z : List Nat} {P : Nat → Prop} (hz : ∀ c ∈ z, P c) : ∀ {ys : List (List Nat)}, (∀ y ∈ ys, ∀ c ∈ y, P c) → ∀ c ∈ joinS z ys, P c
  | [], _, c, h => by cases h
  | [y], hy, c, h => hy y List.mem_cons_self c h
  | y :: x :: ys, hy, c, h => by
    have h : c ∈ y ++ z ++ joinS z (x :: ys) := h
    rcases List.mem_append.mp h with h | h
    · rcases List.mem_append.mp h with h | h
      · exact hy y List.mem_cons_self c h
      · exact hz c h
    · exact joinS_mem hz (fun w hw => hy w (List.mem_cons_of_mem _ hw)) c h
theorem joinS_len {z : List Nat} : ∀ {ys : List (List Nat)}, (joinS z ys).length ≤ (ys.map (·.length)).sum + ys.length * z.length
  | [] => Nat.zero_le _
  | [y] => by simp [joinS]
  | y :: x :: ys => by
    have ih := joinS_len (z := z) (ys := x :: ys)
    show (y ++ z ++ joinS z (x :: ys)).length ≤ _
    rw [List.length_append, List.length_append]
    have e : ((y :: x :: ys).map (·.length)).sum = y.length + ((x :: ys).map (·.length)).sum := by simp
    have e2 : (y :: x :: ys).length * z.length = (x :: ys).length * z.length + z.length := by
      rw [List.length_cons, Nat.add_mul, Nat.one_mul]
    rw [e, e2]
    omega
abbrev ServesM (X : Cx) (ow : Option Addr) (id : String) (T : String) (x : D) (ds : List D) (d : D) : Prop :=
  ∃ r, MtR X id r ∧ (∀ (v : V) (Hc H : Hp), Sm Hc H → RepV X.K ow H Hc H v x .read → tyV X.K T v H) ∧
    ∀ (v : V) (vs : List V) (Hc H : Hp) (st : Ws) (Q : VK), Sm Hc H → WOk X.K Hc H ow st → RepV X.K ow H Hc H v x .read → RdL X.K ow Hc H vs ds → Res X.K ow Hc H d st Q → r v vs H Q
theorem join_ok {z : Str} {y : D} {xs : List D} {d : D} (hy : y = .list xs ∨ y = .tuple xs) (h : joinD z xs = some d) : ServesM X ow "str.join" "str" (.str z) [y] d := by
  unfold joinD at h
  split at h
  case h_2 => cases h
  rename_i ys e
  split at h
  case isFalse => cases h
  rename_i hz
  cases h
  refine ⟨_, mt_join, fun v Hc H s rx => ?_, fun v vs Hc H st Q s w rx r0 q => ?_⟩
  · obtain ⟨rfl, kz⟩ := rx.str
    rfl
  obtain ⟨rfl, kz⟩ := rx.str
  obtain ⟨u, rfl, r⟩ := r0.one
  have hmax : strMax = 16000000 := rfl
  have fin : ∀ p, (SqL X.K H p (ys.map V.str) ∨ SqT X.K H p (ys.map V.str)) → (∀ x ∈ ys, okS x = true) → ∃ a p', ∃ ys' : List Str, V.str z = .str a ∧ [V.ref p] = [.ref p'] ∧ (SqL X.K H p' (ys'.map V.str) ∨ SqT X.K H p' (ys'.map V.str)) ∧
      (ys'.map (·.length)).sum + ys'.length * a.length ≤ 16777216 ∧ Q (.str (Txt.join a ys')) H := fun p hp hk => by
    refine ⟨z, p, ys, rfl, rfl, hp, Nat.le_trans hz (by rw [hmax]; decide), ?_⟩
    rw [join_eqS]
    refine q.here s w (.str (okS_S (joinS_mem (okS_iff.mp kz).1 fun y hy c hc => ?_) ?_))
    · obtain ⟨x, hx, rfl⟩ := List.mem_map.mp hy
      exact (okS_iff.mp (hk x hx)).1 c hc
    · have := joinS_len (z := z.cps.toList) (ys := ys.map (·.cps.toList))
      rw [List.map_map, List.length_map, Array.length_toList] at this
      have e3 : (List.length ∘ fun x : Str => x.cps.toList) = fun x => x.cps.size := funext fun x => by simp
      rw [e3] at this
      exact Nat.le_trans this hz
  rcases hy with rfl | rfl
  · obtain ⟨p, zs, rfl, ha, ra⟩ := r.lst s
    obtain ⟨rfl, hk⟩ := strsD_of ra e
    exact fin p (.inl (.inl (.inl ha))) hk
  · obtain ⟨p, zs, rfl, ha, _, ra⟩ := r.tup s
    obtain ⟨rfl, hk⟩ := strsD_of ra e
    exact fin p (.inr ha) hk
theorem idxOf_at : ∀ {ds : List D} {x : D} {n : Nat}, idxOf ds x = some n → ∃ z, ds[n]? = some z ∧ PyData.eqv z x = true ∧ ∀ (m : Nat) (z' : D), m < n → ds[m]? = some z' → PyData.eqv z' x = false
  | [], _, _, h => by simp [idxOf] at h
  | y :: r, x, n, h => by
    unfold idxOf at h
    split at h
    · rename_i e
      cases h
      exact ⟨y, rfl, e, fun m _ hm => absurd hm (Nat.not_lt_zero _)⟩
    · rename_i e
      cases q : idxOf r x with
      | none => rw [q] at h; cases h
      | some k =>
        rw [q] at h
        cases h
        obtain ⟨z, h1, h2, h3⟩ := idxOf_at q
        refine ⟨z, h1, h2, fun m z' hm hz => ?_⟩
        cases m with
        | zero => cases hz; simpa using e
        | succ m => exact h3 m z' (Nat.lt_of_succ_lt_succ hm) hz
theorem index_ok (hu : X.A.units + 100 < cLine) {xs : List D} {x : D} {n : Nat} (g : gd 60 x = true ∧ gd 60 (.list xs) = true) (h : idxOf xs x = some n) : ServesM X ow "list.index" "list" (.list xs) [x] (.int (n : Nat)) := by
  refine ⟨_, mt_indexD (by omega), fun v Hc H s rx => ?_, fun v vs Hc H st Q s w rx r0 q => ?_⟩
  · obtain ⟨a, ys, rfl, ha0, _⟩ := rx.lst s
    exact .inl ⟨rfl, _, .inl (.inl ha0)⟩
  have d1 := RepV.dp s rx g.2
  obtain ⟨a, ys, rfl, ha0, _⟩ := rx.lst s
  obtain ⟨u, rfl, r⟩ := r0.one
  have d2 := r.dp s g.1
  obtain ⟨z, h1, h2, h3⟩ := idxOf_at h
  exact ⟨a, u, x, xs, n, z, rfl, rfl, d1.1, d2.1, d1.2, d2.2, h1, h2, h3, q.here s w (.int _)⟩
/-- a method's name -/
def mtN : Mt → Option String
  | .join => some "join"
  | .index => some "index"
  | _ => none
theorem mt_ok (hu : X.A.units + 100 < cLine) {m : Mt} {q : String} {x : D} {ds : List D} {d : D} (hm : mtN m = some q) (h : mtD m x ds = some d) :
    ∃ T id, PlainAttrs T ∧ Slot T (Str.ofString q) id ∧ typeOf (.builtin id) = pure (.type "method_descriptor") ∧ ServesM X ow id T x ds d := by
  unfold mtD at h
  split at h
  · cases hm
    exact ⟨"str", "str.join", PySem.F.plainAttrs_str, PySem.F.slot_str_join, PySem.F.type_str_join, join_ok (.inl rfl) h⟩
  · cases hm
    exact ⟨"str", "str.join", PySem.F.plainAttrs_str, PySem.F.slot_str_join, PySem.F.type_str_join, join_ok (.inr rfl) h⟩
  · cases hm
    split at h
    · rename_i g
      rename_i xs x
      cases e : idxOf xs x with
      | none => rw [e] at h; cases h
      | some n =>
        rw [e] at h
        cases h
        exact ⟨"list", "list.index", PySem.F.plainAttrs_list, PySem.F.slot_list_index, PySem.F.type_list_index, index_ok hu g e⟩
    · cases h
  · cases h
end
end Q

set_option Elab.async false
set_option linter.all false
set_option maxRecDepth 100000
set_option maxHeartbeats 1000000
/-! L1g: the checker: a text of the model's syntax is that of the small interpreter. -/
namespace Q
open PySem PySem.Spec PyProof.Rows L2
/-- where the checker stands: the names by slot, the scope, the names whose cells are its own, the defs and their numbers of parameters -/
structure Cc where
  N : List Str
  sc : Scope
  fnb : Str → Bool
  fnm : List (Str × Nat)
def visB (sc : Scope) (x : Str) : Bool := match sc.names.lookup x with
  | some .local => true
  | some .cell => true
  | some .free => true
  | _ => false
def locB (c : Cc) (x : Str) : Bool := match c.sc.names.lookup x with
  | some .local => true
  | some .cell => c.fnb x
  | _ => false
def glB (sc : Scope) (x : Str) : Bool := match sc.names.lookup x with
  | some .globalImplicit => true
  | _ => false
def nmB (x : Str) : Bool := !(x == ("__debug__" : Str)) && !(x == ("__classdict__" : Str)) && !(x == ("__name__" : Str))
/-- the forms that are served (no star, no slice, no set) -/
def okE : Expr → Bool
  | .Name .. => true
  | .Constant .. => true
  | .Tuple .. => true
  | .List .. => true
  | .BinOp .. => true
  | .UnaryOp .. => true
  | .BoolOp .. => true
  | .Compare .. => true
  | .IfExp .. => true
  | .Subscript .. => true
  | .Call .. => true
  | .ListComp .. => true
  | _ => false
def noCall0 : Expr → Bool
  | .Call _ [] _ _ => false
  | _ => true
def chC : D → Expr → Bool
  | .none, e => match e with | .Constant .none _ _ => true | _ => false
  | .bool b, e => match e with | .Constant (.bool k) _ _ => b == k | _ => false
  | .int i, e => match e with | .Constant (.int k) _ _ => decide (i = k) | _ => false
  | .str x, e => match e with | .Constant (.str y) _ _ => decide (x = y) && okS x | _ => false
  | _, _ => false
def opB : Op → Operator → Bool
  | .add, .Add => true
  | .sub, .Sub => true
  | .mul, .Mult => true
  | .fdiv, .FloorDiv => true
  | .mod, .Mod => true
  | .pow, .Pow => true
  | _, _ => false
def cpB : Cp → CmpOp → Bool
  | .eq, .Eq => true
  | .ne, .NotEq => true
  | .lt, .Lt => true
  | .le, .LtE => true
  | .gt, .Gt => true
  | .ge, .GtE => true
  | .in_, .In => true
  | .nin, .NotIn => true
  | _, _ => false
def tgE : Tg → Cc → Expr → Bool
  | .v i, c, e => match e with
    | .Name x _ => decide (c.N[i]? = some x) && locB c x
    | _ => false
  | .t gs, c, e => match e with
    | .Tuple es _ _ => tgEs gs c es
    | _ => false
where tgEs : List Tg → Cc → List Expr → Bool
  | [], _, es => es.isEmpty
  | g :: gs, c, es => match es with
    | e :: r => (match e with | .Starred .. => false | _ => true) && tgE g c e && tgEs gs c r
    | [] => false
def ownN (N : List Str) (own : List Nat) : List (Str × Nat) := own.map fun i => ((N[i]?).getD (Str.ofString ""), i)
/-- the target's slots are among own -/
def wipeNo : Tg → List Nat → Bool
  | .v i, own => own.contains i
  | .t gs, own => all gs own
where all : List Tg → List Nat → Bool
  | [], _ => true
  | g :: gs, own => wipeNo g own && all gs own
structure Lc2 where
  elt : Expr
  tg : Expr
  iter : Expr
  tg1 : Expr
  iter1 : Expr
  ifs1 : List Expr
  scope : Scope
def lc2Of : Expr → Option Lc2
  | .ListComp elt [⟨tg, iter, [], a⟩, ⟨tg1, iter1, ifs1, b⟩] scope _ => if a = 0 ∧ b = 0 then some ⟨elt, tg, iter, tg1, iter1, ifs1, scope⟩ else none
  | _ => none
def revOf : Expr → Option Expr
  | .Subscript x (.Slice none none (some (.UnaryOp .USub (.Constant (.int i) _ _) _)) _) _ => if i = 1 then some x else none
  | _ => none
def itlOf : Expr → Option (Str × Str × List Expr)
  | .Call (.Name x _) [.Call (.Name y _) zs [] _] [] _ => some (x, y, zs)
  | _ => none
mutual
def chE : Tm → Cc → Expr → Bool
  | .var i, c, e => match e with
    | .Name x _ => decide (c.N[i]? = some x) && visB c.sc x && nmB x
    | _ => false
  | .cst d, _, e => chC d e
  | .tup es, c, e => match e with
    | .Tuple xs _ _ => chA es c xs && decide (es.length ≤ 1000)
    | _ => false
  | .lst es, c, e => match e with
    | .List xs _ => chA es c xs && decide (es.length ≤ 1000)
    | _ => false
  | .bin op a b, c, e => match e with
    | .BinOp x o y _ => opB op o && chE a c x && chE b c y
    | _ => false
  | .neg a, c, e => match e with
    | .UnaryOp .USub x _ => chE a c x
    | _ => false
  | .not a, c, e => match e with
    | .UnaryOp .Not x _ => chE a c x
    | _ => false
  | .and a b, c, e => match e with
    | .BoolOp .And (x :: y :: r) pos => chE a c x && (match r with
      | [] => chE b c y
      | _ => chE b c (.BoolOp .And (y :: r) pos))
    | _ => false
  | .or a b, c, e => match e with
    | .BoolOp .Or (x :: y :: r) pos => chE a c x && (match r with
      | [] => chE b c y
      | _ => chE b c (.BoolOp .Or (y :: r) pos))
    | _ => false
  | .cmp k a b, c, e => match e with
    | .Compare x [o] [y] _ => cpB k o && okE y && chE a c x && chE b c y
    | _ => false
  | .isN a, c, e => match e with
    | .Compare x [.Is] [.Constant .none _ _] _ => chE a c x
    | _ => false
  | .notN a, c, e => match e with
    | .Compare x [.IsNot] [.Constant .none _ _] _ => chE a c x
    | _ => false
  | .chn k1 k2 a b d, c, e => match e with
    | .Compare x [o1, o2] [y, z] _ => cpB k1 o1 && cpB k2 o2 && okE y && okE z && chE a c x && chE b c y && chE d c z
    | _ => false
  | .ite k a b, c, e => match e with
    | .IfExp z x y _ => chE k c z && chE a c x && chE b c y
    | _ => false
  | .idx a b, c, e => match e with
    | .Subscript x y _ => okE y && chE a c x && chE b c y
    | _ => false
  | .slc a lo hi, c, e => match e with
    | .Subscript x (.Slice l h none _) _ => chE a c x && chO lo c l && chO hi c h
    | _ => false
  | .call f es, c, e => match e with
    | .Call (.Name x _) (y :: ys) [] _ => decide (c.fnm[f]? = some (x, es.length)) && glB c.sc x && nmB x && chA es c (y :: ys)
    | _ => false
  | .isi t a, c, e => match e with
    | .Call (.Name x _) [y, .Name z _] [] _ => decide (x = Str.ofString "isinstance") && decide (z = Str.ofString (tyN t)) && glB c.sc x && glB c.sc z && okE y && chE a c y
    | _ => false
  | .bl b es, c, e => match e with
    | .Call (.Name x _) (y :: ys) [] _ => (match blV b with
      | some (n, _) => decide (x = Str.ofString n) && glB c.sc x && chA es c (y :: ys)
      | none => false)
    | _ => false
  | .mt m o es, c, e => match e with
    | .Call (.Attribute x n ap) [y] [] pos => (match mtN m with
      | some q => decide (n = Str.ofString q) && okE x && noCall0 x && (ap.endLine == pos.line) && chE o c x && chA es c [y]
      | none => false)
    | _ => false
  | .lc own g it k t, c, e => match e with
    | .ListComp elt [⟨tg, iter, ifs, 0⟩] scope _ =>
      let c' : Cc := { c with sc := relS scope c.sc, fnb := fun x => scope.names.lookup x == some .cell }
      blkC c.N c.sc scope (ownN c.N own) && tgE g c' tg && chI it c tg iter && chE t c' elt && (match k, ifs with
        | none, [] => true
        | some q, [z] => chE q c' z
        | _, _ => false) && wipeNo g own
    | _ => false
  | .lc2 own g it g1 it1 k t, c, e => match lc2Of e with
    | some p =>
      let c' : Cc := { c with sc := relS p.scope c.sc, fnb := fun x => p.scope.names.lookup x == some .cell }
      blkC c.N c.sc p.scope (ownN c.N own) && tgE g c' p.tg && chI it c p.tg p.iter && tgE g1 c' p.tg1 && chI it1 c' p.tg1 p.iter1 && chE t c' p.elt && chQ k c' p.ifs1 && wipeNo g own && wipeNo g1 (tgV g1) && (tgV g1).all (fun i => own.contains i)
    | none => false
  | .rev a, c, e => match revOf e with
    | some x => chE a c x
    | none => false
  | .itl t it, c, e => match itlOf e with
    | some p => decide (p.1 = Str.ofString (if t = true then "tuple" else "list")) && glB c.sc p.1 && decide (p.2.1 = Str.ofString "range") && glB c.sc p.2.1 && chR it c p.2.2
    | none => false
  | _, _, _ => false
def chA : List Tm → Cc → List Expr → Bool
  | [], _, es => es.isEmpty
  | t :: ts, c, es => match es with
    | e :: r => okE e && chE t c e && chA ts c r
    | [] => false
def chO : Option Tm → Cc → Option Expr → Bool
  | none, _, e => e.isNone
  | some t, c, e => match e with
    | some e => chE t c e
    | none => false
def chQ : Option Tm → Cc → List Expr → Bool
  | none, _, es => es.isEmpty
  | some q, c, es => match es with
    | [z] => chE q c z
    | _ => false
def chR : It → Cc → List Expr → Bool
  | .rg1 a, c, zs => match zs with
    | [z] => okE z && chE a c z
    | _ => false
  | .rg2 a b, c, zs => match zs with
    | [z, u] => okE z && okE u && chE a c z && chE b c u
    | _ => false
  | _, _, _ => false
def chI : It → Cc → Expr → Expr → Bool
  | .it a, c, _, e => okE e && chE a c e
  | .rg1 a, c, _, e => match e with
    | .Call (.Name x _) [y] [] _ => decide (x = Str.ofString "range") && glB c.sc x && okE y && chE a c y
    | _ => false
  | .rg2 a b, c, _, e => match e with
    | .Call (.Name x _) [y, z] [] _ => decide (x = Str.ofString "range") && glB c.sc x && okE y && okE z && chE a c y && chE b c z
    | _ => false
  | .rg3 a b d, c, _, e => match e with
    | .Call (.Name x _) [y, z, u] [] _ => decide (x = Str.ofString "range") && glB c.sc x && okE y && okE z && okE u && chE a c y && chE b c z && chE d c u
    | _ => false
  | .enum a, c, t, e => match t, e with
    | .Tuple _ _ _, .Call (.Name x _) [y] [] _ => decide (x = Str.ofString "enumerate") && glB c.sc x && okE y && chE a c y
    | _, _ => false
  | _, _, _, _ => false
end
end Q

set_option Elab.async false
set_option linter.all false
set_option maxRecDepth 100000
set_option maxHeartbeats 1000000
/-! L1h: expressions: what the small interpreter gives, the model gives. First the pieces. -/
namespace Q
open PySem PySem.Spec PyProof.Rows L2
def SlR (K : PySem.W.Frag) (ow : Option Addr) (Hc H : Hp) : Sl → Option (Option V) → Prop
  | .un, _ => True
  | .cl d, o => ∃ v, o = some (some v) ∧ Rep K ow Hc v d
  | .ol ds, o => ∃ a, o = some (some (.ref a)) ∧ Open K ow Hc H a (.list ds)
  | .od ps, o => ∃ a, o = some (some (.ref a)) ∧ Open K ow Hc H a (.dict ps)
structure RelE (K : PySem.W.Frag) (ow : Option Addr) (σp : Env) (σ : L2.St) (Hc H : Hp) (st : Ws) : Prop where
  sub : Sm Hc H
  w : WOk K Hc H ow st
  len : σp.length = σ.length
  at_ : ∀ (i : Nat) (x : Sl), σp[i]? = some x → SlR K ow Hc H x (σ[(i : Nat)]?)
theorem SlR.stp {K : PySem.W.Frag} {ow : Option Addr} {Hc H Hc' H' : Hp} {x : Sl} {o : Option (Option V)} (s : Stp ow Hc H Hc' H') (h : SlR K ow Hc H x o) : SlR K ow Hc' H' x o := by
  cases x with
  | un => trivial
  | cl d =>
    obtain ⟨v, e, r⟩ := h
    exact ⟨v, e, r.mono s.cl⟩
  | ol ds =>
    obtain ⟨a, e, r⟩ := h
    exact ⟨a, e, r.stp s⟩
  | od ps =>
    obtain ⟨a, e, r⟩ := h
    exact ⟨a, e, r.stp s⟩
theorem RelE.stp {K : PySem.W.Frag} {ow : Option Addr} {σp : Env} {σ : L2.St} {Hc H Hc' H' : Hp} {st st' : Ws} (h : RelE K ow σp σ Hc H st) (s : Stp ow Hc H Hc' H') (w : WOk K Hc' H' ow st') : RelE K ow σp σ Hc' H' st' :=
  ⟨s.sub, w, h.len, fun i x e => (h.at_ i x e).stp s⟩
/-- the promise of def f: what C gives -/
def spC (K : PySem.W.Frag) (C : Nat → List D → M D) (f n : Nat) : Sp := fun vs H Q _ => vs.length = n ∧ ∃ (ow : Option Addr) (st st' : Ws) (Hc : Hp) (ds : List D) (d : D),
  Sm Hc H ∧ WOk K Hc H ow st ∧ RepL K ow Hc vs ds ∧ C f ds st = some (d, st') ∧ Res K ow Hc H d st' Q
def BN : List String := ["len", "abs", "int", "sum", "all", "any", "tuple", "list", "sorted", "max", "min", "str", "isinstance", "range", "bool", "dict", "enumerate", "zip", "set"]
structure Gx (X : Cx) (C : Nat → List D → M D) (c : Cc) : Prop where
  N : X.N = c.N
  nd : X.N.Nodup
  sc : X.env.scope = c.sc
  fn : ∀ x, X.fn x = c.fnb x
  calm : X.calm = true
  hu : X.A.units + 200 < cLine
  blt : ∀ n ∈ BN, X.mg (Str.ofString n) = none
  call : ∀ f x n, c.fnm[f]? = some (x, n) → ∃ (a : Addr) (fd : FuncData) (ps : List Str) (k : Nat), X.mg x = some (.ref a) ∧ PySem.W.keepIn X.K (.ref a) = true ∧ Binds X.K fd ps [] ∧ Room k X.A ∧ ps.length = n ∧
    FnOk X.prog X.w X.K X.mg X.base CX0 k a fd ps (spC X.K C f n)
def kd : Bool → Kd
  | true => .read
  | false => .keep
section
variable {X : Cx} {ow : Option Addr} {σ : L2.St} {Hc H : Hp} {st st1 st2 st' : Ws} {x y d : D} {ea eb e : Expr}
theorem stp_trans {Hc1 H1 Hc2 H2 : Hp} (a : Stp ow Hc H Hc1 H1) (w : WOk X.K Hc1 H1 ow st1) (b : Stp ow Hc1 H1 Hc2 H2) : Stp ow Hc H Hc2 H2 := a.trans (fun x e => .inl (w.there x e)) b
theorem RepV.rd {H0 H1 : Hp} {v : V} {k : Kd} (h : RepV X.K ow H0 Hc H v d k) : RepV X.K ow H1 Hc H v d .read := by
  cases k with
  | keep => exact .inl h
  | read => exact h
  | own =>
    obtain ⟨a, e, o, _⟩ := h
    exact .inr ⟨a, e, o⟩
theorem Gv.kd (r : Bool) (h : Gv .keep X ow e σ Hc H d st') : Gv (kd r) X ow e σ Hc H d st' := by
  cases r with
  | true => exact h.read
  | false => exact h
theorem Gv.rd {r : Bool} (h : Gv (Q.kd r) X ow e σ Hc H d st') : Gv .read X ow e σ Hc H d st' := by
  cases r with
  | true => exact h
  | false => exact h.read
theorem gt_of {k : Kd} {b : Bool} (he : ∀ whole, isTrue e X.env whole = (do let v ← whole; standAt e.pos; holding [v] (truthy v))) (h : Gv k X ow e σ Hc H (.bool b) st') : Gt X ow e σ Hc H b st' := fun Q q =>
  evT_of (pt_val pe_sem he) (h _ fun v Hc' H' s w r => ⟨b, r.bl, q Hc' H' s w⟩)
/-- two values to be read -/
theorem two (w0 : WOk X.K Hc H ow st) (ga : Gv .read X ow ea σ Hc H x st1) (gb : ∀ Hc1 H1, Stp ow Hc H Hc1 H1 → WOk X.K Hc1 H1 ow st1 → Gv .read X ow eb σ Hc1 H1 y st2) {R : V → V → Hp → Prop}
    (h : ∀ v u Hc2 H2, Stp ow Hc H Hc2 H2 → WOk X.K Hc2 H2 ow st2 → RepV X.K ow H2 Hc2 H2 v x .read → RepV X.K ow H2 Hc2 H2 u y .read → R v u H2) : EvE X ea σ H fun v H1 => EvE X eb σ H1 fun u H2 => R v u H2 :=
  ga _ fun v Hc1 H1 s1 w1 r1 => gb Hc1 H1 s1 w1 _ fun u Hc2 H2 s2 w2 r2 => h v u Hc2 H2 (stp_trans s1 w1 s2) w2 (RepV.stp s2 (RepV.rd r1)) (RepV.rd r2)
/-- arguments -/
def RepVL (K : PySem.W.Frag) (ow : Option Addr) (Hc H : Hp) (vs : List V) (ds : List D) : Bool → Prop
  | false => RepL K ow Hc vs ds
  | true => RdL K ow Hc H vs ds
def GvA (r : Bool) (X : Cx) (ow : Option Addr) (es : List Expr) (σ : L2.St) (Hc H : Hp) (ds : List D) (st' : Ws) : Prop :=
  ∀ Q : List V → Hp → Prop, (∀ vs Hc' H', Stp ow Hc H Hc' H' → WOk X.K Hc' H' ow st' → RepVL X.K ow Hc' H' vs ds r → Q vs H') → EvA X es σ H Q
theorem starE (env : PySem.Env) (h : okE e = true) (es : List Expr) : starEach (e :: es) env = (false, eval e env) :: starEach es env := by
  cases e <;> first | rfl | cases h
theorem okNoSl (h : okE e = true) : noSlE e = true := by cases e <;> first | rfl | cases h
theorem gva_nil (s : Sm Hc H) (w : WOk X.K Hc H ow st) (r : Bool) : GvA r X ow [] σ Hc H [] st := fun Q q =>
  evA_of pa_nil (q [] Hc H (.refl s) w (by cases r; exact .nil; exact .nil))
theorem gva_cons {r : Bool} {es : List Expr} {ds : List D} (he : okE e = true) (ga : Gv (kd r) X ow e σ Hc H d st1) (gb : ∀ Hc1 H1, Stp ow Hc H Hc1 H1 → WOk X.K Hc1 H1 ow st1 → GvA r X ow es σ Hc1 H1 ds st2) : GvA r X ow (e :: es) σ Hc H (d :: ds) st2 := fun Q q =>
  evA_of (pa_cons pe_sem pa_sem (starE _ he es)) (ga _ fun v Hc1 H1 s1 w1 r1 => gb Hc1 H1 s1 w1 _ fun vs Hc2 H2 s2 w2 r2 => q (v :: vs) Hc2 H2 (stp_trans s1 w1 s2) w2 (by
    cases r with
    | false => exact .cons (Rep.mono s2.cl r1) r2
    | true => exact .cons (RepV.stp s2 (RepV.rd r1)) r2))
/-- the argument list has no star -/
def noStar : List Expr → Bool
  | [] => true
  | e :: es => okE e && noStar es
theorem noStar_any (env : PySem.Env) (pos : Pos) : ∀ {es : List Expr}, noStar es = true → (backTo pos (starEach es env)).any (·.1) = false
  | [], _ => rfl
  | e :: es, h => by
    unfold noStar at h
    obtain ⟨h1, h2⟩ := Bool.and_eq_true _ _ ▸ h
    rw [starE env h1 es]
    show (false || (backTo pos (starEach es env)).any (·.1)) = false
    rw [noStar_any env pos h2]
    rfl
theorem chA_star : ∀ {ts : List Tm} {c : Cc} {es : List Expr}, chA ts c es = true → noStar es = true
  | [], _, es, h => by
    cases es with
    | nil => rfl
    | cons e es => simp [chA] at h
  | t :: ts, c, es, h => by
    cases es with
    | nil => simp [chA] at h
    | cons e es =>
      simp only [chA, Bool.and_eq_true] at h
      show (okE e && noStar es) = true
      rw [h.1.1, chA_star h.2]
      rfl
theorem chA_len : ∀ {ts : List Tm} {c : Cc} {es : List Expr}, chA ts c es = true → ts.length = es.length
  | [], _, es, h => by
    cases es with
    | nil => rfl
    | cons e es => simp [chA] at h
  | t :: ts, c, es, h => by
    cases es with
    | nil => simp [chA] at h
    | cons e es =>
      simp only [chA, Bool.and_eq_true] at h
      rw [List.length_cons, List.length_cons, chA_len h.2]
theorem evs_len {C : Nat → List D → M D} {r : Bool} {σp : Env} : ∀ {ts : List Tm} {st : Ws} {ds : List D} {st' : Ws}, evs C r ts σp st = some (ds, st') → ds.length = ts.length
  | [], _, _, _, h => by cases h; rfl
  | t :: ts, _, _, _, h => by
    unfold evs at h
    obtain ⟨d, s1, e1, h⟩ := bnd_inv h
    obtain ⟨ds', s2, e2, h⟩ := bnd_inv h
    cases h
    rw [List.length_cons, List.length_cons, evs_len e2]
theorem opB_eq {op : Op} {o : Operator} (h : opB op o = true) : o = oOp op := by cases op <;> cases o <;> first | rfl | cases h
theorem cpB_eq {op : Cp} {o : CmpOp} (h : cpB op o = true) : o = oCp op := by cases op <;> cases o <;> first | rfl | cases h
theorem okMarks {o : CmpOp} (h : okE e = true) : behindInMarks o e = false := by cases e <;> first | rfl | cases h
theorem visB_iff {sc : Scope} {x : Str} (h : visB sc x = true) : Vis sc x := by
  unfold visB at h
  split at h
  · exact .inl (by assumption)
  · exact .inr (.inl (by assumption))
  · exact .inr (.inr (by assumption))
  · cases h
theorem glB_iff {sc : Scope} {x : Str} (h : glB sc x = true) : sc.names.lookup x = some .globalImplicit := by
  unfold glB at h
  split at h
  · assumption
  · cases h
theorem nmB_iff {x : Str} (h : nmB x = true) : (x == ("__debug__" : Str)) = false ∧ (x == ("__classdict__" : Str)) = false ∧ x ≠ "__name__" := by
  unfold nmB at h
  simp only [Bool.and_eq_true, Bool.not_eq_true'] at h
  exact ⟨h.1.1, h.1.2, fun e => by have := h.2; rw [e] at this; simp at this⟩
theorem Gx.gl {C : Nat → List D → M D} {c : Cc} (G : Gx X C c) {x : Str} (h : glB c.sc x = true) : Gl X x := by
  have := glB_iff h
  unfold Gl PySem.Env.kindOf
  rw [G.sc]
  exact this
/-- what a built-in name is -/
theorem blV_facts {b : Bl} {n : String} {f : BlV} (h : blV b = some (n, f)) : n ∈ BN ∧ bootBuiltins (Str.ofString n) = some f.val ∧ Str.ofString n ≠ "__name__" ∧ (Str.ofString n == ("__debug__" : Str)) = false := by
  cases b <;> first
    | (simp only [blV, Option.some.injEq, Prod.mk.injEq] at h; obtain ⟨rfl, rfl⟩ := h; exact ⟨by simp [BN], by decide +kernel, by decide +kernel, by decide +kernel⟩)
    | cases h
end
end Q

set_option Elab.async false
set_option linter.all false
set_option maxRecDepth 100000
set_option maxHeartbeats 1000000
/-! L1i: expressions, case by case. -/
namespace Q
open PySem PySem.Spec PyProof.Rows L2
def PTm (ow : Option Addr) (t : Tm) : Prop := ∀ (X : Cx) (C : Nat → List D → M D) (c : Cc) (e : Expr) (r : Bool) (σp : Env) (σ : L2.St) (Hc H : Hp) (st : Ws) (d : D) (st' : Ws),
  Gx X C c → chE t c e = true → RelE X.K ow σp σ Hc H st → ev C r t σp st = some (d, st') → Gv (kd r) X ow e σ Hc H d st' ∧ (∀ b, d = .bool b → Gt X ow e σ Hc H b st')
def PTms (ow : Option Addr) (ts : List Tm) : Prop := ∀ (X : Cx) (C : Nat → List D → M D) (c : Cc) (es : List Expr) (r : Bool) (σp : Env) (σ : L2.St) (Hc H : Hp) (st : Ws) (ds : List D) (st' : Ws),
  Gx X C c → chA ts c es = true → RelE X.K ow σp σ Hc H st → evs C r ts σp st = some (ds, st') → GvA r X ow es σ Hc H ds st'
section
variable {ow : Option Addr}
theorem c_nil : PTms ow [] := fun X C c es r σp σ Hc H st ds st' G hc R h => by
  cases es with
  | nil =>
    cases h
    exact gva_nil R.sub R.w r
  | cons e es => simp [chA] at hc
theorem c_cons {t : Tm} {ts : List Tm} (ih : PTm ow t) (ihs : PTms ow ts) : PTms ow (t :: ts) := fun X C c es r σp σ Hc H st ds st' G hc R h => by
  cases es with
  | nil => simp [chA] at hc
  | cons e es =>
    simp only [chA, Bool.and_eq_true] at hc
    obtain ⟨⟨h1, h2⟩, h3⟩ := hc
    unfold evs at h
    obtain ⟨d, s1, e1, h⟩ := bnd_inv h
    obtain ⟨ds', s2, e2, h⟩ := bnd_inv h
    cases h
    exact gva_cons h1 (ih X C c e r σp σ Hc H st d s1 G h2 R e1).1 fun Hc1 H1 p1 w1 => ihs X C c es r σp σ Hc1 H1 s1 ds' _ G h3 (R.stp p1 w1) e2
theorem c_var {i : Nat} : PTm ow (.var i) := fun X C c e r σp σ Hc H st d st' G hc R h => by
  cases e <;> first | (simp [chE] at hc; done) | skip
  rename_i x pos
  simp only [chE, Bool.and_eq_true, decide_eq_true_eq] at hc
  obtain ⟨⟨h1, h2⟩, h3⟩ := hc
  unfold ev at h
  obtain ⟨d', e1, e2⟩ := lift_inv h
  cases e2
  have hv : Vis X.env.scope x := by rw [G.sc]; exact visB_iff h2
  have pe := pe_var (X := X) (i := i) (pos := pos) (by rw [G.N]; exact h1) hv (nmB_iff h3).1 (nmB_iff h3).2.1
  have key : ∃ v, σ[i]? = some (some v) ∧ RepV X.K ow H Hc H v d (kd r) := by
    cases r with
    | false =>
      have e1 : σp.keep i = some d := e1
      unfold Env.keep at e1
      cases q : σp[i]? with
      | none => rw [q] at e1; cases e1
      | some x =>
        rw [q] at e1
        have hs := R.at_ i x q
        cases x with
        | cl d' =>
          cases e1
          obtain ⟨v, e, r⟩ := hs
          exact ⟨v, e, r⟩
        | _ => cases e1
    | true =>
      have e1 : σp.read i = some d := e1
      unfold Env.read at e1
      cases q : σp[i]? with
      | none => rw [q] at e1; cases e1
      | some x =>
        rw [q] at e1
        have hs := R.at_ i x q
        cases x with
        | cl d' =>
          cases e1
          obtain ⟨v, e, r⟩ := hs
          exact ⟨v, e, .inl r⟩
        | ol ds =>
          cases e1
          obtain ⟨a, e, r⟩ := hs
          exact ⟨_, e, .inr ⟨a, rfl, r⟩⟩
        | od ps =>
          cases e1
          obtain ⟨a, e, r⟩ := hs
          exact ⟨_, e, .inr ⟨a, rfl, r⟩⟩
        | un => cases e1
  obtain ⟨v, ev', rv⟩ := key
  have g : Gv (kd r) X ow (.Name x pos) σ Hc H d st := fun Q q => evE_of pe ⟨v, ev', q v Hc H (.refl R.sub) R.w rv⟩
  exact ⟨g, fun b eb => by subst eb; exact gt_of (fun _ => rfl) g⟩
theorem chC_ok {X : Cx} {d : D} {e : Expr} (h : chC d e = true) : ∃ v, PE X e (tC v) ∧ (∀ (K : PySem.W.Frag) (H : Hp), Rep K ow H v d) ∧ (∀ whole, isTrue e X.env whole = (do let v ← whole; standAt e.pos; holding [v] (truthy v))) := by
  cases d with
  | none =>
    simp only [chC] at h
    split at h
    · exact ⟨_, pe_non, fun _ _ => .non, fun _ => rfl⟩
    · cases h
  | bool b =>
    simp only [chC] at h
    split at h
    · rename_i k _ _
      have : b = k := by simpa using h
      subst this
      exact ⟨_, pe_bl, fun _ _ => .bl b, fun _ => rfl⟩
    · cases h
  | int i =>
    simp only [chC] at h
    split at h
    · have := of_decide_eq_true h
      subst this
      exact ⟨_, pe_int, fun _ _ => .int i, fun _ => rfl⟩
    · cases h
  | str x =>
    simp only [chC] at h
    split at h
    · simp only [Bool.and_eq_true, decide_eq_true_eq] at h
      obtain ⟨rfl, h2⟩ := h
      exact ⟨_, pe_str, fun _ _ => .str h2, fun _ => rfl⟩
    · cases h
  | _ => simp [chC] at h
theorem c_cst {d0 : D} : PTm ow (.cst d0) := fun X C c e r σp σ Hc H st d st' G hc R h => by
  simp only [chE] at hc
  obtain ⟨v, pe, rv, ht⟩ := chC_ok (ow := ow) (X := X) hc
  unfold ev at h
  cases h
  have g : Gv .keep X ow e σ Hc H d0 st := fun Q q => evE_of pe (q v Hc H (.refl R.sub) R.w (rv _ _))
  exact ⟨g.kd r, fun b eb => by subst eb; exact gt_of ht g⟩
theorem c_tup {es : List Tm} (ih : PTms ow es) : PTm ow (.tup es) := fun X C c e r σp σ Hc H st d st' G hc R h => by
  cases e <;> first | (simp [chE] at hc; done) | skip
  rename_i xs x1 pos
  simp only [chE, Bool.and_eq_true, decide_eq_true_eq] at hc
  unfold ev at h
  obtain ⟨ds, s1, e1, h⟩ := bnd_inv h
  cases h
  have g := ih X C c xs false σp σ Hc H st ds _ G hc.1 R e1
  have l1 := chA_len hc.1
  have k : Gv .keep X ow (.Tuple xs x1 pos) σ Hc H (.tuple ds) st' := fun Q q => evE_of (pe_tup pa_sem) (g _ fun vs Hc1 H1 p1 w1 r1 => by
    have r1 : RepL X.K ow Hc1 vs ds := r1
    refine ⟨?_, fun p hp => ?_⟩
    · have l2 := r1.length
      have l3 : ds.length = es.length := evs_len e1
      have : (1000 : Nat) ≤ sizeLine := by decide
      omega
    · exact q _ (upd Hc1 p (.tup vs)) _ (stp_trans p1 w1 (.new p1.sub hp)) (w1.new hp p1.sub) (Rep.tup (.inl (.inl upd_same)) (r1.mono (Sm.new (p1.sub.non hp)))))
  exact ⟨k.kd r, fun b eb => by cases eb⟩
theorem c_lstO {es : List Tm} (ih : PTms ow es) : ∀ (X : Cx) (C : Nat → List D → M D) (c : Cc) (e : Expr) (σp : Env) (σ : L2.St) (Hc H : Hp) (st : Ws) (d : D) (st' : Ws),
    Gx X C c → chE (.lst es) c e = true → RelE X.K ow σp σ Hc H st → ev C false (.lst es) σp st = some (d, st') → Gv .own X ow e σ Hc H d st' := fun X C c e σp σ Hc H st d st' G hc R h => by
  cases e <;> first | (simp [chE] at hc; done) | skip
  rename_i xs pos
  simp only [chE, Bool.and_eq_true, decide_eq_true_eq] at hc
  unfold ev at h
  obtain ⟨ds, s1, e1, h⟩ := bnd_inv h
  cases h
  have g := ih X C c xs false σp σ Hc H st ds _ G hc.1 R e1
  exact fun Q q => evE_of (pe_lst pa_sem) (g _ fun vs Hc1 H1 p1 w1 r1 => by
    have r1 : RepL X.K ow Hc1 vs ds := r1
    refine ⟨?_, fun p hp => ?_⟩
    · have l2 := r1.length
      have l3 : ds.length = es.length := evs_len e1
      have : (1000 : Nat) ≤ sizeLine := by decide
      omega
    · refine q _ Hc1 _ (stp_trans p1 w1 (.open p1.sub hp)) (w1.open hp) ⟨p, rfl, .lst upd_same r1 (p1.sub.non hp) (fun e => w1.there _ e hp), ?_⟩
      cases hx : H p with
      | none => rfl
      | some o =>
        by_cases ho : ow = some p
        · exact absurd hp (w1.there _ ho)
        · have := p1.keep p o hx ho
          rw [hp] at this; cases this)
theorem c_lst {es : List Tm} (ih : PTms ow es) : PTm ow (.lst es) := fun X C c e r σp σ Hc H st d st' G hc R h => by
  have h0 : ev C false (.lst es) σp st = some (d, st') := by unfold ev at h ⊢; exact h
  have k := (c_lstO ih X C c e σp σ Hc H st d st' G hc R h0).close
  refine ⟨k.kd r, fun b eb => ?_⟩
  subst eb
  unfold ev at h
  obtain ⟨ds, s1, e1, h⟩ := bnd_inv h
  cases h
theorem c_bin {op : Op} {a b : Tm} (iha : PTm ow a) (ihb : PTm ow b) : PTm ow (.bin op a b) := fun X C c e r σp σ Hc H st d st' G hc R h => by
  cases e <;> first | (simp [chE] at hc; done) | skip
  rename_i x o y pos
  simp only [chE, Bool.and_eq_true] at hc
  obtain ⟨⟨h1, h2⟩, h3⟩ := hc
  rw [opB_eq h1]
  unfold ev at h
  obtain ⟨da, s1, e1, h⟩ := bnd_inv h
  obtain ⟨db, s2, e2, h⟩ := bnd_inv h
  obtain ⟨d', e3, e4⟩ := lift_inv h
  cases e4
  obtain ⟨ru, ho, hq⟩ := bin_ok (X := X) (ow := ow) e3
  have g : Gv .keep X ow (.BinOp x (oOp op) y pos) σ Hc H d st' := fun Q q => evE_of (pe_op ho pe_sem pe_sem)
    (two R.w (iha X C c x true σp σ Hc H st da s1 G h2 R e1).1 (fun Hc1 H1 p1 w1 => (ihb X C c y true σp σ Hc1 H1 s1 db st' G h3 (R.stp p1 w1) e2).1) fun v u Hc2 H2 p2 w2 r1 r2 =>
      hq v u Hc2 H2 st' Q p2.sub w2 r1 r2 fun z Hc3 H3 p3 w3 r3 => q z Hc3 H3 (stp_trans p2 w2 p3) w3 r3)
  exact ⟨g.kd r, fun b eb => by subst eb; exact gt_of (fun _ => rfl) g⟩
theorem c_neg {a : Tm} (iha : PTm ow a) : PTm ow (.neg a) := fun X C c e r σp σ Hc H st d st' G hc R h => by
  cases e <;> first | (simp [chE] at hc; done) | skip
  rename_i o x pos
  cases o <;> first | (simp [chE] at hc; done) | skip
  simp only [chE] at hc
  unfold ev at h
  obtain ⟨da, s1, e1, h⟩ := bnd_inv h
  obtain ⟨i, s2, e2, h⟩ := bnd_inv h
  obtain ⟨i', e3, e4⟩ := lift_inv e2
  cases e4
  cases h
  have ei : da = .int i := by cases da <;> first | (cases e3; rfl) | cases e3
  subst ei
  have g : Gv .keep X ow (.UnaryOp .USub x pos) σ Hc H (.int (-i)) st' := fun Q q => evE_of (pe_un un_neg pe_sem)
    ((iha X C c x false σp σ Hc H st _ _ G hc R e1).1 _ fun v Hc1 H1 p1 w1 r1 => ⟨i, RepV.int r1, q _ Hc1 H1 p1 w1 (Rep.int _)⟩)
  exact ⟨g.kd r, fun b eb => by cases eb⟩
theorem c_not {a : Tm} (iha : PTm ow a) : PTm ow (.not a) := fun X C c e r σp σ Hc H st d st' G hc R h => by
  cases e <;> first | (simp [chE] at hc; done) | skip
  rename_i o x pos
  cases o <;> first | (simp [chE] at hc; done) | skip
  simp only [chE] at hc
  unfold ev at h
  obtain ⟨da, s1, e1, h⟩ := bnd_inv h
  obtain ⟨k, s2, e2, h⟩ := bnd_inv h
  obtain ⟨k', e3, e4⟩ := lift_inv e2
  cases e4
  cases h
  have ek : da = .bool k := by cases da <;> first | (cases e3; rfl) | cases e3
  subst ek
  have ih := iha X C c x false σp σ Hc H st _ _ G hc R e1
  have g : Gv .keep X ow (.UnaryOp .Not x pos) σ Hc H (.bool (!k)) st' := fun Q q => evE_of (pe_not pe_sem)
    (ih.1 _ fun v Hc1 H1 p1 w1 r1 => ⟨k, RepV.bl r1, q _ Hc1 H1 p1 w1 (Rep.bl _)⟩)
  exact ⟨g.kd r, fun b eb => by cases eb; exact fun Q q => evT_of (pt_not pt_sem) (ih.2 k rfl _ fun Hc1 H1 p1 w1 => q Hc1 H1 p1 w1)⟩
theorem boolD_inv {da : D} {k : Bool} {s1 s2 : Ws} (h : lift (boolD da) s1 = some (k, s2)) : da = .bool k ∧ s2 = s1 := by
  obtain ⟨k', e3, e4⟩ := lift_inv h
  cases e4
  exact ⟨(by cases da <;> first | (cases e3; rfl) | cases e3), rfl⟩
theorem pw_of {X : Cx} {op : BoolOp} {vs : List Expr} {pos : Pos} {t : TT} (h : PT X (.BoolOp op vs pos) t) : PW X (.BoolOp op vs pos) t := ⟨fun _ => h.run⟩
theorem c_and {a b : Tm} (iha : PTm ow a) (ihb : PTm ow b) : PTm ow (.and a b) := fun X C c e r σp σ Hc H st d st' G hc R h => by
  cases e <;> first | (simp [chE] at hc; done) | skip
  rename_i o vs pos
  cases o <;> first | (simp [chE] at hc; done) | skip
  cases vs with
  | nil => simp [chE] at hc
  | cons x vs =>
    cases vs with
    | nil => simp [chE] at hc
    | cons y rs =>
      simp only [chE, Bool.and_eq_true] at hc
      obtain ⟨h1, h2⟩ := hc
      unfold ev at h
      obtain ⟨da, s1, e1, hA⟩ := bnd_inv h
      obtain ⟨k, s2, e2, hK⟩ := bnd_inv hA
      obtain ⟨rfl, rfl⟩ := boolD_inv e2
      have ih := iha X C c x false σp σ Hc H st _ _ G h1 R e1
      -- what stands behind x
      have hb : ∀ (Hc1 H1 : Hp), Stp ow Hc H Hc1 H1 → WOk X.K Hc1 H1 ow s2 → k = true → Gv .keep X ow (.BoolOp .And (y :: rs) pos) σ Hc1 H1 d st' ∧ ∀ b', d = .bool b' → Gt X ow (.BoolOp .And (y :: rs) pos) σ Hc1 H1 b' st' := fun Hc1 H1 p1 w1 ek => by
        subst ek
        rw [if_pos rfl] at hK
        cases rs with
        | nil =>
          have g := ihb X C c y false σp σ Hc1 H1 s2 d st' G h2 (R.stp p1 w1) hK
          exact ⟨fun Q q => evE_of (pe_one pe_sem) (g.1 Q q), fun b' eb Q q => evT_of (pw_and1 pt_sem).pt (g.2 b' eb Q q)⟩
        | cons z rs => exact ihb X C c _ false σp σ Hc1 H1 s2 d st' G h2 (R.stp p1 w1) hK
      have g : Gv .keep X ow (.BoolOp .And (x :: y :: rs) pos) σ Hc H d st' := fun Q q => evE_of (pe_and pe_sem pe_sem)
        (ih.1 _ fun v Hc1 H1 p1 w1 r1 => by
          refine ⟨k, RepV.bl r1, ?_⟩
          cases k with
          | true =>
            rw [if_pos rfl]
            exact (hb Hc1 H1 p1 w1 rfl).1 Q fun z Hc2 H2 p2 w2 r2 => q z Hc2 H2 (stp_trans p1 w1 p2) w2 r2
          | false =>
            rw [if_neg (by decide)] at hK ⊢
            cases hK
            exact q _ Hc1 H1 p1 w1 (Rep.bl _))
      refine ⟨g.kd r, fun b' eb Q q => ?_⟩
      refine evT_of (pw_and pt_sem (pw_of pt_sem)).pt (ih.2 k rfl _ fun Hc1 H1 p1 w1 => ?_)
      cases k with
      | true =>
        rw [if_pos rfl]
        exact (hb Hc1 H1 p1 w1 rfl).2 b' eb Q fun Hc2 H2 p2 w2 => q Hc2 H2 (stp_trans p1 w1 p2) w2
      | false =>
        rw [if_neg (by decide)] at hK ⊢
        cases hK
        cases eb
        exact q Hc1 H1 p1 w1
theorem c_or {a b : Tm} (iha : PTm ow a) (ihb : PTm ow b) : PTm ow (.or a b) := fun X C c e r σp σ Hc H st d st' G hc R h => by
  cases e <;> first | (simp [chE] at hc; done) | skip
  rename_i o vs pos
  cases o <;> first | (simp [chE] at hc; done) | skip
  cases vs with
  | nil => simp [chE] at hc
  | cons x vs =>
    cases vs with
    | nil => simp [chE] at hc
    | cons y rs =>
      simp only [chE, Bool.and_eq_true] at hc
      obtain ⟨h1, h2⟩ := hc
      unfold ev at h
      obtain ⟨da, s1, e1, hA⟩ := bnd_inv h
      obtain ⟨k, s2, e2, hK⟩ := bnd_inv hA
      obtain ⟨rfl, rfl⟩ := boolD_inv e2
      have ih := iha X C c x false σp σ Hc H st _ _ G h1 R e1
      have hb : ∀ (Hc1 H1 : Hp), Stp ow Hc H Hc1 H1 → WOk X.K Hc1 H1 ow s2 → k = false → Gv .keep X ow (.BoolOp .Or (y :: rs) pos) σ Hc1 H1 d st' ∧ ∀ b', d = .bool b' → Gt X ow (.BoolOp .Or (y :: rs) pos) σ Hc1 H1 b' st' := fun Hc1 H1 p1 w1 ek => by
        subst ek
        rw [if_neg (by decide)] at hK
        cases rs with
        | nil =>
          have g := ihb X C c y false σp σ Hc1 H1 s2 d st' G h2 (R.stp p1 w1) hK
          exact ⟨fun Q q => evE_of (pe_one pe_sem) (g.1 Q q), fun b' eb Q q => evT_of (pw_or1 pt_sem).pt (g.2 b' eb Q q)⟩
        | cons z rs => exact ihb X C c _ false σp σ Hc1 H1 s2 d st' G h2 (R.stp p1 w1) hK
      have g : Gv .keep X ow (.BoolOp .Or (x :: y :: rs) pos) σ Hc H d st' := fun Q q => evE_of (pe_or pe_sem pe_sem)
        (ih.1 _ fun v Hc1 H1 p1 w1 r1 => by
          refine ⟨k, RepV.bl r1, ?_⟩
          cases k with
          | false =>
            rw [if_neg (by decide)]
            exact (hb Hc1 H1 p1 w1 rfl).1 Q fun z Hc2 H2 p2 w2 r2 => q z Hc2 H2 (stp_trans p1 w1 p2) w2 r2
          | true =>
            rw [if_pos rfl] at hK ⊢
            cases hK
            exact q _ Hc1 H1 p1 w1 (Rep.bl _))
      refine ⟨g.kd r, fun b' eb Q q => ?_⟩
      refine evT_of (pw_or pt_sem (pw_of pt_sem)).pt (ih.2 k rfl _ fun Hc1 H1 p1 w1 => ?_)
      cases k with
      | false =>
        rw [if_neg (by decide)]
        exact (hb Hc1 H1 p1 w1 rfl).2 b' eb Q fun Hc2 H2 p2 w2 => q Hc2 H2 (stp_trans p1 w1 p2) w2
      | true =>
        rw [if_pos rfl] at hK ⊢
        cases hK
        cases eb
        exact q Hc1 H1 p1 w1
end
end Q

set_option Elab.async false
set_option linter.all false
set_option maxRecDepth 100000
set_option maxHeartbeats 1000000
/-! L1j: expressions, case by case (more). -/
namespace Q
open PySem PySem.Spec PyProof.Rows L2
/-- a rule for every comparison that nothing asks -/
theorem op_lt_any {X : Cx} (k : Cp) : OpR X (compareOp (oCp k)) (fun _ _ _ _ => False) := fun _ _ _ _ _ _ _ _ _ _ _ _ h => h.elim
/-- a if t else b, as a test -/
theorem pt_ifExp {X : Cx} {c a b : Expr} {pos : Pos} {tA ta tb : TT} (hc : PT X c tA) (ha : PT X a ta) (hb : PT X b tb) : PT X (.IfExp c a b pos) (fun σ H Q => tA σ H fun k H1 => if k = true then ta σ H1 Q else tb σ H1 Q) := by
  refine ⟨fun pins s σ H Q I h => ?_⟩
  show wpAny _ _ (do if ← isTrue c X.env (eval c X.env) then isTrue a X.env (eval a X.env) else isTrue b X.env (eval b X.env)) _ _ _
  refine wpAny_bind (thn (hc.run pins s σ H _ I h) fun k s1 ⟨H1, I1, q1⟩ => ?_)
  cases k with
  | true => exact ha.run pins s1 σ H1 Q I1 q1
  | false => exact hb.run pins s1 σ H1 Q I1 q1
section
variable {ow : Option Addr}
theorem Rep.blI {K : PySem.W.Frag} {H : Hp} {v : V} {b : Bool} (h : Rep K ow H v (.bool b)) : v = .bl b := by cases h; rfl
theorem c_cmp {k : Cp} {a b : Tm} (iha : PTm ow a) (ihb : PTm ow b) : PTm ow (.cmp k a b) := fun X C c e r σp σ Hc H st d st' G hc R h => by
  cases e <;> first | (simp [chE] at hc; done) | skip
  rename_i x os ys pos
  have ho : ∃ o y, os = [o] ∧ ys = [y] ∧ cpB k o = true ∧ okE y = true ∧ chE a c x = true ∧ chE b c y = true := by
    unfold chE at hc
    split at hc
    · rename_i e
      cases e
      simp only [Bool.and_eq_true] at hc
      exact ⟨_, _, rfl, rfl, hc.1.1.1, hc.1.1.2, hc.1.2, hc.2⟩
    · cases hc
  obtain ⟨o, y, rfl, rfl, h1, hy, h2, h3⟩ := ho
  rw [cpB_eq h1]
  unfold ev at h
  obtain ⟨da, s1, e1, h⟩ := bnd_inv h
  obtain ⟨db, s2, e2, h⟩ := bnd_inv h
  obtain ⟨d', e3, e4⟩ := lift_inv h
  cases e4
  have hu := G.hu
  obtain ⟨ru, hr, hq⟩ := cmp_ok (X := X) (ow := ow) (by omega) e3
  have g2 : ∀ {R' : V → V → Hp → Prop}, (∀ v u Hc2 H2, Stp ow Hc H Hc2 H2 → WOk X.K Hc2 H2 ow st' → RepV X.K ow H2 Hc2 H2 v da .read → RepV X.K ow H2 Hc2 H2 u db .read → R' v u H2) → EvE X x σ H fun v H1 => EvE X y σ H1 fun u H2 => R' v u H2 := fun {R'} q =>
    two R.w (iha X C c x true σp σ Hc H st da s1 G h2 R e1).1 (fun Hc1 H1 p1 w1 => (ihb X C c y true σp σ Hc1 H1 s1 db st' G h3 (R.stp p1 w1) e2).1) q
  have g : Gv .keep X ow (.Compare x [oCp k] [y] pos) σ Hc H d st' := fun Q q => evE_of (pe_cmpR hr pe_sem pe_sem (okMarks hy))
    (g2 fun v u Hc2 H2 p2 w2 r1 r2 => hq v u Hc2 H2 st' Q p2.sub w2 r1 r2 fun z Hc3 H3 p3 w3 r3 => q z Hc3 H3 (stp_trans p2 w2 p3) w3 r3)
  refine ⟨g.kd r, fun b' eb Q q => ?_⟩
  subst eb
  exact evT_of (pt_cmpR hr pe_sem pe_sem (okMarks hy))
    (g2 fun v u Hc2 H2 p2 w2 r1 r2 => hq v u Hc2 H2 st' _ p2.sub w2 r1 r2 fun z Hc3 H3 p3 w3 r3 => ⟨b', Rep.blI r3, q Hc3 H3 (stp_trans p2 w2 p3) w3⟩)
theorem non_iff {K : PySem.W.Frag} {H0 Hc H : Hp} {v : V} {d : D} (h : RepV K ow H0 Hc H v d .keep) : decide (v = .non) = isN d := by
  cases (show Rep K ow Hc v d from h) <;> rfl
theorem c_isN {a : Tm} (iha : PTm ow a) : PTm ow (.isN a) := fun X C c e r σp σ Hc H st d st' G hc R h => by
  cases e <;> first | (simp [chE] at hc; done) | skip
  rename_i x os ys pos
  have ho : ∃ j p, os = [.Is] ∧ ys = [.Constant .none j p] ∧ chE a c x = true := by
    unfold chE at hc
    split at hc
    · rename_i e
      cases e
      exact ⟨_, _, rfl, rfl, hc⟩
    · cases hc
  obtain ⟨j, p, rfl, rfl, h2⟩ := ho
  unfold ev at h
  obtain ⟨da, s1, e1, h⟩ := bnd_inv h
  cases h
  have ih := iha X C c x false σp σ Hc H st da st' G h2 R e1
  have g : Gv .keep X ow (.Compare x [.Is] [.Constant .none j p] pos) σ Hc H _ st' := fun Q q => evE_of (pe_cmp (pc_isN pe_sem) rfl)
    (ih.1 _ fun v Hc1 H1 p1 w1 r1 => by
      rw [non_iff (show RepV X.K ow H Hc1 H1 v da .keep from r1)]
      exact q _ Hc1 H1 p1 w1 (Rep.bl _))
  refine ⟨g.kd r, fun b' eb Q q => ?_⟩
  cases eb
  exact evT_of (pt_cmp (pc_isN pe_sem) rfl) (ih.1 _ fun v Hc1 H1 p1 w1 r1 => ⟨_, by rw [non_iff (show RepV X.K ow H Hc1 H1 v da .keep from r1)], q Hc1 H1 p1 w1⟩)
theorem c_notN {a : Tm} (iha : PTm ow a) : PTm ow (.notN a) := fun X C c e r σp σ Hc H st d st' G hc R h => by
  cases e <;> first | (simp [chE] at hc; done) | skip
  rename_i x os ys pos
  have ho : ∃ j p, os = [.IsNot] ∧ ys = [.Constant .none j p] ∧ chE a c x = true := by
    unfold chE at hc
    split at hc
    · rename_i e
      cases e
      exact ⟨_, _, rfl, rfl, hc⟩
    · cases hc
  obtain ⟨j, p, rfl, rfl, h2⟩ := ho
  unfold ev at h
  obtain ⟨da, s1, e1, h⟩ := bnd_inv h
  cases h
  have ih := iha X C c x false σp σ Hc H st da st' G h2 R e1
  have g : Gv .keep X ow (.Compare x [.IsNot] [.Constant .none j p] pos) σ Hc H _ st' := fun Q q => evE_of (pe_cmp (pc_notN pe_sem) rfl)
    (ih.1 _ fun v Hc1 H1 p1 w1 r1 => by
      rw [non_iff (show RepV X.K ow H Hc1 H1 v da .keep from r1)]
      exact q _ Hc1 H1 p1 w1 (Rep.bl _))
  refine ⟨g.kd r, fun b' eb Q q => ?_⟩
  cases eb
  exact evT_of (pt_cmp (pc_notN pe_sem) rfl) (ih.1 _ fun v Hc1 H1 p1 w1 r1 => ⟨_, by rw [non_iff (show RepV X.K ow H Hc1 H1 v da .keep from r1)], q Hc1 H1 p1 w1⟩)
theorem c_chn {k1 k2 : Cp} {a b z : Tm} (iha : PTm ow a) (ihb : PTm ow b) (ihz : PTm ow z) : PTm ow (.chn k1 k2 a b z) := fun X C c e r σp σ Hc H st d st' G hc R h => by
  cases e <;> first | (simp [chE] at hc; done) | skip
  rename_i x os ys pos
  have ho : ∃ o1 o2 y w, os = [o1, o2] ∧ ys = [y, w] ∧ cpB k1 o1 = true ∧ cpB k2 o2 = true ∧ okE y = true ∧ okE w = true ∧ chE a c x = true ∧ chE b c y = true ∧ chE z c w = true := by
    unfold chE at hc
    split at hc
    · rename_i e
      cases e
      simp only [Bool.and_eq_true] at hc
      exact ⟨_, _, _, _, rfl, rfl, hc.1.1.1.1.1.1, hc.1.1.1.1.1.2, hc.1.1.1.1.2, hc.1.1.1.2, hc.1.1.2, hc.1.2, hc.2⟩
    · cases hc
  obtain ⟨o1, o2, y, w', rfl, rfl, h1, h1', hy, hw, h2, h3, h4⟩ := ho
  rw [cpB_eq h1, cpB_eq h1']
  unfold ev at h
  obtain ⟨da, s1, e1, hA⟩ := bnd_inv h
  obtain ⟨db, s2, e2, hB⟩ := bnd_inv hA
  obtain ⟨dk, s3, e3, hC⟩ := bnd_inv hB
  obtain ⟨k, s4, e4, hD⟩ := bnd_inv hC
  obtain ⟨rfl, rfl⟩ := boolD_inv e4
  obtain ⟨d', e5, e6⟩ := lift_inv e3
  cases e6
  have hu := G.hu
  obtain ⟨r1, hr1, hq1⟩ := cmp_ok (X := X) (ow := ow) (by omega) e5
  -- the second comparison
  have tail : ∃ r2 : R2, OpR X (compareOp (oCp k2)) r2 ∧ ∀ (Q : VK) (v u : V) (Hc2 H2 : Hp), Stp ow Hc H Hc2 H2 → WOk X.K Hc2 H2 ow s2 → RepV X.K ow H2 Hc2 H2 u db .read →
      (∀ v Hc' H', Stp ow Hc H Hc' H' → WOk X.K Hc' H' ow st' → RepV X.K ow H Hc' H' v d .keep → Q v H') → (if k = true then EvE X w' σ H2 (fun y' H4 => r2 u y' H4 Q) else Q (.bl false) H2) := by
    cases k with
    | false =>
      rw [if_neg (by decide)] at hD
      cases hD
      refine ⟨_, op_lt_any (X := X) k2, fun Q v u Hc2 H2 p2 w2 ru q => ?_⟩
      rw [if_neg (by decide)]
      exact q _ Hc2 H2 p2 w2 (Rep.bl _)
    | true =>
      rw [if_pos rfl] at hD
      obtain ⟨dz, s5, e7, hE⟩ := bnd_inv hD
      obtain ⟨d2, e8, e9⟩ := lift_inv hE
      cases e9
      obtain ⟨r2, hr2, hq2⟩ := cmp_ok (X := X) (ow := ow) (by omega) e8
      refine ⟨r2, hr2, fun Q v u Hc2 H2 p2 w2 ru q => ?_⟩
      rw [if_pos rfl]
      exact (ihz X C c w' true σp σ Hc2 H2 s2 dz st' G h4 (R.stp p2 w2) e7).1 _ fun t Hc3 H3 p3 w3 rt => hq2 u t Hc3 H3 st' Q p3.sub w3 (RepV.stp p3 ru).rd (RepV.rd rt) fun z Hc4 H4 p4 w4 r4 => q z Hc4 H4 (stp_trans (stp_trans p2 w2 p3) w3 p4) w4 r4
  obtain ⟨r2, hr2, ht⟩ := tail
  have g2 : ∀ (Q : VK), (∀ v Hc' H', Stp ow Hc H Hc' H' → WOk X.K Hc' H' ow st' → RepV X.K ow H Hc' H' v d .keep → Q v H') → tChain r1 r2 (EvE X x) (EvE X y) (EvE X w') σ H Q := fun Q q =>
    two R.w (iha X C c x true σp σ Hc H st da s1 G h2 R e1).1 (fun Hc1 H1 p1 w1 => (ihb X C c y true σp σ Hc1 H1 s1 db _ G h3 (R.stp p1 w1) e2).1) fun v u Hc2 H2 p2 w2 rv ru =>
      hq1 v u Hc2 H2 _ _ p2.sub w2 rv ru fun z Hc3 H3 p3 w3 r3 => ⟨k, Rep.blI r3, ht Q z u Hc3 H3 (stp_trans p2 w2 p3) w3 (RepV.stp p3 ru).rd q⟩
  have lm : lastMarks [oCp k1, oCp k2] [y, w'] = false := okMarks hw
  have g : Gv .keep X ow (.Compare x [oCp k1, oCp k2] [y, w'] pos) σ Hc H d st' := fun Q q => evE_of (pe_chain hr1 hr2 pe_sem pe_sem pe_sem lm) (g2 Q q)
  refine ⟨g.kd r, fun b' eb Q q => ?_⟩
  subst eb
  exact evT_of (pt_chain hr1 hr2 pe_sem pe_sem pe_sem lm) (g2 _ fun v Hc' H' p w rv => ⟨b', RepV.bl rv, q Hc' H' p w⟩)
theorem c_ite {k a b : Tm} (ihk : PTm ow k) (iha : PTm ow a) (ihb : PTm ow b) : PTm ow (.ite k a b) := fun X C c e r σp σ Hc H st d st' G hc R h => by
  cases e <;> first | (simp [chE] at hc; done) | skip
  rename_i z x y pos
  simp only [chE, Bool.and_eq_true] at hc
  obtain ⟨⟨h1, h2⟩, h3⟩ := hc
  unfold ev at h
  obtain ⟨da, s1, e1, hA⟩ := bnd_inv h
  obtain ⟨q, s2, e2, hB⟩ := bnd_inv hA
  obtain ⟨rfl, rfl⟩ := boolD_inv e2
  have ih := (ihk X C c z false σp σ Hc H st _ _ G h1 R e1).2 q rfl
  have g : Gv .keep X ow (.IfExp z x y pos) σ Hc H d st' := fun Q hQ => evE_of (pe_ifExp pt_sem pe_sem pe_sem) (ih _ fun Hc1 H1 p1 w1 => by
    cases q with
    | true =>
      rw [if_pos rfl] at hB ⊢
      exact (iha X C c x false σp σ Hc1 H1 _ d st' G h2 (R.stp p1 w1) hB).1 Q fun v Hc2 H2 p2 w2 r2 => hQ v Hc2 H2 (stp_trans p1 w1 p2) w2 r2
    | false =>
      rw [if_neg (by decide)] at hB ⊢
      exact (ihb X C c y false σp σ Hc1 H1 _ d st' G h3 (R.stp p1 w1) hB).1 Q fun v Hc2 H2 p2 w2 r2 => hQ v Hc2 H2 (stp_trans p1 w1 p2) w2 r2)
  refine ⟨g.kd r, fun b' eb Q hQ => ?_⟩
  refine evT_of (pt_ifExp pt_sem pt_sem pt_sem) (ih _ fun Hc1 H1 p1 w1 => ?_)
  cases q with
  | true =>
    rw [if_pos rfl] at hB ⊢
    exact (iha X C c x false σp σ Hc1 H1 _ d st' G h2 (R.stp p1 w1) hB).2 b' eb Q fun Hc2 H2 p2 w2 => hQ Hc2 H2 (stp_trans p1 w1 p2) w2
  | false =>
    rw [if_neg (by decide)] at hB ⊢
    exact (ihb X C c y false σp σ Hc1 H1 _ d st' G h3 (R.stp p1 w1) hB).2 b' eb Q fun Hc2 H2 p2 w2 => hQ Hc2 H2 (stp_trans p1 w1 p2) w2
theorem c_idx {a b : Tm} (iha : PTm ow a) (ihb : PTm ow b) : PTm ow (.idx a b) := fun X C c e r σp σ Hc H st d st' G hc R h => by
  cases e <;> first | (simp [chE] at hc; done) | skip
  rename_i x y pos
  simp only [chE, Bool.and_eq_true] at hc
  obtain ⟨⟨hy, h2⟩, h3⟩ := hc
  unfold ev at h
  obtain ⟨da, s1, e1, hA⟩ := bnd_inv h
  obtain ⟨db, s2, e2, hB⟩ := bnd_inv hA
  have hB : idxM da db s2 = some (d, st') := hB
  unfold idxM at hB
  cases e3 : idxD da db s2 with
  | none => rw [e3] at hB; cases hB
  | some d' =>
    rw [e3] at hB
    cases hB
    have hu := G.hu
    obtain ⟨ru, hr, hq⟩ := idx_ok (X := X) (ow := ow) (by omega) e3
    have g : Gv .keep X ow (.Subscript x y pos) σ Hc H d st' := fun Q q => evE_of (hr x y pos _ _ pe_sem pe_sem (okNoSl hy))
      (two R.w (iha X C c x true σp σ Hc H st da s1 G h2 R e1).1 (fun Hc1 H1 p1 w1 => (ihb X C c y false σp σ Hc1 H1 s1 db st' G h3 (R.stp p1 w1) e2).1.rd (r := false)) fun v u Hc2 H2 p2 w2 r1 r2 =>
        hq v u Hc2 H2 Q p2.sub w2 r1 r2 fun z Hc3 H3 p3 w3 r3 => q z Hc3 H3 (stp_trans p2 w2 p3) w3 r3)
    exact ⟨g.kd r, fun b eb => by subst eb; exact gt_of (fun _ => rfl) g⟩
end
end Q

set_option Elab.async false
set_option linter.all false
set_option maxRecDepth 100000
set_option maxHeartbeats 1000000
/-! L1k: expressions: slices, calls, built-ins, methods. -/
namespace Q
open PySem PySem.Spec PyProof.Rows L2
section
variable {ow : Option Addr}
def PTo (ow : Option Addr) (t : Option Tm) : Prop := ∀ (X : Cx) (C : Nat → List D → M D) (c : Cc) (e : Option Expr) (σp : Env) (σ : L2.St) (Hc H : Hp) (st : Ws) (l : Option Int) (st' : Ws),
  Gx X C c → chO t c e = true → RelE X.K ow σp σ Hc H st → evo C t σp st = some (l, st') → ∃ tl : TO, PO X e tl ∧ ∀ K : Option Int → Hp → Prop, (∀ Hc' H', Stp ow Hc H Hc' H' → WOk X.K Hc' H' ow st' → K l H') → tl σ H K
theorem o_none : PTo ow none := fun X C c e σp σ Hc H st l st' G hc R h => by
  cases e with
  | some e => simp [chO] at hc
  | none =>
    cases h
    exact ⟨_, po_none, fun K k => k Hc H (.refl R.sub) R.w⟩
theorem intD_inv {da : D} {k : Int} {s1 s2 : Ws} (h : lift (intD da) s1 = some (k, s2)) : da = .int k ∧ s2 = s1 := by
  obtain ⟨k', e3, e4⟩ := lift_inv h
  cases e4
  exact ⟨(by cases da <;> first | (cases e3; rfl) | cases e3), rfl⟩
theorem o_some {t : Tm} (ih : PTm ow t) : PTo ow (some t) := fun X C c e σp σ Hc H st l st' G hc R h => by
  cases e with
  | none => simp [chO] at hc
  | some e =>
    simp only [chO] at hc
    unfold evo at h
    obtain ⟨da, s1, e1, hA⟩ := bnd_inv h
    obtain ⟨i, s2, e2, hB⟩ := bnd_inv hA
    obtain ⟨rfl, rfl⟩ := intD_inv e2
    cases hB
    exact ⟨_, po_some pe_sem, fun K k => (ih X C c e false σp σ Hc H st _ _ G hc R e1).1 _ fun v Hc1 H1 p1 w1 r1 => ⟨i, RepV.int r1, k Hc1 H1 p1 w1⟩⟩
def EvO (X : Cx) (e : Option Expr) : TO := fun σ H Q => ∀ (pins : List (Addr × Obj)) (s : Shared), Inv X pins σ H s → wpAny (model X.prog X.w) X.A (evalPart e X.env) (fun u s' => ∃ o H', Inv X pins σ H' s' ∧ IsPart u o ∧ Q o H') X.xe s
theorem po_sem {X : Cx} {e : Option Expr} : PO X e (EvO X e) := ⟨fun pins s _ _ _ I h => h pins s I⟩
theorem evO_of {X : Cx} {e : Option Expr} {t : TO} {σ : L2.St} {H : Hp} {Q : Option Int → Hp → Prop} (h : PO X e t) (q : t σ H Q) : EvO X e σ H Q := fun pins s I => h.run pins s σ H Q I q
theorem c_slc {a : Tm} {lo hi : Option Tm} (iha : PTm ow a) (ihl : PTo ow lo) (ihh : PTo ow hi) : PTm ow (.slc a lo hi) := fun X C c e r σp σ Hc H st d st' G hc R h => by
  cases e <;> first | (simp [chE] at hc; done) | skip
  rename_i x sl pos
  have ho : ∃ l u p, sl = .Slice l u none p ∧ chE a c x = true ∧ chO lo c l = true ∧ chO hi c u = true := by
    unfold chE at hc
    split at hc
    · rename_i e
      cases e
      simp only [Bool.and_eq_true] at hc
      exact ⟨_, _, _, rfl, hc.1.1, hc.1.2, hc.2⟩
    · cases hc
  obtain ⟨l, u, p, rfl, h1, h2, h3⟩ := ho
  unfold ev at h
  obtain ⟨da, s1, e1, hA⟩ := bnd_inv h
  obtain ⟨ll, s2, e2, hB⟩ := bnd_inv hA
  obtain ⟨hh, s3, e3, hC⟩ := bnd_inv hB
  obtain ⟨d', e4, e5⟩ := lift_inv hC
  cases e5
  obtain ⟨ru, hr, hq⟩ := slc_ok (X := X) (ow := ow) e4
  have ga := (iha X C c x true σp σ Hc H st da s1 G h1 R e1).1
  -- the bounds' readings do not hang on where one stands: they are the semantic ones
  have hl : ∀ {K : Option Int → Hp → Prop} {Hc1 H1 : Hp}, Stp ow Hc H Hc1 H1 → WOk X.K Hc1 H1 ow s1 → (∀ Hc' H', Stp ow Hc1 H1 Hc' H' → WOk X.K Hc' H' ow s2 → K ll H') → EvO X l σ H1 K := fun {K Hc1 H1} p1 w1 k => by
    obtain ⟨tl, h5, h6⟩ := ihl X C c l σp σ Hc1 H1 s1 ll s2 G h2 (R.stp p1 w1) e2
    exact evO_of h5 (h6 K k)
  have hh' : ∀ {K : Option Int → Hp → Prop} {Hc1 H1 : Hp}, Stp ow Hc H Hc1 H1 → WOk X.K Hc1 H1 ow s2 → (∀ Hc' H', Stp ow Hc1 H1 Hc' H' → WOk X.K Hc' H' ow st' → K hh H') → EvO X u σ H1 K := fun {K Hc1 H1} p1 w1 k => by
    obtain ⟨tl, h5, h6⟩ := ihh X C c u σp σ Hc1 H1 s2 hh _ G h3 (R.stp p1 w1) e3
    exact evO_of h5 (h6 K k)
  have g : Gv .keep X ow (.Subscript x (.Slice l u none p) pos) σ Hc H d st' := fun Q q => evE_of (pe_slice hr pe_sem po_sem po_sem)
    (ga _ fun v Hc1 H1 p1 w1 r1 => hl p1 w1 fun Hc2 H2 p2 w2 => hh' (stp_trans p1 w1 p2) w2 fun Hc3 H3 p3 w3 =>
      hq v Hc3 H3 st' Q p3.sub w3 (RepV.stp p3 (RepV.stp p2 (RepV.rd r1))) fun z Hc4 H4 p4 w4 r4 => q z Hc4 H4 (stp_trans (stp_trans (stp_trans p1 w1 p2) w2 p3) w3 p4) w4 r4)
  exact ⟨g.kd r, fun b eb => by subst eb; exact gt_of (fun _ => rfl) g⟩
theorem c_call {f : Nat} {es : List Tm} (ih : PTms ow es) : PTm ow (.call f es) := fun X C c e r σp σ Hc H st d st' G hc R h => by
  cases e <;> first | (simp [chE] at hc; done) | skip
  rename_i fn as kws pos
  have ho : ∃ x p y ys, fn = .Name x p ∧ as = y :: ys ∧ kws = [] ∧ c.fnm[f]? = some (x, es.length) ∧ glB c.sc x = true ∧ nmB x = true ∧ chA es c (y :: ys) = true := by
    unfold chE at hc
    split at hc
    · rename_i e
      cases e
      simp only [Bool.and_eq_true, decide_eq_true_eq] at hc
      exact ⟨_, _, _, _, rfl, rfl, rfl, hc.1.1.1, hc.1.1.2, hc.1.2, hc.2⟩
    · cases hc
  obtain ⟨x, p, y, ys, rfl, rfl, rfl, h1, h2, h3, h4⟩ := ho
  unfold ev at h
  obtain ⟨ds, s1, e1, hA⟩ := bnd_inv h
  obtain ⟨a, fd, ps, k, f1, f2, f3, f4, f5, f6⟩ := G.call f x es.length h1
  have st0 := chA_star h4
  have ok : okE y = true := by unfold noStar at st0; exact (Bool.and_eq_true _ _ ▸ st0).1
  have st1 : noStar ys = true := by unfold noStar at st0; exact (Bool.and_eq_true _ _ ▸ st0).2
  have g : Gv .keep X ow (.Call (.Name x p) (y :: ys) [] pos) σ Hc H d st' := fun Q q => evE_of
    (pe_call f6 f4 (G.gl h2) f1 f2 f3 .nil pass0 pa_sem (nmB_iff h3).1 (starE _ ok ys) (noStar_any _ _ st1))
    (ih X C c (y :: ys) false σp σ Hc H st ds s1 G h4 R e1 _ fun vs Hc1 H1 p1 w1 r1 => by
      have r1 : RepL X.K ow Hc1 vs ds := r1
      refine ⟨?_, ow, s1, st', Hc1, ds, d, p1.sub, w1, by rw [List.append_nil]; exact r1, hA, fun v Hc2 H2 p2 w2 r2 => q v Hc2 H2 (stp_trans p1 w1 p2) w2 r2⟩
      rw [List.append_nil, r1.length, evs_len e1])
  exact ⟨g.kd r, fun b eb => by subst eb; exact gt_of (fun _ => rfl) g⟩
theorem BlV.pe {X : Cx} {x : Str} {p pos : Pos} {y : Expr} {ys : List Expr} {t : TA} {r : List V → Hp → VK → Prop} {f : BlV} (hr : CallR X f.val r) (hg : Gl X x) (hm : X.mg x = none) (hv : bootBuiltins x = some f.val) (ha : PA X (y :: ys) t) (hn : x ≠ "__name__") (hdb : (x == ("__debug__" : Str)) = false)
    (he : starEach (y :: ys) X.env = (false, eval y X.env) :: starEach ys X.env) (hpl : (backTo pos (starEach ys X.env)).any (·.1) = false) : PE X (.Call (.Name x p) (y :: ys) [] pos) (tCB r t) := by
  cases f with
  | fn id => exact pe_callB hr hg hm hv ha hn hdb he hpl
  | ty n => exact pe_callTy hr hg hm hv ha hn hdb he hpl
theorem bl_shape {b : Bl} {es : List Tm} {c : Cc} {e : Expr} (hc : chE (.bl b es) c e = true) : ∃ x p y ys pos n f, e = .Call (.Name x p) (y :: ys) [] pos ∧ blV b = some (n, f) ∧ x = Str.ofString n ∧ glB c.sc x = true ∧ chA es c (y :: ys) = true := by
  unfold chE at hc
  split at hc
  case h_2 => cases hc
  cases q : blV b with
  | none => rw [q] at hc; cases hc
  | some nf =>
    obtain ⟨n, f⟩ := nf
    rw [q] at hc
    simp only [Bool.and_eq_true, decide_eq_true_eq] at hc
    exact ⟨_, _, _, _, _, n, f, rfl, rfl, hc.1.1, hc.1.2, hc.2⟩
theorem c_blK {b : Bl} {es : List Tm} (ih : PTms ow es) (k : Kd) (X : Cx) (C : Nat → List D → M D) (c : Cc) (e : Expr) (σp : Env) (σ : L2.St) (Hc H : Hp) (st : Ws) (d : D) (st' : Ws)
    (hk : ∀ n f ds, blV b = some (n, f) → blD b ds = some d → ServesC X ow f.val ds d k)
    (G : Gx X C c) (hc : chE (.bl b es) c e = true) (R : RelE X.K ow σp σ Hc H st) (h : ev C false (.bl b es) σp st = some (d, st')) : Gv k X ow e σ Hc H d st' ∧ (∀ whole, isTrue e X.env whole = (do let v ← whole; standAt e.pos; holding [v] (truthy v))) := by
  obtain ⟨x, p, y, ys, pos, n, f, rfl, h1, rfl, h2, h3⟩ := bl_shape hc
  unfold ev at h
  obtain ⟨ds, s1, e1, hA⟩ := bnd_inv h
  obtain ⟨d', e2, e3⟩ := lift_inv hA
  cases e3
  obtain ⟨r, hr, hq⟩ := hk n f ds h1 e2
  have st0 := chA_star h3
  have ok : okE y = true := by unfold noStar at st0; exact (Bool.and_eq_true _ _ ▸ st0).1
  have st1 : noStar ys = true := by unfold noStar at st0; exact (Bool.and_eq_true _ _ ▸ st0).2
  obtain ⟨b1, b2, b3, b4⟩ := blV_facts h1
  refine ⟨fun Q q => evE_of (BlV.pe hr (G.gl h2) (G.blt n b1) b2 pa_sem b3 b4 (starE _ ok ys) (noStar_any _ _ st1))
    (ih X C c (y :: ys) true σp σ Hc H st ds _ G h3 R e1 _ fun vs Hc1 H1 p1 w1 r1 => hq vs Hc1 H1 st' Q p1.sub w1 r1 fun v Hc2 H2 p2 w2 r2 => q v Hc2 H2 (stp_trans p1 w1 p2) w2 ?_), fun _ => rfl⟩
  cases k with
  | keep => exact r2
  | read => exact r2
  | own =>
    obtain ⟨a, e, o, n⟩ := r2
    refine ⟨a, e, o, ?_⟩
    cases hx : H a with
    | none => rfl
    | some ob =>
      by_cases ho : ow = some a
      · exact absurd ho o.free.2.1
      · have := p1.keep a ob hx ho
        rw [n] at this; cases this
theorem c_bl {b : Bl} {es : List Tm} (ih : PTms ow es) : PTm ow (.bl b es) := fun X C c e r σp σ Hc H st d st' G hc R h => by
  have hu := G.hu
  have h0 : ev C false (.bl b es) σp st = some (d, st') := by unfold ev at h ⊢; exact h
  obtain ⟨g, ht⟩ := c_blK ih .keep X C c e σp σ Hc H st d st' (fun n f ds h1 h2 => bl_ok G.calm (by omega) h1 h2) G hc R h0
  exact ⟨g.kd r, fun b eb => by subst eb; exact gt_of ht g⟩
theorem c_blO {b : Bl} {es : List Tm} (hb : b = .list ∨ b = .sorted) (ih : PTms ow es) : ∀ (X : Cx) (C : Nat → List D → M D) (c : Cc) (e : Expr) (σp : Env) (σ : L2.St) (Hc H : Hp) (st : Ws) (d : D) (st' : Ws),
    Gx X C c → chE (.bl b es) c e = true → RelE X.K ow σp σ Hc H st → ev C false (.bl b es) σp st = some (d, st') → Gv .own X ow e σ Hc H d st' := fun X C c e σp σ Hc H st d st' G hc R h => by
  have hu := G.hu
  exact (c_blK ih .own X C c e σp σ Hc H st d st' (fun n f ds h1 h2 => bl_own G.calm (by omega) h1 hb h2) G hc R h).1
theorem ty_boot (t : Ty) : bootBuiltins (Str.ofString (tyN t)) = some (.type (tyN t)) ∧ tyN t ∈ BN ∧ Str.ofString (tyN t) ≠ "__name__" ∧ (Str.ofString (tyN t) == ("__debug__" : Str)) = false := by
  cases t <;> exact ⟨by decide +kernel, by simp [tyN, BN], by decide +kernel, by decide +kernel⟩
theorem c_isi {t : Ty} {a : Tm} (iha : PTm ow a) : PTm ow (.isi t a) := fun X C c e r σp σ Hc H st d st' G hc R h => by
  cases e <;> first | (simp [chE] at hc; done) | skip
  rename_i fn as kws pos
  have ho : ∃ x p y z q, fn = .Name x p ∧ as = [y, .Name z q] ∧ kws = [] ∧ x = Str.ofString "isinstance" ∧ z = Str.ofString (tyN t) ∧ glB c.sc x = true ∧ glB c.sc z = true ∧ okE y = true ∧ chE a c y = true := by
    unfold chE at hc
    split at hc
    · rename_i e
      cases e
      simp only [Bool.and_eq_true, decide_eq_true_eq] at hc
      exact ⟨_, _, _, _, _, rfl, rfl, rfl, hc.1.1.1.1.1, hc.1.1.1.1.2, hc.1.1.1.2, hc.1.1.2, hc.1.2, hc.2⟩
    · cases hc
  obtain ⟨x, p, y, z, q, rfl, rfl, rfl, rfl, rfl, h1, h2, h3, h4⟩ := ho
  unfold ev at h
  obtain ⟨da, s1, e1, hA⟩ := bnd_inv h
  obtain ⟨b, s2, e2, hB⟩ := bnd_inv hA
  obtain ⟨b', e3, e4⟩ := lift_inv e2
  cases e4
  cases hB
  obtain ⟨ru, hr, hq⟩ := isi_ok (X := X) (ow := ow) e3
  obtain ⟨t1, t2, t3, t4⟩ := ty_boot t
  have pz : PE X (.Name (Str.ofString (tyN t)) q) (tC (.ty (tyN t))) := pe_bltn (G.gl h2) (G.blt _ t2) t1 rfl t3 t4
  have ih := iha X C c y true σp σ Hc H st da _ G h4 R e1
  have g : Gv .keep X ow (.Call (.Name (Str.ofString "isinstance") p) [y, .Name (Str.ofString (tyN t)) q] [] pos) σ Hc H (.bool b) st' := fun Q qq => evE_of
    (pe_callB hr (G.gl h1) (G.blt "isinstance" (by simp [BN])) (by decide +kernel) (pa_cons pe_sem (pa_cons pz pa_nil rfl) (starE _ h3 _)) (by decide +kernel) (by decide +kernel) (starE _ h3 _) rfl)
    (ih.1 _ fun v Hc1 H1 p1 w1 r1 => hq v Hc1 H1 _ Q p1.sub w1 (RepV.rd r1) fun u Hc2 H2 p2 w2 r2 => qq u Hc2 H2 (stp_trans p1 w1 p2) w2 r2)
  exact ⟨g.kd r, fun b eb => by cases eb; exact gt_of (fun _ => rfl) g⟩
theorem attrB {X : Cx} {o : Expr} {n : Str} {w : Sem Value} (h1 : okE o = true) (h2 : noCall0 o = true) : attributeBase o n X.env w = w := by
  cases o <;> first | rfl | cases h1 | skip
  rename_i f as kws pos
  cases as with
  | nil => cases h2
  | cons a as => cases f <;> rfl
theorem c_mt {m : Mt} {o : Tm} {es : List Tm} (iho : PTm ow o) (ih : PTms ow es) : PTm ow (.mt m o es) := fun X C c e r σp σ Hc H st d st' G hc R h => by
  cases e <;> first | (simp [chE] at hc; done) | skip
  rename_i fn as kws pos
  have ho : ∃ x n ap y q, fn = .Attribute x n ap ∧ as = [y] ∧ kws = [] ∧ mtN m = some q ∧ n = Str.ofString q ∧ okE x = true ∧ noCall0 x = true ∧ (ap.endLine == pos.line) = true ∧ chE o c x = true ∧ chA es c [y] = true := by
    unfold chE at hc
    split at hc
    case h_2 => cases hc
    rename_i e
    cases e
    cases q : mtN m with
    | none => rw [q] at hc; cases hc
    | some nf =>
      rw [q] at hc
      simp only [Bool.and_eq_true, decide_eq_true_eq] at hc
      exact ⟨_, _, _, _, _, rfl, rfl, rfl, rfl, hc.1.1.1.1.1, hc.1.1.1.1.2, hc.1.1.1.2, hc.1.1.2, hc.1.2, hc.2⟩
  obtain ⟨x, n, ap, y, q, rfl, rfl, rfl, hm, rfl, h1, h2, h3, h4, h5⟩ := ho
  unfold ev at h
  obtain ⟨da, s1, e1, hA⟩ := bnd_inv h
  obtain ⟨ds, s2, e2, hB⟩ := bnd_inv hA
  obtain ⟨d', e3, e4⟩ := lift_inv hB
  cases e4
  have iho := iho X C c x true σp σ Hc H st da s1 G h4 R e1
  have st0 := chA_star h5
  have ok : okE y = true := by unfold noStar at st0; exact (Bool.and_eq_true _ _ ▸ st0).1
  have hu := G.hu
  obtain ⟨T, id, pa, sl, hty, ru, hr, hty2, hq⟩ := mt_ok (X := X) (ow := ow) (by omega) hm e3
  have g : Gv .keep X ow (.Call (.Attribute x (Str.ofString q) ap) [y] [] pos) σ Hc H d st' := fun Q qq =>
    evE_of (pe_bm pa sl hty hr pe_sem pa_sem (attrB h1 h2) (by rw [starE _ ok]; rfl) h3 (starE _ ok _) rfl)
      (iho.1 _ fun v Hc1 H1 p1 w1 r1 => ⟨hty2 v Hc1 H1 p1.sub (RepV.rd r1), ih X C c [y] true σp σ Hc1 H1 s1 ds st' G h5 (R.stp p1 w1) e2 _ fun vs Hc2 H2 p2 w2 r2 =>
        hq v vs Hc2 H2 st' Q p2.sub w2 (RepV.stp p2 (RepV.rd r1)) r2 fun z Hc3 H3 p3 w3 r3 => qq z Hc3 H3 (stp_trans (stp_trans p1 w1 p2) w2 p3) w3 r3⟩)
  exact ⟨g.kd r, fun b eb => by subst eb; exact gt_of (fun _ => rfl) g⟩
end
end Q

set_option Elab.async false
set_option linter.all false
set_option maxRecDepth 100000
set_option maxHeartbeats 1000000
/-! L1l: what is walked; targets. -/
namespace Q
open PySem PySem.Spec PyProof.Rows L2
def EvI (X : Cx) (tg iter : Expr) : TI := fun σ H R => ∀ (pins : List (Addr × Obj)) (s : Shared), Inv X pins σ H s →
  wpAny (model X.prog X.w) X.A (eval iter X.env) (fun v s1 => wpAny (model X.prog X.w) X.A (pyIter v) (PIE X pins σ tg R) X.xe s1) X.xe s
theorem pi_sem {X : Cx} {tg iter : Expr} : PI X tg iter (EvI X tg iter) := ⟨fun pins s _ _ _ I h => h pins s I⟩
/-- more is known where one stands behind the iterator's making -/
theorem evI_of {X : Cx} {tg iter : Expr} {wi : TI} {σ : L2.St} {H : Hp} {R R' : L2.It → Hp → Prop} (h : PI X tg iter wi) (q : wi σ H R') (k : ∀ (pins : List (Addr × Obj)) (s : Shared) J H', Inv X pins σ H' s → R' J H' → R J H') : EvI X tg iter σ H R := fun pins s I =>
  thn (h.run pins s σ H R' I q) fun v s1 h1 => thn h1 fun itv s2 h2 => by
    obtain ⟨it, fp, tn, J, H', e, I2, T, st, f, r⟩ := h2
    exact ⟨it, fp, tn, J, H', e, I2, T, st, f, k pins s2 J H' I2 r⟩
/-- where the walked thing still stands: what is kept stands for ever, what is open as long as one only reads -/
def Still (r : Bool) (ow : Option Addr) (Hc H Hc2 H2 : Hp) : Prop := match r with
  | false => Sm Hc Hc2 ∧ Sm Hc2 H2
  | true => Stp ow Hc H Hc2 H2
theorem Still.of {r : Bool} {ow : Option Addr} {Hc H Hc2 H2 : Hp} (s : Stp ow Hc H Hc2 H2) : Still r ow Hc H Hc2 H2 := by
  cases r with
  | false => exact ⟨s.cl, s.sub⟩
  | true => exact s
theorem Still.sub {r : Bool} {ow : Option Addr} {Hc H Hc2 H2 : Hp} (s : Still r ow Hc H Hc2 H2) : Sm Hc Hc2 ∧ Sm Hc2 H2 := by
  cases r with
  | false => exact s
  | true => exact ⟨Stp.cl s, Stp.sub s⟩
/-- J walks the data ds -/
structure Wk (r : Bool) (K : PySem.W.Frag) (ow : Option Addr) (J : L2.It) (Hc H : Hp) (ds : List D) : Prop where
  few : ds.length ≤ sizeLine
  walk : ∃ (G : Hp → Prop) (Y : Nat → Hp → V → Hp → Prop), Walk J ds.length G Y ∧ (∀ Hc2 H2, Still r ow Hc H Hc2 H2 → G H2) ∧
    ∀ i x Hc2 H2 H3, i < ds.length → Still r ow Hc H Hc2 H2 → Y i H2 x H3 → ∃ Hc3 d, Stp ow Hc2 H2 Hc3 H3 ∧ (∀ st, WOk K Hc2 H2 ow st → WOk K Hc3 H3 ow st) ∧ ds[i]? = some d ∧ Rep K ow Hc3 x d
def PIt (ow : Option Addr) (t : It) : Prop := ∀ (X : Cx) (C : Nat → List D → M D) (c : Cc) (tg e : Expr) (r : Bool) (σp : Env) (σ : L2.St) (Hc H : Hp) (st : Ws) (ds : List D) (st' : Ws),
  Gx X C c → chI t c tg e = true → RelE X.K ow σp σ Hc H st → evI C r t σp st = some (ds, st') →
  ∀ R : L2.It → Hp → Prop, (∀ J Hc' H', Stp ow Hc H Hc' H' → WOk X.K Hc' H' ow st' → Wk r X.K ow J Hc' H' ds → R J H') → EvI X tg e σ H R
section
variable {ow : Option Addr}
theorem rgD_len (a b : Int) : (rgD a b).length = (b - a).toNat := by simp [rgD]
theorem rgD_at {a b : Int} {i : Nat} (h : i < (b - a).toNat) : (rgD a b)[i]? = some (.int (a + i)) := by
  simp [rgD, h]
theorem wk_range {r : Bool} {K : PySem.W.Frag} {Hc H : Hp} {a b : Int} {n : Nat} (hn : n = (b - a).toNat) (hs : n ≤ sizeLine) : Wk r K ow (Itr a n) Hc H (rgD a b) := by
  refine ⟨by rw [rgD_len, ← hn]; exact hs, fun _ => True, _, by rw [rgD_len, ← hn]; exact walk_range, fun _ _ _ => trivial, fun i x Hc2 H2 H3 hi s y => ?_⟩
  obtain ⟨rfl, rfl⟩ := y
  rw [rgD_len] at hi
  exact ⟨Hc2, _, .refl s.sub.2, fun _ w => w, rgD_at hi, .int _⟩
/-- where a list that is kept or read stands -/
theorem lst_key {K : PySem.W.Frag} {r : Bool} {H0 Hc H : Hp} {st : Ws} {v : V} {ds : List D} (sub : Sm Hc H) (w : WOk K Hc H ow st) (h : RepV K ow H0 Hc H v (.list ds) (kd r)) :
    ∃ a vs, v = .ref a ∧ H a = some (.lst vs) ∧ RepL K ow Hc vs ds ∧ (r = false → Hc a = some (.lst vs)) ∧ (r = true → ow ≠ some a) := by
  have hcl : Rep K ow Hc v (.list ds) → ∃ a vs, v = .ref a ∧ H a = some (.lst vs) ∧ RepL K ow Hc vs ds ∧ (Hc a = some (.lst vs)) := fun h => by
    cases h with | lst h' r' => exact ⟨_, _, rfl, sub _ _ h', r', h'⟩
  have nw : ∀ a vs, Hc a = some (.lst vs) → ow ≠ some a := fun a vs e z => by
    subst z
    cases st with
    | none => exact w.elim
    | some p =>
      obtain ⟨al, z1, z2, z3⟩ := w
      rw [e] at z2; cases z2
  cases r with
  | false =>
    obtain ⟨a, vs, h1, h2, h3, h4⟩ := hcl h
    exact ⟨a, vs, h1, h2, h3, fun _ => h4, fun z => nomatch z⟩
  | true =>
    rcases (show Rep K ow Hc v _ ∨ _ from h) with r1 | ⟨a, e, o⟩
    · obtain ⟨a, vs, h1, h2, h3, h4⟩ := hcl r1
      exact ⟨a, vs, h1, h2, h3, (fun z => nomatch z), fun _ => nw a vs h4⟩
    · cases o with
      | lst q1 q2 q3 q4 => exact ⟨a, _, e, q1, q2, (fun z => nomatch z), fun _ => q4⟩
theorem i_it {a : Tm} (iha : PTm ow a) : PIt ow (.it a) := fun X C c tg e r σp σ Hc H st ds st' G hc R h Rr hR => by
  simp only [chI, Bool.and_eq_true] at hc
  unfold evI at h
  obtain ⟨da, s1, e1, hA⟩ := bnd_inv h
  obtain ⟨d', e2, e3⟩ := lift_inv hA
  cases e3
  have ih := (iha X C c e r σp σ Hc H st da st' G hc.2 R e1).1
  unfold itemsD at e2
  split at e2
  · -- a list
    rename_i xs
    cases e2
    refine evI_of (R' := fun J H' => ∃ Hc' a vs, Stp ow Hc H Hc' H' ∧ WOk X.K Hc' H' ow st' ∧ J = Itl X.K a ∧ H' a = some (.lst vs) ∧ RepL X.K ow Hc' vs ds ∧ (r = false → Hc' a = some (.lst vs)) ∧ (r = true → ow ≠ some a)) (pi_list pe_sem) (ih _ fun v Hc1 H1 p1 w1 r1 => ?_) fun pins s J H' I q => ?_
    · have key : ∃ a vs, v = .ref a ∧ H1 a = some (.lst vs) ∧ RepL X.K ow Hc1 vs ds ∧ (r = false → Hc1 a = some (.lst vs)) ∧ (r = true → ow ≠ some a) := by
        have hcl : Rep X.K ow Hc1 v (.list ds) → ∃ a vs, v = .ref a ∧ H1 a = some (.lst vs) ∧ RepL X.K ow Hc1 vs ds ∧ (Hc1 a = some (.lst vs)) := fun h => by
          cases h with | lst h' r' => exact ⟨_, _, rfl, p1.sub _ _ h', r', h'⟩
        have nw : ∀ a vs, Hc1 a = some (.lst vs) → ow ≠ some a := fun a vs e z => by
          subst z
          cases st' with
          | none => exact w1.elim
          | some p =>
            obtain ⟨al, z1, z2, z3⟩ := w1
            rw [e] at z2; cases z2
        cases r with
        | false =>
          obtain ⟨a, vs, h1, h2, h3, h4⟩ := hcl r1
          exact ⟨a, vs, h1, h2, h3, fun _ => h4, fun z => nomatch z⟩
        | true =>
          rcases (show Rep X.K ow Hc1 v _ ∨ _ from r1) with r1 | ⟨a, e, o⟩
          · obtain ⟨a, vs, h1, h2, h3, h4⟩ := hcl r1
            exact ⟨a, vs, h1, h2, h3, (fun z => nomatch z), fun _ => nw a vs h4⟩
          · cases o with
            | lst q1 q2 q3 q4 => exact ⟨a, _, e, q1, q2, (fun z => nomatch z), fun _ => q4⟩
      obtain ⟨a, vs, rfl, h2, h3, h4, h5⟩ := key
      exact ⟨a, rfl, ⟨vs, .inl (.inl h2)⟩, Hc1, a, vs, p1, w1, rfl, h2, h3, h4, h5⟩
    · obtain ⟨Hc', a, vs, p1, w1, rfl, h2, h3, h4, h5⟩ := q
      have hl := h3.length
      refine hR _ Hc' H' p1 w1 ⟨?_, fun H => SqL X.K H a vs, _, by rw [← hl]; exact walk_list, fun Hc2 H2 s => ?_, fun i x Hc2 H2 H3 hi s y => ?_⟩
      · obtain ⟨_, _, _, hz⟩ := I.list (xs := vs) (.inl (.inl h2))
        rw [← hl]; exact hz
      · cases r with
        | false => exact .inl (.inl (s.2 _ _ (s.1 _ _ (h4 rfl))))
        | true => exact .inl (.inl (Stp.keep s _ _ h2 (h5 rfl)))
      · obtain ⟨rfl, hx⟩ := y
        obtain ⟨d, hd, rd⟩ := h3.get' hx
        exact ⟨Hc2, d, .refl s.sub.2, fun _ w => w, hd, rd.mono s.sub.1⟩
  · -- a tuple
    rename_i xs
    cases e2
    refine evI_of (R' := fun J H' => ∃ Hc' a vs, Stp ow Hc H Hc' H' ∧ WOk X.K Hc' H' ow st' ∧ J = Itt X.K a ∧ SqT X.K Hc' a vs ∧ RepL X.K ow Hc' vs ds) (pi_tup pe_sem) (ih _ fun v Hc1 H1 p1 w1 r1 => ?_) fun pins s J H' I q => ?_
    · obtain ⟨a, vs, rfl, h2, h3, h4⟩ := RepV.tup r1 p1.sub
      exact ⟨a, rfl, ⟨vs, h2⟩, Hc1, a, vs, p1, w1, rfl, h3, h4⟩
    · obtain ⟨Hc', a, vs, p1, w1, rfl, h2, h3⟩ := q
      have hl := h3.length
      refine hR _ Hc' H' p1 w1 ⟨?_, fun H => SqT X.K H a vs, _, by rw [← hl]; exact walk_tup, fun Hc2 H2 s => s.sub.2.sqT (s.sub.1.sqT h2), fun i x Hc2 H2 H3 hi s y => ?_⟩
      · obtain ⟨_, _, _, hz⟩ := I.tuple (xs := vs) (p1.sub.sqT h2)
        rw [← hl]; exact hz
      · obtain ⟨rfl, hx⟩ := y
        obtain ⟨d, hd, rd⟩ := h3.get' hx
        exact ⟨Hc2, d, .refl s.sub.2, fun _ w => w, hd, rd.mono s.sub.1⟩
  · -- a text
    rename_i z
    cases e2
    refine evI_of (R' := fun J H' => ∃ Hc', Stp ow Hc H Hc' H' ∧ WOk X.K Hc' H' ow st' ∧ J = Its z ∧ okS z = true) (pi_str pe_sem) (ih _ fun v Hc1 H1 p1 w1 r1 => ?_) fun pins s J H' I q => ?_
    · obtain ⟨rfl, k⟩ := RepV.str r1
      exact ⟨z, rfl, Hc1, p1, w1, rfl, k⟩
    · obtain ⟨Hc', p1, w1, rfl, k⟩ := q
      have hl : (z.cps.toList.map fun c => PyData.str (S [c])).length = z.cps.size := by simp
      refine hR _ Hc' H' p1 w1 ⟨by rw [hl]; exact okS_len k, fun _ => True, _, by rw [hl]; exact walk_str, fun _ _ _ => trivial, fun i x Hc2 H2 H3 hi s y => ?_⟩
      obtain ⟨rfl, ch, hch, rfl⟩ := y
      have hm : ch ∈ z.cps.toList := by
        have := Array.mem_of_getElem? hch
        simpa using this
      refine ⟨Hc2, _, .refl s.sub.2, fun _ w => w, ?_, .str (x := ⟨#[ch]⟩) (okS_S (l := [ch]) (fun w hw => ?_) (by show 1 ≤ strMax; decide))⟩
      · rw [List.getElem?_map, Array.getElem?_toList, hch]
        rfl
      · have : w = ch := by simpa using hw
        subst this
        exact (okS_iff.mp k).1 _ hm
  · cases e2
theorem bigI_iff {i : Int} (h : bigI i = true) : -(2 ^ 60) < i ∧ i < 2 ^ 60 := by
  unfold bigI at h
  simpa using h
theorem boot_range' : bootBuiltins (Str.ofString "range") = some (.type "range") := boot_range
theorem i_rg1 {a : Tm} (iha : PTm ow a) : PIt ow (.rg1 a) := fun X C c tg e r σp σ Hc H st ds st' G hc R h Rr hR => by
  cases e <;> first | (simp [chI] at hc; done) | skip
  rename_i fn as kws pos
  have ho : ∃ x p y, fn = .Name x p ∧ as = [y] ∧ kws = [] ∧ x = Str.ofString "range" ∧ glB c.sc x = true ∧ okE y = true ∧ chE a c y = true := by
    unfold chI at hc
    split at hc
    · rename_i e
      cases e
      simp only [Bool.and_eq_true, decide_eq_true_eq] at hc
      exact ⟨_, _, _, rfl, rfl, rfl, hc.1.1.1, hc.1.1.2, hc.1.2, hc.2⟩
    · cases hc
  obtain ⟨x, p, y, rfl, rfl, rfl, rfl, h1, h2, h3⟩ := ho
  unfold evI at h
  obtain ⟨da, s1, e1, hA⟩ := bnd_inv h
  obtain ⟨i, s2, e2, hB⟩ := bnd_inv hA
  obtain ⟨rfl, rfl⟩ := intD_inv e2
  split at hB
  case isFalse => cases hB
  rename_i g
  cases hB
  obtain ⟨b1, b2⟩ := bigI_iff g.1
  have ih := (iha X C c y false σp σ Hc H st _ _ G h3 R e1).1
  refine evI_of (R' := Rr) (pi_range1 (G.gl h1) (G.blt "range" (by simp [BN])) (pa_cons pe_sem pa_nil (starE _ h2 _)) (starE _ h2 _)) (ih _ fun v Hc1 H1 p1 w1 r1 => ?_) fun _ _ _ _ _ q => q
  refine ⟨i, by rw [RepV.int r1], by omega, by omega, hR _ Hc1 H1 p1 w1 (wk_range (by simp) ?_)⟩
  have : lineMax ≤ sizeLine := by decide
  have : (lineMax : Int) = 16000000 := rfl
  have : i ≤ 16000000 := g.2
  have : (16000000 : Nat) ≤ sizeLine := by decide
  omega
theorem i_rg2 {a b : Tm} (iha : PTm ow a) (ihb : PTm ow b) : PIt ow (.rg2 a b) := fun X C c tg e r σp σ Hc H st ds st' G hc R h Rr hR => by
  cases e <;> first | (simp [chI] at hc; done) | skip
  rename_i fn as kws pos
  have ho : ∃ x p y z, fn = .Name x p ∧ as = [y, z] ∧ kws = [] ∧ x = Str.ofString "range" ∧ glB c.sc x = true ∧ okE y = true ∧ okE z = true ∧ chE a c y = true ∧ chE b c z = true := by
    unfold chI at hc
    split at hc
    · rename_i e
      cases e
      simp only [Bool.and_eq_true, decide_eq_true_eq] at hc
      exact ⟨_, _, _, _, rfl, rfl, rfl, hc.1.1.1.1.1, hc.1.1.1.1.2, hc.1.1.1.2, hc.1.1.2, hc.1.2, hc.2⟩
    · cases hc
  obtain ⟨x, p, y, z, rfl, rfl, rfl, rfl, h1, h2, h2', h3, h4⟩ := ho
  unfold evI at h
  obtain ⟨da, s1, e1, hA⟩ := bnd_inv h
  obtain ⟨db, s2, e2, hB⟩ := bnd_inv hA
  obtain ⟨i, s3, e3, hC⟩ := bnd_inv hB
  obtain ⟨rfl, rfl⟩ := intD_inv e3
  obtain ⟨j, s4, e4, hD⟩ := bnd_inv hC
  obtain ⟨rfl, rfl⟩ := intD_inv e4
  split at hD
  case isFalse => cases hD
  rename_i g
  cases hD
  obtain ⟨b1, b2⟩ := bigI_iff g.1
  obtain ⟨b3, b4⟩ := bigI_iff g.2.1
  have ih := (iha X C c y false σp σ Hc H st _ s1 G h3 R e1).1
  refine evI_of (R' := Rr) (pi_range2 (G.gl h1) (G.blt "range" (by simp [BN])) (pa_cons pe_sem (pa_cons pe_sem pa_nil (starE _ h2' _)) (starE _ h2 _)) (by rw [starE _ h2, starE _ h2']; rfl) (starE _ h2' _)) (ih _ fun v Hc1 H1 p1 w1 r1 => ?_) fun _ _ _ _ _ q => q
  refine (ihb X C c z false σp σ Hc1 H1 s1 _ _ G h4 (R.stp p1 w1) e2).1 _ fun u Hc2 H2 p2 w2 r2 => ?_
  refine ⟨i, j, by rw [RepV.int r1, RepV.int r2], ⟨by omega, by omega, by omega, by omega⟩, hR _ Hc2 H2 (stp_trans p1 w1 p2) w2 (wk_range rfl ?_)⟩
  have : (lineMax : Int) = 16000000 := rfl
  have : j - i ≤ 16000000 := g.2.2
  have : (16000000 : Nat) ≤ sizeLine := by decide
  omega
/-! ### enumerate -/
theorem enumD_at : ∀ (ds : List D) (k i : Nat), (enumD k ds)[i]? = (ds[i]?).map fun d => .tuple [.int (k + i : Nat), d]
  | [], _, _ => by simp [enumD]
  | d :: ds, k, 0 => by simp [enumD]
  | d :: ds, k, i + 1 => by
    rw [enumD, List.getElem?_cons_succ, List.getElem?_cons_succ, enumD_at ds (k + 1) i]
    rw [show k + 1 + i = k + (i + 1) by omega]
theorem enumD_len : ∀ (ds : List D) (k : Nat), (enumD k ds).length = ds.length
  | [], _ => rfl
  | d :: ds, k => by rw [enumD, List.length_cons, List.length_cons, enumD_len ds (k + 1)]
/-- a text, each sign in a new pair -/
def Itq (z : Str) : L2.It :=
  ⟨fun i _ => i < z.cps.size, fun i H v H' => ∃ T ch, v = .ref T ∧ H T = none ∧ H' = upd H T (.tup [.int (i : Nat), .str ⟨#[ch]⟩]) ∧ z.cps[i]? = some ch, fun i _ => i = z.cps.size⟩
theorem draws_str {P : Program} {w : World} {A : Around} (hh : A.handled = none) (it : Addr) (z : Str) (t : Tok) (ty : String) (hty : ty = "str_ascii_iterator" ∨ ty = "str_iterator") :
    Draws P w A it [it] z.cps.size (SignAt z) (fun i h => h.IsStrIter it ty z t i) := by
  rcases hty with rfl | rfl
  · exact Draws.strAscii hh it z t
  · exact Draws.strWide hh it z t
theorem turn_enumS {P : Program} {w : World} {K : PySem.W.Frag} {elts : List Expr} {kk : Nat} {tpos : Pos} (e it : Addr) (z : Str) (t : Tok) (ty : String) (hty : ty = "str_ascii_iterator" ∨ ty = "str_iterator") :
    L2.Turn P w K (.Tuple elts kk tpos) (Itq z) [e, it] e (fun i h => (∃ old, IsEnum h e it ((i : Nat) : Int) old) ∧ h.IsStrIter it ty z t i ∧ e ≠ it) where
  mem := by simp
  obj := fun i h st b hb => by
    obtain ⟨⟨old, he⟩, ⟨o, ho, hc, hd⟩, _⟩ := st
    have e' : b = e ∨ b = it := by simpa using hb
    rcases e' with q | q
    · rw [q]; exact ⟨_, he, fun v q => nomatch q⟩
    · rw [q]; exact ⟨o, ho, fun v q => by rw [hd] at q; cases q⟩
  keep := fun i h h' st k => by
    obtain ⟨⟨old, he⟩, ⟨o, ho, r⟩, hne⟩ := st
    exact ⟨⟨old, k e (by simp) _ he⟩, ⟨o, k it (by simp) o ho, r⟩, hne⟩
  item := by
    intro X hP hw hK hc i pins s σ H E I hf st hg
    subst hP hw hK
    obtain ⟨⟨old, he⟩, hit, hne⟩ := st
    have hel : e < s.heap.objs.size := Heap.lt_size he
    have hil : it < s.heap.objs.size := by obtain ⟨_, q, _⟩ := hit; exact Heap.lt_size q
    refine wpAny_pyNext_enum_itemD (fp := [it]) (n := z.cps.size) (P := SignAt z) (St := fun i h => h.IsStrIter it ty z t i) (draws_str (A := X.A.in1) (show X.A.in1.handled = none from I.ok.hd hc) it z t ty hty) he hit hg hne (by simpa using hne) fun x h' tk hP ho hit' hT hsz hk => ?_
    obtain ⟨ch, u, hch, rfl⟩ := hP
    refine ⟨_, rfl, wpAny_letOwnedTupleGo_enum (s := { s with heap := h', toks := tk + 1 }) ho fun h'' he' sb => ?_⟩
    have hT2 : h''.get? s.heap.objs.size = some { cls := .type "tuple", data := .seq #[.int i tk, .str ⟨#[ch]⟩ u] } := (sb.2 _ (Nat.ne_of_gt hel)).trans hT
    have new : L2.ObjOk X.prog X.w (upd H s.heap.objs.size (.tup [.int (i : Nat), .str ⟨#[ch]⟩])) h'' s.heap.objs.size (.tup [.int (i : Nat), .str ⟨#[ch]⟩]) :=
      ⟨by show 2 ≤ sizeLine; decide, [.int i tk, .str ⟨#[ch]⟩ u], .cons ⟨_, rfl⟩ (.cons ⟨_, rfl⟩ .nil), ⟨_, hT2, rfl, _, rfl⟩⟩
    have I1 : Inv X pins σ (upd H s.heap.objs.size (.tup [.int (i : Nat), .str ⟨#[ch]⟩])) { s with heap := h'', toks := tk + 1 } :=
      I.turnedNew (ch := [e, it]) (fun b ob hb q => (sb.2 b (fun z => hb (by simp [z]))).trans (hk b ob (fun z => hb (by simp [z])) (fun z => hb (by simp [z])) q)) hf (Nat.le_refl _) new
    refine ⟨.ref s.heap.objs.size, _, I1, rfl, ⟨_, ch, rfl, I.hok.fresh (Nat.le_refl _), rfl, hch⟩, ⟨⟨.str ⟨#[ch]⟩ u, ?_⟩, ?_, hne⟩, fun b hb => ?_⟩
    · have e1 : ((i + 1 : Nat) : Int) = (i : Int) + 1 := by omega
      rw [e1]; exact he'
    · obtain ⟨o, q1, q2⟩ := hit'
      exact ⟨o, (sb.2 it (Ne.symm hne)).trans q1, q2⟩
    · have hb' : b < s.heap.objs.size := by
        have e' : b = e ∨ b = it := by simpa using hb
        rcases e' with q | q
        · rw [q]; exact hel
        · rw [q]; exact hil
      rw [upd_ne (Nat.ne_of_lt hb')]
      exact (hf b hb).1
  done := by
    intro X hP hw hK hc i pins s σ H E I hf st hg
    subst hP hw hK
    obtain ⟨⟨old, he⟩, hit, hne⟩ := st
    obtain ⟨f0, f1, f2, f3, f4, f5⟩ := hf it (by simp)
    have hg : i = z.cps.size := hg
    subst hg
    exact wpAny_pyNext_enum_endD (fp := [it]) (n := z.cps.size) (P := SignAt z) (St := fun i h => h.IsStrIter it ty z t i) (draws_str (A := X.A.in1) (show X.A.in1.handled = none from I.ok.hd hc) it z t ty hty) he hit fun h' eb => ⟨rfl, I.turned (t' := s.toks) (fun b o hb q => eb b o hb q) f0 f1 f3 f4 f5⟩
  self := fun A i s Q E st h => let ⟨⟨_, he⟩, _⟩ := st; wpAny_pyIter_enum he h
theorem pi_enumS {X : Cx} {e : Expr} {ta : TA} {p pos tpos : Pos} {elts : List Expr} {kk : Nat} (hg : Gl X "enumerate") (hm : X.mg "enumerate" = none) (ha : PA X [e] ta) (hs : starEach [e] X.env = [(false, eval e X.env)] := by rfl) :
    PI X (.Tuple elts kk tpos) (.Call (.Name "enumerate" p) [e] [] pos) (fun σ H R => ta σ H fun vs H1 => ∃ z, vs = [.str z] ∧ R (Itq z) H1) := by
  refine ⟨fun pins s σ H R I h => ?_⟩
  refine Call_ (ld_blt I hg hm boot_enumerate (PyProof.Rows.callWith_type1 (thn (ha.run pos pins s σ H _ I h) fun us s1 ⟨vs, H1, I1, r1, q1⟩ => ?_) hs rfl))
  obtain ⟨z, ex, q⟩ := q1
  subst ex
  cases r1 with
  | cons r rr =>
    cases rr
    obtain ⟨t, rfl⟩ := r
    refine call_enumerate_str fun h' he hit hsz hk => wpAny_pyIter_enum he ?_
    have I2 : Inv X pins σ H1 { s1 with heap := h' } := I1.kept (t' := s1.toks) hk
    have hty : strIterType z = "str_ascii_iterator" ∨ strIterType z = "str_iterator" := by
      unfold strIterType
      split
      · exact .inl rfl
      · exact .inr rfl
    refine ⟨s1.heap.objs.size + 1, [s1.heap.objs.size + 1, s1.heap.objs.size], _, _, H1, rfl, I2, turn_enumS (s1.heap.objs.size + 1) s1.heap.objs.size z t _ hty, ⟨⟨.none, he⟩, hit, Nat.succ_ne_self _⟩, fun b hb => ?_, q⟩
    have e' : b = s1.heap.objs.size + 1 ∨ b = s1.heap.objs.size := by simpa using hb
    have hle : s1.heap.objs.size ≤ b := by
      rcases e' with q | q
      · rw [q]; exact Nat.le_add_right _ _
      · rw [q]; exact Nat.le_refl _
    exact I1.fpOk hle (I1.hok.fresh hle)
theorem walk_enumS {z : Str} : Walk (Itq z) z.cps.size (fun _ => True) (YPair (fun i => some (.int (i : Nat))) (fun i => (z.cps[i]?).map fun ch => V.str ⟨#[ch]⟩)) :=
  ⟨fun _ _ hi _ => hi, fun _ _ => rfl, fun i H v H' _ _ y => by
    obtain ⟨T, ch, h1, h2, h3, h4⟩ := y
    exact ⟨T, .int (i : Nat), .str ⟨#[ch]⟩, h1, h2, h3, rfl, by simp [h4]⟩⟩
/-- what a walk of new pairs gives -/
theorem wk_pairs {r : Bool} {K : PySem.W.Frag} {J : L2.It} {Hc H : Hp} {ds : List D} {n : Nat} {G : Hp → Prop} {f g : Nat → Option V} (hn : n = ds.length) (hs : n ≤ sizeLine) (w : Walk J n G (YPair f g)) (hG : ∀ Hc2 H2, Still r ow Hc H Hc2 H2 → G H2)
    (hd : ∀ i x y Hc2 H2, i < n → Still r ow Hc H Hc2 H2 → f i = some x → g i = some y → ∃ d e, ds[i]? = some (.tuple [d, e]) ∧ Rep K ow Hc2 x d ∧ Rep K ow Hc2 y e) : Wk r K ow J Hc H ds := by
  subst hn
  refine ⟨hs, G, _, w, hG, fun i x Hc2 H2 H3 hi s y => ?_⟩
  obtain ⟨T, x', y', rfl, hT, rfl, e1, e2⟩ := y
  obtain ⟨d, e, h1, h2, h3⟩ := hd i x' y' Hc2 H2 hi s e1 e2
  have sub := s.sub.2
  exact ⟨upd Hc2 T (.tup [x', y']), _, .new sub hT, fun st w => w.new hT sub, h1, .tup (.inl (.inl upd_same)) (.cons (h2.mono (Sm.new (sub.non hT))) (.cons (h3.mono (Sm.new (sub.non hT))) .nil))⟩
theorem i_enum {a : Tm} (iha : PTm ow a) : PIt ow (.enum a) := fun X C c tg e r σp σ Hc H st ds st' G hc R h Rr hR => by
  cases e <;> first | (cases tg <;> (simp [chI] at hc; done)) | skip
  rename_i fn as kws pos
  have ho : ∃ es kk tp x p y, tg = .Tuple es kk tp ∧ fn = .Name x p ∧ as = [y] ∧ kws = [] ∧ x = Str.ofString "enumerate" ∧ glB c.sc x = true ∧ okE y = true ∧ chE a c y = true := by
    unfold chI at hc
    split at hc
    · rename_i e
      cases e
      simp only [Bool.and_eq_true, decide_eq_true_eq] at hc
      exact ⟨_, _, _, _, _, _, rfl, rfl, rfl, rfl, hc.1.1.1, hc.1.1.2, hc.1.2, hc.2⟩
    · cases hc
  obtain ⟨es, kk, tp, x, p, y, rfl, rfl, rfl, rfl, rfl, h1, h2, h3⟩ := ho
  unfold evI at h
  obtain ⟨da, s1, e1, hA⟩ := bnd_inv h
  obtain ⟨ds0, s2, e2, hB⟩ := bnd_inv hA
  obtain ⟨d', e3, e4⟩ := lift_inv e2
  cases e4
  cases hB
  have ih := (iha X C c y r σp σ Hc H st da _ G h3 R e1).1
  unfold enD at e3
  split at e3
  · -- a list
    rename_i xs
    cases e3
    refine evI_of (R' := fun J H' => ∃ Hc' a vs, Stp ow Hc H Hc' H' ∧ WOk X.K Hc' H' ow st' ∧ J = Ite X.K a ∧ H' a = some (.lst vs) ∧ RepL X.K ow Hc' vs ds0 ∧ (r = false → Hc' a = some (.lst vs)) ∧ (r = true → ow ≠ some a)) (pi_enum (G.gl h1) (G.blt "enumerate" (by simp [BN])) (pa_cons pe_sem pa_nil (starE _ h2 _)) (starE _ h2 _)) (ih _ fun v Hc1 H1 p1 w1 r1 => ?_) fun pins s J H' I q => ?_
    · obtain ⟨a, vs, rfl, k2, k3, k4, k5⟩ := lst_key p1.sub w1 r1
      exact ⟨a, vs, rfl, .inl (.inl k2), Hc1, a, vs, p1, w1, rfl, k2, k3, k4, k5⟩
    · obtain ⟨Hc', a, vs, p1, w1, rfl, k2, k3, k4, k5⟩ := q
      have hl := k3.length
      obtain ⟨_, _, _, hz⟩ := I.list (xs := vs) (.inl (.inl k2))
      refine hR _ Hc' H' p1 w1 (wk_pairs (n := vs.length) (by rw [enumD_len, hl]) hz walk_enum (fun Hc2 H2 s => ?_) fun i x y Hc2 H2 hi s ex ey => ?_)
      · cases r with
        | false => exact .inl (.inl (s.2 _ _ (s.1 _ _ (k4 rfl))))
        | true => exact .inl (.inl (Stp.keep s _ _ k2 (k5 rfl)))
      · cases ex
        obtain ⟨d, hd, rd⟩ := k3.get' ey
        exact ⟨_, d, by rw [enumD_at, hd]; simp, .int _, rd.mono s.sub.1⟩
  · -- a text
    rename_i z
    cases e3
    refine evI_of (R' := fun J H' => ∃ Hc', Stp ow Hc H Hc' H' ∧ WOk X.K Hc' H' ow st' ∧ J = Itq z ∧ okS z = true) (pi_enumS (G.gl h1) (G.blt "enumerate" (by simp [BN])) (pa_cons pe_sem pa_nil (starE _ h2 _)) (starE _ h2 _)) (ih _ fun v Hc1 H1 p1 w1 r1 => ?_) fun pins s J H' I q => ?_
    · obtain ⟨rfl, k⟩ := RepV.str r1
      exact ⟨z, rfl, Hc1, p1, w1, rfl, k⟩
    · obtain ⟨Hc', p1, w1, rfl, k⟩ := q
      refine hR _ Hc' H' p1 w1 (wk_pairs (n := z.cps.size) (by rw [enumD_len]; simp) (okS_len k) walk_enumS (fun _ _ _ => trivial) fun i x y Hc2 H2 hi s ex ey => ?_)
      cases ex
      obtain ⟨ch, hch, rfl⟩ := Option.map_eq_some_iff.mp ey
      have hm : ch ∈ z.cps.toList := by
        have := Array.mem_of_getElem? hch
        simpa using this
      refine ⟨_, _, ?_, .int _, .str (x := ⟨#[ch]⟩) (okS_S (l := [ch]) (fun w hw => ?_) (by show 1 ≤ strMax; decide))⟩
      · rw [enumD_at, List.getElem?_map, Array.getElem?_toList, hch]
        simp [S]
      · have : w = ch := by simpa using hw
        subst this
        exact (okS_iff.mp k).1 _ hm
  · cases e3
end
/-! ### targets -/
mutual
def tgT (K : PySem.W.Frag) : Tg → TG
  | .v i => gName i
  | .t gs => gTup K gs.length (tgTs K gs)
def tgTs (K : PySem.W.Frag) : List Tg → TGs
  | [] => gNil
  | g :: gs => gCons (tgT K g) (tgTs K gs)
end
theorem locB_iff {X : Cx} {C : Nat → List D → M D} {c : Cc} (G : Gx X C c) {x : Str} (h : locB c x = true) : Loc X.env.scope x ∧ (X.fn x = true ∨ X.env.scope.names.lookup x = some .local) := by
  unfold locB at h
  rw [G.sc]
  split at h
  · rename_i e
    exact ⟨.inl e, .inr e⟩
  · rename_i e
    exact ⟨.inr e, .inl (by rw [G.fn]; exact h)⟩
  · cases h
theorem assign_len (env : PySem.Env) : ∀ {gs : List Tg} {c : Cc} {es : List Expr}, tgE.tgEs gs c es = true → (assignEach es env).length = gs.length ∧ (assignEach es env).findIdx? (·.1) = none
  | [], c, es, h => by
    cases es with
    | nil => exact ⟨rfl, rfl⟩
    | cons e es => simp [tgE.tgEs] at h
  | g :: gs, c, es, h => by
    cases es with
    | nil => simp [tgE.tgEs] at h
    | cons e es =>
      simp only [tgE.tgEs, Bool.and_eq_true] at h
      obtain ⟨h1, h2⟩ := assign_len env h.2
      have hs : assignEach (e :: es) env = (false, assign e env) :: assignEach es env := by
        cases e <;> first | rfl | (have := h.1.1; cases this)
      rw [hs]
      refine ⟨by rw [List.length_cons, List.length_cons, h1], ?_⟩
      rw [List.findIdx?_cons, h2]
      rfl
mutual
theorem tg_ok {X : Cx} {C : Nat → List D → M D} {c : Cc} (G : Gx X C c) : ∀ {g : Tg} {e : Expr}, tgE g c e = true → PG X e (tgT X.K g)
  | .v i, e, h => by
    cases e <;> first | (simp [tgE] at h; done) | skip
    simp only [tgE, Bool.and_eq_true, decide_eq_true_eq] at h
    obtain ⟨h1, h2⟩ := locB_iff G h.2
    exact pg_name G.nd (by rw [G.N]; exact h.1) h1 h2
  | .t gs, e, h => by
    cases e <;> first | (simp [tgE] at h; done) | skip
    simp only [tgE] at h
    obtain ⟨h1, h2⟩ := assign_len X.env h
    exact pg_tup G.calm (tgs_ok G h) h1 h2
theorem tgs_ok {X : Cx} {C : Nat → List D → M D} {c : Cc} (G : Gx X C c) : ∀ {gs : List Tg} {es : List Expr}, tgE.tgEs gs c es = true → PGs X es (tgTs X.K gs)
  | [], es, h => by
    cases es with
    | nil => exact pgs_nil
    | cons e es => simp [tgE.tgEs] at h
  | g :: gs, es, h => by
    cases es with
    | nil => simp [tgE.tgEs] at h
    | cons e es =>
      simp only [tgE.tgEs, Bool.and_eq_true] at h
      have hs : (assignEach (e :: es) X.env).map (·.2) = assign e X.env :: (assignEach es X.env).map (·.2) := by
        cases e <;> first | rfl | (have := h.1.1; cases this)
      exact pgs_cons (tg_ok G h.1.2) (tgs_ok G h.2) hs
end
end Q

set_option Elab.async false
set_option linter.all false
set_option maxRecDepth 100000
set_option maxHeartbeats 1000000
/-! L1l2: range downward, list(range ..), tuple(range ..), xs[::-1]. -/
namespace Q
open PySem PySem.Spec PyProof.Rows L2
section
variable {ow : Option Addr}
theorem rgM_len (a b : Int) : (rgM a b).length = (a - b).toNat := by simp [rgM]
theorem wk_down {r : Bool} {K : PySem.W.Frag} {Hc H : Hp} {a b : Int} {n : Nat} (hn : n = (a - b).toNat) (hs : n ≤ sizeLine) : Wk r K ow (Itc a (-1) n) Hc H (rgM a b) := by
  refine ⟨by rw [rgM_len, ← hn]; exact hs, fun _ => True, _, by rw [rgM_len, ← hn]; exact walk_rangeC, fun _ _ _ => trivial, fun i x Hc2 H2 H3 hi s y => ?_⟩
  obtain ⟨rfl, rfl⟩ := y
  rw [rgM_len] at hi
  refine ⟨Hc2, _, .refl s.sub.2, fun _ w => w, ?_, .int _⟩
  have e : a + (i : Nat) * (-1 : Int) = a - i := by omega
  rw [e]
  simp [rgM, hi]
theorem i_rg3 {a b d : Tm} (iha : PTm ow a) (ihb : PTm ow b) (ihd : PTm ow d) : PIt ow (.rg3 a b d) := fun X C c tg e r σp σ Hc H st ds st' G hc R h Rr hR => by
  cases e <;> first | (simp [chI] at hc; done) | skip
  rename_i fn as kws pos
  have ho : ∃ x p y z u, fn = .Name x p ∧ as = [y, z, u] ∧ kws = [] ∧ x = Str.ofString "range" ∧ glB c.sc x = true ∧ okE y = true ∧ okE z = true ∧ okE u = true ∧ chE a c y = true ∧ chE b c z = true ∧ chE d c u = true := by
    unfold chI at hc
    split at hc
    · rename_i e
      cases e
      simp only [Bool.and_eq_true, decide_eq_true_eq] at hc
      exact ⟨_, _, _, _, _, rfl, rfl, rfl, hc.1.1.1.1.1.1.1, hc.1.1.1.1.1.1.2, hc.1.1.1.1.1.2, hc.1.1.1.1.2, hc.1.1.1.2, hc.1.1.2, hc.1.2, hc.2⟩
    · cases hc
  obtain ⟨x, p, y, z, u, rfl, rfl, rfl, rfl, h1, h2, h2', h2'', h3, h4, h5⟩ := ho
  unfold evI at h
  obtain ⟨da, s1, e1, hA⟩ := bnd_inv h
  obtain ⟨db, s2, e2, hB⟩ := bnd_inv hA
  obtain ⟨dd, s3, e3, hB⟩ := bnd_inv hB
  obtain ⟨i, s4, e4, hC⟩ := bnd_inv hB
  obtain ⟨rfl, rfl⟩ := intD_inv e4
  obtain ⟨j, s5, e5, hD⟩ := bnd_inv hC
  obtain ⟨rfl, rfl⟩ := intD_inv e5
  obtain ⟨k, s6, e6, hE⟩ := bnd_inv hD
  obtain ⟨rfl, rfl⟩ := intD_inv e6
  split at hE
  case isFalse => cases hE
  rename_i g
  cases hE
  obtain ⟨b1, b2⟩ := bigI_iff g.1
  obtain ⟨b3, b4⟩ := bigI_iff g.2.1
  obtain rfl := g.2.2.1
  have ih := (iha X C c y false σp σ Hc H st _ s1 G h3 R e1).1
  refine evI_of (R' := Rr) (pi_range3 (G.gl h1) (G.blt "range" (by simp [BN])) (pa_cons pe_sem (pa_cons pe_sem (pa_cons pe_sem pa_nil (starE _ h2'' _)) (starE _ h2' _)) (starE _ h2 _)) (by rw [starE _ h2]) (by rw [starE _ h2', starE _ h2'']; rfl)) (ih _ fun v Hc1 H1 p1 w1 r1 => ?_) fun _ _ _ _ _ q => q
  refine (ihb X C c z false σp σ Hc1 H1 s1 _ _ G h4 (R.stp p1 w1) e2).1 _ fun u Hc2 H2 p2 w2 r2 => ?_
  refine (ihd X C c _ false σp σ Hc2 H2 s2 _ _ G h5 (R.stp (stp_trans p1 w1 p2) w2) e3).1 _ fun u3 Hc3 H3 p3 w3 r3 => ?_
  refine ⟨i, j, -1, _, by rw [RepV.int r1, RepV.int r2, RepV.int r3], RgC.neg (by omega) (by omega) (by omega) (by omega), hR _ Hc3 H3 (stp_trans (stp_trans p1 w1 p2) w2 p3) w3 (wk_down rfl ?_)⟩
  have : (lineMax : Int) = 16000000 := rfl
  have : i - j ≤ 16000000 := g.2.2.2
  have : (16000000 : Nat) ≤ sizeLine := by decide
  omega
theorem RepL.rev {K : PySem.W.Frag} {H : Hp} : ∀ {vs : List V} {ds : List D}, RepL K ow H vs ds → RepL K ow H vs.reverse ds.reverse
  | _, _, .nil => .nil
  | _, _, .cons h r => by
    rw [List.reverse_cons, List.reverse_cons]
    exact r.rev.append (.cons h .nil)
theorem revOf_iff {e x : Expr} (h : revOf e = some x) : ∃ k p1 p2 p3 pos, e = .Subscript x (.Slice none none (some (.UnaryOp .USub (.Constant (.int 1) k p1) p2)) p3) pos := by
  unfold revOf at h
  split at h
  · split at h
    · rename_i hi
      cases h
      subst hi
      exact ⟨_, _, _, _, _, rfl⟩
    · cases h
  · cases h
theorem itlOf_iff {e : Expr} {p : Str × Str × List Expr} (h : itlOf e = some p) : ∃ p1 p2 p3 p4, e = .Call (.Name p.1 p1) [.Call (.Name p.2.1 p2) p.2.2 [] p3] [] p4 := by
  unfold itlOf at h
  split at h
  · cases h
    exact ⟨_, _, _, _, rfl⟩
  · cases h
theorem c_rev {a : Tm} (iha : PTm ow a) : PTm ow (.rev a) := fun X C c e r σp σ Hc H st d st' G hc R h => by
  simp only [chE] at hc
  split at hc
  case h_2 => cases hc
  rename_i x hx
  obtain ⟨k, p1, p2, p3, pos, rfl⟩ := revOf_iff hx
  unfold ev at h
  obtain ⟨da, s1, e1, hA⟩ := bnd_inv h
  obtain ⟨d', e2, e3⟩ := lift_inv hA
  cases e3
  have ih := (iha X C c x true σp σ Hc H st da _ G hc R e1).1
  unfold revD at e2
  split at e2
  · rename_i xs
    cases e2
    have g : Gv .keep X ow (.Subscript x (.Slice none none (some (.UnaryOp .USub (.Constant (.int 1) k p1) p2)) p3) pos) σ Hc H (.list xs.reverse) st' := fun Q q =>
      evE_of (pe_revL pe_sem) (ih _ fun v Hc1 H1 q1 w1 r1 => by
        obtain ⟨p, vs, rfl, ha, ra⟩ := (RepV.rd (H1 := H1) r1).lst q1.sub
        exact ⟨p, vs, rfl, .inl (.inl ha), fun p' hp => Res.newL (K := X.K) (st := st') (fun z Hc4 H4 p4 w4 r4 => q z Hc4 H4 (stp_trans q1 w1 p4) w4 r4) q1.sub w1 ra.rev hp⟩)
    exact ⟨g.kd r, fun b eb => by cases eb⟩
  · cases e2
theorem rgV_rep {K : PySem.W.Frag} {H : Hp} (a b : Int) : RepL K ow H (rgV a b) (rgD a b) := by
  unfold rgV rgD
  generalize (List.range (b - a).toNat) = l
  induction l with
  | nil => exact .nil
  | cons x l ih => exact .cons (.int _) ih
theorem c_itl {t : Bool} {it : It} (ih : ∀ a, it = .rg1 a → PTm ow a) (ih2 : ∀ a b, it = .rg2 a b → PTm ow a ∧ PTm ow b) : PTm ow (.itl t it) := fun X C c e r σp σ Hc H st d st' G hc R h => by
  have key : ∀ (te : L2.St → Hp → (Int → Int → Hp → Prop) → Prop) (p pos : Pos) (y : Expr) (i j : Int) (x : Str), x = Str.ofString (if t = true then "tuple" else "list") → glB c.sc x = true → PRg X y te → okE y = true → bigI i = true → bigI j = true → (rgD i j).length ≤ lineMax →
      (∀ Q : Int → Int → Hp → Prop, (∀ Hc' H', Stp ow Hc H Hc' H' → WOk X.K Hc' H' ow st' → Q i j H') → te σ H Q) → d = (if t = true then .tuple (rgD i j) else .list (rgD i j)) → Gv .keep X ow (.Call (.Name x p) [y] [] pos) σ Hc H d st' := by
    rintro te p pos y i j x rfl hg hp ok b1 b2 hl hq rfl Q q
    obtain ⟨c1, c2⟩ := bigI_iff b1
    obtain ⟨c3, c4⟩ := bigI_iff b2
    have hl' : (j - i).toNat ≤ 16000000 := by rw [rgD_len] at hl; exact hl
    have hrg : RgOk i j := ⟨by omega, by omega, by omega, by omega, by omega⟩
    cases t with
    | true =>
      exact evE_of (pe_tupRg G.calm (G.gl hg) (G.blt "tuple" (by simp [BN])) hp (starE _ ok _)) (hq _ fun Hc1 H1 q1 w1 => ⟨hrg, fun p' hp' => Res.newT (K := X.K) (st := st') (fun z Hc4 H4 p4 w4 r4 => q z Hc4 H4 (stp_trans q1 w1 p4) w4 r4) q1.sub w1 (rgV_rep i j) hp'⟩)
    | false =>
      exact evE_of (pe_listRg G.calm (G.gl hg) (G.blt "list" (by simp [BN])) hp (starE _ ok _)) (hq _ fun Hc1 H1 q1 w1 => ⟨hrg, fun p' hp' => Res.newL (K := X.K) (st := st') (fun z Hc4 H4 p4 w4 r4 => q z Hc4 H4 (stp_trans q1 w1 p4) w4 r4) q1.sub w1 (rgV_rep i j) hp'⟩)
  simp only [chE] at hc
  split at hc
  case h_2 => cases hc
  rename_i p hp
  obtain ⟨p1, p2, p3, p4, rfl⟩ := itlOf_iff hp
  simp only [Bool.and_eq_true, decide_eq_true_eq] at hc
  obtain ⟨⟨⟨⟨h1, h2⟩, h3⟩, h4⟩, h5⟩ := hc
  unfold ev at h
  obtain ⟨ds, s1, e1, hA⟩ := bnd_inv h
  split at hA
  case isFalse => cases hA
  rename_i hlen
  cases hA
  have fin : Gv .keep X ow (.Call (.Name p.1 p1) [.Call (.Name p.2.1 p2) p.2.2 [] p3] [] p4) σ Hc H (if t = true then .tuple ds else .list ds) st' → Gv (kd r) X ow (.Call (.Name p.1 p1) [.Call (.Name p.2.1 p2) p.2.2 [] p3] [] p4) σ Hc H (if t = true then .tuple ds else .list ds) st' ∧ (∀ b, (if t = true then PyData.tuple ds else PyData.list ds) = .bool b → Gt X ow (.Call (.Name p.1 p1) [.Call (.Name p.2.1 p2) p.2.2 [] p3] [] p4) σ Hc H b st') := fun g => ⟨g.kd r, fun b eb => by cases t <;> cases eb⟩
  cases it <;> first | (simp [chR] at h5; done) | skip
  case rg1 a =>
    simp only [chR] at h5
    split at h5
    case h_2 => cases h5
    rename_i z hz
    simp only [Bool.and_eq_true] at h5
    rw [hz] at fin ⊢
    unfold evI at e1
    obtain ⟨da, s2, e2, hB⟩ := bnd_inv e1
    obtain ⟨i, s3, e3, hC⟩ := bnd_inv hB
    obtain ⟨rfl, rfl⟩ := intD_inv e3
    split at hC
    case isFalse => cases hC
    rename_i g
    cases hC
    refine fin (key _ _ _ _ 0 i _ h1 h2 (by rw [h3]; exact prg_1 (by rw [← h3]; exact G.gl h4) (G.blt "range" (by simp [BN])) pe_sem (starE _ h5.1 _)) rfl (by decide) g.1 hlen (fun Q hQ => ?_) rfl)
    exact (ih a rfl X C c z false σp σ Hc H st _ _ G h5.2 R e2).1 _ fun v Hc1 H1 q1 w1 r1 => ⟨i, RepV.int r1, hQ Hc1 H1 q1 w1⟩
  case rg2 a b =>
    simp only [chR] at h5
    split at h5
    case h_2 => cases h5
    rename_i z u hz
    simp only [Bool.and_eq_true] at h5
    obtain ⟨⟨⟨k1, k2⟩, k3⟩, k4⟩ := h5
    rw [hz] at fin ⊢
    unfold evI at e1
    obtain ⟨da, s2, e2, hB⟩ := bnd_inv e1
    obtain ⟨db, s3, e3, hC⟩ := bnd_inv hB
    obtain ⟨i, s4, e4, hD⟩ := bnd_inv hC
    obtain ⟨rfl, rfl⟩ := intD_inv e4
    obtain ⟨j, s5, e5, hE⟩ := bnd_inv hD
    obtain ⟨rfl, rfl⟩ := intD_inv e5
    split at hE
    case isFalse => cases hE
    rename_i g
    cases hE
    refine fin (key _ _ _ _ i j _ h1 h2 (by rw [h3]; exact prg_2 (by rw [← h3]; exact G.gl h4) (G.blt "range" (by simp [BN])) pe_sem pe_sem (starE _ k1 _) (starE _ k2 _) (by rw [starE _ k2]; rfl)) rfl g.1 g.2.1 hlen (fun Q hQ => ?_) rfl)
    exact ((ih2 a b rfl).1 X C c z false σp σ Hc H st _ _ G k3 R e2).1 _ fun v Hc1 H1 q1 w1 r1 => ((ih2 a b rfl).2 X C c u false σp σ Hc1 H1 s2 _ _ G k4 (R.stp q1 w1) e3).1 _ fun v2 Hc2 H2 q2 w2 r2 => ⟨i, j, RepV.int r1, RepV.int r2, hQ Hc2 H2 (stp_trans q1 w1 q2) w2⟩
end
end Q

set_option Elab.async false
set_option linter.all false
set_option maxRecDepth 100000
set_option maxHeartbeats 1000000
/-! L1m: list comprehensions; all expressions. -/
namespace Q
open PySem PySem.Spec PyProof.Rows L2
theorem Gx.blk {X : Cx} {C : Nat → List D → M D} {c : Cc} (G : Gx X C c) (scope : Scope) (s0 : Shared) (H0 : Hp) (Cl : Addr) (cl : List (Str × Addr)) (fp : List Addr) :
    Gx (X.blk s0 H0 scope (compEnvC scope cl Cl X.env) fp) C { c with sc := relS scope c.sc, fnb := fun x => scope.names.lookup x == some .cell } :=
  ⟨G.N, G.nd, by show relS scope X.env.scope = _; rw [G.sc], fun _ => rfl, G.calm, G.hu, G.blt, G.call⟩
section
variable {K : PySem.W.Frag} {ow : Option Addr}
theorem RelE.set {σp : Env} {σ : L2.St} {Hc H : Hp} {st : Ws} {x : V} {d : D} (h : RelE K ow σp σ Hc H st) (i : Nat) (r : Rep K ow Hc x d) : RelE K ow (σp.set i (.cl d)) (σ.set i (some x)) Hc H st := by
  refine ⟨h.sub, h.w, by rw [List.length_set, List.length_set, h.len], fun j y e => ?_⟩
  by_cases hj : i = j
  · subst hj
    by_cases hi : i < σp.length
    · rw [List.getElem?_set_self hi] at e
      cases e
      exact ⟨x, by rw [List.getElem?_set_self (by rw [← h.len]; exact hi)], r⟩
    · rw [List.getElem?_eq_none (by simpa using hi)] at e; cases e
  · rw [List.getElem?_set_ne hj] at e
    rw [List.getElem?_set_ne hj]
    exact h.at_ j y e
theorem RelE.un {σp : Env} {σ : L2.St} {Hc H : Hp} {st : Ws} (h : RelE K ow σp σ Hc H st) (i : Nat) : RelE K ow (σp.set i .un) (σ.set i none) Hc H st := by
  refine ⟨h.sub, h.w, by rw [List.length_set, List.length_set, h.len], fun j y e => ?_⟩
  by_cases hj : i = j
  · subst hj
    by_cases hi : i < σp.length
    · rw [List.getElem?_set_self hi] at e
      cases e
      trivial
    · rw [List.getElem?_eq_none (by simpa using hi)] at e; cases e
  · rw [List.getElem?_set_ne hj] at e
    rw [List.getElem?_set_ne hj]
    exact h.at_ j y e
theorem RelE.wipe {σp : Env} {σ : L2.St} {Hc H : Hp} {st : Ws} (h : RelE K ow σp σ Hc H st) : ∀ own : List Nat, RelE K ow (wipeE σp own) (L2.wipe σ own) Hc H st
  | [] => h
  | i :: own => (h.wipe own).un i
theorem wipe_set {σ : L2.St} {i : Nat} {o : Option V} : ∀ {own : List Nat}, i ∈ own → L2.wipe (σ.set i o) own = L2.wipe σ own
  | j :: own, h => by
    show (L2.wipe (σ.set i o) own).set j none = (L2.wipe σ own).set j none
    by_cases hm : i ∈ own
    · rw [wipe_set hm]
    · have e : i = j := by
        rcases List.mem_cons.mp h with e | e
        · exact e
        · exact absurd e hm
      subst e
      have key : ∀ own : List Nat, i ∉ own → L2.wipe (σ.set i o) own = (L2.wipe σ own).set i o := fun own => by
        induction own with
        | nil => intro _; rfl
        | cons k own ih =>
          intro hk
          simp only [List.mem_cons, not_or] at hk
          show (L2.wipe (σ.set i o) own).set k none = ((L2.wipe σ own).set k none).set i o
          rw [ih hk.2, List.set_comm _ _ hk.1]
      rw [key own hm, List.set_set]
mutual
theorem bind_rel {Hc H : Hp} {st : Ws} {own : List Nat} : ∀ {g : Tg} {d : D} {σp σp1 : Env} {σ : L2.St} {x : V} {k : L2.St → Hp → Prop}, RelE K ow σp σ Hc H st → bindT g d σp = some σp1 → Rep K ow Hc x d →
    (∀ σ1, RelE K ow σp1 σ1 Hc H st → (wipeNo g own = true → L2.wipe σ1 own = L2.wipe σ own) → k σ1 H) → tgT K g x σ H k
  | .v i, d, σp, σp1, σ, x, k, R, h, r, q => by
    simp only [bindT] at h
    cases h
    show k (σ.set i (some x)) H
    exact q _ (R.set i r) fun hw => wipe_set (by simpa [wipeNo] using hw)
  | .t gs, d, σp, σp1, σ, x, k, R, h, r, q => by
    cases d <;> first | (simp [bindT] at h; done) | skip
    simp only [bindT] at h
    cases r with
    | tup hs rl =>
      refine ⟨_, _, rfl, R.sub.sqT hs, ?_, binds_rel R h rl fun σ1 R1 hw => q σ1 R1 fun e => hw (by simpa [wipeNo] using e)⟩
      rw [rl.length, bindTs_len h]
theorem binds_rel {Hc H : Hp} {st : Ws} {own : List Nat} : ∀ {gs : List Tg} {ds : List D} {σp σp1 : Env} {σ : L2.St} {xs : List V} {k : L2.St → Hp → Prop}, RelE K ow σp σ Hc H st → bindTs gs ds σp = some σp1 → RepL K ow Hc xs ds →
    (∀ σ1, RelE K ow σp1 σ1 Hc H st → (wipeNo.all gs own = true → L2.wipe σ1 own = L2.wipe σ own) → k σ1 H) → tgTs K gs xs σ H k
  | [], ds, σp, σp1, σ, xs, k, R, h, r, q => by
    cases ds with
    | nil =>
      simp only [bindTs] at h
      cases h
      cases r
      exact ⟨rfl, q σ R fun _ => rfl⟩
    | cons d ds => simp [bindTs] at h
  | g :: gs, ds, σp, σp1, σ, xs, k, R, h, r, q => by
    cases ds with
    | nil => simp [bindTs] at h
    | cons d ds =>
      simp only [bindTs] at h
      cases e : bindT g d σp with
      | none => rw [e] at h; cases h
      | some σp2 =>
        rw [e] at h
        cases r with
        | cons r1 r2 =>
          refine ⟨_, _, rfl, bind_rel (own := own) R e r1 fun σ1 R1 hw => binds_rel (own := own) R1 h r2 fun σ2 R2 hw2 => q σ2 R2 fun hh => ?_⟩
          simp only [wipeNo.all, Bool.and_eq_true] at hh
          rw [hw2 hh.2, hw hh.1]
theorem bindTs_len : ∀ {gs : List Tg} {ds : List D} {σp σp1 : Env}, bindTs gs ds σp = some σp1 → ds.length = gs.length
  | [], ds, σp, σp1, h => by
    cases ds with
    | nil => rfl
    | cons d ds => simp [bindTs] at h
  | g :: gs, ds, σp, σp1, h => by
    cases ds with
    | nil => simp [bindTs] at h
    | cons d ds =>
      simp only [bindTs] at h
      cases e : bindT g d σp with
      | none => rw [e] at h; cases h
      | some σp2 =>
        rw [e] at h
        rw [List.length_cons, List.length_cons, bindTs_len h]
end
end
section
variable {ow : Option Addr}
/-- the comprehension's parts -/
theorem lc_shape {own : List Nat} {g : Tg} {it : It} {k : Option Tm} {t : Tm} {c : Cc} {e : Expr} (hc : chE (.lc own g it k t) c e = true) : ∃ elt tg iter ifs scope pos, e = .ListComp elt [⟨tg, iter, ifs, 0⟩] scope pos ∧
    blkC c.N c.sc scope (ownN c.N own) = true ∧ tgE g { c with sc := relS scope c.sc, fnb := fun x => scope.names.lookup x == some .cell } tg = true ∧ chI it c tg iter = true ∧
    chE t { c with sc := relS scope c.sc, fnb := fun x => scope.names.lookup x == some .cell } elt = true ∧ wipeNo g own = true ∧
    ((k = none ∧ ifs = []) ∨ ∃ q z, k = some q ∧ ifs = [z] ∧ chE q { c with sc := relS scope c.sc, fnb := fun x => scope.names.lookup x == some .cell } z = true) := by
  unfold chE at hc
  split at hc
  case h_2 => cases hc
  simp only [Bool.and_eq_true] at hc
  obtain ⟨⟨⟨⟨⟨h1, h2⟩, h3⟩, h4⟩, h5⟩, h6⟩ := hc
  refine ⟨_, _, _, _, _, _, rfl, h1, h2, h3, h4, h6, ?_⟩
  split at h5
  · exact .inl ⟨rfl, rfl⟩
  · exact .inr ⟨_, _, rfl, rfl, h5⟩
  · cases h5
theorem foldSet (env : PySem.Env) : ∀ {it : It} {c : Cc} {tg e : Expr}, chI it c tg e = true → ∀ x, foldedSetIterable e env x = pure x := fun {it c tg e} h x => by
  have ok : okE e = true := by
    cases it <;> first
      | (simp only [chI, Bool.and_eq_true] at h; exact h.1)
      | (cases e <;> first | rfl | (simp [chI] at h; done) | (cases tg <;> (simp [chI] at h; done)))
  cases e <;> first | rfl | cases ok
theorem lcL_cons {step : D → M (Option D)} {d : D} {r : List D} {st st' : Ws} {l : List D} (h : lcL step (d :: r) st = some (l, st')) : ∃ o s1 l', step d st = some (o, s1) ∧ lcL step r s1 = some (l', st') ∧ l = (match o with | some x => x :: l' | none => l') := by
  unfold lcL at h
  obtain ⟨o, s1, e1, h⟩ := bnd_inv h
  obtain ⟨l', s2, e2, h⟩ := bnd_inv h
  cases h
  exact ⟨o, s1, l', e1, e2, rfl⟩
def wipeIx (N : List Str) : ∀ own : List Nat, (ownN N own).map (·.2) = own := fun own => by
  unfold ownN
  rw [List.map_map]
  simp [Function.comp_def]
theorem c_lcO {own : List Nat} {g : Tg} {it : It} {k : Option Tm} {t : Tm} (ihi : PIt ow it) (ihk : ∀ q, k = some q → PTm ow q) (iht : PTm ow t) : ∀ (X : Cx) (C : Nat → List D → M D) (c : Cc) (e : Expr) (σp : Env) (σ : L2.St) (Hc H : Hp) (st : Ws) (d : D) (st' : Ws),
    Gx X C c → chE (.lc own g it k t) c e = true → RelE X.K ow σp σ Hc H st → ev C false (.lc own g it k t) σp st = some (d, st') →
    ∃ elt tg iter ifs scope pos te tt, e = .ListComp elt [⟨tg, iter, ifs, 0⟩] scope pos ∧ BlkOk X.N X.env.scope scope (ownN c.N own) ∧
      (∀ (s : Shared) (H : Hp) (Cl : Addr) (cl : List (Str × Addr)) (fp : List Addr), PG (X.blk s H scope (compEnvC scope cl Cl X.env) fp) tg (tgT X.K g)) ∧
      (∀ (s : Shared) (H : Hp) (Cl : Addr) (cl : List (Str × Addr)) (fp : List Addr), PTs (X.blk s H scope (compEnvC scope cl Cl X.env) fp) ifs tt) ∧
      (∀ (s : Shared) (H : Hp) (Cl : Addr) (cl : List (Str × Addr)) (fp : List Addr), PE (X.blk s H scope (compEnvC scope cl Cl X.env) fp) elt te) ∧ (∀ x, foldedSetIterable iter X.env x = pure x) ∧
      ∀ Q : VK, (∀ v Hc' H', Stp ow Hc H Hc' H' → WOk X.K Hc' H' ow st' → RepV X.K ow H Hc' H' v d .own → Q v H') → tLc (EvI X tg iter) (tgT X.K g) tt te ((ownN c.N own).map (·.2)) σ H Q := fun X C c e σp σ Hc H st d st' G hc R h => by
  obtain ⟨elt, tg, iter, ifs, scope, pos, rfl, h1, h2, h3, h4, h5, h6⟩ := lc_shape hc
  unfold ev at h
  obtain ⟨ds, s1, e1, hA⟩ := bnd_inv h
  obtain ⟨l, s2, e2, hB⟩ := bnd_inv hA
  cases hB
  have hok : BlkOk X.N X.env.scope scope (ownN c.N own) := by rw [G.N, G.sc]; exact blkOk_by h1
  -- the tests' and the element's readings
  let te : TE := fun σ H Q => ∀ (s : Shared) (H0 : Hp) (Cl : Addr) (cl : List (Str × Addr)) (fp : List Addr), EvE (X.blk s H0 scope (compEnvC scope cl Cl X.env) fp) elt σ H Q
  have ht : ∃ tt : TT, (∀ (s : Shared) (H : Hp) (Cl : Addr) (cl : List (Str × Addr)) (fp : List Addr), PTs (X.blk s H scope (compEnvC scope cl Cl X.env) fp) ifs tt) ∧
      ∀ (σp1 : Env) (σ1 : L2.St) (Hc1 H1 : Hp) (sa sb : Ws) (b : Bool), RelE X.K ow σp1 σ1 Hc1 H1 sa → evc C k σp1 sa = some (b, sb) → ∀ Q : Bool → Hp → Prop, (∀ Hc' H', Stp ow Hc1 H1 Hc' H' → WOk X.K Hc' H' ow sb → Q b H') → tt σ1 H1 Q := by
    rcases h6 with ⟨rfl, rfl⟩ | ⟨q, z, rfl, rfl, hz⟩
    · refine ⟨tYes, fun _ _ _ _ _ => pts_nil, fun σp1 σ1 Hc1 H1 sa sb b R1 he Q hQ => ?_⟩
      unfold evc at he
      cases he
      exact hQ Hc1 H1 (.refl R1.sub) R1.w
    · refine ⟨fun σ H Q => ∀ (s : Shared) (H0 : Hp) (Cl : Addr) (cl : List (Str × Addr)) (fp : List Addr), EvT (X.blk s H0 scope (compEnvC scope cl Cl X.env) fp) z σ H Q, fun s H Cl cl fp => pts_one ⟨fun pins s' σ' H' Q I hq => hq s H Cl cl fp pins s' I⟩, fun σp1 σ1 Hc1 H1 sa sb b R1 he Q hQ s H0 Cl cl fp => ?_⟩
      unfold evc at he
      obtain ⟨db, s3, e3, he⟩ := bnd_inv he
      obtain ⟨rfl, rfl⟩ := boolD_inv he
      exact (ihk q rfl _ C _ z false σp1 σ1 Hc1 H1 sa _ sb (G.blk scope s H0 Cl cl fp) hz R1 e3).2 b rfl Q hQ
  obtain ⟨tt, ht1, ht2⟩ := ht
  refine ⟨elt, tg, iter, ifs, scope, pos, te, tt, rfl, hok, fun s H Cl cl fp => tg_ok (G.blk scope s H Cl cl fp) h2, ht1, fun s H0 Cl cl fp => ⟨fun pins s' σ' H' Q I hq => hq s H0 Cl cl fp pins s' I⟩, foldSet _ h3, fun Q hQ => ?_⟩
  refine ihi X C c tg iter true σp σ Hc H st ds s1 G h3 R e1 _ fun J Hc1 H1 p1 w1 wk => fun Dd hD => ?_
  rw [wipeIx]
  obtain ⟨few, Gg, Y, walk, still, yld⟩ := wk
  have hDc : Hc1 Dd = none := p1.sub.non hD
  have hDw : ow ≠ some Dd := fun e => w1.there _ e hD
  have hD0 : H Dd = none := by
    cases hx : H Dd with
    | none => rfl
    | some o => have := p1.keep Dd o hx hDw; rw [hD] at this; cases this
  refine lc_it walk (Qd := fun H' => Q (.ref Dd) H') (fun i H' => ∃ (Hc' : Hp) (accV : List V) (accD rest : List D) (sti : Ws), Stp ow Hc1 H1 Hc' H' ∧ WOk X.K Hc' H' ow sti ∧ Hc' Dd = none ∧ H' Dd = some (.lst accV) ∧ RepL X.K ow Hc' accV accD ∧
      lcL _ (ds.drop i) sti = some (rest, st') ∧ l = accD ++ rest ∧ accD.length ≤ i)
    ⟨Hc1, [], [], l, s1, .open p1.sub hD, w1.open hD, hDc, upd_same, .nil, by rw [List.drop_zero]; exact e2, rfl, Nat.zero_le _⟩ (fun i H' hi pv => ?_) (fun i x H' H3 hi pv y => ?_) fun H' pv => ?_
  · obtain ⟨Hc', accV, accD, rest, sti, p, _⟩ := pv
    exact still Hc' H' (.of p)
  · obtain ⟨Hc', accV, accD, rest, sti, p, w, n, eD, rl, el, ell, elen⟩ := pv
    obtain ⟨Hc3, dd, p3, w3, hd, rd⟩ := yld i x Hc' H' H3 hi (.of p) y
    have hdr : ds.drop i = dd :: ds.drop (i + 1) := by
      have hi' : i < ds.length := hi
      rw [List.drop_eq_getElem_cons hi']
      congr 1
      have := List.getElem?_eq_getElem hi'
      rw [hd] at this
      exact (Option.some.inj this).symm
    rw [hdr] at el
    obtain ⟨o, sa, l', f1, f2, f3⟩ := lcL_cons el
    have R3 : RelE X.K ow (wipeE σp own) (L2.wipe σ own) Hc3 H3 sti := ((R.stp (stp_trans p1 w1 (stp_trans p w p3)) (w3 sti w)).wipe own)
    cases eb : bindT g dd (wipeE σp own) with
    | none => simp [eb] at f1
    | some σp1 =>
      simp only [eb] at f1
      obtain ⟨b, sb, g1, f1⟩ := bnd_inv f1
      refine bind_rel (own := own) R3 eb rd fun σ2 R2 hw => ⟨?_, ?_⟩
      · rw [hw h5]
        have key : ∀ own : List Nat, L2.wipe (L2.wipe σ own) own = L2.wipe σ own := fun own => by
          have all : ∀ (own : List Nat) (τ : L2.St), (∀ j ∈ own, ∀ v, τ[j]? ≠ some (some v)) → L2.wipe τ own = τ := fun own τ hτ => by
            induction own with
            | nil => rfl
            | cons j own ih =>
              show (L2.wipe τ own).set j none = τ
              rw [ih fun i hi => hτ i (List.mem_cons_of_mem _ hi)]
              apply List.ext_getElem?
              intro i
              by_cases hj : j = i
              · subst hj
                by_cases hl : j < τ.length
                · rw [List.getElem?_set_self hl]
                  have := hτ j List.mem_cons_self
                  rw [List.getElem?_eq_getElem hl] at this ⊢
                  cases q : τ[j] with
                  | none => rfl
                  | some v => rw [q] at this; exact absurd rfl (this v)
                · rw [List.getElem?_eq_none (by simpa using hl), List.getElem?_eq_none (by simpa using hl)]
              · rw [List.getElem?_set_ne hj]
          exact all own _ fun j hj v e => (wipe_some e).2 hj
        exact key own
      · refine ht2 σp1 σ2 Hc3 H3 sti sb b R2 g1 _ fun Hc4 H4 p4 w4 => ?_
        have p4' : Stp ow Hc1 H1 Hc4 H4 := stp_trans (stp_trans p w p3) (w3 sti w) p4
        have eD4 : H4 Dd = some (.lst accV) := p4.keep _ _ (p3.keep _ _ eD hDw) hDw
        have n4 : Hc4 Dd = none := p4.fresh _ (p3.fresh _ n (by rw [eD]; exact fun z => nomatch z)) (by rw [p3.keep _ _ eD hDw]; exact fun z => nomatch z)
        cases b with
        | false =>
          rw [if_neg (by decide)] at f1 ⊢
          cases f1
          exact ⟨Hc4, accV, accD, l', sa, p4', w4, n4, eD4, rl.mono (p3.cl.trans p4.cl), f2, by rw [ell, f3], by omega⟩
        | true =>
          rw [if_pos rfl] at f1 ⊢
          obtain ⟨xv, sc, g2, f1⟩ := bnd_inv f1
          cases f1
          intro s H0 Cl cl fp
          refine (iht _ C _ elt false σp1 σ2 Hc4 H4 sb xv _ (G.blk scope s H0 Cl cl fp) h4 (R2.stp p4 w4) g2).1 _ fun yv Hc5 H5 p5 w5 r5 => ?_
          have r5 : Rep X.K ow Hc5 yv xv := r5
          have eD5 : H5 Dd = some (.lst accV) := p5.keep _ _ eD4 hDw
          have n5 : Hc5 Dd = none := p5.fresh _ n4 (by rw [eD4]; exact fun z => nomatch z)
          have rl5 : RepL X.K ow Hc5 accV accD := rl.mono ((p3.cl.trans p4.cl).trans p5.cl)
          refine ⟨accV, eD5, ?_, Hc5, accV ++ [yv], accD ++ [xv], l', sa, ?_, ?_, n5, upd_same, rl5.append (.cons r5 .nil), f2, by rw [ell, f3]; simp, by rw [List.length_append]; show accD.length + 1 ≤ i + 1; omega⟩
          · have := rl5.length
            omega
          · have p5' : Stp ow Hc1 H1 Hc5 H5 := stp_trans p4' w4 p5
            refine ⟨p5'.cl, fun a o e => ?_, fun a o e ne => ?_, p5'.fresh⟩
            · rw [upd_ne (fun z => by rw [z, n5] at e; cases e)]
              exact p5'.sub a o e
            · rw [upd_ne (ne_of_none e hD)]
              exact p5'.keep a o e ne
          · cases ow with
            | none =>
              cases sa with
              | none => trivial
              | some q => exact w5.elim
            | some aw =>
              cases sa with
              | none => exact w5.elim
              | some pr =>
                obtain ⟨al, z1, z2, z3⟩ := w5
                exact ⟨al, by rw [upd_ne (fun z => hDw (by rw [z]))]; exact z1, z2, z3⟩
  · obtain ⟨Hc', accV, accD, rest, sti, p, w, n, eD, rl, el, ell, elen⟩ := pv
    rw [List.drop_length] at el
    cases el
    rw [List.append_nil] at ell
    subst ell
    exact hQ _ Hc' H' (stp_trans p1 w1 p) w ⟨Dd, rfl, .lst eD rl n hDw, hD0⟩
theorem c_lcOwn {own : List Nat} {g : Tg} {it : It} {k : Option Tm} {t : Tm} (ihi : PIt ow it) (ihk : ∀ q, k = some q → PTm ow q) (iht : PTm ow t) : ∀ (X : Cx) (C : Nat → List D → M D) (c : Cc) (e : Expr) (σp : Env) (σ : L2.St) (Hc H : Hp) (st : Ws) (d : D) (st' : Ws),
    Gx X C c → chE (.lc own g it k t) c e = true → RelE X.K ow σp σ Hc H st → ev C false (.lc own g it k t) σp st = some (d, st') → Gv .own X ow e σ Hc H d st' := fun X C c e σp σ Hc H st d st' G hc R h Q q => by
  obtain ⟨elt, tg, iter, ifs, scope, pos, te, tt, rfl, hok, hg, ht, he, hs, hq⟩ := c_lcO ihi ihk iht X C c e σp σ Hc H st d st' G hc R h
  exact evE_of (pe_lc G.calm G.nd pi_sem hok hg ht he hs) (hq Q q)
theorem c_lc {own : List Nat} {g : Tg} {it : It} {k : Option Tm} {t : Tm} (ihi : PIt ow it) (ihk : ∀ q, k = some q → PTm ow q) (iht : PTm ow t) : PTm ow (.lc own g it k t) := fun X C c e r σp σ Hc H st d st' G hc R h => by
  have h0 : ev C false (.lc own g it k t) σp st = some (d, st') := by unfold ev at h ⊢; exact h
  refine ⟨(c_lcOwn ihi ihk iht X C c e σp σ Hc H st d st' G hc R h0).close.kd r, fun b eb => ?_⟩
  subst eb
  unfold ev at h
  obtain ⟨ds, s1, e1, hA⟩ := bnd_inv h
  obtain ⟨l, s2, e2, hB⟩ := bnd_inv hA
  cases hB
/-- a loop of a comprehension, by an invariant -/
theorem w_it {J : L2.It} {n : Nat} {G : Hp → Prop} {Y : Nat → Hp → V → Hp → Prop} (w : Walk J n G Y) {H0 : Hp} {Qd : Hp → Prop} {Body : (Hp → Prop) → V → Hp → Prop} (Pv : Nat → Hp → Prop) (h0 : Pv 0 H0) (hG : ∀ i H, i ≤ n → Pv i H → G H)
    (hs : ∀ i x H H', i < n → Pv i H → Y i H x H' → Body (Pv (i + 1)) x H') (hd : ∀ H, Pv n H → Qd H) :
    ∃ W : Nat → Nat → Hp → Prop, (∃ m, W 0 m H0) ∧ ∀ i m H, W i m H → (J.stop i H ∧ Qd H) ∨ (J.go i H ∧ ∃ Nx : Hp → Prop, (∀ H', Nx H' → ∃ m', m' < m ∧ W (i + 1) m' H') ∧ ∀ x H', J.yld i H x H' → Body Nx x H') := by
  refine ⟨fun i m H => m = n - i ∧ i ≤ n ∧ Pv i H, ⟨n, by simp, Nat.zero_le _, h0⟩, ?_⟩
  rintro i m H ⟨rfl, hi, p⟩
  have q := hG i H hi p
  by_cases hlt : i < n
  · refine .inr ⟨w.goes i H hlt q, Pv (i + 1), fun H' p' => ⟨n - (i + 1), by omega, rfl, hlt, p'⟩, fun x H' y => hs i x H H' hlt p (w.yields i H x H' hlt q y)⟩
  · have e : i = n := by omega
    subst e
    exact .inl ⟨w.stops H q, hd H p⟩
theorem wipe_idem (σ : L2.St) (own : List Nat) : L2.wipe (L2.wipe σ own) own = L2.wipe σ own := by
  have all : ∀ (own : List Nat) (τ : L2.St), (∀ j ∈ own, ∀ v, τ[j]? ≠ some (some v)) → L2.wipe τ own = τ := fun own τ hτ => by
    induction own with
    | nil => rfl
    | cons j own ih =>
      show (L2.wipe τ own).set j none = τ
      rw [ih fun i hi => hτ i (List.mem_cons_of_mem _ hi)]
      apply List.ext_getElem?
      intro i
      by_cases hj : j = i
      · subst hj
        by_cases hl : j < τ.length
        · rw [List.getElem?_set_self hl]
          have := hτ j List.mem_cons_self
          rw [List.getElem?_eq_getElem hl] at this ⊢
          cases q : τ[j] with
          | none => rfl
          | some v => rw [q] at this; exact absurd rfl (this v)
        · rw [List.getElem?_eq_none (by simpa using hl), List.getElem?_eq_none (by simpa using hl)]
      · rw [List.getElem?_set_ne hj]
  exact all own _ fun j hj v e => (wipe_some e).2 hj
theorem lc2Of_iff {e : Expr} {p : Lc2} (h : lc2Of e = some p) : ∃ pos, e = .ListComp p.elt [⟨p.tg, p.iter, [], 0⟩, ⟨p.tg1, p.iter1, p.ifs1, 0⟩] p.scope pos := by
  unfold lc2Of at h
  split at h
  · split at h
    · rename_i hz
      cases h
      obtain ⟨rfl, rfl⟩ := hz
      exact ⟨_, rfl⟩
    · cases h
  · cases h
theorem lcL2_cons {step : D → M (List D)} {d : D} {r : List D} {st st' : Ws} {l : List D} (h : lcL2 step (d :: r) st = some (l, st')) : ∃ o s1 l', step d st = some (o, s1) ∧ lcL2 step r s1 = some (l', st') ∧ l = o ++ l' := by
  unfold lcL2 at h
  obtain ⟨o, s1, e1, h⟩ := bnd_inv h
  obtain ⟨l', s2, e2, h⟩ := bnd_inv h
  cases h
  exact ⟨o, s1, l', e1, e2, rfl⟩
theorem drop_at {α : Type} {l : List α} {i : Nat} {x : α} (hi : i < l.length) (h : l[i]? = some x) : l.drop i = x :: l.drop (i + 1) := by
  rw [List.drop_eq_getElem_cons hi]
  congr 1
  have := List.getElem?_eq_getElem hi
  rw [h] at this
  exact (Option.some.inj this).symm
theorem RelE.hide {K : PySem.W.Frag} {σp : Env} {σ : L2.St} {Hc H Hc' H' : Hp} {st st' : Ws} (h : RelE K ow σp σ Hc H st) (s : Sm Hc Hc') (s2 : Sm Hc' H') (w : WOk K Hc' H' ow st') : RelE K ow (hideE σp) σ Hc' H' st' := by
  refine ⟨s2, w, by unfold hideE; rw [List.length_map]; exact h.len, fun i x e => ?_⟩
  unfold hideE at e
  rw [List.getElem?_map] at e
  obtain ⟨y, e1, rfl⟩ := Option.map_eq_some_iff.mp e
  have := h.at_ i y e1
  cases y with
  | cl d =>
    obtain ⟨v, e2, r⟩ := this
    exact ⟨v, e2, r.mono s⟩
  | _ => trivial
theorem c_lc2O {own : List Nat} {g g1 : Tg} {it it1 : It} {k : Option Tm} {t : Tm} (ihi : PIt ow it) (ihi1 : PIt ow it1) (ihk : ∀ q, k = some q → PTm ow q) (iht : PTm ow t) : ∀ (X : Cx) (C : Nat → List D → M D) (c : Cc) (e : Expr) (σp : Env) (σ : L2.St) (Hc H : Hp) (st : Ws) (d : D) (st' : Ws),
    Gx X C c → chE (.lc2 own g it g1 it1 k t) c e = true → RelE X.K ow σp σ Hc H st → ev C false (.lc2 own g it g1 it1 k t) σp st = some (d, st') →
    ∃ (p : Lc2) (pos : Pos) (te : TE) (wi1 : TI) (tt : TT), e = .ListComp p.elt [⟨p.tg, p.iter, [], 0⟩, ⟨p.tg1, p.iter1, p.ifs1, 0⟩] p.scope pos ∧ BlkOk X.N X.env.scope p.scope (ownN c.N own) ∧ (∀ i ∈ tgV g1, i ∈ (ownN c.N own).map (·.2)) ∧
      (∀ (s : Shared) (H : Hp) (Cl : Addr) (cl : List (Str × Addr)) (fp : List Addr), PG (X.blk s H p.scope (compEnvC p.scope cl Cl X.env) fp) p.tg (tgT X.K g)) ∧
      (∀ (s : Shared) (H : Hp) (Cl : Addr) (cl : List (Str × Addr)) (fp : List Addr), PI (X.blk s H p.scope (compEnvC p.scope cl Cl X.env) fp) p.tg1 p.iter1 wi1) ∧
      (∀ (s : Shared) (H : Hp) (Cl : Addr) (cl : List (Str × Addr)) (fp : List Addr), PG (X.blk s H p.scope (compEnvC p.scope cl Cl X.env) fp) p.tg1 (tgT X.K g1)) ∧
      (∀ (s : Shared) (H : Hp) (Cl : Addr) (cl : List (Str × Addr)) (fp : List Addr), PTs (X.blk s H p.scope (compEnvC p.scope cl Cl X.env) fp) p.ifs1 tt) ∧
      (∀ (s : Shared) (H : Hp) (Cl : Addr) (cl : List (Str × Addr)) (fp : List Addr), PE (X.blk s H p.scope (compEnvC p.scope cl Cl X.env) fp) p.elt te) ∧ (∀ x, foldedSetIterable p.iter X.env x = pure x) ∧ (∀ env x, foldedSetIterable p.iter1 env x = pure x) ∧
      ∀ Q : VK, (∀ v Hc' H', Stp ow Hc H Hc' H' → WOk X.K Hc' H' ow st' → RepV X.K ow H Hc' H' v d .own → Q v H') → tLc2 (EvI X p.tg p.iter) (tgT X.K g) tYes wi1 (tgT X.K g1) tt te ((ownN c.N own).map (·.2)) (tgV g1) σ H Q := fun X C c e σp σ Hc H st d st' G hc R h => by
  simp only [chE] at hc
  split at hc
  case h_2 => cases hc
  rename_i p hp
  obtain ⟨pos, rfl⟩ := lc2Of_iff hp
  simp only [Bool.and_eq_true] at hc
  obtain ⟨⟨⟨⟨⟨⟨⟨⟨⟨c1, c2⟩, c3⟩, c4⟩, c5⟩, c6⟩, c7⟩, c8⟩, c9⟩, c10⟩ := hc
  unfold ev at h
  obtain ⟨ds, s1, e1, hA⟩ := bnd_inv h
  obtain ⟨l, s2, e2, hB⟩ := bnd_inv hA
  split at hB
  case isFalse => cases hB
  rename_i hll
  cases hB
  have hls : lineMax ≤ sizeLine := by decide
  have hok : BlkOk X.N X.env.scope p.scope (ownN c.N own) := by rw [G.N, G.sc]; exact blkOk_by c1
  let te : TE := fun σ H Q => ∀ (s : Shared) (H0 : Hp) (Cl : Addr) (cl : List (Str × Addr)) (fp : List Addr), EvE (X.blk s H0 p.scope (compEnvC p.scope cl Cl X.env) fp) p.elt σ H Q
  let wi1 : TI := fun σ H R => ∀ (s : Shared) (H0 : Hp) (Cl : Addr) (cl : List (Str × Addr)) (fp : List Addr), EvI (X.blk s H0 p.scope (compEnvC p.scope cl Cl X.env) fp) p.tg1 p.iter1 σ H R
  have ht : ∃ tt : TT, (∀ (s : Shared) (H : Hp) (Cl : Addr) (cl : List (Str × Addr)) (fp : List Addr), PTs (X.blk s H p.scope (compEnvC p.scope cl Cl X.env) fp) p.ifs1 tt) ∧
      ∀ (σp1 : Env) (σ1 : L2.St) (Hc1 H1 : Hp) (sa sb : Ws) (b : Bool), RelE X.K ow σp1 σ1 Hc1 H1 sa → evc C k σp1 sa = some (b, sb) → ∀ Q : Bool → Hp → Prop, (∀ Hc' H', Stp ow Hc1 H1 Hc' H' → WOk X.K Hc' H' ow sb → Q b H') → tt σ1 H1 Q := by
    cases k with
    | none =>
      have hn : p.ifs1 = [] := by simpa [chQ] using c7
      rw [hn]
      refine ⟨tYes, fun _ _ _ _ _ => pts_nil, fun σp1 σ1 Hc1 H1 sa sb b R1 he Q hQ => ?_⟩
      unfold evc at he
      cases he
      exact hQ Hc1 H1 (.refl R1.sub) R1.w
    | some q =>
      simp only [chQ] at c7
      split at c7
      case h_2 => cases c7
      rename_i z hz
      rw [hz]
      refine ⟨fun σ H Q => ∀ (s : Shared) (H0 : Hp) (Cl : Addr) (cl : List (Str × Addr)) (fp : List Addr), EvT (X.blk s H0 p.scope (compEnvC p.scope cl Cl X.env) fp) z σ H Q, fun s H Cl cl fp => pts_one ⟨fun pins s' σ' H' Q I hq => hq s H Cl cl fp pins s' I⟩, fun σp1 σ1 Hc1 H1 sa sb b R1 he Q hQ s H0 Cl cl fp => ?_⟩
      unfold evc at he
      obtain ⟨db, s3, e3, he⟩ := bnd_inv he
      obtain ⟨rfl, rfl⟩ := boolD_inv he
      exact (ihk q rfl _ C _ z false σp1 σ1 Hc1 H1 sa _ sb (G.blk p.scope s H0 Cl cl fp) c7 R1 e3).2 b rfl Q hQ
  obtain ⟨tt, ht1, ht2⟩ := ht
  refine ⟨p, pos, te, wi1, tt, rfl, hok, fun i hi => by
        rw [wipeIx]
        have := List.all_eq_true.mp c10 i hi
        simpa using this, fun s H Cl cl fp => tg_ok (G.blk p.scope s H Cl cl fp) c2, fun s H0 Cl cl fp => ⟨fun pins s' σ' H' Q I hq => hq s H0 Cl cl fp pins s' I⟩, fun s H Cl cl fp => tg_ok (G.blk p.scope s H Cl cl fp) c4, ht1, fun s H0 Cl cl fp => ⟨fun pins s' σ' H' Q I hq => hq s H0 Cl cl fp pins s' I⟩, foldSet _ c3, fun env => foldSet env c5, fun Q hQ => ?_⟩
  · skip
    refine ihi X C c p.tg p.iter true σp σ Hc H st ds s1 G c3 R e1 _ fun J Hc1 H1 p1 w1 wk => fun Dd hD => ?_
    rw [wipeIx]
    obtain ⟨few, Gg, Y, walk, still, yld⟩ := wk
    have hDc : Hc1 Dd = none := p1.sub.non hD
    have hDw : ow ≠ some Dd := fun e => w1.there _ e hD
    have hD0 : H Dd = none := by
      cases hx : H Dd with
      | none => rfl
      | some o => have := p1.keep Dd o hx hDw; rw [hD] at this; cases this
    refine w_it walk (fun i H' => ∃ (Hc' : Hp) (accV : List V) (accD rest : List D) (sti : Ws), Stp ow Hc1 H1 Hc' H' ∧ WOk X.K Hc' H' ow sti ∧ Hc' Dd = none ∧ H' Dd = some (.lst accV) ∧ RepL X.K ow Hc' accV accD ∧
        lcL2 _ (ds.drop i) sti = some (rest, st') ∧ l = accD ++ rest)
      ⟨Hc1, [], [], l, s1, .open p1.sub hD, w1.open hD, hDc, upd_same, .nil, by rw [List.drop_zero]; exact e2, rfl⟩ (fun i H' hi pv => ?_) (fun i x H' H3 hi pv y => ?_) fun H' pv => ?_
    · obtain ⟨Hc', accV, accD, rest, sti, p, _⟩ := pv
      exact still Hc' H' (.of p)
    · obtain ⟨Hc', accV, accD, rest, sti, p', w, n, eD, rl, el, ell⟩ := pv
      obtain ⟨Hc3, dd, p3, w3, hd, rd⟩ := yld i x Hc' H' H3 hi (.of p') y
      rw [drop_at hi hd] at el
      obtain ⟨o, sa, l', f1, f2, f3⟩ := lcL2_cons el
      have R3 : RelE X.K ow (wipeE σp own) (L2.wipe σ own) Hc3 H3 sti := ((R.stp (stp_trans p1 w1 (stp_trans p' w p3)) (w3 sti w)).wipe own)
      cases eb : bindT g dd (wipeE σp own) with
      | none => simp [eb] at f1
      | some σp1 =>
        simp only [eb] at f1
        obtain ⟨ds1, sb, g2, f1⟩ := bnd_inv f1
        refine bind_rel (own := own) R3 eb rd fun σ2 R2 hw => ⟨?_, ?_⟩
        · rw [hw c8]
          exact wipe_idem σ own
        · show wi1 σ2 H3 _
          intro s H0 Cl cl fp
          refine ihi1 _ C _ p.tg1 p.iter1 false (hideE σp1) σ2 Hc3 H3 sti ds1 sb (G.blk p.scope s H0 Cl cl fp) c5 (R2.hide Sm.refl R2.sub R2.w) g2 _ fun J1 Hc4 H4 p4 w4 wk1 => ?_
          obtain ⟨few1, Gg1, Y1, walk1, still1, yld1⟩ := wk1
          have q4 : Stp ow Hc1 H1 Hc4 H4 := stp_trans (stp_trans p' w p3) (w3 sti w) p4
          have eD4 : H4 Dd = some (.lst accV) := p4.keep _ _ (p3.keep _ _ eD hDw) hDw
          have n4 : Hc4 Dd = none := p4.fresh _ (p3.fresh _ n (by rw [eD]; exact fun z => nomatch z)) (by rw [p3.keep _ _ eD hDw]; exact fun z => nomatch z)
          refine w_it walk1 (fun j H' => ∃ (Hc' : Hp) (accV1 : List V) (accD1 rest1 : List D) (stj : Ws), Stp ow Hc1 H1 Hc' H' ∧ Sm Hc4 Hc' ∧ WOk X.K Hc' H' ow stj ∧ Hc' Dd = none ∧ H' Dd = some (.lst accV1) ∧ RepL X.K ow Hc' accV1 accD1 ∧
              lcL _ (ds1.drop j) stj = some (rest1, sa) ∧ l = accD1 ++ rest1 ++ l')
            ⟨Hc4, accV, accD, o, sb, q4, Sm.refl, w4, n4, eD4, rl.mono (p3.cl.trans p4.cl), by rw [List.drop_zero]; exact f1, by rw [ell, f3, List.append_assoc]⟩ (fun j H' hj pv => ?_) (fun j x H' H5 hj pv y => ?_) fun H' pv => ?_
          · obtain ⟨Hc', _, _, _, _, pa, pb, _⟩ := pv
            exact still1 Hc' H' ⟨pb, pa.sub⟩
          · obtain ⟨Hc', accV1, accD1, rest1, stj, pa, pb, w5, n5, eD5, rl5, el5, ell5⟩ := pv
            obtain ⟨Hc6, d6, p6, w6, hd6, rd6⟩ := yld1 j x Hc' H' H5 hj ⟨pb, pa.sub⟩ y
            rw [drop_at hj hd6] at el5
            obtain ⟨o6, s6, l6, f61, f62, f63⟩ := lcL_cons el5
            have R6 : RelE X.K ow (wipeE (hideE σp1) (tgV g1)) (L2.wipe σ2 (tgV g1)) Hc6 H5 stj := ((R2.hide ((p4.cl.trans pb).trans p6.cl) p6.sub (w6 stj w5)).wipe (tgV g1))
            cases eb6 : bindT g1 d6 (wipeE (hideE σp1) (tgV g1)) with
            | none => simp [eb6] at f61
            | some σp3 =>
              simp only [eb6] at f61
              obtain ⟨b, s7, g7, f61⟩ := bnd_inv f61
              refine bind_rel (own := tgV g1) R6 eb6 rd6 fun σ3 R7 hw7 => ⟨?_, ?_⟩
              · rw [hw7 c9]
                exact wipe_idem σ2 (tgV g1)
              · refine ht2 σp3 σ3 Hc6 H5 stj s7 b R7 g7 _ fun Hc8 H8 p8 w8 => ?_
                have pa8 : Stp ow Hc1 H1 Hc8 H8 := stp_trans (stp_trans pa w5 p6) (w6 stj w5) p8
                have pb8 : Sm Hc4 Hc8 := (pb.trans p6.cl).trans p8.cl
                have eD8 : H8 Dd = some (.lst accV1) := p8.keep _ _ (p6.keep _ _ eD5 hDw) hDw
                have n8 : Hc8 Dd = none := p8.fresh _ (p6.fresh _ n5 (by rw [eD5]; exact fun z => nomatch z)) (by rw [p6.keep _ _ eD5 hDw]; exact fun z => nomatch z)
                cases b with
                | false =>
                  rw [if_neg (by decide)] at f61 ⊢
                  cases f61
                  exact ⟨Hc8, accV1, accD1, l6, _, pa8, pb8, w8, n8, eD8, rl5.mono (p6.cl.trans p8.cl), f62, by rw [ell5, f63]⟩
                | true =>
                  rw [if_pos rfl] at f61 ⊢
                  obtain ⟨xv, sc, g9, f61⟩ := bnd_inv f61
                  cases f61
                  intro s H0 Cl cl fp
                  refine (iht _ C _ p.elt false σp3 σ3 Hc8 H8 s7 xv _ (G.blk p.scope s H0 Cl cl fp) c6 (R7.stp p8 w8) g9).1 _ fun yv Hc9 H9 p9 w9 r9 => ?_
                  have r9 : Rep X.K ow Hc9 yv xv := r9
                  have eD9 : H9 Dd = some (.lst accV1) := p9.keep _ _ eD8 hDw
                  have n9 : Hc9 Dd = none := p9.fresh _ n8 (by rw [eD8]; exact fun z => nomatch z)
                  have rl9 : RepL X.K ow Hc9 accV1 accD1 := rl5.mono ((p6.cl.trans p8.cl).trans p9.cl)
                  have ell9 : l = (accD1 ++ [xv]) ++ l6 ++ l' := by rw [ell5, f63]; simp
                  refine ⟨accV1, eD9, ?_, Hc9, accV1 ++ [yv], accD1 ++ [xv], l6, _, ?_, ?_, ?_, n9, upd_same, rl9.append (.cons r9 .nil), f62, ell9⟩
                  · have := rl9.length
                    have h9 := congrArg List.length ell9
                    simp only [List.length_append, List.length_cons, List.length_nil] at h9
                    omega
                  · have p9' : Stp ow Hc1 H1 Hc9 H9 := stp_trans pa8 w8 p9
                    refine ⟨p9'.cl, fun a o e => ?_, fun a o e ne => ?_, p9'.fresh⟩
                    · rw [upd_ne (fun z => by rw [z, n9] at e; cases e)]
                      exact p9'.sub a o e
                    · rw [upd_ne (ne_of_none e hD)]
                      exact p9'.keep a o e ne
                  · exact pb8.trans p9.cl
                  · cases ow with
                    | none =>
                      cases s6 with
                      | none => trivial
                      | some q => exact w9.elim
                    | some aw =>
                      cases s6 with
                      | none => exact w9.elim
                      | some pr =>
                        obtain ⟨al, z1, z2, z3⟩ := w9
                        exact ⟨al, by rw [upd_ne (fun z => hDw (by rw [z]))]; exact z1, z2, z3⟩
          · obtain ⟨Hc', accV1, accD1, rest1, stj, pa, pb, w5, n5, eD5, rl5, el5, ell5⟩ := pv
            rw [List.drop_length] at el5
            cases el5
            rw [List.append_nil] at ell5
            exact ⟨Hc', accV1, accD1, l', _, pa, w5, n5, eD5, rl5, f2, ell5⟩
    · obtain ⟨Hc', accV, accD, rest, sti, p, w, n, eD, rl, el, ell⟩ := pv
      rw [List.drop_length] at el
      cases el
      rw [List.append_nil] at ell
      subst ell
      exact hQ _ Hc' H' (stp_trans p1 w1 p) w ⟨Dd, rfl, .lst eD rl n hDw, hD0⟩
theorem c_lc2Own {own : List Nat} {g g1 : Tg} {it it1 : It} {k : Option Tm} {t : Tm} (ihi : PIt ow it) (ihi1 : PIt ow it1) (ihk : ∀ q, k = some q → PTm ow q) (iht : PTm ow t) : ∀ (X : Cx) (C : Nat → List D → M D) (c : Cc) (e : Expr) (σp : Env) (σ : L2.St) (Hc H : Hp) (st : Ws) (d : D) (st' : Ws),
    Gx X C c → chE (.lc2 own g it g1 it1 k t) c e = true → RelE X.K ow σp σ Hc H st → ev C false (.lc2 own g it g1 it1 k t) σp st = some (d, st') → Gv .own X ow e σ Hc H d st' := fun X C c e σp σ Hc H st d st' G hc R h Q q => by
  obtain ⟨p, pos, te, wi1, tt, rfl, hok, hv, hg, hi1, hg1, ht1, he, hs, hs1, hq⟩ := c_lc2O ihi ihi1 ihk iht X C c e σp σ Hc H st d st' G hc R h
  exact evE_of (pe_lc2 G.calm G.nd pi_sem hok hv hg (fun _ _ _ _ _ => pts_nil) hi1 hg1 ht1 he hs hs1) (hq Q q)
theorem c_lc2 {own : List Nat} {g g1 : Tg} {it it1 : It} {k : Option Tm} {t : Tm} (ihi : PIt ow it) (ihi1 : PIt ow it1) (ihk : ∀ q, k = some q → PTm ow q) (iht : PTm ow t) : PTm ow (.lc2 own g it g1 it1 k t) := fun X C c e r σp σ Hc H st d st' G hc R h => by
  have h0 : ev C false (.lc2 own g it g1 it1 k t) σp st = some (d, st') := by unfold ev at h ⊢; exact h
  refine ⟨(c_lc2Own ihi ihi1 ihk iht X C c e σp σ Hc H st d st' G hc R h0).close.kd r, fun b eb => ?_⟩
  subst eb
  unfold ev at h
  obtain ⟨ds, s1, e1, hA⟩ := bnd_inv h
  obtain ⟨l, s2, e2, hB⟩ := bnd_inv hA
  split at hB <;> cases hB
theorem c_off {t : Tm} (h : ∀ c e, chE t c e = false) : PTm ow t := fun X C c e r σp σ Hc H st d st' G hc R _ => by rw [h] at hc; cases hc
theorem i_off {t : It} (h : ∀ c g e, chI t c g e = false) : PIt ow t := fun X C c tg e r σp σ Hc H st ds st' G hc R _ => by rw [h] at hc; cases hc
/-! every expression, every iterable -/
mutual
theorem tm_ok : ∀ t : Tm, PTm ow t
  | .var i => c_var
  | .cst d => c_cst
  | .tup es => c_tup (tms_ok es)
  | .lst es => c_lst (tms_ok es)
  | .dct es => c_off fun c e => by cases e <;> rfl
  | .bin op a b => c_bin (tm_ok a) (tm_ok b)
  | .neg a => c_neg (tm_ok a)
  | .not a => c_not (tm_ok a)
  | .and a b => c_and (tm_ok a) (tm_ok b)
  | .or a b => c_or (tm_ok a) (tm_ok b)
  | .cmp k a b => c_cmp (tm_ok a) (tm_ok b)
  | .isN a => c_isN (tm_ok a)
  | .notN a => c_notN (tm_ok a)
  | .chn k1 k2 a b z => c_chn (tm_ok a) (tm_ok b) (tm_ok z)
  | .ite k a b => c_ite (tm_ok k) (tm_ok a) (tm_ok b)
  | .idx a b => c_idx (tm_ok a) (tm_ok b)
  | .slc a lo hi => c_slc (tm_ok a) (tmo_ok lo) (tmo_ok hi)
  | .rev a => c_rev (tm_ok a)
  | .call f es => c_call (tms_ok es)
  | .bl b es => c_bl (tms_ok es)
  | .mt m o es => c_mt (tm_ok o) (tms_ok es)
  | .itl b (.rg1 a) => c_itl (fun a' e => by cases e; exact tm_ok a) (fun a' b' e => by cases e)
  | .itl b (.rg2 a a2) => c_itl (fun a' e => by cases e) (fun a' b' e => by cases e; exact ⟨tm_ok a, tm_ok a2⟩)
  | .itl b (.it a) => c_itl (fun a' e => by cases e) (fun a' b' e => by cases e)
  | .itl b (.rg3 _ _ _) => c_itl (fun a' e => by cases e) (fun a' b' e => by cases e)
  | .itl b (.enum _) => c_itl (fun a' e => by cases e) (fun a' b' e => by cases e)
  | .itl b (.zip _ _) => c_itl (fun a' e => by cases e) (fun a' b' e => by cases e)
  | .itl b (.zip3 _ _ _) => c_itl (fun a' e => by cases e) (fun a' b' e => by cases e)
  | .isB k b a => c_off fun c e => by cases e <;> rfl
  | .isi t a => c_isi (tm_ok a)
  | .lc own g it k t => c_lc (it_ok it) (tmk_ok k) (tm_ok t)
  | .lc2 own g it g1 it1 k t => c_lc2 (it_ok it) (it_ok it1) (tmk_ok k) (tm_ok t)
theorem tms_ok : ∀ ts : List Tm, PTms ow ts
  | [] => c_nil
  | t :: ts => c_cons (tm_ok t) (tms_ok ts)
theorem tmo_ok : ∀ t : Option Tm, PTo ow t
  | none => o_none
  | some t => o_some (tm_ok t)
theorem tmk_ok : ∀ (k : Option Tm) (q : Tm), k = some q → PTm ow q
  | none, q, e => by cases e
  | some t, q, e => by cases e; exact tm_ok t
theorem it_ok : ∀ t : It, PIt ow t
  | .it a => i_it (tm_ok a)
  | .rg1 a => i_rg1 (tm_ok a)
  | .rg2 a b => i_rg2 (tm_ok a) (tm_ok b)
  | .rg3 a b z => i_rg3 (tm_ok a) (tm_ok b) (tm_ok z)
  | .enum a => i_enum (tm_ok a)
  | .zip a b => i_off fun c g e => by cases e <;> rfl
  | .zip3 a b z => i_off fun c g e => by cases e <;> rfl
end
end
end Q

set_option Elab.async false
set_option linter.all false
set_option maxRecDepth 100000
set_option maxHeartbeats 1000000
/-! L1n: the checker of statements; what is kept between statements. -/
namespace Q
open PySem PySem.Spec PyProof.Rows L2
/-! ### the checker -/
def freshT : Tm → Bool
  | .lst _ => true
  | .lc .. => true
  | .lc2 .. => true
  | .bl .list _ => true
  | .bl .sorted _ => true
  | _ => false
/-- what the parallel store does -/
def parR (c : Cc) (ts vs : List Expr) : Option (Option (List Str)) :=
  if (!(ts.length == 2 || ts.length == 3) || vs.length != ts.length) = true then some none
  else if (vs.any fun | .Starred .. => true | _ => false) = true then some none
  else
    let line := (ts.head?.map (·.pos.line)).getD 0
    let names := ts.filterMap fun
      | .Name id pos => if c.sc.names.lookup id == some .local && pos.line == line then some id else none
      | _ => none
    if (names.length != ts.length || names.eraseDups.length != names.length) = true then some none
    else if vs.all (foldedForSure 8) = true then some none
    else if vs.all (constantsAlone 8) = true then none
    else some (some names)
/-- the comprehension stores its value itself -/
def swB (c : Cc) (v : Expr) (x : Str) (px : Pos) : Bool := match v with
  | .ListComp _ _ s vp => c.sc.names.lookup x == some .local && px.line == vp.line && !(s.names.any fun (n, k) => n == x && (k == .local || k == .cell))
  | _ => false
/-- no parallel store -/
def noPar (c : Cc) : Expr → Expr → Bool
  | .Tuple ts _ _, .Tuple vs _ _ => parR c ts vs == some none
  | _, _ => true
def nmI (c : Cc) (i : Nat) (x : Str) : Bool := decide (c.N[i]? = some x) && locB c x
def nmR (c : Cc) (i : Nat) (x : Str) : Bool := decide (c.N[i]? = some x) && visB c.sc x && nmB x
def chF : List (Nat × Bool) → List Tm → Cc → List Expr → Bool
  | [], [], _, es => es.isEmpty
  | (_, k) :: is, t :: ts, c, es => match es with
    | e :: r => okE e && (!k || freshT t) && chE t c e && chF is ts c r
    | [] => false
  | _, _, _, _ => false
def chN : List (Nat × Bool) → Cc → List Expr → Bool
  | [], _, es => es.isEmpty
  | (i, _) :: is, c, es => match es with
    | .Name x _ :: r => nmI c i x && chN is c r
    | _ => false
def locs (c : Cc) : List Expr → Bool
  | [] => true
  | .Name x _ :: r => c.sc.names.lookup x == some .local && locs c r
  | _ => false
def nmsOf : List Expr → List Str
  | .Name x _ :: r => x :: nmsOf r
  | _ => []
mutual
def chS : St → Cc → Stmt → Bool
  | .asg g e, c, s => match s with
    | .Assign [t] v _ => okE v && tgE g c t && chE e c v && noPar c t v
    | _ => false
  | .own i e, c, s => match s with
    | .Assign [.Name x _] v _ => okE v && nmI c i x && freshT e && chE e c v
    | _ => false
  | .par is es, c, s => match s with
    | .Assign [.Tuple ts _ _] (.Tuple vs _ _) _ => chN is c ts && chF is es c vs && decide (is.map (·.1)).Nodup && decide (es.length ≤ 1000) && (match parR c ts vs with
      | some none => true
      | some (some ns) => decide (ns = nmsOf ts) && locs c ts && (ts.length == 2 || ts.length == 3)
      | none => false)
    | _ => false
  | .aug i op e, c, s => match s with
    | .AugAssign (.Name x _) o v _ => nmI c i x && opB op o && chE e c v
    | _ => false
  | .app i e, c, s => match s with
    | .Expr (.Call (.Attribute (.Name x _) n ap) [v] [] cp) _ => nmR c i x && decide (n = Str.ofString "append") && (ap.endLine == cp.line) && okE v && chE e c v
    | _ => false
  | .ext i e, c, s => match s with
    | .Expr (.Call (.Attribute (.Name x _) n ap) [v] [] cp) _ => nmR c i x && decide (n = Str.ofString "extend") && (ap.endLine == cp.line) && okE v && chE e c v
    | _ => false
  | .put i k e, c, s => match s with
    | .Assign [.Subscript (.Name x _) j _] v _ => nmR c i x && okE j && okE v && chE k c j && chE e c v
    | _ => false
  | .wat i, c, s => match s with
    | .AugAssign (.Subscript (.Name x _) (.Constant (.str y) _ _) _) .Add (.Constant (.int z) _ _) _ => nmR c i x && decide (y = Str.ofString "at") && decide (z = 1)
    | _ => false
  | .ifs k a b, c, s => match s with
    | .If z p q _ => chE k c z && chSs a c p && chSs b c q
    | _ => false
  | .for_ g it b, c, s => match s with
    | .For t z p [] _ => tgE g c t && chI it c t z && chSs b c p
    | _ => false
  | .whl k b, c, s => match s with
    | .While z p [] _ => chE k c z && chSs b c p
    | _ => false
  | .ret e, c, s => match s with
    | .Return (some v) _ => chE e c v
    | _ => false
  | .retn, _, s => match s with
    | .Return none _ => true
    | _ => false
  | .brk, _, s => match s with
    | .Break _ => true
    | _ => false
  | .cnt, _, s => match s with
    | .Continue _ => true
    | _ => false
  | .pass, _, s => match s with
    | .Pass _ => true
    | _ => false
  | _, _, _ => false
def chSs : List St → Cc → List Stmt → Bool
  | [], _, ss => ss.isEmpty
  | t :: ts, c, ss => match t with
    | .close _ => chSs ts c ss
    | t => match ss with
      | s :: r => chS t c s && chSs ts c r
      | [] => false
end
/-! ### what is kept between statements -/
/-- the names whose lists are one's own, and their places -/
def OwnA (σp : Env) (σ : L2.St) (i : Nat) (a : Addr) : Prop := (∃ d, σp[i]? = some (.ol d) ∨ ∃ e, σp[i]? = some (.od e)) ∧ σ[i]? = some (some (.ref a))
structure RelS (K : PySem.W.Frag) (ow : Option Addr) (Hc0 H0 : Hp) (σp : Env) (σ : L2.St) (Hc H : Hp) (st : Ws) : Prop where
  e : RelE K ow σp σ Hc H st
  dis : ∀ i j a, OwnA σp σ i a → OwnA σp σ j a → i = j
  new : ∀ i a, OwnA σp σ i a → H0 a = none
  stp : Stp ow Hc0 H0 Hc H
  w0 : ∀ a, ow = some a → H0 a ≠ none
section
variable {K : PySem.W.Frag} {ow : Option Addr} {Hc0 H0 Hc H : Hp} {σp : Env} {σ : L2.St} {st : Ws}
theorem RelS.tr {Hc1 H1 : Hp} (h : RelS K ow Hc0 H0 σp σ Hc H st) (p : Stp ow Hc H Hc1 H1) : Stp ow Hc0 H0 Hc1 H1 := h.stp.trans (fun x e => .inl (h.e.w.there x e)) p
theorem RelS.go {Hc1 H1 : Hp} {st1 : Ws} (h : RelS K ow Hc0 H0 σp σ Hc H st) (p : Stp ow Hc H Hc1 H1) (w : WOk K Hc1 H1 ow st1) : RelS K ow Hc0 H0 σp σ Hc1 H1 st1 :=
  ⟨h.e.stp p w, h.dis, h.new, h.tr p, h.w0⟩
theorem OwnA.set {i : Nat} {d : D} {o : Option V} {j : Nat} {a : Addr} (h : OwnA (σp.set i (.cl d)) (σ.set i o) j a) : OwnA σp σ j a := by
  obtain ⟨h1, h2⟩ := h
  by_cases hj : i = j
  · subst hj
    exfalso
    by_cases hi : i < σp.length
    · rw [List.getElem?_set_self hi] at h1
      obtain ⟨d, h | ⟨e, h⟩⟩ := h1 <;> cases h
    · rw [List.getElem?_eq_none (by simpa using hi)] at h1
      obtain ⟨d, h | ⟨e, h⟩⟩ := h1 <;> cases h
  · rw [List.getElem?_set_ne hj] at h1 h2
    exact ⟨h1, h2⟩
theorem RelS.set {x : V} {d : D} (h : RelS K ow Hc0 H0 σp σ Hc H st) (i : Nat) (r : Rep K ow Hc x d) : RelS K ow Hc0 H0 (σp.set i (.cl d)) (σ.set i (some x)) Hc H st :=
  ⟨h.e.set i r, fun _ _ _ p q => h.dis _ _ _ p.set q.set, fun _ _ p => h.new _ _ p.set, h.stp, h.w0⟩
theorem ownA_setO {i : Nat} {x : Sl} {a : Addr} {j : Nat} {b : Addr} (h : OwnA (σp.set i x) (σ.set i (some (.ref a))) j b) : (i = j ∧ b = a) ∨ (i ≠ j ∧ OwnA σp σ j b) := by
  obtain ⟨h1, h2⟩ := h
  by_cases hj : i = j
  · subst hj
    by_cases hi : i < σ.length
    · rw [List.getElem?_set_self hi] at h2
      cases h2
      exact .inl ⟨rfl, rfl⟩
    · rw [List.getElem?_eq_none (by simpa using hi)] at h2
      cases h2
  · rw [List.getElem?_set_ne hj] at h1 h2
    exact .inr ⟨hj, h1, h2⟩
/-- a new list of one's own -/
theorem RelS.own {a : Addr} {d : D} {x : Sl} (h : RelS K ow Hc0 H0 σp σ Hc H st) (i : Nat) (o : Open K ow Hc H a d) (hx : ownS d = some x) (hn : H0 a = none) (hd : ∀ j, ¬ OwnA σp σ j a) :
    RelS K ow Hc0 H0 (σp.set i x) (σ.set i (some (.ref a))) Hc H st := by
  refine ⟨⟨h.e.sub, h.e.w, by rw [List.length_set, List.length_set, h.e.len], fun j y e => ?_⟩, fun j k b p q => ?_, fun j b p => ?_, h.stp, h.w0⟩
  · by_cases hj : i = j
    · subst hj
      by_cases hi : i < σp.length
      · rw [List.getElem?_set_self hi] at e
        cases e
        rw [List.getElem?_set_self (by rw [← h.e.len]; exact hi)]
        cases d <;> first | (cases hx; done) | skip
        · cases hx; exact ⟨a, rfl, o⟩
        · cases hx; exact ⟨a, rfl, o⟩
      · rw [List.getElem?_eq_none (by simpa using hi)] at e; cases e
    · rw [List.getElem?_set_ne hj] at e
      rw [List.getElem?_set_ne hj]
      exact h.e.at_ j y e
  · rcases ownA_setO p with ⟨rfl, rfl⟩ | ⟨p1, p2⟩
    · rcases ownA_setO q with ⟨rfl, _⟩ | ⟨q1, q2⟩
      · rfl
      · exact absurd q2 (hd k)
    · rcases ownA_setO q with ⟨rfl, rfl⟩ | ⟨q1, q2⟩
      · exact absurd p2 (hd j)
      · exact h.dis j k b p2 q2
  · rcases ownA_setO p with ⟨rfl, rfl⟩ | ⟨p1, p2⟩
    · exact hn
    · exact h.new j b p2
/-- the place of an own list -/
theorem RelS.at_ol {i : Nat} {ds : List D} (h : RelS K ow Hc0 H0 σp σ Hc H st) (e : σp[i]? = some (.ol ds)) : ∃ a vs, σ[i]? = some (some (.ref a)) ∧ OwnA σp σ i a ∧ H a = some (.lst vs) ∧ RepL K ow Hc vs ds ∧ Hc a = none ∧ ow ≠ some a := by
  obtain ⟨a, e1, o⟩ := h.e.at_ i _ e
  cases o with
  | lst h1 h2 h3 h4 => exact ⟨a, _, e1, ⟨⟨ds, .inl e⟩, e1⟩, h1, h2, h3, h4⟩
/-- an own list is changed -/
theorem RelS.chg {i : Nat} {ds ds' : List D} {a : Addr} {vs' : List V} (h : RelS K ow Hc0 H0 σp σ Hc H st) (e : σp[i]? = some (.ol ds)) (e1 : σ[i]? = some (some (.ref a))) (r : RepL K ow Hc vs' ds') : RelS K ow Hc0 H0 (σp.set i (.ol ds')) σ Hc (upd H a (.lst vs')) st := by
  obtain ⟨a', vs, f1, f2, f3, f4, f5, f6⟩ := h.at_ol e
  rw [e1] at f1
  cases f1
  have hi : i < σp.length := by
    by_cases hi : i < σp.length
    · exact hi
    · rw [List.getElem?_eq_none (by omega)] at e; cases e
  have own_of : ∀ {j b}, OwnA (σp.set i (.ol ds')) σ j b → OwnA σp σ j b := fun {j b} p => by
    obtain ⟨p1, p2⟩ := p
    by_cases hj : i = j
    · subst hj
      exact ⟨⟨ds, .inl e⟩, p2⟩
    · rw [List.getElem?_set_ne hj] at p1
      exact ⟨p1, p2⟩
  refine ⟨⟨fun b o q => ?_, ?_, by rw [List.length_set, h.e.len], fun j y q => ?_⟩, fun j k b p q => h.dis j k b (own_of p) (own_of q), fun j b p => h.new j b (own_of p), ⟨h.stp.cl, fun b o q => ?_, fun b o q n => ?_, h.stp.fresh⟩, h.w0⟩
  · rw [upd_ne (fun z => by rw [z, f5] at q; cases q)]
    exact h.e.sub b o q
  · have w := h.e.w
    cases ow with
    | none =>
      cases st with
      | none => trivial
      | some q => exact w.elim
    | some aw =>
      cases st with
      | none => exact w.elim
      | some p =>
        obtain ⟨al, w1, w2, w3⟩ := w
        exact ⟨al, by rw [upd_ne (fun z => f6 (by rw [z]))]; exact w1, w2, w3⟩
  · by_cases hj : i = j
    · subst hj
      rw [List.getElem?_set_self hi] at q
      cases q
      exact ⟨a, e1, .lst upd_same r f5 f6⟩
    · rw [List.getElem?_set_ne hj] at q
      have old := h.e.at_ j y q
      cases y with
      | un => trivial
      | cl d => exact old
      | ol d =>
        obtain ⟨b, g1, g2⟩ := old
        have hb : b ≠ a := fun z => by
          subst z
          exact hj (h.dis i j b f2 ⟨⟨d, .inl q⟩, g1⟩)
        refine ⟨b, g1, ?_⟩
        cases g2 with
        | lst q1 q2 q3 q4 => exact .lst (by rw [upd_ne hb]; exact q1) q2 q3 q4
      | od d =>
        obtain ⟨b, g1, g2⟩ := old
        have hb : b ≠ a := fun z => by
          subst z
          exact hj (h.dis i j b f2 ⟨⟨[], .inr ⟨d, q⟩⟩, g1⟩)
        refine ⟨b, g1, ?_⟩
        cases g2 with
        | dct q1 q2 q3 q4 => exact .dct (by rw [upd_ne hb]; exact q1) q2 q3 q4
        | dctT q1 q2 q3 q4 => exact .dctT (by rw [upd_ne hb]; exact q1) q2 q3 q4
  · rw [upd_ne (fun z => by rw [z, f5] at q; cases q)]
    exact h.stp.sub b o q
  · have hb : b ≠ a := fun z => by
      rw [z, h.new i a f2] at q; cases q
    rw [upd_ne hb]
    exact h.stp.keep b o q n
theorem Rep.cl_or {x : Sl} : closeS x = x ∨ (∃ ds, x = .ol ds ∧ closeS x = .cl (.list ds)) ∨ ∃ ps, x = .od ps ∧ closeS x = .cl (.dict ps) := by
  cases x with
  | ol ds => exact .inr (.inl ⟨ds, rfl, rfl⟩)
  | od ds => exact .inr (.inr ⟨ds, rfl, rfl⟩)
  | _ => exact .inl rfl
theorem set_self {α : Type} : ∀ {l : List α} {i : Nat} {x : α}, l[i]? = some x → l.set i x = l
  | [], _, _, e => by simp at e
  | y :: l, 0, x, e => by simp at e; rw [List.set_cons_zero, e]
  | y :: l, i + 1, x, e => by rw [List.set_cons_succ, set_self (by simpa using e)]
/-- an own list is closed -/
theorem RelS.shut {i : Nat} {x : Sl} (h : RelS K ow Hc0 H0 σp σ Hc H st) (e : σp[i]? = some x) : ∃ Hc', RelS K ow Hc0 H0 (σp.set i (closeS x)) σ Hc' H st := by
  have hi : i < σp.length := by
    by_cases hi : i < σp.length
    · exact hi
    · rw [List.getElem?_eq_none (by omega)] at e; cases e
  have core : ∀ (d : D) (a : Addr), closeS x = .cl d → OwnA σp σ i a → Open K ow Hc H a d → ∃ Hc', RelS K ow Hc0 H0 (σp.set i (closeS x)) σ Hc' H st := fun d a ex own o => by
    obtain ⟨f1, f2, ob, f3⟩ := o.free
    obtain ⟨Hc', g1, g2, g3, g4⟩ := o.close h.e.sub
    have ha0 := h.new i a own
    have own_of : ∀ {j b}, OwnA (σp.set i (closeS x)) σ j b → i ≠ j ∧ OwnA σp σ j b := fun {j b} p => by
      obtain ⟨p1, p2⟩ := p
      by_cases hj : i = j
      · subst hj
        rw [List.getElem?_set_self hi, ex] at p1
        obtain ⟨d, h | ⟨e, h⟩⟩ := p1 <;> cases h
      · rw [List.getElem?_set_ne hj] at p1
        exact ⟨hj, p1, p2⟩
    refine ⟨Hc', ⟨g2, ?_, by rw [List.length_set, h.e.len], fun j y q => ?_⟩, fun j k b p q => h.dis j k b (own_of p).2 (own_of q).2, fun j b p => h.new j b (own_of p).2, ⟨h.stp.cl.trans g1, g2, h.stp.keep, fun b q n => ?_⟩, h.w0⟩
    · have w := h.e.w
      cases ow with
      | none =>
        cases st with
        | none => trivial
        | some q => exact w.elim
      | some aw =>
        cases st with
        | none => exact w.elim
        | some p =>
          obtain ⟨al, w1, w2, w3⟩ := w
          exact ⟨al, w1, by rw [g4 aw (fun z => f2 (by rw [z]))]; exact w2, g1 _ _ w3⟩
    · by_cases hj : i = j
      · subst hj
        rw [List.getElem?_set_self hi, ex] at q
        cases q
        exact ⟨.ref a, own.2, g3⟩
      · rw [List.getElem?_set_ne hj] at q
        have old := h.e.at_ j y q
        cases y with
        | un => trivial
        | cl d' =>
          obtain ⟨v, q1, q2⟩ := old
          exact ⟨v, q1, q2.mono g1⟩
        | ol d' =>
          obtain ⟨b, q1, q2⟩ := old
          have hb : b ≠ a := fun z => by
            subst z
            exact hj (h.dis i j b own ⟨⟨d', .inl q⟩, q1⟩)
          refine ⟨b, q1, ?_⟩
          cases q2 with
          | lst z1 z2 z3 z4 => exact .lst z1 (z2.mono g1) (by rw [g4 b hb]; exact z3) z4
        | od d' =>
          obtain ⟨b, q1, q2⟩ := old
          have hb : b ≠ a := fun z => by
            subst z
            exact hj (h.dis i j b own ⟨⟨[], .inr ⟨d', q⟩⟩, q1⟩)
          refine ⟨b, q1, ?_⟩
          cases q2 with
          | dct z1 z2 z3 z4 => exact .dct z1 (z2.mono g1) (by rw [g4 b hb]; exact z3) z4
          | dctT z1 z2 z3 z4 => exact .dctT z1 (z2.mono g1) (by rw [g4 b hb]; exact z3) z4
    · have hb : b ≠ a := fun z => n (by rw [z]; exact ha0)
      rw [g4 b hb]
      exact h.stp.fresh b q n
  cases x with
  | un => exact ⟨Hc, by have : σp.set i (closeS .un) = σp := (by show σp.set i .un = σp; exact set_self e); rw [this]; exact h⟩
  | cl d => exact ⟨Hc, by have : σp.set i (closeS (.cl d)) = σp := (by show σp.set i (.cl d) = σp; exact set_self e); rw [this]; exact h⟩
  | ol ds =>
    obtain ⟨a, q1, q2⟩ := h.e.at_ i _ e
    exact core _ a rfl ⟨⟨ds, .inl e⟩, q1⟩ q2
  | od ds =>
    obtain ⟨a, q1, q2⟩ := h.e.at_ i _ e
    exact core _ a rfl ⟨⟨[], .inr ⟨ds, e⟩⟩, q1⟩ q2
end
end Q

set_option Elab.async false
set_option linter.all false
set_option maxRecDepth 100000
set_option maxHeartbeats 1000000
/-! L1o: statements. -/
namespace Q
open PySem PySem.Spec PyProof.Rows L2
structure Gs (X : Cx) (C : Nat → List D → M D) (c : Cc) : Prop where
  g : Gx X C c
  pass : PassesOwn (model X.prog X.w) X.A X.env X.xe
  kind : c.sc.kind = .function
def Sv (K : PySem.W.Frag) (ow : Option Addr) (Hc0 H0 : Hp) (E : L2.Ends) (f : Fl) (st : Ws) : Prop := match f with
  | .nx σp => ∀ σ Hc H, RelS K ow Hc0 H0 σp σ Hc H st → E.nx σ H
  | .bk σp => ∀ σ Hc H, RelS K ow Hc0 H0 σp σ Hc H st → E.bk σ H
  | .ct σp => ∀ σ Hc H, RelS K ow Hc0 H0 σp σ Hc H st → E.ct σ H
  | .rt d => ∀ v Hc H, Stp ow Hc0 H0 Hc H → WOk K Hc H ow st → Rep K ow Hc v d → E.rt v H
def PSt (s : St) : Prop := ∀ (ow : Option Addr) (X : Cx) (C : Nat → List D → M D) (c : Cc) (e : Stmt) (Hc0 H0 : Hp) (σp : Env) (σ : L2.St) (Hc H : Hp) (st : Ws) (f : Fl) (st' : Ws),
  Gs X C c → chS s c e = true → RelS X.K ow Hc0 H0 σp σ Hc H st → exec C s σp st = some (f, st') → ∀ E, Sv X.K ow Hc0 H0 E f st' → EvS X e E σ H
def PSts (s : List St) : Prop := ∀ (ow : Option Addr) (X : Cx) (C : Nat → List D → M D) (c : Cc) (e : List Stmt) (Hc0 H0 : Hp) (σp : Env) (σ : L2.St) (Hc H : Hp) (st : Ws) (f : Fl) (st' : Ws),
  Gs X C c → chSs s c e = true → RelS X.K ow Hc0 H0 σp σ Hc H st → execs C s σp st = some (f, st') → ∀ E, Sv X.K ow Hc0 H0 E f st' → EvSs X e E σ H
theorem nmI_iff {X : Cx} {C : Nat → List D → M D} {c : Cc} (G : Gx X C c) {i : Nat} {x : Str} (h : nmI c i x = true) : X.N[i]? = some x ∧ Loc X.env.scope x ∧ (X.fn x = true ∨ X.env.scope.names.lookup x = some .local) := by
  unfold nmI at h
  simp only [Bool.and_eq_true, decide_eq_true_eq] at h
  obtain ⟨h1, h2⟩ := locB_iff G h.2
  exact ⟨by rw [G.N]; exact h.1, h1, h2⟩
theorem pe_nm {X : Cx} {C : Nat → List D → M D} {c : Cc} (G : Gx X C c) {i : Nat} {x : Str} {pos : Pos} (h : nmR c i x = true) : PE X (.Name x pos) (tVar i) := by
  unfold nmR at h
  simp only [Bool.and_eq_true, decide_eq_true_eq] at h
  exact pe_var (by rw [G.N]; exact h.1.1) (by rw [G.sc]; exact visB_iff h.1.2) (nmB_iff h.2).1 (nmB_iff h.2).2.1
/-! ### the parallel store's rule -/
theorem parR_ok {env : PySem.Env} {c : Cc} {ts vs : List Expr} {k k2 : Nat} {p p2 : Pos} {r : Option (List Str)} (hs : env.scope = c.sc) (hk : c.sc.kind = .function) (h : parR c ts vs = some r) :
    swappedStores [.Tuple ts k p] (.Tuple vs k2 p2) env = pure r := by
  have hb : env.blockKind = .function := by unfold PySem.Env.blockKind; rw [hs, hk]; rfl
  have hkof : ∀ id, env.kindOf id = c.sc.names.lookup id := fun id => by unfold PySem.Env.kindOf; rw [hs]
  unfold parR at h
  simp (config := { zeta := true, decide := false }) only [] at h
  unfold swappedStores
  simp only [hb, hkof]
  split at h
  · rename_i h1
    cases h
    exact if_pos (by rcases Bool.or_eq_true _ _ ▸ h1 with q | q <;> simp [q])
  · rename_i h1
    have h1' : ((!(ts.length == 2 || ts.length == 3) || vs.length != ts.length || (ScopeKind.function != ScopeKind.function)) = false) := by
      rw [show (ScopeKind.function != ScopeKind.function) = false from rfl, Bool.or_false]
      exact Bool.eq_false_iff.mpr h1
    refine (if_neg (by rw [h1']; exact Bool.false_ne_true)).trans ?_
    split at h
    · rename_i h2
      cases h
      exact if_pos h2
    · rename_i h2
      refine (if_neg h2).trans ?_
      split at h
      · rename_i h3
        cases h
        exact if_pos h3
      · rename_i h3
        refine (if_neg h3).trans ?_
        split at h
        · rename_i h4
          cases h
          exact if_pos h4
        · rename_i h4
          refine (if_neg h4).trans ?_
          split at h
          · cases h
          · rename_i h5
            cases h
            exact (if_neg h5).trans rfl
theorem swap_none {env : PySem.Env} {c : Cc} {t v : Expr} (hs : env.scope = c.sc) (hk : c.sc.kind = .function) (h : noPar c t v = true) (hl : ∀ ts p, t ≠ .List ts p) : swappedStores [t] v env = pure none := by
  cases t <;> first
    | rfl
    | (exact absurd rfl (hl _ _))
    | skip
  cases v <;> first
    | rfl
    | skip
  exact parR_ok hs hk (by simpa [noPar] using h)
theorem sw_false {env : PySem.Env} {c : Cc} {v : Expr} {x : Str} {px : Pos} {l : Nat} (hs : env.scope = c.sc) (hk : c.sc.kind = .function) (ok : okE v = true) (h : swB c v x px = false) : swapsWith v (some (.Name x px)) l env = pure false := by
  cases v <;> first | rfl | (cases ok; done) | skip
  have hb : env.blockKind = .function := by unfold PySem.Env.blockKind; rw [hs, hk]; rfl
  have hkof : ∀ id, env.kindOf id = c.sc.names.lookup id := fun id => by unfold PySem.Env.kindOf; rw [hs]
  unfold swB at h
  unfold swapsWith
  simp only [hb, hkof, Expr.pos]
  exact congrArg pure ((congrArg (· && _) (congrArg (· && _) (Bool.true_and _))).trans h)
theorem sw_none {env : PySem.Env} {t v : Expr} {l : Nat} (ok : okE v = true) (ht : ∀ x p, t ≠ .Name x p) : swapsWith v (some t) l env = pure false := by
  cases v <;> first | rfl | (cases ok; done) | skip
  cases t <;> first | rfl | (exact absurd rfl (ht _ _))
theorem sole_none {env : PySem.Env} {t v : Expr} {l : Nat} (ok : okE v = true) (ht : ∀ x p, t ≠ .Name x p) : swapsWithSole [t] v l env = pure false := by
  unfold swapsWithSole
  exact sw_none ok ht
/-! ### fresh forms -/
section
variable {ow : Option Addr} {X : Cx} {C : Nat → List D → M D} {c : Cc} {v : Expr} {σp : Env} {σ : L2.St} {Hc H Hc0 H0 : Hp} {st st' : Ws} {d : D}
theorem own_ok {e : Tm} (hf : freshT e = true) (G : Gx X C c) (hc : chE e c v = true) (R : RelE X.K ow σp σ Hc H st) (h : ev C false e σp st = some (d, st')) : Gv .own X ow v σ Hc H d st' := by
  cases e <;> first | (cases hf; done) | skip
  · exact c_lstO (tms_ok _) X C c v σp σ Hc H st d st' G hc R h
  · rename_i b es
    exact c_blO (by cases b <;> first | (cases hf; done) | exact .inl rfl | exact .inr rfl) (tms_ok es) X C c v σp σ Hc H st d st' G hc R h
  · exact c_lcOwn (it_ok _) (tmk_ok _) (tm_ok _) X C c v σp σ Hc H st d st' G hc R h
  · exact c_lc2Own (it_ok _) (it_ok _) (tmk_ok _) (tm_ok _) X C c v σp σ Hc H st d st' G hc R h
theorem close_q {Q : VK} (q : ∀ v Hc' H', Stp ow Hc H Hc' H' → WOk X.K Hc' H' ow st' → RepV X.K ow H Hc' H' v d .keep → Q v H') : ∀ v Hc' H', Stp ow Hc H Hc' H' → WOk X.K Hc' H' ow st' → RepV X.K ow H Hc' H' v d .own → Q v H' := fun v Hc' H' s w r => by
  obtain ⟨a, rfl, o, n⟩ := r
  obtain ⟨h3, h4, _⟩ := o.free
  obtain ⟨Hc2, e1, e2, r, hb⟩ := o.close s.sub
  refine q _ Hc2 H' ⟨s.cl.trans e1, e2, s.keep, fun b e n' => ?_⟩ ?_ r
  · rw [hb b fun z => n' (by rw [z]; exact n)]
    exact s.fresh b e n'
  · cases ow with
    | none =>
      cases st' with
      | none => trivial
      | some q => exact w.elim
    | some aw =>
      cases st' with
      | none => exact w.elim
      | some p =>
        obtain ⟨al, w1, w2, w3⟩ := w
        exact ⟨al, w1, by rw [hb aw fun z => h4 (by rw [z])]; exact w2, e1 _ _ w3⟩
/-- name = v -/
theorem asg_name {k : Kd} {e : Tm} {i : Nat} {x : Str} {px pos : Pos} {E : L2.Ends} (hk : k = .keep ∨ (k = .own ∧ freshT e = true)) (G : Gs X C c) (hn : nmI c i x = true) (ok : okE v = true) (hc : chE e c v = true) (R : RelE X.K ow σp σ Hc H st) (h : ev C false e σp st = some (d, st'))
    (q : ∀ w Hc' H', Stp ow Hc H Hc' H' → WOk X.K Hc' H' ow st' → RepV X.K ow H Hc' H' w d k → E.nx (σ.set i (some w)) H') : EvS X (.Assign [.Name x px] v pos) E σ H := by
  obtain ⟨n1, n2, n3⟩ := nmI_iff G.g hn
  by_cases hs : swB c v x px = true
  · cases v <;> first | (cases hs; done) | skip
    rename_i elt gs scope vp
    cases e <;> first | (simp [chE] at hc; done) | (simp [chE, revOf, itlOf] at hc; done) | (rename_i dd; cases dd <;> (simp [chE, chC] at hc; done)) | skip
    · obtain ⟨elt', tg, iter, ifs, scope', pos', te, tt, heq, hok, hg, ht, he, hf, hq⟩ := c_lcO (it_ok _) (tmk_ok _) (tm_ok _) X C c _ σp σ Hc H st d st' G.g hc R h
      cases heq
      unfold swB at hs
      simp only [Bool.and_eq_true, Bool.not_eq_true', beq_iff_eq] at hs
      refine evS_of (ps_setLc G.g.calm G.g.nd n1 (by rw [G.g.sc]; exact hs.1.1) (sw_true (by rw [G.g.sc]; exact G.kind) (by rw [G.g.sc]; exact hs.1.1) (by rw [hs.1.2]; exact beq_self_eq_true _) hs.2) pi_sem hok hg ht he hf) ?_
      rcases hk with rfl | ⟨rfl, _⟩
      · exact hq (fun w H1 => E.nx (σ.set i (some w)) H1) (close_q q)
      · exact hq (fun w H1 => E.nx (σ.set i (some w)) H1) q
    · obtain ⟨p, pos', te, wi1, tt, heq, hok, hv, hg, hi1, hg1, ht1, he, hf, hf1, hq⟩ := c_lc2O (it_ok _) (it_ok _) (tmk_ok _) (tm_ok _) X C c _ σp σ Hc H st d st' G.g hc R h
      cases heq
      unfold swB at hs
      simp only [Bool.and_eq_true, Bool.not_eq_true', beq_iff_eq] at hs
      refine evS_of (ps_setLc2 G.g.calm G.g.nd n1 (by rw [G.g.sc]; exact hs.1.1) (sw_true (by rw [G.g.sc]; exact G.kind) (by rw [G.g.sc]; exact hs.1.1) (by rw [hs.1.2]; exact beq_self_eq_true _) hs.2) pi_sem hok hv hg (fun _ _ _ _ _ => pts_nil) hi1 hg1 ht1 he hf hf1) ?_
      rcases hk with rfl | ⟨rfl, _⟩
      · exact hq (fun w H1 => E.nx (σ.set i (some w)) H1) (close_q q)
      · exact hq (fun w H1 => E.nx (σ.set i (some w)) H1) q
  · have hs : swB c v x px = false := Bool.eq_false_iff.mpr hs
    refine evS_of (ps_set G.g.nd n1 n2 pe_sem (sw_false G.g.sc G.kind ok hs) n3) ?_
    rcases hk with rfl | ⟨rfl, hf⟩
    · exact (tm_ok e X C c v false σp σ Hc H st d st' G.g hc R h).1 (fun w H1 => E.nx (σ.set i (some w)) H1) q
    · exact own_ok hf G.g hc R h (fun w H1 => E.nx (σ.set i (some w)) H1) q
end
/-! ### targets, with what is kept -/
section
variable {K : PySem.W.Frag} {ow : Option Addr} {Hc0 H0 : Hp}
mutual
theorem bindS {Hc H : Hp} {st : Ws} : ∀ {g : Tg} {d : D} {σp σp1 : Env} {σ : L2.St} {x : V} {k : L2.St → Hp → Prop}, RelS K ow Hc0 H0 σp σ Hc H st → bindT g d σp = some σp1 → Rep K ow Hc x d →
    (∀ σ1, RelS K ow Hc0 H0 σp1 σ1 Hc H st → k σ1 H) → tgT K g x σ H k
  | .v i, d, σp, σp1, σ, x, k, R, h, r, q => by
    simp only [bindT] at h
    cases h
    show k (σ.set i (some x)) H
    exact q _ (R.set i r)
  | .t gs, d, σp, σp1, σ, x, k, R, h, r, q => by
    cases d <;> first | (simp [bindT] at h; done) | skip
    simp only [bindT] at h
    cases r with
    | tup hs rl =>
      refine ⟨_, _, rfl, R.e.sub.sqT hs, ?_, bindsS R h rl fun σ1 R1 => q σ1 R1⟩
      rw [rl.length, bindTs_len (K := K) (ow := ow) h]
theorem bindsS {Hc H : Hp} {st : Ws} : ∀ {gs : List Tg} {ds : List D} {σp σp1 : Env} {σ : L2.St} {xs : List V} {k : L2.St → Hp → Prop}, RelS K ow Hc0 H0 σp σ Hc H st → bindTs gs ds σp = some σp1 → RepL K ow Hc xs ds →
    (∀ σ1, RelS K ow Hc0 H0 σp1 σ1 Hc H st → k σ1 H) → tgTs K gs xs σ H k
  | [], ds, σp, σp1, σ, xs, k, R, h, r, q => by
    cases ds with
    | nil =>
      simp only [bindTs] at h
      cases h
      cases r
      exact ⟨rfl, q σ R⟩
    | cons d ds => simp [bindTs] at h
  | g :: gs, ds, σp, σp1, σ, xs, k, R, h, r, q => by
    cases ds with
    | nil => simp [bindTs] at h
    | cons d ds =>
      simp only [bindTs] at h
      cases e : bindT g d σp with
      | none => rw [e] at h; cases h
      | some σp2 =>
        rw [e] at h
        cases r with
        | cons r1 r2 => exact ⟨_, _, rfl, bindS R e r1 fun σ1 R1 => bindsS R1 h r2 q⟩
end
end
theorem s_asg {g : Tg} {e : Tm} : PSt (.asg g e) := fun ow X C c s Hc0 H0 σp σ Hc H st f st' G hc R h E sv => by
  cases s <;> first | (simp [chS] at hc; done) | skip
  rename_i ts v pos
  have ho : ∃ t, ts = [t] ∧ okE v = true ∧ tgE g c t = true ∧ chE e c v = true ∧ noPar c t v = true := by
    unfold chS at hc
    split at hc
    · rename_i e
      cases e
      simp only [Bool.and_eq_true] at hc
      exact ⟨_, rfl, hc.1.1.1, hc.1.1.2, hc.1.2, hc.2⟩
    · cases hc
  obtain ⟨t, rfl, h1, h2, h3, h4⟩ := ho
  unfold exec at h
  obtain ⟨d, s1, e1, hA⟩ := bnd_inv h
  obtain ⟨σp1, s2, e2, hB⟩ := bnd_inv hA
  obtain ⟨σp1', e3, e4⟩ := lift_inv e2
  cases e4
  cases hB
  cases g with
  | v i =>
    cases t <;> first | (simp [tgE] at h2; done) | skip
    rename_i x px
    have hn : nmI c i x = true := h2
    simp only [bindT] at e3
    cases e3
    exact asg_name (.inl rfl) G hn h1 h3 R.e e1 fun w Hc' H' p w' r => sv _ _ _ ((R.go p w').set i r)
  | t gs =>
    cases t <;> first | (simp [tgE] at h2; done) | skip
    rename_i ts k tp
    refine evS_of (ps_asg pe_sem (tg_ok G.g h2) (sole_none h1 fun _ _ z => nomatch z) (swap_none G.g.sc G.kind h4 fun _ _ z => nomatch z) rfl) ?_
    exact (tm_ok e X C c v false σp σ Hc H st d _ G.g h3 R.e e1).1 _ fun w Hc' H' p w' r => bindS (R.go p w') e3 r fun σ1 R1 => sv _ _ _ R1
theorem s_own {i : Nat} {e : Tm} : PSt (.own i e) := fun ow X C c s Hc0 H0 σp σ Hc H st f st' G hc R h E sv => by
  cases s <;> first | (simp [chS] at hc; done) | skip
  rename_i ts v pos
  have ho : ∃ x px, ts = [.Name x px] ∧ okE v = true ∧ nmI c i x = true ∧ freshT e = true ∧ chE e c v = true := by
    unfold chS at hc
    split at hc
    · rename_i e
      cases e
      simp only [Bool.and_eq_true] at hc
      exact ⟨_, _, rfl, hc.1.1.1, hc.1.1.2, hc.1.2, hc.2⟩
    · cases hc
  obtain ⟨x, px, rfl, h1, h2, h3, h4⟩ := ho
  unfold exec at h
  obtain ⟨d, s1, e1, hA⟩ := bnd_inv h
  obtain ⟨y, s2, e2, hB⟩ := bnd_inv hA
  obtain ⟨y', e3, e4⟩ := lift_inv e2
  cases e4
  cases hB
  refine asg_name (.inr ⟨rfl, h3⟩) G h2 h1 h4 R.e e1 fun w Hc' H' p w' r => ?_
  obtain ⟨a, rfl, o, n⟩ := r
  refine sv _ _ _ ((R.go p w').own i o e3 ?_ fun j q => ?_)
  · cases hx : H0 a with
    | none => rfl
    | some ob => have := R.stp.keep a ob hx o.free.2.1; rw [n] at this; cases this
  · obtain ⟨q1, q2⟩ := q
    obtain ⟨dd, q1 | ⟨ee, q1⟩⟩ := q1
    · obtain ⟨b, z1, z2⟩ := R.e.at_ j _ q1
      rw [q2] at z1
      cases z1
      obtain ⟨_, _, ob, z3⟩ := z2.free
      rw [n] at z3; cases z3
    · obtain ⟨b, z1, z2⟩ := R.e.at_ j _ q1
      rw [q2] at z1
      cases z1
      obtain ⟨_, _, ob, z3⟩ := z2.free
      rw [n] at z3; cases z3
end Q

set_option Elab.async false
set_option linter.all false
set_option maxRecDepth 100000
set_option maxHeartbeats 1000000
/-! L1p: the parallel store; statements that change. -/
namespace Q
open PySem PySem.Spec PyProof.Rows L2
/-! ### values that are kept or one's own -/
inductive RepF (K : PySem.W.Frag) (ow : Option Addr) (Hs Hc H : Hp) : List V → List D → List Bool → Prop
  | nil : RepF K ow Hs Hc H [] [] []
  | keep {v : V} {d : D} {vs : List V} {ds : List D} {ks : List Bool} : Rep K ow Hc v d → RepF K ow Hs Hc H vs ds ks → RepF K ow Hs Hc H (v :: vs) (d :: ds) (false :: ks)
  | own {a : Addr} {d : D} {vs : List V} {ds : List D} {ks : List Bool} : Open K ow Hc H a d → Hs a = none → (∀ n : Nat, vs[n]? = some (.ref a) → ks[n]? ≠ some true) → RepF K ow Hs Hc H vs ds ks → RepF K ow Hs Hc H (.ref a :: vs) (d :: ds) (true :: ks)
section
variable {K : PySem.W.Frag} {ow : Option Addr} {Hs Hc H : Hp}
theorem RepF.len : ∀ {vs : List V} {ds : List D} {ks : List Bool}, RepF K ow Hs Hc H vs ds ks → vs.length = ds.length ∧ ks.length = ds.length
  | _, _, _, .nil => ⟨rfl, rfl⟩
  | _, _, _, .keep _ r => ⟨congrArg (· + 1) r.len.1, congrArg (· + 1) r.len.2⟩
  | _, _, _, .own _ _ _ r => ⟨congrArg (· + 1) r.len.1, congrArg (· + 1) r.len.2⟩
theorem RepF.at_ : ∀ {vs : List V} {ds : List D} {ks : List Bool} {n : Nat} {a : Addr}, RepF K ow Hs Hc H vs ds ks → vs[n]? = some (.ref a) → ks[n]? = some true → Hs a = none ∧ ow ≠ some a
  | _, _, _, n, a, .nil, h, _ => by simp at h
  | _, _, _, 0, a, .keep _ _, _, k => by simp at k
  | _, _, _, n + 1, a, .keep _ r, h, k => r.at_ (n := n) (by simpa using h) (by simpa using k)
  | _, _, _, 0, a, .own o e _ _, h, _ => by
    simp at h
    subst h
    exact ⟨e, o.free.2.1⟩
  | _, _, _, n + 1, a, .own _ _ _ r, h, k => r.at_ (n := n) (by simpa using h) (by simpa using k)
/-- seen from further back -/
theorem RepF.back {Hs0 : Hp} (s : ∀ a, Hs a = none → ow ≠ some a → Hs0 a = none) : ∀ {vs : List V} {ds : List D} {ks : List Bool}, RepF K ow Hs Hc H vs ds ks → RepF K ow Hs0 Hc H vs ds ks
  | _, _, _, .nil => .nil
  | _, _, _, .keep h r => .keep h (r.back s)
  | _, _, _, .own o e n r => .own o (s _ e o.free.2.1) n (r.back s)
end
section
variable {ow : Option Addr}
theorem args_f {X : Cx} {C : Nat → List D → M D} {c : Cc} (G : Gx X C c) : ∀ {is : List (Nat × Bool)} {ts : List Tm} {es : List Expr} {σp : Env} {σ : L2.St} {Hc H : Hp} {st : Ws} {ds : List D} {st' : Ws},
    chF is ts c es = true → RelE X.K ow σp σ Hc H st → evs C false ts σp st = some (ds, st') → ∀ Q : List V → Hp → Prop, (∀ vs Hc' H', Stp ow Hc H Hc' H' → WOk X.K Hc' H' ow st' → RepF X.K ow H Hc' H' vs ds (is.map (·.2)) → Q vs H') → EvA X es σ H Q
  | [], ts, es, σp, σ, Hc, H, st, ds, st', hc, R, h, Q, q => by
    cases ts <;> simp [chF] at hc
    subst hc
    cases h
    exact evA_of pa_nil (q [] Hc H (.refl R.sub) R.w .nil)
  | (i, k) :: is, [], es, σp, σ, Hc, H, st, ds, st', hc, R, h, Q, q => by simp [chF] at hc
  | (i, k) :: is, t :: ts, [], σp, σ, Hc, H, st, ds, st', hc, R, h, Q, q => by simp [chF] at hc
  | (i, k) :: is, t :: ts, e :: es, σp, σ, Hc, H, st, ds, st', hc, R, h, Q, q => by
    simp only [chF, Bool.and_eq_true] at hc
    obtain ⟨⟨⟨h1, h2⟩, h3⟩, h4⟩ := hc
    unfold evs at h
    obtain ⟨d, s1, e1, hA⟩ := bnd_inv h
    obtain ⟨ds', s2, e2, hB⟩ := bnd_inv hA
    cases hB
    refine evA_of (pa_cons pe_sem pa_sem (starE _ h1 es)) ?_
    have back : ∀ {Hc1 H1 : Hp}, Stp ow Hc H Hc1 H1 → ∀ a, H1 a = none → ow ≠ some a → H a = none := fun {Hc1 H1} p a n w => by
      cases hx : H a with
      | none => rfl
      | some o => have := p.keep a o hx w; rw [n] at this; cases this
    cases k with
    | false =>
      refine (tm_ok t X C c e false σp σ Hc H st d s1 G h3 R e1).1 _ fun v Hc1 H1 p1 w1 r1 => ?_
      have r1 : Rep X.K ow Hc1 v d := r1
      exact args_f G h4 (R.stp p1 w1) e2 _ fun vs Hc2 H2 p2 w2 r2 => q _ Hc2 H2 (stp_trans p1 w1 p2) w2 (.keep (r1.mono p2.cl) (r2.back (back p1)))
    | true =>
      have hf : freshT t = true := by simpa using h2
      refine own_ok hf G h3 R e1 _ fun v Hc1 H1 p1 w1 r1 => ?_
      obtain ⟨a, rfl, o, n⟩ := r1
      refine args_f G h4 (R.stp p1 w1) e2 _ fun vs Hc2 H2 p2 w2 r2 => q _ Hc2 H2 (stp_trans p1 w1 p2) w2 (.own (o.stp p2) n (fun m hm hk => ?_) (r2.back (back p1)))
      have := (r2.at_ hm hk).1
      obtain ⟨_, _, ob, z⟩ := o.free
      rw [z] at this; cases this
end
/-! ### the stores -/
def setAll : List (Nat × Bool) → List V → L2.St → L2.St
  | (i, _) :: is, v :: vs, σ => setAll is vs (σ.set i (some v))
  | _, _, σ => σ
theorem keep_all {K : PySem.W.Frag} {ow : Option Addr} {Hs Hc0 H0 Hc H : Hp} {st : Ws} : ∀ {is : List (Nat × Bool)} {vs : List V} {ds : List D} {σp σp1 : Env} {σ : L2.St}, RelS K ow Hc0 H0 σp σ Hc H st → RepF K ow Hs Hc H vs ds (is.map (·.2)) →
    (∀ (n : Nat) (a : Addr), vs[n]? = some (.ref a) → (is.map (·.2))[n]? = some true → H0 a = none ∧ ∀ j, ¬ OwnA σp σ j a) → keepP is ds σp = some σp1 → RelS K ow Hc0 H0 σp1 (setAll is vs σ) Hc H st
  | [], vs, ds, σp, σp1, σ, R, r, n, h => by
    cases r
    simp only [keepP] at h
    cases h
    exact R
  | (i, k) :: is, vs, ds, σp, σp1, σ, R, r, n, h => by
    cases k with
    | false =>
      cases r with
      | keep r1 r2 =>
        simp only [keepP] at h
        show RelS K ow Hc0 H0 σp1 (setAll is _ (σ.set i (some _))) Hc H st
        refine keep_all (is := is) (R.set i r1) r2 (fun m a hm hk => ?_) h
        obtain ⟨z1, z2⟩ := n (m + 1) a (by simpa using hm) (by simpa using hk)
        exact ⟨z1, fun j q => z2 j q.set⟩
    | true =>
      cases r with
      | @own a d vs' ds' ks o e m r2 =>
        obtain ⟨z1, z2⟩ := n 0 a rfl rfl
        have go : ∀ x, ownS d = some x → keepP is ds' (σp.set i x) = some σp1 → RelS K ow Hc0 H0 σp1 (setAll ((i, true) :: is) (.ref a :: vs') σ) Hc H st := fun x hx h => by
          show RelS K ow Hc0 H0 σp1 (setAll is _ (σ.set i (some _))) Hc H st
          refine keep_all (is := is) (R.own i o hx z1 z2) r2 (fun m' b hm hk => ?_) h
          obtain ⟨y1, y2⟩ := n (m' + 1) b (by simpa using hm) (by simpa using hk)
          refine ⟨y1, fun j q => ?_⟩
          rcases ownA_setO q with ⟨_, rfl⟩ | ⟨_, q⟩
          · exact m m' hm hk
          · exact y2 j q
        cases d <;> first | (simp [keepP] at h; done) | skip
        · exact go _ rfl h
        · exact go _ rfl h
def gNms : List (Nat × Bool) → TGs
  | [] => gNil
  | (i, _) :: is => gCons (gName i) (gNms is)
theorem pgs_nms {X : Cx} {C : Nat → List D → M D} {c : Cc} (G : Gx X C c) : ∀ {is : List (Nat × Bool)} {es : List Expr}, chN is c es = true → PGs X es (gNms is) ∧ (assignEach es X.env).length = is.length ∧ (assignEach es X.env).findIdx? (·.1) = none
  | [], es, h => by
    cases es with
    | nil => exact ⟨pgs_nil, rfl, rfl⟩
    | cons e es => simp [chN] at h
  | (i, k) :: is, es, h => by
    cases es with
    | nil => simp [chN] at h
    | cons e es =>
      cases e <;> first | (simp [chN] at h; done) | skip
      rename_i x px
      simp only [chN, Bool.and_eq_true] at h
      obtain ⟨n1, n2, n3⟩ := nmI_iff G h.1
      obtain ⟨g1, g2, g3⟩ := pgs_nms G h.2
      have hs : assignEach (Expr.Name x px :: es) X.env = (false, assign (Expr.Name x px) X.env) :: assignEach es X.env := rfl
      refine ⟨pgs_cons (pg_name G.nd n1 n2 n3) g1 rfl, ?_, ?_⟩
      · rw [hs, List.length_cons, List.length_cons, g2]
      · rw [hs, List.findIdx?_cons, g3]
        rfl
theorem gNms_all : ∀ {is : List (Nat × Bool)} {vs : List V} {σ : L2.St} {H : Hp} {Q : L2.St → Hp → Prop}, vs.length = is.length → Q (setAll is vs σ) H → gNms is vs σ H Q
  | [], vs, σ, H, Q, h, q => by
    cases vs with
    | nil => exact ⟨rfl, q⟩
    | cons v vs => cases h
  | (i, k) :: is, vs, σ, H, Q, h, q => by
    cases vs with
    | nil => cases h
    | cons v vs => exact ⟨v, vs, rfl, gNms_all (by simpa using h) q⟩
theorem chF_len {c : Cc} : ∀ {is : List (Nat × Bool)} {es : List Tm} {vs : List Expr}, chF is es c vs = true → vs.length = is.length := by
  intro is
  induction is with
  | nil => intro es vs h; cases es <;> simp [chF] at h; subst h; rfl
  | cons i is ih =>
    intro es vs h
    cases es with
    | nil => obtain ⟨_, _⟩ := i; simp [chF] at h
    | cons e es =>
      cases vs with
      | nil => obtain ⟨_, _⟩ := i; simp [chF] at h
      | cons v vs =>
        obtain ⟨_, _⟩ := i
        simp only [chF, Bool.and_eq_true] at h
        rw [List.length_cons, List.length_cons, ih h.2]
theorem s_par {is : List (Nat × Bool)} {es : List Tm} : PSt (.par is es) := fun ow X C c s Hc0 H0 σp σ Hc H st f st' G hc R h E sv => by
  cases s <;> first | (simp [chS] at hc; done) | skip
  rename_i tl v pos
  have ho : ∃ ts k p vs k2 p2, tl = [.Tuple ts k p] ∧ v = .Tuple vs k2 p2 ∧ chN is c ts = true ∧ chF is es c vs = true ∧ (is.map (·.1)).Nodup ∧ es.length ≤ 1000 ∧
      (parR c ts vs = some none ∨ (parR c ts vs = some (some (nmsOf ts)) ∧ locs c ts = true ∧ (ts.length = 2 ∨ ts.length = 3))) := by
    unfold chS at hc
    split at hc
    case h_2 => cases hc
    rename_i e
    cases e
    simp only [Bool.and_eq_true, decide_eq_true_eq] at hc
    refine ⟨_, _, _, _, _, _, rfl, rfl, hc.1.1.1.1, hc.1.1.1.2, hc.1.1.2, hc.1.2, ?_⟩
    have h5 := hc.2
    split at h5
    · rename_i q
      exact .inl q
    · rename_i ns q
      simp only [Bool.and_eq_true, decide_eq_true_eq, Bool.or_eq_true, beq_iff_eq] at h5
      rw [h5.1.1] at q
      exact .inr ⟨q, h5.1.2, h5.2⟩
    · cases h5
  obtain ⟨ts, k, p, vs, k2, p2, rfl, rfl, h1, h2, h3, h4, h5⟩ := ho
  unfold exec at h
  obtain ⟨ds, s1, e1, hA⟩ := bnd_inv h
  obtain ⟨σp1, s2, e2, hB⟩ := bnd_inv hA
  obtain ⟨σp1', e3, e4⟩ := lift_inv e2
  cases e4
  cases hB
  -- behind the values
  have fin : ∀ ws Hc' H', Stp ow Hc H Hc' H' → WOk X.K Hc' H' ow st' → RepF X.K ow H Hc' H' ws ds (is.map (·.2)) → E.nx (setAll is ws σ) H' := fun ws Hc' H' p' w' r => by
    refine sv _ _ _ (keep_all (R.go p' w') r (fun n a hn hk => ?_) e3)
    obtain ⟨z1, z2⟩ := r.at_ hn hk
    refine ⟨?_, fun j q => ?_⟩
    · cases hx : H0 a with
      | none => rfl
      | some ob => have := R.stp.keep a ob hx z2; rw [z1] at this; cases this
    · obtain ⟨q1, q2⟩ := q
      obtain ⟨dd, q1 | ⟨ee, q1⟩⟩ := q1
      · obtain ⟨b, y1, y2⟩ := R.e.at_ j _ q1
        rw [q2] at y1
        cases y1
        obtain ⟨_, _, ob, y3⟩ := y2.free
        rw [z1] at y3; cases y3
      · obtain ⟨b, y1, y2⟩ := R.e.at_ j _ q1
        rw [q2] at y1
        cases y1
        obtain ⟨_, _, ob, y3⟩ := y2.free
        rw [z1] at y3; cases y3
  rcases h5 with h5 | ⟨h5, hl, h6⟩
  · obtain ⟨g1, g2, g3⟩ := pgs_nms G.g h1
    refine evS_of (ps_asg (pe_tup pa_sem) (pg_tup G.g.calm g1 g2 g3) (sole_none rfl fun _ _ z => nomatch z) (parR_ok G.g.sc G.kind h5) rfl) ?_
    refine args_f G.g h2 R.e e1 _ fun ws Hc1 H1 p1 w1 r1 => ?_
    have l1 := r1.len.1
    have l2 := r1.len.2
    rw [List.length_map] at l2
    have l3 : ds.length = es.length := evs_len e1
    have : (1000 : Nat) ≤ sizeLine := by decide
    refine ⟨by omega, fun p hp => ?_⟩
    refine ⟨p, ws, rfl, .inl (.inl upd_same), by omega, gNms_all (by omega) ?_⟩
    -- the tuple itself is not closed
    have p2 : Stp ow Hc H Hc1 (upd H1 p (.tup ws)) := stp_trans p1 w1 (.open p1.sub hp)
    refine fin ws Hc1 _ p2 (w1.open hp) ?_
    have key : ∀ {vs : List V} {ds : List D} {ks : List Bool}, RepF X.K ow H Hc1 H1 vs ds ks → RepF X.K ow H Hc1 (upd H1 p (.tup ws)) vs ds ks := fun r => by
      induction r with
      | nil => exact .nil
      | keep r _ ih => exact .keep r ih
      | own o e n _ ih => exact .own (o.stp (.open p1.sub hp)) e n ih
    exact key r1
  · -- stored from the right
    have two : ∀ (i j : Nat) (a b : Bool), is = [(i, a), (j, b)] → i ≠ j := fun i j a b e => by
      subst e
      simp at h3
      exact h3
    rcases h6 with h6 | h6
    · obtain ⟨t1, t2, rfl⟩ : ∃ t1 t2, ts = [t1, t2] := by
        match ts, h6 with
        | [a, b], _ => exact ⟨a, b, rfl⟩
      cases t1 <;> first | (simp [locs] at hl; done) | skip
      cases t2 <;> first | (simp [locs] at hl; done) | skip
      rename_i x px y py
      match is, h1, h2, h3, fin with
      | [], h1, _, _, _ => simp [chN] at h1
      | [_], h1, _, _, _ => simp [chN] at h1
      | _ :: _ :: _ :: _, h1, _, _, _ => simp [chN] at h1
      | [(i, a), (j, b)], h1, h2, h3, fin =>
        simp only [chN, Bool.and_eq_true] at h1
        simp only [locs, Bool.and_eq_true, beq_iff_eq] at hl
        have hv : ∃ v1 v2, vs = [v1, v2] := by
          have := chF_len h2
          match vs, this with
          | [a, b], _ => exact ⟨a, b, rfl⟩
        obtain ⟨v1, v2, rfl⟩ := hv
        refine evS_of (ps_par G.g.calm G.g.nd (nmI_iff G.g h1.1).1 (nmI_iff G.g h1.2.1).1 (by simp at h3; exact h3) (by rw [G.g.sc]; exact hl.1) (by rw [G.g.sc]; exact hl.2.1) pa_sem (parR_ok G.g.sc G.kind h5) (sole_none rfl fun _ _ z => nomatch z)) ?_
        refine args_f G.g h2 R.e e1 _ fun ws Hc1 H1 p1 w1 r1 => ?_
        have q := fin ws Hc1 H1 p1 w1 r1
        have l1 := r1.len.1
        have l2 := r1.len.2
        simp at l2
        match ws, l1, q with
        | [w1, w2], _, q => exact ⟨w1, w2, rfl, q⟩
        | [], l1, _ => simp at l1; omega
        | [_], l1, _ => simp at l1; omega
        | _ :: _ :: _ :: _, l1, _ => simp at l1; omega
    · obtain ⟨t1, t2, t3, rfl⟩ : ∃ t1 t2 t3, ts = [t1, t2, t3] := by
        match ts, h6 with
        | [a, b, d], _ => exact ⟨a, b, d, rfl⟩
      cases t1 <;> first | (simp [locs] at hl; done) | skip
      cases t2 <;> first | (simp [locs] at hl; done) | skip
      cases t3 <;> first | (simp [locs] at hl; done) | skip
      rename_i x px y py z pz
      match is, h1, h2, h3, fin with
      | [], h1, _, _, _ => simp [chN] at h1
      | [_], h1, _, _, _ => simp [chN] at h1
      | [_, _], h1, _, _, _ => simp [chN] at h1
      | _ :: _ :: _ :: _ :: _, h1, _, _, _ => simp [chN] at h1
      | [(i, a), (j, b), (l, g)], h1, h2, h3, fin =>
        simp only [chN, Bool.and_eq_true] at h1
        simp only [locs, Bool.and_eq_true, beq_iff_eq] at hl
        have hv : ∃ v1 v2 v3, vs = [v1, v2, v3] := by
          have := chF_len h2
          match vs, this with
          | [a, b, d], _ => exact ⟨a, b, d, rfl⟩
        obtain ⟨v1, v2, v3, rfl⟩ := hv
        have hd : i ≠ j ∧ i ≠ l ∧ j ≠ l := by
          simp at h3
          omega
        refine evS_of (ps_par3 G.g.calm G.g.nd (nmI_iff G.g h1.1).1 (nmI_iff G.g h1.2.1).1 (nmI_iff G.g h1.2.2.1).1 hd.1 hd.2.1 hd.2.2 (by rw [G.g.sc]; exact hl.1) (by rw [G.g.sc]; exact hl.2.1) (by rw [G.g.sc]; exact hl.2.2.1) pa_sem (parR_ok G.g.sc G.kind h5) (sole_none rfl fun _ _ z => nomatch z)) ?_
        refine args_f G.g h2 R.e e1 _ fun ws Hc1 H1 p1 w1 r1 => ?_
        have q := fin ws Hc1 H1 p1 w1 r1
        have l1 := r1.len.1
        have l2 := r1.len.2
        simp at l2
        match ws, l1, q with
        | [w1, w2, w3], _, q => exact ⟨w1, w2, w3, rfl, q⟩
        | [], l1, _ => simp at l1; omega
        | [_], l1, _ => simp at l1; omega
        | [_, _], l1, _ => simp at l1; omega
        | _ :: _ :: _ :: _ :: _, l1, _ => simp at l1; omega
end Q

set_option Elab.async false
set_option linter.all false
set_option maxRecDepth 100000
set_option maxHeartbeats 1000000
/-! L1q: all statements. -/
namespace Q
open PySem PySem.Spec PyProof.Rows L2
theorem aug_ok {X : Cx} {ow : Option Addr} {op : Op} {x y d : D} (h : augD op x y = some d) : Serves2 X ow (inplaceOp (oOp op)) x y d := by
  have hmax : strMax = 16000000 := rfl
  have hsl : (16000000 : Nat) ≤ sizeLine := by decide
  unfold augD at h
  cases op with
  | pow => cases h
  | add =>
    cases x <;> first | (simp at h; done) | skip
    · cases y <;> first | (simp at h; done) | skip
      change addD (.int _) (.int _) = some d at h
      simp only [addD] at h
      cases h
      exact ⟨_, iop_add, fun v u Hc H st Q s w rx ry q => ⟨_, _, rx.int, ry.int, q.here s w (.int _)⟩⟩
    · cases y <;> first | (simp at h; done) | skip
      change addD (.str _) (.str _) = some d at h
      simp only [addD] at h
      split at h
      · rename_i hz
        cases h
        refine ⟨_, iop_add_str, fun v u Hc H st Q s w rx ry q => ?_⟩
        obtain ⟨e1, k1⟩ := rx.str
        obtain ⟨e2, k2⟩ := ry.str
        refine ⟨_, _, e1, e2, ?_, q.here s w (.str (okS_app k1 k2 hz))⟩
        show _ + _ ≤ sizeLine
        exact Nat.le_trans hz (by rw [hmax]; exact hsl)
      · cases h
  | sub =>
    cases x <;> first | (simp at h; done) | skip
    · cases y <;> first | (simp at h; done) | skip
      simp only [binD] at h
      cases h
      exact ⟨_, iop_sub, fun v u Hc H st Q s w rx ry q => ⟨_, _, rx.int, ry.int, q.here s w (.int _)⟩⟩
    · cases y <;> simp [binD] at h
  | mul =>
    cases x <;> first | (simp at h; done) | skip
    · cases y <;> first | (simp at h; done) | skip
      change mulD (.int _) (.int _) = some d at h
      simp only [mulD] at h
      split at h
      · rename_i hz
        cases h
        refine ⟨_, iop_mul, fun v u Hc H st Q s w rx ry q => ?_⟩
        exact ⟨_, _, rx.int, ry.int, by rcases hz with hz | hz; exact .inl ⟨by omega, by omega⟩; exact .inr ⟨by omega, by omega⟩, q.here s w (.int _)⟩
      · cases h
    · cases y <;> simp [binD, mulD] at h
  | fdiv =>
    cases x <;> first | (simp at h; done) | skip
    · cases y <;> first | (simp at h; done) | skip
      simp only [binD] at h
      split at h
      · rename_i hz
        cases h
        refine ⟨_, iop_fdivW, fun v u Hc H st Q s w rx ry q => ?_⟩
        exact ⟨_, _, rx.int, ry.int, ⟨hz.1, log_62 hz.1 hz.2⟩, q.here s w (.int _)⟩
      · cases h
    · cases y <;> simp [binD] at h
  | mod =>
    cases x <;> first | (simp at h; done) | skip
    · cases y <;> first | (simp at h; done) | skip
      simp only [binD] at h
      split at h
      · rename_i hz
        cases h
        refine ⟨_, iop_mod, fun v u Hc H st Q s w rx ry q => ?_⟩
        exact ⟨_, _, rx.int, ry.int, hz, q.here s w (.int _)⟩
      · cases h
    · cases y <;> simp [binD] at h
theorem keep_cl {σp : Env} {i : Nat} {x : D} (h : σp.keep i = some x) : σp[i]? = some (.cl x) := by
  unfold Env.keep at h
  cases q : σp[i]? with
  | none => rw [q] at h; cases h
  | some y =>
    rw [q] at h
    cases y <;> first | (cases h; rfl) | cases h
theorem s_aug {i : Nat} {op : Op} {e : Tm} : PSt (.aug i op e) := fun ow X C c s Hc0 H0 σp σ Hc H st f st' G hc R h E sv => by
  cases s <;> first | (simp [chS] at hc; done) | skip
  rename_i t o v pos
  have ho : ∃ x px, t = .Name x px ∧ nmI c i x = true ∧ opB op o = true ∧ chE e c v = true := by
    unfold chS at hc
    split at hc
    · rename_i e
      cases e
      simp only [Bool.and_eq_true] at hc
      exact ⟨_, _, rfl, hc.1.1, hc.1.2, hc.2⟩
    · cases hc
  obtain ⟨x, px, rfl, h1, h2, h3⟩ := ho
  unfold exec at h
  obtain ⟨x0, s1, e1, hA⟩ := bnd_inv h
  obtain ⟨x', e2, e3⟩ := lift_inv e1
  cases e3
  obtain ⟨y, s2, e4, hB⟩ := bnd_inv hA
  obtain ⟨z, s3, e5, hC⟩ := bnd_inv hB
  obtain ⟨z', e6, e7⟩ := lift_inv e5
  cases e7
  cases hC
  obtain ⟨r, hr, hq⟩ := aug_ok (X := X) (ow := ow) e6
  obtain rfl := opB_eq h2
  obtain ⟨n1, n2, n3⟩ := nmI_iff G.g h1
  obtain ⟨vx, g1, g2⟩ := R.e.at_ i _ (keep_cl e2)
  refine evS_of (ps_aug G.g.nd n1 n2 pe_sem hr n3) ⟨vx, g1, ?_⟩
  refine (tm_ok e X C c v false σp σ Hc H st y _ G.g h3 R.e e4).1 _ fun u Hc1 H1 p1 w1 r1 => ?_
  exact hq vx u Hc1 H1 _ _ p1.sub w1 (.inl (g2.mono p1.cl)) (RepV.rd r1) fun w Hc2 H2 p2 w2 r2 => sv _ _ _ (((R.go p1 w1).go p2 w2).set i r2)
theorem app_shape {i : Nat} {m : String} {e : Tm} {c : Cc} {s : Stmt} (hc : (match s with
    | .Expr (.Call (.Attribute (.Name x _) n ap) [v] [] cp) _ => nmR c i x && decide (n = Str.ofString m) && (ap.endLine == cp.line) && okE v && chE e c v
    | _ => false) = true) : ∃ x px ap v cp pos, s = .Expr (.Call (.Attribute (.Name x px) (Str.ofString m) ap) [v] [] cp) pos ∧ nmR c i x = true ∧ (ap.endLine == cp.line) = true ∧ okE v = true ∧ chE e c v = true := by
  split at hc
  · simp only [Bool.and_eq_true, decide_eq_true_eq] at hc
    obtain ⟨⟨⟨⟨h1, rfl⟩, h3⟩, h4⟩, h5⟩ := hc
    exact ⟨_, _, _, _, _, _, rfl, h1, h3, h4, h5⟩
  · cases hc
theorem s_app {i : Nat} {e : Tm} : PSt (.app i e) := fun ow X C c s Hc0 H0 σp σ Hc H st f st' G hc R h E sv => by
  obtain ⟨x, px, ap, v, cp, pos, rfl, h1, h2, h3, h4⟩ := app_shape (m := "append") (by unfold chS at hc; exact hc)
  unfold exec at h
  obtain ⟨d, s1, e1, hA⟩ := bnd_inv h
  obtain ⟨ds, q, hA⟩ : ∃ ds, σp[i]? = some (.ol ds) ∧ (if ds.length < lineMax then ret (.nx (σp.set i (.ol (ds ++ [d])))) else fail : M Fl) s1 = some (f, st') := by
    cases q : σp[i]? with
    | none => rw [q] at hA; cases hA
    | some y =>
      rw [q] at hA
      cases y <;> first | (cases hA; done) | exact ⟨_, rfl, hA⟩
  split at hA
  case isFalse => cases hA
  rename_i hz
  cases hA
  obtain ⟨a, vs, f1, f2, f3, f4, f5, f6⟩ := R.at_ol q
  refine evS_of (ps_expr (pe_bm PySem.F.plainAttrs_list PySem.F.slot_list_append PySem.F.type_list_append mt_append (pe_nm G.g h1) pa_sem rfl (by rw [starE _ h3]; rfl) h2 (starE _ h3 _) rfl)) ?_
  refine ⟨_, f1, .inl ⟨rfl, vs, .inl (.inl f3)⟩, ?_⟩
  refine evA_of (pa_cons pe_sem pa_nil (starE _ h3 _)) ?_
  refine (tm_ok e X C c v false σp σ Hc H st d _ G.g h4 R.e e1).1 _ fun u Hc1 H1 p1 w1 r1 => ?_
  have r1 : Rep X.K ow Hc1 u d := r1
  have R1 := R.go p1 w1
  have k3 := p1.keep _ _ f3 f6
  have l1 := f4.length
  have : (16000000 : Nat) ≤ sizeLine := by decide
  have hln : lineMax = 16000000 := rfl
  exact ⟨a, vs, u, rfl, rfl, k3, by omega, sv _ _ _ (R1.chg q f1 ((f4.mono p1.cl).append (.cons r1 .nil)))⟩
theorem s_ext {i : Nat} {e : Tm} : PSt (.ext i e) := fun ow X C c s Hc0 H0 σp σ Hc H st f st' G hc R h E sv => by
  obtain ⟨x, px, ap, v, cp, pos, rfl, h1, h2, h3, h4⟩ := app_shape (m := "extend") (by unfold chS at hc; exact hc)
  unfold exec at h
  obtain ⟨d, s1, e1, hA⟩ := bnd_inv h
  obtain ⟨ds, ys, q, rfl, hD⟩ : ∃ ds ys, σp[i]? = some (.ol ds) ∧ d = .list ys ∧ (if ds.length + ys.length ≤ lineMax then ret (.nx (σp.set i (.ol (ds ++ ys)))) else fail : M Fl) s1 = some (f, st') := by
    cases q : σp[i]? with
    | none => rw [q] at hA; cases hA
    | some y =>
      rw [q] at hA
      cases y <;> first | (cases hA; done) | skip
      cases d <;> first | (cases hA; done) | exact ⟨_, _, rfl, rfl, hA⟩
  by_cases hz : ds.length + ys.length ≤ lineMax
  case neg => rw [if_neg hz] at hD; cases hD
  rw [if_pos hz] at hD
  cases hD
  obtain ⟨a, vs, f1, f2, f3, f4, f5, f6⟩ := R.at_ol q
  refine evS_of (ps_expr (pe_bm PySem.F.plainAttrs_list PySem.F.slot_list_extend PySem.F.type_list_extend mt_extend (pe_nm G.g h1) pa_sem rfl (by rw [starE _ h3]; rfl) h2 (starE _ h3 _) rfl)) ?_
  refine ⟨_, f1, .inl ⟨rfl, vs, .inl (.inl f3)⟩, ?_⟩
  refine evA_of (pa_cons pe_sem pa_nil (starE _ h3 _)) ?_
  refine (tm_ok e X C c v false σp σ Hc H st _ _ G.g h4 R.e e1).1 _ fun u Hc1 H1 p1 w1 r1 => ?_
  have r1 : Rep X.K ow Hc1 u (.list ys) := r1
  cases r1 with
  | lst g1 g2 =>
    have R1 := R.go p1 w1
    have k3 := p1.keep _ _ f3 f6
    have l1 := f4.length
    have l2 := g2.length
    have : (16000000 : Nat) ≤ sizeLine := by decide
    have hln : lineMax = 16000000 := rfl
    exact ⟨a, _, vs, _, rfl, rfl, k3, p1.sub _ _ g1, by omega, sv _ _ _ (R1.chg q f1 ((f4.mono p1.cl).append g2))⟩
theorem s_put {i : Nat} {k e : Tm} : PSt (.put i k e) := fun ow X C c s Hc0 H0 σp σ Hc H st f st' G hc R h E sv => by
  cases s <;> first | (simp [chS] at hc; done) | skip
  rename_i ts v pos
  have ho : ∃ x px j jp, ts = [.Subscript (.Name x px) j jp] ∧ nmR c i x = true ∧ okE j = true ∧ okE v = true ∧ chE k c j = true ∧ chE e c v = true := by
    unfold chS at hc
    split at hc
    · rename_i e
      cases e
      simp only [Bool.and_eq_true] at hc
      exact ⟨_, _, _, _, rfl, hc.1.1.1.1, hc.1.1.1.2, hc.1.1.2, hc.1.2, hc.2⟩
    · cases hc
  obtain ⟨x, px, j, jp, rfl, h1, h2, h3, h4, h5⟩ := ho
  unfold exec at h
  obtain ⟨d, s1, e1, hA⟩ := bnd_inv h
  obtain ⟨jd, s2, e2, hB⟩ := bnd_inv hA
  obtain ⟨ds, n, q, rfl, hD⟩ : ∃ ds n, σp[i]? = some (.ol ds) ∧ jd = .int n ∧ (if 0 ≤ n ∧ n.toNat < ds.length then ret (.nx (σp.set i (.ol (ds.set n.toNat d)))) else if n < 0 ∧ 0 ≤ (ds.length : Int) + n then ret (.nx (σp.set i (.ol (ds.set ((ds.length : Int) + n).toNat d)))) else fail : M Fl) s2 = some (f, st') := by
    cases q : σp[i]? with
    | none => rw [q] at hB; cases hB
    | some y =>
      rw [q] at hB
      cases y <;> first | (cases hB; done) | skip
      cases jd <;> first | (cases hB; done) | exact ⟨_, _, rfl, rfl, hB⟩
  have ha : ∀ w, assign (.Subscript (.Name x px) j jp) X.env w = (do
      let ov ← holding [w] (eval (.Name x px) X.env)
      let iv ← holding [w, ov] (eval j X.env)
      standAt jp
      holding [w, ov, iv] (setItem ov iv w)
      release [w, ov, iv] []) := fun w => by cases j <;> first | rfl | cases h2
  refine evS_of (ps_asg pe_sem (pg_sub (pe_nm G.g h1) pe_sem set_list ha) (sole_none h3 fun _ _ z => nomatch z) (swap_none G.g.sc G.kind (by cases v <;> rfl) fun _ _ z => nomatch z) rfl) ?_
  refine (tm_ok e X C c v false σp σ Hc H st d _ G.g h5 R.e e1).1 _ fun u Hc1 H1 p1 w1 r1 => ?_
  have r1 : Rep X.K ow Hc1 u d := r1
  have R1 := R.go p1 w1
  obtain ⟨a, vs, f1, f2, f3, f4, f5, f6⟩ := R1.at_ol q
  refine ⟨_, f1, ?_⟩
  refine (tm_ok k X C c j false σp σ Hc1 H1 s1 _ _ G.g h4 R1.e e2).1 _ fun u2 Hc2 H2 p2 w2 r2 => ?_
  have R2 := R1.go p2 w2
  have k3 := p2.keep _ _ f3 f6
  have l1 := f4.length
  have fin : ∀ m : Nat, ixN vs.length n = some m → f = .nx (σp.set i (.ol (ds.set m d))) → s2 = st' → rSetL (.ref a) u2 u H2 fun H3 => E.nx σ H3 := fun m hm hf hs => by
    subst hf
    subst hs
    exact ⟨a, vs, n, m, rfl, RepV.int r2, k3, hm, sv _ _ _ (R2.chg q f1 ((f4.mono p2.cl).set m (r1.mono p2.cl)))⟩
  by_cases hz : 0 ≤ n ∧ n.toNat < ds.length
  · rw [if_pos hz] at hD
    cases hD
    refine fin n.toNat ?_ rfl rfl
    unfold ixN
    rw [if_pos hz.1, if_pos (by omega)]
  · rw [if_neg hz] at hD
    by_cases hz : n < 0 ∧ 0 ≤ (ds.length : Int) + n
    · rw [if_pos hz] at hD
      cases hD
      refine fin _ ?_ rfl rfl
      unfold ixN
      rw [if_neg (by omega), if_pos (by omega), l1, Int.add_comm]
    · rw [if_neg hz] at hD
      cases hD
theorem noK {K : PySem.W.Frag} {ow : Option Addr} {H : Hp} {kvs : List (L2.Key × V)} (h : RepK K ow H kvs [(.none, .none)]) : False := by
  generalize hp : [(PyData.none, PyData.none)] = ps at h
  cases h with
  | nil => cases hp
  | @cons k _ _ _ _ _ _ _ =>
    injection hp with e _
    injection e with e1 _
    cases k <;> cases e1
theorem noT {K : PySem.W.Frag} {ow : Option Addr} {H : Hp} {kvs : List (List L2.Key × V)} (h : RepT K ow H kvs [(.none, .none)]) : False := by
  generalize hp : [(PyData.none, PyData.none)] = ps at h
  cases h with
  | nil => cases hp
  | cons =>
    injection hp with e _
    injection e with e1 _
    cases e1
theorem at_ne : ¬ ((Sum.inr (Str.ofString "draws") : L2.Key) = Sum.inr (Str.ofString "at")) := fun z => absurd (Sum.inr.inj z) (by decide +kernel)
theorem wat_put {a b v : V} : putK [((Sum.inr (Str.ofString "draws") : L2.Key), a), (Sum.inr (Str.ofString "at"), b)] (Sum.inr (Str.ofString "at")) v = [(Sum.inr (Str.ofString "draws"), a), (Sum.inr (Str.ofString "at"), v)] := by
  unfold putK
  have h : (List.any [((Sum.inr (Str.ofString "draws") : L2.Key), a), (Sum.inr (Str.ofString "at"), b)] fun kv => decide (kv.1 = Sum.inr (Str.ofString "at"))) = true := by simp
  rw [if_pos h]
  simp only [List.map_cons, List.map_nil, if_neg at_ne, if_true]
theorem s_wat {i : Nat} : PSt (.wat i) := fun ow X C c s Hc0 H0 σp σ Hc H st f st' G hc R h E sv => by
  cases s <;> first | (simp [chS] at hc; done) | skip
  rename_i t o v pos
  have ho : ∃ x px j1 j2 jp vp v1 v2, t = .Subscript (.Name x px) (.Constant (.str (Str.ofString "at")) j1 j2) jp ∧ o = .Add ∧ v = .Constant (.int 1) v1 v2 ∧ nmR c i x = true ∧ vp = jp := by
    unfold chS at hc
    split at hc
    · rename_i e
      cases e
      simp only [Bool.and_eq_true, decide_eq_true_eq] at hc
      obtain ⟨⟨h1, rfl⟩, rfl⟩ := hc
      exact ⟨_, _, _, _, _, _, _, _, rfl, rfl, rfl, h1, rfl⟩
    · cases hc
  obtain ⟨x, px, j1, j2, jp, vp, v1, v2, rfl, rfl, rfl, h1, _⟩ := ho
  unfold exec at h
  split at h
  case h_2 => cases h
  rename_i ns n q
  cases h
  have q := keep_cl q
  obtain ⟨v, f1, f2⟩ := R.e.at_ i _ q
  have hu := G.g.hu
  refine evS_of (ps_daug (by omega) (pe_nm G.g h1) pe_str pe_int iop_add (by intros; rfl)) ?_
  have f2 : Rep X.K ow Hc v W := f2
  obtain ⟨a, rfl, rfl⟩ : ∃ a, v = .ref a ∧ ow = some a := by
    cases f2 with
    | dct r hk => exact (noK hk).elim
    | dctT r hk => exact (noT hk).elim
    | st e => exact ⟨_, rfl, e⟩
  obtain ⟨al, w1, w2, w3⟩ := R.e.w
  refine ⟨_, f1, a, .int (n : Nat), rfl, .inl ⟨_, .inr (Str.ofString "at"), .inl w1, rfl, ?_⟩, _, _, rfl, rfl, _, .inl ⟨_, .inr (Str.ofString "at"), w1, rfl, by show 2 < sizeLine; decide, rfl⟩, ?_⟩
  · rw [valV_neg at_ne, valV_pos rfl]
  · rw [wat_put]
    refine sv _ _ _ ⟨⟨fun b o q => ?_, ⟨al, ?_, w2, w3⟩, R.e.len, fun j y q => ?_⟩, R.dis, R.new, ⟨R.stp.cl, fun b o q => ?_, fun b o q n => ?_, R.stp.fresh⟩, R.w0⟩
    · rw [upd_ne (fun z => by rw [z, w2] at q; cases q)]
      exact R.e.sub b o q
    · rw [upd_same]
      rfl
    · have old := R.e.at_ j y q
      cases y with
      | un => trivial
      | cl d => exact old
      | ol d =>
        obtain ⟨b, g1, g2⟩ := old
        have hb : b ≠ a := fun z => g2.free.2.1 (by rw [z])
        refine ⟨b, g1, ?_⟩
        cases g2 with
        | lst q1 q2 q3 q4 => exact .lst (by rw [upd_ne hb]; exact q1) q2 q3 q4
      | od d =>
        obtain ⟨b, g1, g2⟩ := old
        have hb : b ≠ a := fun z => g2.free.2.1 (by rw [z])
        refine ⟨b, g1, ?_⟩
        cases g2 with
        | dct q1 q2 q3 q4 => exact .dct (by rw [upd_ne hb]; exact q1) q2 q3 q4
        | dctT q1 q2 q3 q4 => exact .dctT (by rw [upd_ne hb]; exact q1) q2 q3 q4
    · rw [upd_ne (fun z => by rw [z, w2] at q; cases q)]
      exact R.e.sub b o q
    · rw [upd_ne (fun z => n (by rw [z]))]
      exact R.stp.keep b o q n
end Q

set_option Elab.async false
set_option linter.all false
set_option maxRecDepth 100000
set_option maxHeartbeats 1000000
/-! L1r: blocks, loops; every statement. -/
namespace Q
open PySem PySem.Spec PyProof.Rows L2
theorem s_ret {e : Tm} : PSt (.ret e) := fun ow X C c s Hc0 H0 σp σ Hc H st f st' G hc R h E sv => by
  cases s <;> first | (simp [chS] at hc; done) | skip
  rename_i o pos
  cases o with
  | none => simp [chS] at hc
  | some v =>
    simp only [chS] at hc
    unfold exec at h
    obtain ⟨d, s1, e1, hA⟩ := bnd_inv h
    cases hA
    exact evS_of (ps_ret pe_sem) ((tm_ok e X C c v false σp σ Hc H st d _ G.g hc R.e e1).1 _ fun u Hc1 H1 p1 w1 r1 => sv u Hc1 H1 (R.tr p1) w1 r1)
theorem s_retn : PSt .retn := fun ow X C c s Hc0 H0 σp σ Hc H st f st' G hc R h E sv => by
  cases s <;> first | (simp [chS] at hc; done) | skip
  rename_i o pos
  cases o with
  | some v => simp [chS] at hc
  | none =>
    unfold exec at h
    cases h
    exact evS_of ps_retN (sv .non Hc H R.stp R.e.w .non)
theorem s_brk : PSt .brk := fun ow X C c s Hc0 H0 σp σ Hc H st f st' G hc R h E sv => by
  cases s <;> first | (simp [chS] at hc; done) | skip
  unfold exec at h
  cases h
  exact evS_of ps_break (sv σ Hc H R)
theorem s_cnt : PSt .cnt := fun ow X C c s Hc0 H0 σp σ Hc H st f st' G hc R h E sv => by
  cases s <;> first | (simp [chS] at hc; done) | skip
  unfold exec at h
  cases h
  exact evS_of ps_continue (sv σ Hc H R)
theorem s_pass : PSt .pass := fun ow X C c s Hc0 H0 σp σ Hc H st f st' G hc R h E sv => by
  cases s <;> first | (simp [chS] at hc; done) | skip
  unfold exec at h
  cases h
  exact evS_of ps_pass (sv σ Hc H R)
theorem s_ifs {k : Tm} {a b : List St} (iha : PSts a) (ihb : PSts b) : PSt (.ifs k a b) := fun ow X C c s Hc0 H0 σp σ Hc H st f st' G hc R h E sv => by
  cases s <;> first | (simp [chS] at hc; done) | skip
  rename_i z p q pos
  simp only [chS, Bool.and_eq_true] at hc
  unfold exec at h
  obtain ⟨d, s1, e1, hA⟩ := bnd_inv h
  obtain ⟨t, s2, e2, hB⟩ := bnd_inv hA
  obtain ⟨rfl, rfl⟩ := boolD_inv e2
  refine evS_of (ps_if pt_sem pss_sem pss_sem) ?_
  refine (tm_ok k X C c z false σp σ Hc H st _ _ G.g hc.1.1 R.e e1).2 t rfl _ fun Hc1 H1 p1 w1 => ?_
  cases t with
  | true =>
    rw [if_pos rfl] at hB ⊢
    exact iha ow X C c p Hc0 H0 σp σ Hc1 H1 _ f st' G hc.1.2 (R.go p1 w1) hB E sv
  | false =>
    rw [if_neg (by decide)] at hB ⊢
    exact ihb ow X C c q Hc0 H0 σp σ Hc1 H1 _ f st' G hc.2 (R.go p1 w1) hB E sv
/-- the closed things as they stand now are the floor -/
theorem RelS.base {K : PySem.W.Frag} {ow : Option Addr} {Hc0 H0 Hc H : Hp} {σp : Env} {σ : L2.St} {st : Ws} (h : RelS K ow Hc0 H0 σp σ Hc H st) : RelS K ow Hc H0 σp σ Hc H st :=
  ⟨h.e, h.dis, h.new, ⟨.refl, h.stp.sub, h.stp.keep, fun _ e _ => e⟩, h.w0⟩
theorem stp_back {ow : Option Addr} {Hc0 H0 Hc1 H1 Hc H : Hp} (a : Stp ow Hc0 H0 Hc1 H1) (b : Stp ow Hc1 H0 Hc H) : Stp ow Hc0 H0 Hc H :=
  ⟨a.cl.trans b.cl, b.sub, b.keep, fun x e n => b.fresh x (a.fresh x e n) n⟩
theorem RelS.back {K : PySem.W.Frag} {ow : Option Addr} {Hc0 H0 Hc1 H1 Hc H : Hp} {σp : Env} {σ : L2.St} {st : Ws} (a : Stp ow Hc0 H0 Hc1 H1) (h : RelS K ow Hc1 H0 σp σ Hc H st) : RelS K ow Hc0 H0 σp σ Hc H st :=
  ⟨h.e, h.dis, h.new, stp_back a h.stp, h.w0⟩
theorem s_for {g : Tg} {it : It} {b : List St} (ihb : PSts b) : PSt (.for_ g it b) := fun ow X C c s Hc0 H0 σp σ Hc H st f st' G hc R h E sv => by
  cases s <;> first | (simp [chS] at hc; done) | skip
  rename_i t z p o pos
  cases o with
  | cons _ _ => simp [chS] at hc
  | nil =>
    simp only [chS, Bool.and_eq_true] at hc
    obtain ⟨⟨h1, h2⟩, h3⟩ := hc
    unfold exec at h
    obtain ⟨ds, s1, e1, hA⟩ := bnd_inv h
    refine evS_of (ps_for G.pass G.g.calm pi_sem (tg_ok G.g h1) pss_sem (foldSet X.env h2)) ?_
    refine it_ok it X C c t z false σp σ Hc H st ds s1 G.g h2 R.e e1 _ fun J Hc1 H1 p1 w1 wk => ?_
    obtain ⟨few, Gg, Y, walk, still, yld⟩ := wk
    have R1 := R.go p1 w1
    refine for_it walk (D := E) (fun i σ' H' => ∃ (σp' : Env) (Hc' : Hp) (sti : Ws), RelS X.K ow Hc1 H0 σp' σ' Hc' H' sti ∧ forL _ (ds.drop i) σp' sti = some (f, st'))
      ⟨σp, Hc1, s1, R1.base, by rw [List.drop_zero]; exact hA⟩ (fun i σ' H' hi pv => ?_) (fun i x σ' H' H3 hi pv y => ?_) fun σ' H' pv => ?_
    · obtain ⟨σp', Hc', sti, R', _⟩ := pv
      exact still Hc' H' ⟨R'.stp.cl, R'.e.sub⟩
    · obtain ⟨σp', Hc', sti, R', hl⟩ := pv
      obtain ⟨Hc3, dd, p3, w3, hd, rd⟩ := yld i x Hc' H' H3 hi ⟨R'.stp.cl, R'.e.sub⟩ y
      have hdr : ds.drop i = dd :: ds.drop (i + 1) := by
        rw [List.drop_eq_getElem_cons hi]
        congr 1
        have := List.getElem?_eq_getElem hi
        rw [hd] at this
        exact (Option.some.inj this).symm
      rw [hdr] at hl
      unfold forL at hl
      obtain ⟨f1, sa, g1, hl⟩ := bnd_inv hl
      cases eb : bindT g dd σp' with
      | none => rw [eb] at g1; cases g1
      | some σp1 =>
        rw [eb] at g1
        refine bindS (R'.go p3 (w3 sti R'.e.w)) eb rd fun σ2 R2 => ?_
        refine ihb ow X C c p Hc1 H0 σp1 σ2 Hc3 H3 sti f1 sa G h3 R2 g1 _ ?_
        cases f1 with
        | nx σp2 => exact fun σ4 Hc4 H4 R4 => ⟨σp2, Hc4, sa, R4, hl⟩
        | ct σp2 => exact fun σ4 Hc4 H4 R4 => ⟨σp2, Hc4, sa, R4, hl⟩
        | bk σp2 =>
          cases hl
          exact fun σ4 Hc4 H4 R4 => sv σ4 Hc4 H4 (R4.back R1.stp)
        | rt d =>
          cases hl
          exact fun v Hc4 H4 p4 w4 r4 => sv v Hc4 H4 (stp_back R1.stp p4) w4 r4
    · obtain ⟨σp', Hc', sti, R', hl⟩ := pv
      rw [List.drop_length] at hl
      cases hl
      exact sv σ' Hc' H' (R'.back R1.stp)
theorem s_whl {k : Tm} {b : List St} (ihb : PSts b) : PSt (.whl k b) := fun ow X C c s Hc0 H0 σp σ Hc H st f st' G hc R h E sv => by
  cases s <;> first | (simp [chS] at hc; done) | skip
  rename_i z p o pos
  cases o with
  | cons _ _ => simp [chS] at hc
  | nil =>
    simp only [chS, Bool.and_eq_true] at hc
    unfold exec at h
    refine evS_of (ps_while G.pass pt_sem pss_sem) ?_
    refine ⟨fun m σ' H' => ∃ (σp' : Env) (Hc' : Hp) (sti : Ws), RelS X.K ow Hc0 H0 σp' σ' Hc' H' sti ∧ whlN _ _ m σp' sti = some (f, st'), ⟨fuelW, σp, Hc, st, R, h⟩, ?_⟩
    rintro m σ' H' ⟨σp', Hc', sti, R', hl⟩
    cases m with
    | zero => cases hl
    | succ m =>
      unfold whlN at hl
      obtain ⟨t, s1, g1, hl⟩ := bnd_inv hl
      obtain ⟨d, s2, e1, g2⟩ := bnd_inv g1
      obtain ⟨rfl, rfl⟩ := boolD_inv g2
      refine (tm_ok k X C c z false σp' σ' Hc' H' sti _ _ G.g hc.1 R'.e e1).2 t rfl _ fun Hc1 H1 p1 w1 => ?_
      have R1 := R'.go p1 w1
      cases t with
      | false =>
        rw [if_neg (by decide)] at hl ⊢
        cases hl
        exact sv σ' Hc1 H1 R1
      | true =>
        rw [if_pos rfl] at hl ⊢
        obtain ⟨f1, sa, g3, hl⟩ := bnd_inv hl
        refine ⟨fun σ4 H4 => ∃ (σp2 : Env) (Hc4 : Hp) (sti : Ws), RelS X.K ow Hc0 H0 σp2 σ4 Hc4 H4 sti ∧ whlN _ _ m σp2 sti = some (f, st'), fun σ4 H4 q => ⟨m, Nat.lt_succ_self m, q⟩, ?_⟩
        refine ihb ow X C c p Hc0 H0 σp' σ' Hc1 H1 _ f1 sa G hc.2 R1 g3 _ ?_
        cases f1 with
        | nx σp2 => exact fun σ4 Hc4 H4 R4 => ⟨σp2, Hc4, sa, R4, hl⟩
        | ct σp2 => exact fun σ4 Hc4 H4 R4 => ⟨σp2, Hc4, sa, R4, hl⟩
        | bk σp2 =>
          cases hl
          exact fun σ4 Hc4 H4 R4 => sv σ4 Hc4 H4 R4
        | rt d =>
          cases hl
          exact fun v Hc4 H4 p4 w4 r4 => sv v Hc4 H4 p4 w4 r4
theorem ss_nil : PSts [] := fun ow X C c ss Hc0 H0 σp σ Hc H st f st' G hc R h E sv => by
  cases ss with
  | cons _ _ => simp [chSs] at hc
  | nil =>
    cases h
    exact evSs_of pss_nil (sv σ Hc H R)
theorem ss_cons {s : St} {r : List St} (ns : ∀ i, s ≠ .close i) (h1 : PSt s) (h2 : PSts r) : PSts (s :: r) := fun ow X C c ss Hc0 H0 σp σ Hc H st f st' G hc R h E sv => by
  have hc : ∃ e es, ss = e :: es ∧ chS s c e = true ∧ chSs r c es = true := by
    cases s <;> first
      | exact absurd rfl (ns _)
      | (cases ss with
        | nil => simp [chSs] at hc
        | cons e es =>
          simp only [chSs, Bool.and_eq_true] at hc
          exact ⟨e, es, rfl, hc.1, hc.2⟩)
  obtain ⟨e, es, rfl, c1, c2⟩ := hc
  unfold execs at h
  obtain ⟨f1, s1, e1, hA⟩ := bnd_inv h
  refine evSs_of (pss_cons ps_sem pss_sem) ?_
  refine h1 ow X C c e Hc0 H0 σp σ Hc H st f1 s1 G c1 R e1 _ ?_
  cases f1 with
  | nx σp1 => exact fun σ1 Hc1 H1 R1 => h2 ow X C c es Hc0 H0 σp1 σ1 Hc1 H1 s1 f st' G c2 R1 hA E sv
  | ct σp1 => cases hA; exact fun σ1 Hc1 H1 R1 => sv σ1 Hc1 H1 R1
  | bk σp1 => cases hA; exact fun σ1 Hc1 H1 R1 => sv σ1 Hc1 H1 R1
  | rt d => cases hA; exact fun v Hc1 H1 p1 w1 r1 => sv v Hc1 H1 p1 w1 r1
theorem ss_close {i : Nat} {r : List St} (h2 : PSts r) : PSts (.close i :: r) := fun ow X C c ss Hc0 H0 σp σ Hc H st f st' G hc R h E sv => by
  have c2 : chSs r c ss = true := by simpa [chSs] using hc
  unfold execs at h
  obtain ⟨f1, s1, e1, hA⟩ := bnd_inv h
  unfold exec at e1
  cases e1
  cases q : σp[i]? with
  | none =>
    rw [q] at hA
    exact h2 ow X C c ss Hc0 H0 σp σ Hc H st f st' G c2 R hA E sv
  | some y =>
    rw [q] at hA
    obtain ⟨Hc', R'⟩ := R.shut q
    exact h2 ow X C c ss Hc0 H0 _ σ Hc' H st f st' G c2 R' hA E sv
theorem ss_any {s : St} {r : List St} (h1 : PSt s) (h2 : PSts r) : PSts (s :: r) := by
  cases s with
  | close i => exact ss_close h2
  | _ => exact ss_cons (fun _ z => nomatch z) h1 h2
theorem s_off {s : St} (h : ∀ c e, chS s c e = false) : PSt s := fun ow X C c e Hc0 H0 σp σ Hc H st f st' G hc _ _ _ _ => by rw [h] at hc; cases hc
mutual
theorem st_ok : ∀ s : St, PSt s
  | .asg g e => s_asg
  | .own i e => s_own
  | .par is es => s_par
  | .aug i op e => s_aug
  | .app i e => s_app
  | .ext i e => s_ext
  | .ins i k e => s_off fun c e => by cases e <;> rfl
  | .put i k e => s_put
  | .aput i op k e => s_off fun c e => by cases e <;> rfl
  | .upd i e => s_off fun c e => by cases e <;> rfl
  | .wat i => s_wat
  | .w0 i e => s_off fun c e => by cases e <;> rfl
  | .ifs k a b => s_ifs (sts_ok a) (sts_ok b)
  | .for_ g it b => s_for (sts_ok b)
  | .whl k b => s_whl (sts_ok b)
  | .ret e => s_ret
  | .retn => s_retn
  | .brk => s_brk
  | .cnt => s_cnt
  | .pass => s_pass
  | .close i => s_off fun c e => by cases e <;> rfl
theorem sts_ok : ∀ ss : List St, PSts ss
  | [] => ss_nil
  | s :: r => ss_any (st_ok s) (sts_ok r)
end
end Q

set_option Elab.async false
set_option linter.all false
set_option maxRecDepth 100000
set_option maxHeartbeats 1000000
/-! L1s: the defs of a text; the law's own body. -/
namespace Q
open PySem PySem.Spec PyProof.Rows L2
/-- a def as the tables tell it -/
structure Df where
  name : Str
  N : List Str
  ps : List Str
  st : Stmt
  fn : Fn
def scB (N ps : List Str) (sc : Scope) : Bool :=
  (match sc.kind with | .function => true | _ => false) && !sc.isCoroutine && !sc.isGenerator && decide N.Nodup && decide (N.take ps.length = ps) &&
  ps.all (fun x => sc.names.lookup x == some .local || sc.names.lookup x == some .cell) && sc.names.all fun y => match y.2 with | .free => false | _ => true
theorem scB_ok {N ps : List Str} {sc : Scope} (h : scB N ps sc = true) : FnScope N ps sc := by
  unfold scB at h
  simp only [Bool.and_eq_true, decide_eq_true_eq, Bool.not_eq_true', List.all_eq_true, Bool.or_eq_true, beq_iff_eq] at h
  obtain ⟨⟨⟨⟨⟨⟨h1, h2⟩, h3⟩, h4⟩, h5⟩, h6⟩, h7⟩ := h
  refine ⟨?_, h2, h3, h4, h5, h6, fun y hy e => ?_⟩
  · split at h1
    · assumption
    · cases h1
  · have := h7 y hy
    rw [e] at this
    cases this
def okD (fnm : List (Str × Nat)) (d : Df) : Bool :=
  scB d.N d.ps (defScope d.st) && decide (d.fn.np = d.ps.length) && decide (d.fn.ns = d.N.length) && decide (d.ps.length ≤ d.N.length) &&
  chSs d.fn.body { N := d.N, sc := defScope d.st, fnb := fun _ => true, fnm := fnm } (defBody d.st)
structure Fct (K : PySem.W.Frag) (mg : Str → Option Value) (x : Str) (st : Stmt) (ps : List Str) : Prop where
  ex : ∃ (a : Addr) (fd : FuncData), mg x = some (.ref a) ∧ Fun K x x st a fd ∧ Binds K fd ps []
def fnmOf (dfs : List Df) : List (Str × Nat) := dfs.map fun d => (d.name, d.ps.length)
def tabOf (dfs : List Df) : List Fn := dfs.map (·.fn)
theorem kind_of {N ps : List Str} {sc : Scope} (h : scB N ps sc = true) : sc.kind = .function := (scB_ok h).kind
/-- the slots at a def's entry -/
theorem start_at {K : PySem.W.Frag} {ow : Option Addr} {Hc H : Hp} {vs : List V} {ds : List D} (r : RepL K ow Hc vs ds) (n : Nat) : ∀ (i : Nat) (x : Sl), (ds.map Sl.cl ++ List.replicate n Sl.un)[i]? = some x → SlR K ow Hc H x ((vs.map some ++ List.replicate n none)[i]?) := fun i x e => by
  have hl := r.length
  by_cases hi : i < ds.length
  · rw [List.getElem?_append_left (by simpa using hi), List.getElem?_map] at e
    rw [List.getElem?_append_left (by simpa [hl] using hi), List.getElem?_map]
    have h1 := List.getElem?_eq_getElem hi
    rw [h1] at e
    cases e
    obtain ⟨v, h2, h3⟩ := r.get h1
    rw [h2]
    exact ⟨v, rfl, h3⟩
  · rw [List.getElem?_append_right (by simpa using hi)] at e
    have := List.mem_of_getElem? e
    obtain ⟨_, rfl⟩ := List.mem_replicate.mp this
    trivial
theorem start_own {ds : List D} {n : Nat} {σ : L2.St} {i : Nat} {a : Addr} : ¬ OwnA (ds.map Sl.cl ++ List.replicate n Sl.un) σ i a := fun h => by
  obtain ⟨⟨d, h1⟩, _⟩ := h
  have key : ∀ x, (ds.map Sl.cl ++ List.replicate n Sl.un)[i]? = some x → (∃ d, x = .cl d) ∨ x = .un := fun x e => by
    rcases List.mem_append.mp (List.mem_of_getElem? e) with q | q
    · obtain ⟨d, _, rfl⟩ := List.mem_map.mp q
      exact .inl ⟨d, rfl⟩
    · exact .inr (List.mem_replicate.mp q).2
  rcases h1 with h1 | ⟨e, h1⟩
  · rcases key _ h1 with ⟨d, h⟩ | h <;> cases h
  · rcases key _ h1 with ⟨d, h⟩ | h <;> cases h
section
variable {P : Program} {w : World} {K : PySem.W.Frag} {mg : Str → Option Value} {base : Heap}
theorem fn_ok {dfs : List Df} (hb : ∀ n ∈ BN, mg (Str.ofString n) = none) (hF : ∀ d ∈ dfs, Fct K mg d.name d.st d.ps) (hS : dfs.all (okD (fnmOf dfs)) = true) :
    ∀ (k : Nat) (f : Nat) (d : Df), dfs[f]? = some d → ∀ (a : Addr) (fd : FuncData), mg d.name = some (.ref a) → Fun K d.name d.name d.st a fd → FnOk P w K mg base CX0 k a fd d.ps (spC K (cal (tabOf dfs) k) f d.ps.length)
  | 0, f, d, hd, a, fd, hm, F => ⟨fun vs H Q E h => h.1, fun A outer s H args us vs Q E _ _ _ _ h => by
      obtain ⟨_, ow, st, st', Hc, ds, dd, _, _, _, h, _⟩ := h
      cases h⟩
  | k + 1, f, d, hd, a, fd, hm, F => by
    have hmem : d ∈ dfs := List.mem_of_getElem? hd
    have hok := List.all_eq_true.mp hS d hmem
    unfold okD at hok
    simp only [Bool.and_eq_true, decide_eq_true_eq] at hok
    obtain ⟨⟨⟨⟨h1, h2⟩, h3⟩, h4⟩, h5⟩ := hok
    refine F.ok (scB_ok h1) (fun vs H Q E h => h.1) fun cdv A outer s H vs Q E hr h => ?_
    obtain ⟨hlen, ow, st, st', Hc, ds, dd, sub, wok, rl, hcal, res⟩ := h
    refine ⟨_, pss_sem, ?_⟩
    unfold cal at hcal
    have hT : (tabOf dfs)[f]? = some d.fn := by
      unfold tabOf
      rw [List.getElem?_map, hd]
      rfl
    rw [hT] at hcal
    have hlds : ds.length = d.fn.np := by rw [h2, ← rl.length, hlen]
    simp only [if_pos hlds] at hcal
    obtain ⟨fl, s1, e1, hcal⟩ := bnd_inv hcal
    have hn : d.fn.ns - d.fn.np = d.N.length - vs.length := by rw [h3, h2, hlen]
    rw [hn] at e1
    have G : Gs (cxOf CX0 P w K mg base d.N d.name (defScope d.st) a cdv A outer s H E).nox (cal (tabOf dfs) k) { N := d.N, sc := defScope d.st, fnb := fun _ => true, fnm := fnmOf dfs } := by
      refine ⟨⟨rfl, (scB_ok h1).nd, rfl, fun _ => rfl, rfl, ?_, hb, fun g x n hg => ?_⟩, PassesOwn.never, kind_of h1⟩
      · have := hr.un
        show (A.deeper _).units + 200 < cLine
        omega
      · unfold fnmOf at hg
        rw [List.getElem?_map] at hg
        cases hq : dfs[g]? with
        | none => rw [hq] at hg; cases hg
        | some d2 =>
          rw [hq] at hg
          cases hg
          obtain ⟨a2, fd2, m1, m2, m3⟩ := (hF d2 (List.mem_of_getElem? hq)).ex
          exact ⟨a2, fd2, d2.ps, k, m1, m2.kp, m3, hr, rfl, fn_ok hb hF hS k g d2 hq a2 fd2 m1 m2⟩
    refine sts_ok d.fn.body ow _ (cal (tabOf dfs) k) _ (defBody d.st) Hc H _ (start d.N vs) Hc H st fl s1 G h5 ⟨⟨sub, wok, ?_, ?_⟩, fun _ _ _ p => absurd p start_own, fun _ _ p => absurd p start_own, .refl sub, wok.there⟩ e1 _ ?_
    · unfold L2.start
      rw [List.length_append, List.length_append, List.length_map, List.length_map, List.length_replicate, List.length_replicate, rl.length]
    · exact start_at rl _
    · cases fl with
      | rt v =>
        cases hcal
        exact fun u Hc' H' p' w' r' => res u Hc' H' p' w' r'
      | nx σp =>
        cases hcal
        exact fun σ' Hc' H' R' => res .non Hc' H' R'.stp R'.e.w .non
      | bk σp => cases hcal
      | ct σp => cases hcal
/-! ### the law -/
theorem wat_new {a : V} : mergeK [] [((.inr (Str.ofString "draws") : L2.Key), a), (.inr (Str.ofString "at"), .int 0)] = [(.inr (Str.ofString "draws"), a), (.inr (Str.ofString "at"), .int 0)] := by
  show putK (putK ([] : List (L2.Key × V)) (Sum.inr (Str.ofString "draws")) a) (Sum.inr (Str.ofString "at")) (.int 0) = _
  have h1 : putK ([] : List (L2.Key × V)) (Sum.inr (Str.ofString "draws")) a = [(Sum.inr (Str.ofString "draws"), a)] := rfl
  rw [h1]
  unfold putK
  rw [if_neg]
  · rfl
  · simp only [List.any_cons, List.any_nil, Bool.or_false, decide_eq_true_eq]
    exact at_ne
/-- the law's promise -/
def spLaw (K : PySem.W.Frag) (n : Nat) : Sp := fun vs H Q _ => ∃ (a : Addr) (ns : List Int), vs = [.ref a] ∧ ns.length ≤ n ∧ SqL K H a (ns.map V.int) ∧ ∀ H', Q (.bl true) H'
/-- the law's first statement, and the rest -/
def lawHead (e : Tm) (c : Cc) : Stmt → Bool
  | .Assign [.Name x px] (.Dict [some (.Constant (.str k1) _ _), some (.Constant (.str k2) _ _)] [v, .Constant (.int z) _ _] _) _ => nmI c 1 x && decide (k1 = Str.ofString "draws") && decide (k2 = Str.ofString "at") && decide (z = 0) && chE e c v
  | _ => false
def okLaw (fnm : List (Str × Nat)) (N : List Str) (st : Stmt) (e : Tm) (body : List St) : Bool :=
  scB N ["script"] (defScope st) && decide (2 ≤ N.length) && (match defBody st with
    | s :: r => lawHead e { N := N, sc := defScope st, fnb := fun _ => true, fnm := fnm } s && chSs body { N := N, sc := defScope st, fnb := fun _ => true, fnm := fnm } r
    | [] => false)
/-- what the law answers -/
def lawRun (T : List Fn) (k n : Nat) (e : Tm) (body : List St) (ns : List Int) : M Fl :=
  execs (cal T k) (.w0 1 e :: body) ([.cl (F ns)] ++ List.replicate (n - 1) .un)
theorem law_ok {dfs : List Df} (hb : ∀ n ∈ BN, mg (Str.ofString n) = none) (hF : ∀ d ∈ dfs, Fct K mg d.name d.st d.ps) (hS : dfs.all (okD (fnmOf dfs)) = true) {k n : Nat} {N : List Str} {st : Stmt} {e : Tm} {body : List St} (hL : okLaw (fnmOf dfs) N st e body = true)
    (pure_ : ∀ ns : List Int, ns.length ≤ n → ∃ s, lawRun (tabOf dfs) k N.length e body ns none = some (.rt (.bool true), s)) {a : Addr} {fd : FuncData} (Fn : Fun K "law" "law" st a fd) : FnOk P w K mg base CX0 (k + 1) a fd ["script"] (spLaw K n) := by
  unfold okLaw at hL
  simp only [Bool.and_eq_true, decide_eq_true_eq] at hL
  obtain ⟨⟨h1, h2⟩, h3⟩ := hL
  refine Fn.ok (scB_ok h1) (fun vs H Q E h => ?_) fun cdv A outer s H vs Q E hr h => ?_
  · obtain ⟨a, ns, rfl, _⟩ := h
    rfl
  obtain ⟨ad, ns, rfl, hl, hq, res⟩ := h
  refine ⟨_, pss_sem, ?_⟩
  obtain ⟨s', hrun⟩ := pure_ ns hl
  unfold lawRun execs at hrun
  obtain ⟨f1, s1, e1, hrun⟩ := bnd_inv hrun
  unfold exec at e1
  obtain ⟨d, s2, e2, e1⟩ := bnd_inv e1
  split at h3
  case h_2 => cases h3
  rename_i sh sr hbody
  simp only [Bool.and_eq_true] at h3
  obtain ⟨h3, h4⟩ := h3
  rw [hbody]
  let X := (cxOf CX0 P w K mg base N "law" (defScope st) a cdv A outer s H E).nox
  have G : Gs X (cal (tabOf dfs) k) { N := N, sc := defScope st, fnb := fun _ => true, fnm := fnmOf dfs } := by
    refine ⟨⟨rfl, (scB_ok h1).nd, rfl, fun _ => rfl, rfl, ?_, hb, fun g x n hg => ?_⟩, PassesOwn.never, kind_of h1⟩
    · have := hr.un
      show (A.deeper _).units + 200 < cLine
      omega
    · unfold fnmOf at hg
      rw [List.getElem?_map] at hg
      cases hq : dfs[g]? with
      | none => rw [hq] at hg; cases hg
      | some d2 =>
        rw [hq] at hg
        cases hg
        obtain ⟨a2, fd2, m1, m2, m3⟩ := (hF d2 (List.mem_of_getElem? hq)).ex
        exact ⟨a2, fd2, d2.ps, k, m1, m2.kp, m3, hr, rfl, fn_ok hb hF hS k g d2 hq a2 fd2 m1 m2⟩
  -- the start
  have rl : RepL X.K none H [.ref ad] [F ns] := .cons (.scr hq) .nil
  have R0 : RelE X.K none ([F ns].map Sl.cl ++ List.replicate (N.length - 1) .un) (start N [.ref ad]) H H none := by
    refine ⟨.refl, trivial, ?_, ?_⟩
    · unfold L2.start
      rw [List.length_append, List.length_append, List.length_map, List.length_map, List.length_replicate, List.length_replicate]
      rfl
    · exact start_at rl _
  unfold lawHead at h3
  split at h3
  case h_2 => cases h3
  rename_i x px k1 _ _ k2 _ _ v z _ _ dp pos
  simp only [Bool.and_eq_true, decide_eq_true_eq] at h3
  obtain ⟨⟨⟨⟨h3, rfl⟩, rfl⟩, rfl⟩, h5⟩ := h3
  obtain ⟨n1, n2, n3⟩ := nmI_iff G.g h3
  refine evSs_of (pss_cons (ps_set G.g.nd n1 n2 (pe_disp (pps_cons pe_str pe_sem (pps_cons pe_str pe_int pps_nil)) rfl rfl (by simp) (Nat.le_of_lt_succ (by decide : 2 < 16))) rfl n3) pss_sem) ?_
  intro p hp
  have p0 : Stp none H H H (upd H p (.dK [])) := .open .refl hp
  refine (tm_ok e X _ _ v false _ (start N [.ref ad]) H (upd H p (.dK [])) none d s2 G.g h5 (R0.stp p0 trivial) e2).1 _ fun u Hc2 H2 p2 w2 r2 => ?_
  cases s2 with
  | some q => exact w2.elim
  | none =>
  have hd : ∃ xs, d = .list xs := by cases d <;> first | (cases e1; done) | exact ⟨_, rfl⟩
  obtain ⟨xs, rfl⟩ := hd
  have r2 : Rep X.K none Hc2 u (.list xs) := r2
  obtain ⟨ms, hi, e1⟩ : ∃ ms, intsD xs = some ms ∧ some (Fl.nx ((([F ns].map Sl.cl ++ List.replicate (N.length - 1) Sl.un)).set 1 (.cl W)), (some (ms, 0) : Ws)) = some (f1, s1) := by
    cases hi : intsD xs with
    | none => simp only [hi] at e1; cases e1
    | some ms =>
      simp only [hi] at e1
      exact ⟨ms, rfl, e1⟩
  cases e1
  cases r2 with
  | @lst al vs _ hal rv =>
    have hvs : vs = ms.map V.int := intsD_of rv hi
    subst hvs
    have hp2 : H2 p = some (.dK []) := p2.keep _ _ upd_same (fun z => nomatch z)
    have hpc : Hc2 p = none := p2.fresh _ hp (by rw [upd_same]; exact fun z => nomatch z)
    refine ⟨hp2, [(.inr (Str.ofString "draws"), .ref al), (.inr (Str.ofString "at"), .int 0)], rfl, by simp, ?_⟩
    rw [wat_new]
    have sub3 : Sm Hc2 (upd H2 p (.dK [(.inr (Str.ofString "draws"), .ref al), (.inr (Str.ofString "at"), .int 0)])) := fun b o q => by
      rw [upd_ne (fun z => by rw [z, hpc] at q; cases q)]
      exact p2.sub b o q
    refine sts_ok body (some p) X _ _ sr Hc2 (upd H2 p (.dK [(.inr (Str.ofString "draws"), .ref al), (.inr (Str.ofString "at"), .int 0)])) _ _ Hc2 _ (some (ms, 0)) _ _ G h4 ⟨⟨sub3, ⟨al, upd_same, hpc, hal⟩, ?_, fun i y q => ?_⟩, ?_, ?_, .refl sub3, ?_⟩ hrun _ ?_
    · rw [List.length_set, List.length_set]
      exact R0.len
    · by_cases hj : 1 = i
      · subst hj
        rw [List.getElem?_set_self (by simp; omega)] at q
        cases q
        refine ⟨.ref p, ?_, .st rfl⟩
        rw [List.getElem?_set_self]
        rw [← R0.len]
        simp
        omega
      · rw [List.getElem?_set_ne hj] at q
        rw [List.getElem?_set_ne hj]
        have old := R0.at_ i y q
        cases y with
        | un => trivial
        | cl d =>
          obtain ⟨v, q1, q2⟩ := old
          exact ⟨v, q1, (q2.mono p2.cl).own⟩
        | ol d =>
          exfalso
          obtain ⟨b, q1, q2⟩ := old
          exact start_own (ds := [F ns]) ⟨⟨d, .inl q⟩, q1⟩
        | od d =>
          exfalso
          obtain ⟨b, q1, q2⟩ := old
          exact start_own (ds := [F ns]) ⟨⟨[], .inr ⟨d, q⟩⟩, q1⟩
    · exact fun i j b h _ => absurd h.set (start_own (ds := [F ns]))
    · exact fun i b h => absurd h.set (start_own (ds := [F ns]))
    · exact fun b h => by cases h; rw [upd_same]; exact fun z => nomatch z
    · exact fun u Hc' H' p' w' r' => by
        cases r'
        exact res H'
end
end Q

set_option Elab.async false
set_option linter.all false
set_option maxRecDepth 100000
set_option maxHeartbeats 1000000
/-! L1t: what the top has written, as facts. -/
namespace Q
open PySem PySem.Spec PyProof.Rows L2
section
variable {K : PySem.W.Frag} {h : Heap} {mg : Str → Option Value}
/-- as Fct, the part known by what is in it -/
abbrev FctOf (_ : K.In h) (mg : Str → Option Value) (x : Str) (st : Stmt) (ps : List Str) : Prop := Fct K mg x st ps
theorem fct_mk (X : K.In h) (G : h.Ns mainGlobals mg) {x : Str} {st : Stmt} {ps : List Str} {f : Addr} {oc : Value} {od an : Option Addr} {osl : Array (Option Value)} {kV doc pm cdv ct : Value}
    (a : PySem.W.nsIn K mainGlobals x = some (some (.ref f))) (l : K.lookup f = some ⟨oc, od, .func (PySem.W.fnOf x x (defArgs st) (defBody st) (defScope st) .none kV doc pm an cdv ct), osl⟩)
    (c : PySem.W.codeIn K cdv x = true) (k : PySem.W.keepIn K (.ref f) = true)
    (hb : ∀ (kV doc pm : Value) (an : Option Addr) (cdv ct : Value) (us : List Value), us.length = ps.length → bindArgs (PySem.W.fnOf x x (defArgs st) (defBody st) (defScope st) .none kV doc pm an cdv ct) ⟨us, []⟩ = pure (ps.zip us)) : Fct K mg x st ps :=
  ⟨f, _, PySem.W.mg_of X G a, fun_mk l c k, (fun_mk l c k).binds hb⟩
theorem blt_mk (X : K.In h) (G : h.Ns mainGlobals mg) (z0 : PySem.W.nsIn K mainGlobals "len" = some none) (z1 : PySem.W.nsIn K mainGlobals "abs" = some none) (z2 : PySem.W.nsIn K mainGlobals "int" = some none) (z3 : PySem.W.nsIn K mainGlobals "sum" = some none)
    (z4 : PySem.W.nsIn K mainGlobals "all" = some none) (z5 : PySem.W.nsIn K mainGlobals "any" = some none) (z6 : PySem.W.nsIn K mainGlobals "tuple" = some none) (z7 : PySem.W.nsIn K mainGlobals "list" = some none) (z8 : PySem.W.nsIn K mainGlobals "sorted" = some none)
    (z9 : PySem.W.nsIn K mainGlobals "max" = some none) (z10 : PySem.W.nsIn K mainGlobals "min" = some none) (z11 : PySem.W.nsIn K mainGlobals "str" = some none) (z12 : PySem.W.nsIn K mainGlobals "isinstance" = some none) (z13 : PySem.W.nsIn K mainGlobals "range" = some none)
    (z14 : PySem.W.nsIn K mainGlobals "bool" = some none) (z15 : PySem.W.nsIn K mainGlobals "dict" = some none) (z16 : PySem.W.nsIn K mainGlobals "enumerate" = some none) (z17 : PySem.W.nsIn K mainGlobals "zip" = some none) (z18 : PySem.W.nsIn K mainGlobals "set" = some none) :
    ∀ n ∈ BN, mg (Str.ofString n) = none := by
  intro n hn
  simp only [BN, List.mem_cons, List.not_mem_nil, or_false] at hn
  rcases hn with rfl | rfl | rfl | rfl | rfl | rfl | rfl | rfl | rfl | rfl | rfl | rfl | rfl | rfl | rfl | rfl | rfl | rfl | rfl
  · exact PySem.W.mg_none_of X G z0
  · exact PySem.W.mg_none_of X G z1
  · exact PySem.W.mg_none_of X G z2
  · exact PySem.W.mg_none_of X G z3
  · exact PySem.W.mg_none_of X G z4
  · exact PySem.W.mg_none_of X G z5
  · exact PySem.W.mg_none_of X G z6
  · exact PySem.W.mg_none_of X G z7
  · exact PySem.W.mg_none_of X G z8
  · exact PySem.W.mg_none_of X G z9
  · exact PySem.W.mg_none_of X G z10
  · exact PySem.W.mg_none_of X G z11
  · exact PySem.W.mg_none_of X G z12
  · exact PySem.W.mg_none_of X G z13
  · exact PySem.W.mg_none_of X G z14
  · exact PySem.W.mg_none_of X G z15
  · exact PySem.W.mg_none_of X G z16
  · exact PySem.W.mg_none_of X G z17
  · exact PySem.W.mg_none_of X G z18
theorem law_mk {P : Program} {w : World} {fa : Addr} (X : K.In h) (G : h.Ns mainGlobals mg) (hfa : mg "law" = some (.ref fa)) {dfs : List Df} (hb : ∀ n ∈ BN, mg (Str.ofString n) = none) (hF : ∀ d ∈ dfs, Fct K mg d.name d.st d.ps)
    (hS : dfs.all (okD (fnmOf dfs)) = true) {k n : Nat} {N : List Str} {st : Stmt} {e : Tm} {body : List St} (hL : okLaw (fnmOf dfs) N st e body = true)
    (pure_ : ∀ ns : List Int, ns.length ≤ n → ∃ s, lawRun (tabOf dfs) k N.length e body ns none = some (.rt (.bool true), s))
    {f : Addr} {oc : Value} {od an : Option Addr} {osl : Array (Option Value)} {kV doc pm cdv ct : Value}
    (a : PySem.W.nsIn K mainGlobals "law" = some (some (.ref f))) (l : K.lookup f = some ⟨oc, od, .func (PySem.W.fnOf "law" "law" (defArgs st) (defBody st) (defScope st) .none kV doc pm an cdv ct), osl⟩)
    (c : PySem.W.codeIn K cdv "law" = true) (k' : PySem.W.keepIn K (.ref f) = true)
    (hbl : ∀ (kV doc pm : Value) (an : Option Addr) (cdv ct : Value) (us : List Value), us.length = 1 → bindArgs (PySem.W.fnOf "law" "law" (defArgs st) (defBody st) (defScope st) .none kV doc pm an cdv ct) ⟨us, []⟩ = pure ((["script"] : List Str).zip us)) :
    ∃ fd : FuncData, (∀ (s : Shared) (u : Value), BindsTo s fd ⟨[u], []⟩ [("script", u)]) ∧ ∀ base : Heap, K.In base → base.Ns mainGlobals mg → FnOk P w K mg base CX0 (k + 1) fa fd ["script"] (spLaw K n) := by
  have e := hfa.symm.trans (PySem.W.mg_of X G a)
  cases e
  exact ⟨_, fun s u => .of_eq (hbl kV doc pm an cdv ct [u] rfl), fun base _ _ => law_ok hb hF hS hL pure_ (fun_mk l c k')⟩
end
end Q

set_option linter.all false
set_option maxRecDepth 100000
set_option maxHeartbeats 0
namespace Q.K41
open PySem Q
def topS (j : Nat) : Stmt := PySem.Challenge.pw_captionwarrant_k41_where_someone_speaks.main.body.getD j (.Pass ⟨0, 0, 0, 0⟩)
def d_shown_at : Df := ⟨Str.ofString "shown_at", N_shown_at, [Str.ofString "captions", Str.ofString "moment"], topS 1, ⟨2, N_shown_at.length, b_shown_at⟩⟩
def d_divisor : Df := ⟨Str.ofString "divisor", N_divisor, [Str.ofString "a", Str.ofString "b"], topS 3, ⟨2, N_divisor.length, b_divisor⟩⟩
def d_fraction : Df := ⟨Str.ofString "fraction", N_fraction, [Str.ofString "a", Str.ofString "b"], topS 4, ⟨2, N_fraction.length, b_fraction⟩⟩
def d_runs_at : Df := ⟨Str.ofString "runs_at", N_runs_at, [Str.ofString "places"], topS 6, ⟨1, N_runs_at.length, b_runs_at⟩⟩
def d_loud_runs : Df := ⟨Str.ofString "loud_runs", N_loud_runs, [Str.ofString "row", Str.ofString "level"], topS 7, ⟨2, N_loud_runs.length, b_loud_runs⟩⟩
def d_joined_runs : Df := ⟨Str.ofString "joined_runs", N_joined_runs, [Str.ofString "runs", Str.ofString "gap"], topS 8, ⟨2, N_joined_runs.length, b_joined_runs⟩⟩
def d_long_runs : Df := ⟨Str.ofString "long_runs", N_long_runs, [Str.ofString "runs", Str.ofString "least"], topS 9, ⟨2, N_long_runs.length, b_long_runs⟩⟩
def d_speech_runs : Df := ⟨Str.ofString "speech_runs", N_speech_runs, [Str.ofString "row", Str.ofString "level", Str.ofString "gap", Str.ofString "least"], topS 10, ⟨4, N_speech_runs.length, b_speech_runs⟩⟩
def d_two_levels : Df := ⟨Str.ofString "two_levels", N_two_levels, [Str.ofString "row", Str.ofString "high", Str.ofString "low"], topS 11, ⟨3, N_two_levels.length, b_two_levels⟩⟩
def d_level_for : Df := ⟨Str.ofString "level_for", N_level_for, [Str.ofString "row", Str.ofString "share"], topS 12, ⟨2, N_level_for.length, b_level_for⟩⟩
def d_places_of : Df := ⟨Str.ofString "places_of", N_places_of, [Str.ofString "runs"], topS 13, ⟨1, N_places_of.length, b_places_of⟩⟩
def d_runs_off : Df := ⟨Str.ofString "runs_off", N_runs_off, [Str.ofString "one", Str.ofString "other"], topS 14, ⟨2, N_runs_off.length, b_runs_off⟩⟩
def d_best_level : Df := ⟨Str.ofString "best_level", N_best_level, [Str.ofString "row", Str.ofString "runs"], topS 15, ⟨2, N_best_level.length, b_best_level⟩⟩
def d_covered_runs : Df := ⟨Str.ofString "covered_runs", N_covered_runs, [Str.ofString "runs", Str.ofString "captions"], topS 16, ⟨2, N_covered_runs.length, b_covered_runs⟩⟩
def d_late_captions : Df := ⟨Str.ofString "late_captions", N_late_captions, [Str.ofString "runs", Str.ofString "captions", Str.ofString "most"], topS 17, ⟨3, N_late_captions.length, b_late_captions⟩⟩
def d_bare_runs : Df := ⟨Str.ofString "bare_runs", N_bare_runs, [Str.ofString "runs", Str.ofString "captions"], topS 18, ⟨2, N_bare_runs.length, b_bare_runs⟩⟩
def d_run_gaps : Df := ⟨Str.ofString "run_gaps", N_run_gaps, [Str.ofString "runs", Str.ofString "end"], topS 19, ⟨2, N_run_gaps.length, b_run_gaps⟩⟩
def d_busiest : Df := ⟨Str.ofString "busiest", N_busiest, [Str.ofString "runs", Str.ofString "wide"], topS 20, ⟨2, N_busiest.length, b_busiest⟩⟩
def d__law_draws : Df := ⟨Str.ofString "_law_draws", N__law_draws, [Str.ofString "script", Str.ofString "many"], topS 22, ⟨2, N__law_draws.length, b__law_draws⟩⟩
def d__law_next : Df := ⟨Str.ofString "_law_next", N__law_next, [Str.ofString "w", Str.ofString "many"], topS 23, ⟨2, N__law_next.length, b__law_next⟩⟩
def d__law_pick : Df := ⟨Str.ofString "_law_pick", N__law_pick, [Str.ofString "w", Str.ofString "rows"], topS 24, ⟨2, N__law_pick.length, b__law_pick⟩⟩
def d__law_same : Df := ⟨Str.ofString "_law_same", N__law_same, [Str.ofString "seen", Str.ofString "due"], topS 26, ⟨2, N__law_same.length, b__law_same⟩⟩
def d__law_fraction : Df := ⟨Str.ofString "_law_fraction", N__law_fraction, [Str.ofString "a", Str.ofString "b"], topS 27, ⟨2, N__law_fraction.length, b__law_fraction⟩⟩
def d__law_captions : Df := ⟨Str.ofString "_law_captions", N__law_captions, [Str.ofString "w", Str.ofString "most"], topS 34, ⟨2, N__law_captions.length, b__law_captions⟩⟩
def d__law_runs : Df := ⟨Str.ofString "_law_runs", N__law_runs, [Str.ofString "places"], topS 36, ⟨1, N__law_runs.length, b__law_runs⟩⟩
def d__law_joined : Df := ⟨Str.ofString "_law_joined", N__law_joined, [Str.ofString "runs", Str.ofString "gap"], topS 37, ⟨2, N__law_joined.length, b__law_joined⟩⟩
def d__law_places : Df := ⟨Str.ofString "_law_places", N__law_places, [Str.ofString "runs"], topS 38, ⟨1, N__law_places.length, b__law_places⟩⟩
def d__law_off : Df := ⟨Str.ofString "_law_off", N__law_off, [Str.ofString "one", Str.ofString "other"], topS 39, ⟨2, N__law_off.length, b__law_off⟩⟩
def dfs : List Df := [d_shown_at, d_divisor, d_fraction, d_runs_at, d_loud_runs, d_joined_runs, d_long_runs, d_speech_runs, d_two_levels, d_level_for, d_places_of, d_runs_off, d_best_level, d_covered_runs, d_late_captions, d_bare_runs, d_run_gaps, d_busiest, d__law_draws, d__law_next, d__law_pick, d__law_same, d__law_fraction, d__law_captions, d__law_runs, d__law_joined, d__law_places, d__law_off]
def sLaw : Stmt := topS 40
theorem dfs_ok : dfs.all (okD (fnmOf dfs)) = true := by decide +kernel
theorem law_text : okLaw (fnmOf dfs) N_law sLaw e_law0 b_law0 = true := by decide +kernel
end Q.K41

set_option Elab.async false
set_option linter.all false
set_option maxRecDepth 100000
/-! K41P1: runs, places. -/
namespace Q.K41
open PySem Q
abbrev T := tabOf dfs
theorem t_next : T[f__law_next]? = some ⟨2, 2, hb_next⟩ := rfl
theorem t_pick : T[f__law_pick]? = some ⟨2, 2, hb_pick f__law_next⟩ := rfl
theorem t_same : T[f__law_same]? = some ⟨2, 3, hb_same f__law_same⟩ := rfl
theorem t_draws : T[f__law_draws]? = some ⟨2, 8, hb_draws⟩ := rfl
theorem t_div : T[f_divisor]? = some ⟨2, 2, hb_divisor⟩ := rfl
theorem t_frac : T[f_fraction]? = some ⟨2, 3, hb_fraction f_divisor⟩ := rfl
theorem t_lfrac : T[f__law_fraction]? = some ⟨2, 4, hb_lfraction⟩ := rfl
theorem t_caps : T[f__law_captions]? = some ⟨2, 9, hb_captions f__law_next f__law_pick⟩ := rfl
/-! ### stretches of places -/
abbrev Pr := Int × Int
def stepR (fs : List Pr) (k : Int) : List Pr := match fs.getLast? with
  | some p => if p.2 = k then fs.dropLast ++ [(p.1, k + 1)] else fs ++ [(k, k + 1)]
  | none => [(k, k + 1)]
def runsI (ps : List Int) : List Pr := ps.foldl stepR []
theorem snoc_or {α : Type} (l : List α) : l = [] ∨ ∃ i x, l = i ++ [x] := by
  rcases List.eq_nil_or_concat l with h | ⟨i, x, h⟩
  · exact .inl h
  · exact .inr ⟨i, x, by rw [h, List.concat_eq_append]⟩
theorem stepR_nil {k : Int} : stepR [] k = [(k, k + 1)] := rfl
theorem stepR_snoc {i : List Pr} {p : Pr} {k : Int} : stepR (i ++ [p]) k = if p.2 = k then i ++ [(p.1, k + 1)] else i ++ [p] ++ [(k, k + 1)] := by
  unfold stepR
  rw [List.getLast?_concat]
  simp
theorem stepR_len {l : List Pr} {k : Int} : (stepR l k).length ≤ l.length + 1 := by
  rcases snoc_or l with rfl | ⟨i, p, rfl⟩
  · simp [stepR_nil]
  · rw [stepR_snoc]
    split <;> simp
theorem runsI_snoc {ps : List Int} {k : Int} : runsI (ps ++ [k]) = stepR (runsI ps) k := by
  unfold runsI
  rw [List.foldl_append]
  rfl
theorem runsI_len (ps : List Int) : (runsI ps).length ≤ ps.length := by
  unfold runsI
  have key : ∀ (ps : List Int) (l : List Pr), (ps.foldl stepR l).length ≤ l.length + ps.length := fun ps => by
    induction ps with
    | nil => intro l; simp
    | cons x ps ih =>
      intro l
      have h1 := ih (stepR l x)
      have h2 := stepR_len (l := l) (k := x)
      rw [List.foldl_cons, List.length_cons]
      omega
  simpa using key ps []
section
variable {C : Nat → List D → M D} {k : Nat}
theorem ne_snoc {i : List Pr} {p : Pr} : cmpD .ne (.list (i.map encP ++ [.tuple [.int p.1, .int p.2]])) (.list []) = some (.bool true) := by
  have := ne_Ps (l := i ++ [p])
  rw [List.map_append] at this
  refine Eq.trans this ?_
  simp
theorem getP {p : Pr} : encP p = .tuple [.int p.1, .int p.2] := rfl
theorem step_runs {s0 : Sl} {l : List Pr} {x : Int} (hl : l.length ≤ 1000) : execs C b_runs_at_1 [s0, .ol (l.map encP), .cl (.int x)] = ret (.nx [s0, .ol ((stepR l x).map encP), .cl (.int x)]) := by
  unfold b_runs_at_1
  rcases snoc_or l with rfl | ⟨i, p, rfl⟩
  · try simp -dsimp -implicitDefEqProofs (disch := first | omega | (simp; omega)) only [ev_var, ev_cst, ev_tup, ev_lst, ev_bin, ev_neg, ev_not, ev_and, ev_or, ev_cmp, ev_isN, ev_notN, ev_chn, ev_ite, ev_idx, ev_slc, ev_call, ev_bl, ev_mt, ev_isi, ev_lc, evI_it, evI_rg1, evI_rg2, evI_enum, exec_asg, exec_own, exec_par, exec_aug, exec_app, exec_ext, exec_ins, exec_put, exec_aput, exec_ifs, exec_for_, exec_whl, exec_ret, exec_retn, exec_brk, exec_cnt, exec_pass, exec_close, evs_nil, evs_cons, evo_none, evo_some, evc_none, evc_some, execs_nil, execs_cons, nxt_nx, nxt_rt, nxt_bk, nxt_ct, List.length_cons, List.length_nil, List.map_cons, List.map_nil, bnd_r, lift_ret, Env.read, Env.keep, Sl.read, Sl.keep, List.cons_append, List.nil_append, List.getElem?_cons_zero, List.getElem?_cons_succ, List.set_cons_zero, List.set_cons_succ, bindT, bindTs, closeS, ownS, keepP, if_true, if_false, ↓reduceIte, Bool.false_eq_true, Nat.reduceAdd, Nat.reduceSub, List.replicate_succ, List.replicate_zero, boolD_b, intD_i, isN_none, isN_int, isN_bool, isN_str, isN_tup, isN_lst, Bool.not_true, Bool.not_false, augD, add_int, sub_int, mul_int, fdiv_int, mod_int, mul_str, add_str, add_tup, add_lst, mul_lst, eq_int, ne_int, lt_int, gt_int, le_int, ge_int, eq_str, ne_str, len_str, len_lst, len_tup, abs_int, int_int, int_bool, min2_int, max2_int, tuple_lst, tuple_tup, list_lst, list_tup, slc_str, slc_lst, slc_tup, repS_one, repL_one, idx_t0, idx_t1, idx_t2, idx_l0, rg1_if, rg2_if, eq_self_str, eqv_bool, eq_nil, wipeE, isiD, lcS_v, forS_v, forS_t, lcS_t, app_if, ext_if, en_str, en_lst, items_str, items_lst, items_tup, Int.toNat_natCast, ev_lc2, lcS2_v, lcS2_t, tgV, tgVs, ev_rev, ev_itl, evI_rg3, rg3_if, List.append_nil, hideE, hideS, stepR_nil, show cmpD .ne (.list []) (.list []) = some (.bool false) from rfl, getP]
  · rw [stepR_snoc]
    have ne : cmpD .ne (.list (i.map encP ++ [.tuple [.int p.1, .int p.2]])) (.list []) = some (.bool true) := ne_snoc
    have l1 : (i.map encP).length = i.length := List.length_map _
    have l2 : i.length < 1000 := by simp at hl; omega
    by_cases h : p.2 = x
    · subst h
      try simp -dsimp -implicitDefEqProofs (disch := first | omega | (simp; omega)) only [ev_var, ev_cst, ev_tup, ev_lst, ev_bin, ev_neg, ev_not, ev_and, ev_or, ev_cmp, ev_isN, ev_notN, ev_chn, ev_ite, ev_idx, ev_slc, ev_call, ev_bl, ev_mt, ev_isi, ev_lc, evI_it, evI_rg1, evI_rg2, evI_enum, exec_asg, exec_own, exec_par, exec_aug, exec_app, exec_ext, exec_ins, exec_put, exec_aput, exec_ifs, exec_for_, exec_whl, exec_ret, exec_retn, exec_brk, exec_cnt, exec_pass, exec_close, evs_nil, evs_cons, evo_none, evo_some, evc_none, evc_some, execs_nil, execs_cons, nxt_nx, nxt_rt, nxt_bk, nxt_ct, List.length_cons, List.length_nil, List.map_cons, List.map_nil, bnd_r, lift_ret, Env.read, Env.keep, Sl.read, Sl.keep, List.cons_append, List.nil_append, List.getElem?_cons_zero, List.getElem?_cons_succ, List.set_cons_zero, List.set_cons_succ, bindT, bindTs, closeS, ownS, keepP, if_true, if_false, ↓reduceIte, Bool.false_eq_true, Nat.reduceAdd, Nat.reduceSub, List.replicate_succ, List.replicate_zero, boolD_b, intD_i, isN_none, isN_int, isN_bool, isN_str, isN_tup, isN_lst, Bool.not_true, Bool.not_false, augD, add_int, sub_int, mul_int, fdiv_int, mod_int, mul_str, add_str, add_tup, add_lst, mul_lst, eq_int, ne_int, lt_int, gt_int, le_int, ge_int, eq_str, ne_str, len_str, len_lst, len_tup, abs_int, int_int, int_bool, min2_int, max2_int, tuple_lst, tuple_tup, list_lst, list_tup, slc_str, slc_lst, slc_tup, repS_one, repL_one, idx_t0, idx_t1, idx_t2, idx_l0, rg1_if, rg2_if, eq_self_str, eqv_bool, eq_nil, wipeE, isiD, lcS_v, forS_v, forS_t, lcS_t, app_if, ext_if, en_str, en_lst, items_str, items_lst, items_tup, Int.toNat_natCast, ev_lc2, lcS2_v, lcS2_t, tgV, tgVs, ev_rev, ev_itl, evI_rg3, rg3_if, List.append_nil, hideE, hideS, List.map_append, ne, idx_neg1, getP, decide_true, List.length_append, l1]
      rw [if_neg (by omega), if_pos (by omega), show (((i.length + 1 : Nat) : Int) + -1).toNat = (i.map encP).length by rw [l1]; omega, set_last]
      rfl
    · try simp -dsimp -implicitDefEqProofs (disch := first | omega | (simp; omega)) only [ev_var, ev_cst, ev_tup, ev_lst, ev_bin, ev_neg, ev_not, ev_and, ev_or, ev_cmp, ev_isN, ev_notN, ev_chn, ev_ite, ev_idx, ev_slc, ev_call, ev_bl, ev_mt, ev_isi, ev_lc, evI_it, evI_rg1, evI_rg2, evI_enum, exec_asg, exec_own, exec_par, exec_aug, exec_app, exec_ext, exec_ins, exec_put, exec_aput, exec_ifs, exec_for_, exec_whl, exec_ret, exec_retn, exec_brk, exec_cnt, exec_pass, exec_close, evs_nil, evs_cons, evo_none, evo_some, evc_none, evc_some, execs_nil, execs_cons, nxt_nx, nxt_rt, nxt_bk, nxt_ct, List.length_cons, List.length_nil, List.map_cons, List.map_nil, bnd_r, lift_ret, Env.read, Env.keep, Sl.read, Sl.keep, List.cons_append, List.nil_append, List.getElem?_cons_zero, List.getElem?_cons_succ, List.set_cons_zero, List.set_cons_succ, bindT, bindTs, closeS, ownS, keepP, if_true, if_false, ↓reduceIte, Bool.false_eq_true, Nat.reduceAdd, Nat.reduceSub, List.replicate_succ, List.replicate_zero, boolD_b, intD_i, isN_none, isN_int, isN_bool, isN_str, isN_tup, isN_lst, Bool.not_true, Bool.not_false, augD, add_int, sub_int, mul_int, fdiv_int, mod_int, mul_str, add_str, add_tup, add_lst, mul_lst, eq_int, ne_int, lt_int, gt_int, le_int, ge_int, eq_str, ne_str, len_str, len_lst, len_tup, abs_int, int_int, int_bool, min2_int, max2_int, tuple_lst, tuple_tup, list_lst, list_tup, slc_str, slc_lst, slc_tup, repS_one, repL_one, idx_t0, idx_t1, idx_t2, idx_l0, rg1_if, rg2_if, eq_self_str, eqv_bool, eq_nil, wipeE, isiD, lcS_v, forS_v, forS_t, lcS_t, app_if, ext_if, en_str, en_lst, items_str, items_lst, items_tup, Int.toNat_natCast, ev_lc2, lcS2_v, lcS2_t, tgV, tgVs, ev_rev, ev_itl, evI_rg3, rg3_if, List.append_nil, hideE, hideS, List.map_append, ne, idx_neg1, getP, h, decide_false, List.length_append, l1]
theorem runs_at_eq {ps : List Int} (hl : ps.length ≤ 100) {d : D} (hd : d = .list (ps.map .int) ∨ d = .tuple (ps.map .int)) : cal T (k + 1) f_runs_at [d] = ret (.tuple ((runsI ps).map encP)) := by
  rw [cal_at (show T[f_runs_at]? = some ⟨1, 3, b_runs_at⟩ from rfl)]
  unfold runF b_runs_at
  have hi : itemsD d = some (ps.map .int) := by rcases hd with rfl | rfl <;> rfl
  try simp -dsimp -implicitDefEqProofs (disch := first | omega | (simp; omega)) only [ev_var, ev_cst, ev_tup, ev_lst, ev_bin, ev_neg, ev_not, ev_and, ev_or, ev_cmp, ev_isN, ev_notN, ev_chn, ev_ite, ev_idx, ev_slc, ev_call, ev_bl, ev_mt, ev_isi, ev_lc, evI_it, evI_rg1, evI_rg2, evI_enum, exec_asg, exec_own, exec_par, exec_aug, exec_app, exec_ext, exec_ins, exec_put, exec_aput, exec_ifs, exec_for_, exec_whl, exec_ret, exec_retn, exec_brk, exec_cnt, exec_pass, exec_close, evs_nil, evs_cons, evo_none, evo_some, evc_none, evc_some, execs_nil, execs_cons, nxt_nx, nxt_rt, nxt_bk, nxt_ct, List.length_cons, List.length_nil, List.map_cons, List.map_nil, bnd_r, lift_ret, Env.read, Env.keep, Sl.read, Sl.keep, List.cons_append, List.nil_append, List.getElem?_cons_zero, List.getElem?_cons_succ, List.set_cons_zero, List.set_cons_succ, bindT, bindTs, closeS, ownS, keepP, if_true, if_false, ↓reduceIte, Bool.false_eq_true, Nat.reduceAdd, Nat.reduceSub, List.replicate_succ, List.replicate_zero, boolD_b, intD_i, isN_none, isN_int, isN_bool, isN_str, isN_tup, isN_lst, Bool.not_true, Bool.not_false, augD, add_int, sub_int, mul_int, fdiv_int, mod_int, mul_str, add_str, add_tup, add_lst, mul_lst, eq_int, ne_int, lt_int, gt_int, le_int, ge_int, eq_str, ne_str, len_str, len_lst, len_tup, abs_int, int_int, int_bool, min2_int, max2_int, tuple_lst, tuple_tup, list_lst, list_tup, slc_str, slc_lst, slc_tup, repS_one, repL_one, idx_t0, idx_t1, idx_t2, idx_l0, rg1_if, rg2_if, eq_self_str, eqv_bool, eq_nil, wipeE, isiD, lcS_v, forS_v, forS_t, lcS_t, app_if, ext_if, en_str, en_lst, items_str, items_lst, items_tup, Int.toNat_natCast, ev_lc2, lcS2_v, lcS2_t, tgV, tgVs, ev_rev, ev_itl, evI_rg3, rg3_if, List.append_nil, hideE, hideS, hi]
  obtain ⟨σ', h1, s2, rfl, _⟩ := forL_nx (step := forS (cal T k) (.v 2) b_runs_at_1) (fun j σ => ∃ s2, σ = [.cl d, .ol ((runsI (ps.take j)).map encP), s2] ∧ j ≤ ps.length)
    (ds := ps.map .int) (σ := [.cl d, .ol [], .un]) ⟨_, rfl, by omega⟩ fun j e σ hj hI => by
      obtain ⟨s2, rfl, hj2⟩ := hI
      rw [List.getElem?_map] at hj
      obtain ⟨x, e1, rfl⟩ := Option.map_eq_some_iff.mp hj
      have e2 : ps.take (j + 1) = ps.take j ++ [x] := by rw [List.take_succ, e1]; rfl
      have hjl := (List.getElem?_eq_some_iff.mp e1).1
      have hr := runsI_len (ps.take j)
      rw [List.length_take] at hr
      refine ⟨[.cl d, .ol ((runsI (ps.take (j + 1))).map encP), .cl (.int x)], .inl ?_, _, rfl, by omega⟩
      rw [forS_v, e2, runsI_snoc]
      exact step_runs (by omega)
  rw [h1, List.length_map, List.take_length]
  try simp -dsimp -implicitDefEqProofs (disch := first | omega | (simp; omega)) only [ev_var, ev_cst, ev_tup, ev_lst, ev_bin, ev_neg, ev_not, ev_and, ev_or, ev_cmp, ev_isN, ev_notN, ev_chn, ev_ite, ev_idx, ev_slc, ev_call, ev_bl, ev_mt, ev_isi, ev_lc, evI_it, evI_rg1, evI_rg2, evI_enum, exec_asg, exec_own, exec_par, exec_aug, exec_app, exec_ext, exec_ins, exec_put, exec_aput, exec_ifs, exec_for_, exec_whl, exec_ret, exec_retn, exec_brk, exec_cnt, exec_pass, exec_close, evs_nil, evs_cons, evo_none, evo_some, evc_none, evc_some, execs_nil, execs_cons, nxt_nx, nxt_rt, nxt_bk, nxt_ct, List.length_cons, List.length_nil, List.map_cons, List.map_nil, bnd_r, lift_ret, Env.read, Env.keep, Sl.read, Sl.keep, List.cons_append, List.nil_append, List.getElem?_cons_zero, List.getElem?_cons_succ, List.set_cons_zero, List.set_cons_succ, bindT, bindTs, closeS, ownS, keepP, if_true, if_false, ↓reduceIte, Bool.false_eq_true, Nat.reduceAdd, Nat.reduceSub, List.replicate_succ, List.replicate_zero, boolD_b, intD_i, isN_none, isN_int, isN_bool, isN_str, isN_tup, isN_lst, Bool.not_true, Bool.not_false, augD, add_int, sub_int, mul_int, fdiv_int, mod_int, mul_str, add_str, add_tup, add_lst, mul_lst, eq_int, ne_int, lt_int, gt_int, le_int, ge_int, eq_str, ne_str, len_str, len_lst, len_tup, abs_int, int_int, int_bool, min2_int, max2_int, tuple_lst, tuple_tup, list_lst, list_tup, slc_str, slc_lst, slc_tup, repS_one, repL_one, idx_t0, idx_t1, idx_t2, idx_l0, rg1_if, rg2_if, eq_self_str, eqv_bool, eq_nil, wipeE, isiD, lcS_v, forS_v, forS_t, lcS_t, app_if, ext_if, en_str, en_lst, items_str, items_lst, items_tup, Int.toNat_natCast, ev_lc2, lcS2_v, lcS2_t, tgV, tgVs, ev_rev, ev_itl, evI_rg3, rg3_if, List.append_nil, hideE, hideS]
theorem lstep_runs {s0 : Sl} {l : List Pr} {x : Int} (hl : l.length ≤ 1000) : execs C b__law_runs_1 [s0, .ol (l.map encP), .cl (.int x)] = ret (.nx [s0, .ol ((stepR l x).map encP), .cl (.int x)]) := by
  unfold b__law_runs_1
  rcases snoc_or l with rfl | ⟨i, p, rfl⟩
  · try simp -dsimp -implicitDefEqProofs (disch := first | omega | (simp; omega)) only [ev_var, ev_cst, ev_tup, ev_lst, ev_bin, ev_neg, ev_not, ev_and, ev_or, ev_cmp, ev_isN, ev_notN, ev_chn, ev_ite, ev_idx, ev_slc, ev_call, ev_bl, ev_mt, ev_isi, ev_lc, evI_it, evI_rg1, evI_rg2, evI_enum, exec_asg, exec_own, exec_par, exec_aug, exec_app, exec_ext, exec_ins, exec_put, exec_aput, exec_ifs, exec_for_, exec_whl, exec_ret, exec_retn, exec_brk, exec_cnt, exec_pass, exec_close, evs_nil, evs_cons, evo_none, evo_some, evc_none, evc_some, execs_nil, execs_cons, nxt_nx, nxt_rt, nxt_bk, nxt_ct, List.length_cons, List.length_nil, List.map_cons, List.map_nil, bnd_r, lift_ret, Env.read, Env.keep, Sl.read, Sl.keep, List.cons_append, List.nil_append, List.getElem?_cons_zero, List.getElem?_cons_succ, List.set_cons_zero, List.set_cons_succ, bindT, bindTs, closeS, ownS, keepP, if_true, if_false, ↓reduceIte, Bool.false_eq_true, Nat.reduceAdd, Nat.reduceSub, List.replicate_succ, List.replicate_zero, boolD_b, intD_i, isN_none, isN_int, isN_bool, isN_str, isN_tup, isN_lst, Bool.not_true, Bool.not_false, augD, add_int, sub_int, mul_int, fdiv_int, mod_int, mul_str, add_str, add_tup, add_lst, mul_lst, eq_int, ne_int, lt_int, gt_int, le_int, ge_int, eq_str, ne_str, len_str, len_lst, len_tup, abs_int, int_int, int_bool, min2_int, max2_int, tuple_lst, tuple_tup, list_lst, list_tup, slc_str, slc_lst, slc_tup, repS_one, repL_one, idx_t0, idx_t1, idx_t2, idx_l0, rg1_if, rg2_if, eq_self_str, eqv_bool, eq_nil, wipeE, isiD, lcS_v, forS_v, forS_t, lcS_t, app_if, ext_if, en_str, en_lst, items_str, items_lst, items_tup, Int.toNat_natCast, ev_lc2, lcS2_v, lcS2_t, tgV, tgVs, ev_rev, ev_itl, evI_rg3, rg3_if, List.append_nil, hideE, hideS, stepR_nil, show cmpD .ne (.list []) (.list []) = some (.bool false) from rfl, getP]
  · rw [stepR_snoc]
    have ne : cmpD .ne (.list (i.map encP ++ [.tuple [.int p.1, .int p.2]])) (.list []) = some (.bool true) := ne_snoc
    have l1 : (i.map encP).length = i.length := List.length_map _
    have l2 : i.length < 1000 := by simp at hl; omega
    have l3 : ((i.length + 1 : Nat) : Int) - 1 = (i.map encP).length := by rw [l1]; omega
    by_cases h : p.2 = x
    · subst h
      try simp -dsimp -implicitDefEqProofs (disch := first | omega | (simp; omega)) only [ev_var, ev_cst, ev_tup, ev_lst, ev_bin, ev_neg, ev_not, ev_and, ev_or, ev_cmp, ev_isN, ev_notN, ev_chn, ev_ite, ev_idx, ev_slc, ev_call, ev_bl, ev_mt, ev_isi, ev_lc, evI_it, evI_rg1, evI_rg2, evI_enum, exec_asg, exec_own, exec_par, exec_aug, exec_app, exec_ext, exec_ins, exec_put, exec_aput, exec_ifs, exec_for_, exec_whl, exec_ret, exec_retn, exec_brk, exec_cnt, exec_pass, exec_close, evs_nil, evs_cons, evo_none, evo_some, evc_none, evc_some, execs_nil, execs_cons, nxt_nx, nxt_rt, nxt_bk, nxt_ct, List.length_cons, List.length_nil, List.map_cons, List.map_nil, bnd_r, lift_ret, Env.read, Env.keep, Sl.read, Sl.keep, List.cons_append, List.nil_append, List.getElem?_cons_zero, List.getElem?_cons_succ, List.set_cons_zero, List.set_cons_succ, bindT, bindTs, closeS, ownS, keepP, if_true, if_false, ↓reduceIte, Bool.false_eq_true, Nat.reduceAdd, Nat.reduceSub, List.replicate_succ, List.replicate_zero, boolD_b, intD_i, isN_none, isN_int, isN_bool, isN_str, isN_tup, isN_lst, Bool.not_true, Bool.not_false, augD, add_int, sub_int, mul_int, fdiv_int, mod_int, mul_str, add_str, add_tup, add_lst, mul_lst, eq_int, ne_int, lt_int, gt_int, le_int, ge_int, eq_str, ne_str, len_str, len_lst, len_tup, abs_int, int_int, int_bool, min2_int, max2_int, tuple_lst, tuple_tup, list_lst, list_tup, slc_str, slc_lst, slc_tup, repS_one, repL_one, idx_t0, idx_t1, idx_t2, idx_l0, rg1_if, rg2_if, eq_self_str, eqv_bool, eq_nil, wipeE, isiD, lcS_v, forS_v, forS_t, lcS_t, app_if, ext_if, en_str, en_lst, items_str, items_lst, items_tup, Int.toNat_natCast, ev_lc2, lcS2_v, lcS2_t, tgV, tgVs, ev_rev, ev_itl, evI_rg3, rg3_if, List.append_nil, hideE, hideS, List.map_append, ne, idx_lastL l3, getP, decide_true, List.length_append, l1]
      rw [if_pos (by omega), show (((i.length + 1 : Nat) : Int) - 1).toNat = (i.map encP).length by rw [l1]; omega, set_last]
      rfl
    · try simp -dsimp -implicitDefEqProofs (disch := first | omega | (simp; omega)) only [ev_var, ev_cst, ev_tup, ev_lst, ev_bin, ev_neg, ev_not, ev_and, ev_or, ev_cmp, ev_isN, ev_notN, ev_chn, ev_ite, ev_idx, ev_slc, ev_call, ev_bl, ev_mt, ev_isi, ev_lc, evI_it, evI_rg1, evI_rg2, evI_enum, exec_asg, exec_own, exec_par, exec_aug, exec_app, exec_ext, exec_ins, exec_put, exec_aput, exec_ifs, exec_for_, exec_whl, exec_ret, exec_retn, exec_brk, exec_cnt, exec_pass, exec_close, evs_nil, evs_cons, evo_none, evo_some, evc_none, evc_some, execs_nil, execs_cons, nxt_nx, nxt_rt, nxt_bk, nxt_ct, List.length_cons, List.length_nil, List.map_cons, List.map_nil, bnd_r, lift_ret, Env.read, Env.keep, Sl.read, Sl.keep, List.cons_append, List.nil_append, List.getElem?_cons_zero, List.getElem?_cons_succ, List.set_cons_zero, List.set_cons_succ, bindT, bindTs, closeS, ownS, keepP, if_true, if_false, ↓reduceIte, Bool.false_eq_true, Nat.reduceAdd, Nat.reduceSub, List.replicate_succ, List.replicate_zero, boolD_b, intD_i, isN_none, isN_int, isN_bool, isN_str, isN_tup, isN_lst, Bool.not_true, Bool.not_false, augD, add_int, sub_int, mul_int, fdiv_int, mod_int, mul_str, add_str, add_tup, add_lst, mul_lst, eq_int, ne_int, lt_int, gt_int, le_int, ge_int, eq_str, ne_str, len_str, len_lst, len_tup, abs_int, int_int, int_bool, min2_int, max2_int, tuple_lst, tuple_tup, list_lst, list_tup, slc_str, slc_lst, slc_tup, repS_one, repL_one, idx_t0, idx_t1, idx_t2, idx_l0, rg1_if, rg2_if, eq_self_str, eqv_bool, eq_nil, wipeE, isiD, lcS_v, forS_v, forS_t, lcS_t, app_if, ext_if, en_str, en_lst, items_str, items_lst, items_tup, Int.toNat_natCast, ev_lc2, lcS2_v, lcS2_t, tgV, tgVs, ev_rev, ev_itl, evI_rg3, rg3_if, List.append_nil, hideE, hideS, List.map_append, ne, idx_lastL l3, getP, h, decide_false, List.length_append, l1]
theorem lruns_eq {ps : List Int} (hl : ps.length ≤ 100) : cal T (k + 1) f__law_runs [.list (ps.map .int)] = ret (.list ((runsI ps).map encP)) := by
  rw [cal_at (show T[f__law_runs]? = some ⟨1, 3, b__law_runs⟩ from rfl)]
  unfold runF b__law_runs
  try simp -dsimp -implicitDefEqProofs (disch := first | omega | (simp; omega)) only [ev_var, ev_cst, ev_tup, ev_lst, ev_bin, ev_neg, ev_not, ev_and, ev_or, ev_cmp, ev_isN, ev_notN, ev_chn, ev_ite, ev_idx, ev_slc, ev_call, ev_bl, ev_mt, ev_isi, ev_lc, evI_it, evI_rg1, evI_rg2, evI_enum, exec_asg, exec_own, exec_par, exec_aug, exec_app, exec_ext, exec_ins, exec_put, exec_aput, exec_ifs, exec_for_, exec_whl, exec_ret, exec_retn, exec_brk, exec_cnt, exec_pass, exec_close, evs_nil, evs_cons, evo_none, evo_some, evc_none, evc_some, execs_nil, execs_cons, nxt_nx, nxt_rt, nxt_bk, nxt_ct, List.length_cons, List.length_nil, List.map_cons, List.map_nil, bnd_r, lift_ret, Env.read, Env.keep, Sl.read, Sl.keep, List.cons_append, List.nil_append, List.getElem?_cons_zero, List.getElem?_cons_succ, List.set_cons_zero, List.set_cons_succ, bindT, bindTs, closeS, ownS, keepP, if_true, if_false, ↓reduceIte, Bool.false_eq_true, Nat.reduceAdd, Nat.reduceSub, List.replicate_succ, List.replicate_zero, boolD_b, intD_i, isN_none, isN_int, isN_bool, isN_str, isN_tup, isN_lst, Bool.not_true, Bool.not_false, augD, add_int, sub_int, mul_int, fdiv_int, mod_int, mul_str, add_str, add_tup, add_lst, mul_lst, eq_int, ne_int, lt_int, gt_int, le_int, ge_int, eq_str, ne_str, len_str, len_lst, len_tup, abs_int, int_int, int_bool, min2_int, max2_int, tuple_lst, tuple_tup, list_lst, list_tup, slc_str, slc_lst, slc_tup, repS_one, repL_one, idx_t0, idx_t1, idx_t2, idx_l0, rg1_if, rg2_if, eq_self_str, eqv_bool, eq_nil, wipeE, isiD, lcS_v, forS_v, forS_t, lcS_t, app_if, ext_if, en_str, en_lst, items_str, items_lst, items_tup, Int.toNat_natCast, ev_lc2, lcS2_v, lcS2_t, tgV, tgVs, ev_rev, ev_itl, evI_rg3, rg3_if, List.append_nil, hideE, hideS]
  obtain ⟨σ', h1, s2, rfl, _⟩ := forL_nx (step := forS (cal T k) (.v 2) b__law_runs_1) (fun j σ => ∃ s2, σ = [.cl (.list (ps.map .int)), .ol ((runsI (ps.take j)).map encP), s2] ∧ j ≤ ps.length)
    (ds := ps.map .int) (σ := [.cl (.list (ps.map .int)), .ol [], .un]) ⟨_, rfl, by omega⟩ fun j e σ hj hI => by
      obtain ⟨s2, rfl, hj2⟩ := hI
      rw [List.getElem?_map] at hj
      obtain ⟨x, e1, rfl⟩ := Option.map_eq_some_iff.mp hj
      have e2 : ps.take (j + 1) = ps.take j ++ [x] := by rw [List.take_succ, e1]; rfl
      have hjl := (List.getElem?_eq_some_iff.mp e1).1
      have hr := runsI_len (ps.take j)
      rw [List.length_take] at hr
      refine ⟨[.cl (.list (ps.map .int)), .ol ((runsI (ps.take (j + 1))).map encP), .cl (.int x)], .inl ?_, _, rfl, by omega⟩
      rw [forS_v, e2, runsI_snoc]
      exact lstep_runs (by omega)
  rw [h1, List.length_map, List.take_length]
  try simp -dsimp -implicitDefEqProofs (disch := first | omega | (simp; omega)) only [ev_var, ev_cst, ev_tup, ev_lst, ev_bin, ev_neg, ev_not, ev_and, ev_or, ev_cmp, ev_isN, ev_notN, ev_chn, ev_ite, ev_idx, ev_slc, ev_call, ev_bl, ev_mt, ev_isi, ev_lc, evI_it, evI_rg1, evI_rg2, evI_enum, exec_asg, exec_own, exec_par, exec_aug, exec_app, exec_ext, exec_ins, exec_put, exec_aput, exec_ifs, exec_for_, exec_whl, exec_ret, exec_retn, exec_brk, exec_cnt, exec_pass, exec_close, evs_nil, evs_cons, evo_none, evo_some, evc_none, evc_some, execs_nil, execs_cons, nxt_nx, nxt_rt, nxt_bk, nxt_ct, List.length_cons, List.length_nil, List.map_cons, List.map_nil, bnd_r, lift_ret, Env.read, Env.keep, Sl.read, Sl.keep, List.cons_append, List.nil_append, List.getElem?_cons_zero, List.getElem?_cons_succ, List.set_cons_zero, List.set_cons_succ, bindT, bindTs, closeS, ownS, keepP, if_true, if_false, ↓reduceIte, Bool.false_eq_true, Nat.reduceAdd, Nat.reduceSub, List.replicate_succ, List.replicate_zero, boolD_b, intD_i, isN_none, isN_int, isN_bool, isN_str, isN_tup, isN_lst, Bool.not_true, Bool.not_false, augD, add_int, sub_int, mul_int, fdiv_int, mod_int, mul_str, add_str, add_tup, add_lst, mul_lst, eq_int, ne_int, lt_int, gt_int, le_int, ge_int, eq_str, ne_str, len_str, len_lst, len_tup, abs_int, int_int, int_bool, min2_int, max2_int, tuple_lst, tuple_tup, list_lst, list_tup, slc_str, slc_lst, slc_tup, repS_one, repL_one, idx_t0, idx_t1, idx_t2, idx_l0, rg1_if, rg2_if, eq_self_str, eqv_bool, eq_nil, wipeE, isiD, lcS_v, forS_v, forS_t, lcS_t, app_if, ext_if, en_str, en_lst, items_str, items_lst, items_tup, Int.toNat_natCast, ev_lc2, lcS2_v, lcS2_t, tgV, tgVs, ev_rev, ev_itl, evI_rg3, rg3_if, List.append_nil, hideE, hideS]
end
end Q.K41

set_option Elab.async false
set_option linter.all false
set_option maxRecDepth 100000
/-! K41P2: plain laws of stretches. -/
namespace Q.K41
open PySem Q
def plI (rs : List Pr) : List Int := rs.flatMap fun p => rgI p.1 p.2
theorem plI_app {a b : List Pr} : plI (a ++ b) = plI a ++ plI b := by unfold plI; rw [List.flatMap_append]
theorem plI_cons {p : Pr} {a : List Pr} : plI (p :: a) = rgI p.1 p.2 ++ plI a := by unfold plI; rw [List.flatMap_cons]
theorem plI_one {p : Pr} : plI [p] = rgI p.1 p.2 := by rw [plI_cons]; simp [plI]
theorem mem_plI {rs : List Pr} {x : Int} : x ∈ plI rs ↔ ∃ p ∈ rs, p.1 ≤ x ∧ x < p.2 := by
  unfold plI
  rw [List.mem_flatMap]
  constructor
  · rintro ⟨p, h1, h2⟩
    exact ⟨p, h1, mem_rgI.mp h2⟩
  · rintro ⟨p, h1, h2⟩
    exact ⟨p, h1, mem_rgI.mpr h2⟩
theorem snoc_ind {α : Type} {P : List α → Prop} (h0 : P []) (hs : ∀ l x, P l → P (l ++ [x])) : ∀ l, P l := by
  have key : ∀ n (l : List α), l.length = n → P l := fun n => by
    induction n with
    | zero => intro l h; rw [List.eq_nil_of_length_eq_zero h]; exact h0
    | succ n ih =>
      intro l h
      rcases snoc_or l with rfl | ⟨i, x, rfl⟩
      · exact h0
      · exact hs i x (ih i (by simpa using h))
  exact fun l => key _ l rfl
theorem runs_ends (ps : List Int) : ∀ p ∈ runsI ps, p.1 < p.2 ∧ p.1 ∈ ps ∧ p.2 - 1 ∈ ps := by
  refine snoc_ind (P := fun ps => ∀ p ∈ runsI ps, p.1 < p.2 ∧ p.1 ∈ ps ∧ p.2 - 1 ∈ ps) (fun p hp => by cases hp) (fun l x ih p hp => ?_) ps
  rw [runsI_snoc] at hp
  have up : ∀ q : Pr, q ∈ runsI l → q.1 < q.2 ∧ q.1 ∈ l ++ [x] ∧ q.2 - 1 ∈ l ++ [x] := fun q hq => ⟨(ih q hq).1, List.mem_append_left _ (ih q hq).2.1, List.mem_append_left _ (ih q hq).2.2⟩
  have new : p = (x, x + 1) → p.1 < p.2 ∧ p.1 ∈ l ++ [x] ∧ p.2 - 1 ∈ l ++ [x] := fun e => by
    subst e
    exact ⟨by show x < x + 1; omega, by simp, by simp⟩
  rcases snoc_or (runsI l) with e | ⟨i, q, e⟩
  · rw [e, stepR_nil] at hp
    exact new (by simpa using hp)
  · rw [e, stepR_snoc] at hp
    split at hp
    · rename_i hq
      rcases List.mem_append.mp hp with hp | hp
      · exact up p (by rw [e]; exact List.mem_append_left _ hp)
      · have hp : p = (q.1, x + 1) := by simpa using hp
        subst hp
        have := up q (by rw [e]; simp)
        exact ⟨by show q.1 < x + 1; omega, this.2.1, by simp⟩
    · rcases List.mem_append.mp hp with hp | hp
      · exact up p (by rw [e]; exact hp)
      · exact new (by simpa using hp)
theorem pl_runs (ps : List Int) : plI (runsI ps) = ps := by
  refine snoc_ind (P := fun ps => plI (runsI ps) = ps) rfl (fun l x ih => ?_) ps
  rw [runsI_snoc]
  have hr := runs_ends l
  rcases snoc_or (runsI l) with e | ⟨i, q, e⟩
  · rw [e] at ih
    have hl : l = [] := ih.symm
    subst hl
    rw [e, stepR_nil, plI_one]
    show rgI x (x + 1) = _
    rw [rgI_cons (by omega), rgI_nil (by omega)]
    rfl
  · rw [e, plI_app, plI_one] at ih
    rw [e, stepR_snoc]
    have h1 := (hr q (by rw [e]; simp)).1
    split
    · rename_i hq
      rw [plI_app, plI_one]
      show _ ++ rgI q.1 (x + 1) = _
      rw [rgI_snoc (by omega), ← hq, ← List.append_assoc, ih]
    · rw [plI_app, plI_app, plI_one, plI_one, ih]
      show _ ++ rgI x (x + 1) = _
      rw [rgI_cons (by omega), rgI_nil (by omega)]
/-- stretches that do not touch -/
structure Sep (l : List Pr) : Prop where
  pos : ∀ p ∈ l, p.1 < p.2
  apart : l.Pairwise fun a b => a.2 < b.1
theorem Sep.nil : Sep [] := ⟨fun p hp => (List.not_mem_nil hp).elim, .nil⟩
theorem Sep.tail {p : Pr} {l : List Pr} (h : Sep (p :: l)) : Sep l ∧ ∀ q ∈ l, p.2 < q.1 :=
  ⟨⟨fun q hq => h.pos q (List.mem_cons_of_mem _ hq), (List.pairwise_cons.mp h.apart).2⟩, (List.pairwise_cons.mp h.apart).1⟩
theorem Sep.asc : ∀ {l : List Pr}, Sep l → Asc (plI l)
  | [], _ => List.Pairwise.nil
  | p :: l, h => by
    obtain ⟨h1, h2⟩ := h.tail
    rw [plI_cons]
    refine List.pairwise_append.mpr ⟨asc_rgI, h1.asc, fun a ha b hb => ?_⟩
    have := mem_rgI.mp ha
    obtain ⟨q, hq, hb⟩ := mem_plI.mp hb
    have := h2 q hq
    omega
theorem Sep.one : ∀ {l m : List Pr}, Sep l → Sep m → plI l = plI m → l = m
  | [], [], _, _, _ => rfl
  | [], q :: m, _, hm, h => by
    have := hm.pos q List.mem_cons_self
    rw [plI_cons, rgI_cons this] at h
    cases h
  | p :: l, [], hl, _, h => by
    have := hl.pos p List.mem_cons_self
    rw [plI_cons, rgI_cons this] at h
    cases h
  | p :: l, q :: m, hl, hm, h => by
    have p1 := hl.pos p List.mem_cons_self
    have q1 := hm.pos q List.mem_cons_self
    obtain ⟨l1, l2⟩ := hl.tail
    obtain ⟨m1, m2⟩ := hm.tail
    have e1 : p.1 = q.1 := by
      have h := h
      rw [plI_cons, plI_cons, rgI_cons p1, rgI_cons q1] at h
      injection h
    have hx : ∀ x, x ∈ plI (p :: l) ↔ x ∈ plI (q :: m) := fun x => by rw [h]
    have e2 : p.2 = q.2 := by
      by_cases a : p.2 < q.2
      · obtain ⟨r, hr, hr2⟩ := mem_plI.mp ((hx p.2).mpr (mem_plI.mpr ⟨q, List.mem_cons_self, by omega, by omega⟩))
        rcases List.mem_cons.mp hr with rfl | hr
        · omega
        · have := l2 r hr; omega
      · by_cases b : q.2 < p.2
        · obtain ⟨r, hr, hr2⟩ := mem_plI.mp ((hx q.2).mp (mem_plI.mpr ⟨p, List.mem_cons_self, by omega, by omega⟩))
          rcases List.mem_cons.mp hr with rfl | hr
          · omega
          · have := m2 r hr; omega
        · omega
    have e : p = q := Prod.ext e1 e2
    subst e
    rw [plI_cons, plI_cons] at h
    rw [Sep.one l1 m1 (List.append_cancel_left h)]
theorem sep_runs {ps : List Int} : Asc ps → Sep (runsI ps) := by
  refine snoc_ind (P := fun ps => Asc ps → Sep (runsI ps)) (fun _ => Sep.nil) (fun l x ih ha => ?_) ps
  obtain ⟨a1, a2, a3⟩ := List.pairwise_append.mp ha
  have hs := ih a1
  have he := runs_ends l
  have hx : ∀ y ∈ l, y < x := fun y hy => a3 y hy x List.mem_cons_self
  rw [runsI_snoc]
  rcases snoc_or (runsI l) with e | ⟨i, q, e⟩
  · rw [e, stepR_nil]
    refine ⟨fun p hp => ?_, List.pairwise_singleton _ _⟩
    have hp : p = (x, x + 1) := by simpa using hp
    subst hp
    show x < x + 1
    omega
  · rw [e] at hs he
    rw [e, stepR_snoc]
    obtain ⟨b1, b2, b3⟩ := List.pairwise_append.mp hs.apart
    have q1 := he q (by simp)
    have q2 := hx _ q1.2.2
    have b4 : ∀ p ∈ i, p.2 < q.1 := fun p hp => b3 p hp q List.mem_cons_self
    split
    · rename_i hq
      refine ⟨fun p hp => ?_, List.pairwise_append.mpr ⟨b1, List.pairwise_singleton _ _, fun a ha b hb => ?_⟩⟩
      · rcases List.mem_append.mp hp with hp | hp
        · exact hs.pos p (List.mem_append_left _ hp)
        · have hp : p = (q.1, x + 1) := by simpa using hp
          subst hp
          show q.1 < x + 1
          omega
      · have hb : b = (q.1, x + 1) := by simpa using hb
        subst hb
        exact b4 a ha
    · rename_i hq
      refine ⟨fun p hp => ?_, List.pairwise_append.mpr ⟨hs.apart, List.pairwise_singleton _ _, fun a ha b hb => ?_⟩⟩
      · rcases List.mem_append.mp hp with hp | hp
        · exact hs.pos p hp
        · have hp : p = (x, x + 1) := by simpa using hp
          subst hp
          show x < x + 1
          omega
      · have hb : b = (x, x + 1) := by simpa using hb
        subst hb
        show a.2 < x
        rcases List.mem_append.mp ha with ha | ha
        · have := b4 a ha; omega
        · have ha : a = q := by simpa using ha
          subst ha
          omega
/-! the stretches between -/
def stepG (en : Int) (st : List Pr × Int) (p : Pr) : List Pr × Int := (if st.2 < min p.1 en then st.1 ++ [(st.2, min p.1 en)] else st.1, max st.2 p.2)
def gapsI (rs : List Pr) (en : Int) : List Pr := (rs.foldl (stepG en) ([], 0)).1 ++ (if (rs.foldl (stepG en) ([], 0)).2 < en then [((rs.foldl (stepG en) ([], 0)).2, en)] else [])
theorem gap_inv (en : Int) : ∀ (rs : List Pr) (st : List Pr × Int), Sep rs → (∀ p ∈ rs, st.2 ≤ p.1) → Sep st.1 → (∀ p ∈ st.1, p.2 < st.2) →
    Sep (rs.foldl (stepG en) st).1 ∧ (∀ p ∈ (rs.foldl (stepG en) st).1, p.2 < (rs.foldl (stepG en) st).2) ∧ st.2 ≤ (rs.foldl (stepG en) st).2 ∧ (∀ x ∈ plI rs, x < (rs.foldl (stepG en) st).2) ∧
    ∀ x, x ∈ plI (rs.foldl (stepG en) st).1 ↔ x ∈ plI st.1 ∨ (st.2 ≤ x ∧ x < (rs.foldl (stepG en) st).2 ∧ x < en ∧ x ∉ plI rs)
  | [], st, _, _, h3, h4 => ⟨h3, h4, Int.le_refl _, fun x hx => (List.not_mem_nil hx).elim, fun x => by
      simp only [List.foldl_nil]
      constructor
      · exact .inl
      · rintro (h | h)
        · exact h
        · omega⟩
  | p :: rs, st, h1, h2, h3, h4 => by
    obtain ⟨k1, k2⟩ := h1.tail
    have p1 := h1.pos p List.mem_cons_self
    have p2 := h2 p List.mem_cons_self
    have hm : max st.2 p.2 = p.2 := by omega
    have n3 : Sep (stepG en st p).1 := by
      unfold stepG
      show Sep (if _ then _ else _)
      split
      · refine ⟨fun q hq => ?_, List.pairwise_append.mpr ⟨h3.apart, List.pairwise_singleton _ _, fun a ha b hb => ?_⟩⟩
        · rcases List.mem_append.mp hq with hq | hq
          · exact h3.pos q hq
          · have hq : q = (st.2, min p.1 en) := by simpa using hq
            subst hq
            assumption
        · have hb : b = (st.2, min p.1 en) := by simpa using hb
          subst hb
          exact h4 a ha
      · exact h3
    have e2 : (stepG en st p).2 = p.2 := by unfold stepG; exact hm
    have n4 : ∀ q ∈ (stepG en st p).1, q.2 < (stepG en st p).2 := fun q hq => by
      rw [e2]
      unfold stepG at hq
      simp only at hq
      split at hq
      · rcases List.mem_append.mp hq with hq | hq
        · have := h4 q hq; omega
        · have hq : q = (st.2, min p.1 en) := by simpa using hq
          subst hq
          show min p.1 en < p.2
          omega
      · have := h4 q hq; omega
    have n5 : ∀ x, x ∈ plI (stepG en st p).1 ↔ x ∈ plI st.1 ∨ (st.2 ≤ x ∧ x < p.1 ∧ x < en) := fun x => by
      unfold stepG
      simp only
      split
      · rw [plI_app, plI_one, List.mem_append, mem_rgI]
        show _ ∨ (st.2 ≤ x ∧ x < min p.1 en) ↔ _
        constructor
        · rintro (h | h)
          · exact .inl h
          · exact .inr (by omega)
        · rintro (h | h)
          · exact .inl h
          · exact .inr (by omega)
      · constructor
        · exact .inl
        · rintro (h | h)
          · exact h
          · omega
    obtain ⟨r1, r2, r3, r4, r5⟩ := gap_inv en rs (stepG en st p) k1 (fun q hq => by rw [e2]; have := k2 q hq; omega) n3 n4
    rw [e2] at r3 r5
    rw [List.foldl_cons]
    refine ⟨r1, r2, by omega, fun x hx => ?_, fun x => ?_⟩
    · rw [plI_cons] at hx
      rcases List.mem_append.mp hx with hx | hx
      · have := mem_rgI.mp hx; omega
      · exact r4 x hx
    · rw [r5, n5, plI_cons, List.mem_append, mem_rgI]
      have k3 : ∀ x ∈ plI rs, p.2 < x := fun x hx => by
        obtain ⟨q, hq, hb⟩ := mem_plI.mp hx
        have := k2 q hq
        omega
      constructor
      · rintro ((h | h) | h)
        · exact .inl h
        · refine .inr ⟨by omega, by omega, by omega, fun z => ?_⟩
          rcases z with z | z
          · omega
          · have := k3 x z; omega
        · refine .inr ⟨by omega, h.2.1, h.2.2.1, fun z => ?_⟩
          rcases z with z | z
          · omega
          · exact h.2.2.2 z
      · rintro (h | h)
        · exact .inl (.inl h)
        · by_cases hp : x < p.1
          · exact .inl (.inr ⟨h.1, hp, h.2.2.1⟩)
          · refine .inr ⟨?_, h.2.1, h.2.2.1, fun z => h.2.2.2 (.inr z)⟩
            by_cases hq : p.2 ≤ x
            · exact hq
            · exact absurd (.inl ⟨by omega, by omega⟩) h.2.2.2
theorem gaps_runs {ps : List Int} (ha : Asc ps) (h0 : ∀ x ∈ ps, 0 ≤ x) {en : Int} (hen : 0 ≤ en) : gapsI (runsI ps) en = runsI ((rgI 0 en).filter fun k => !decide (k ∈ ps)) := by
  obtain ⟨r1, r2, r3, r4, r5⟩ := gap_inv en (runsI ps) ([], 0) (sep_runs ha) (fun p hp => h0 _ (runs_ends ps p hp).2.1) Sep.nil fun p hp => by cases hp
  have hs : Sep (gapsI (runsI ps) en) := by
    unfold gapsI
    split
    · refine ⟨fun q hq => ?_, List.pairwise_append.mpr ⟨r1.apart, List.pairwise_singleton _ _, fun a ha b hb => ?_⟩⟩
      · rcases List.mem_append.mp hq with hq | hq
        · exact r1.pos q hq
        · have hq := List.mem_singleton.mp hq
          rw [hq]
          assumption
      · have hb := List.mem_singleton.mp hb
        rw [hb]
        exact r2 a ha
    · rw [List.append_nil]
      exact r1
  refine Sep.one hs (sep_runs (asc_rgI.filter _)) ?_
  rw [pl_runs]
  refine asc_ext hs.asc (asc_rgI.filter _) fun x => ?_
  have e : plI (runsI ps) = ps := pl_runs ps
  rw [e] at r4 r5
  rw [List.mem_filter, mem_rgI]
  have key : x ∈ plI (gapsI (runsI ps) en) ↔ (0 ≤ x ∧ x < ((runsI ps).foldl (stepG en) ([], 0)).2 ∧ x < en ∧ x ∉ ps) ∨ (((runsI ps).foldl (stepG en) ([], 0)).2 ≤ x ∧ x < en) := by
    unfold gapsI
    rw [plI_app, List.mem_append, r5]
    have e0 : ¬ x ∈ plI ([] : List Pr) := fun z => by cases z
    split
    · rw [plI_one, mem_rgI]
      constructor
      · rintro ((h | h) | h)
        · exact absurd h e0
        · exact .inl h
        · exact .inr h
      · rintro (h | h)
        · exact .inl (.inr h)
        · exact .inr h
    · constructor
      · rintro ((h | h) | h)
        · exact absurd h e0
        · exact .inl h
        · exact absurd h e0
      · rintro (h | h)
        · exact .inl (.inr h)
        · omega
  rw [key]
  simp only [Bool.not_eq_true', decide_eq_false_iff_not]
  have r3 : 0 ≤ ((runsI ps).foldl (stepG en) ([], 0)).2 := r3
  constructor
  · rintro (h | h)
    · exact ⟨⟨h.1, h.2.2.1⟩, h.2.2.2⟩
    · refine ⟨⟨by omega, h.2⟩, fun z => ?_⟩
      have := r4 x z
      omega
  · rintro ⟨h1, h2⟩
    by_cases h : x < ((runsI ps).foldl (stepG en) ([], 0)).2
    · exact .inl ⟨h1.1, h, h1.2, h2⟩
    · exact .inr ⟨by omega, h1.2⟩
end Q.K41

set_option Elab.async false
set_option linter.all false
set_option maxRecDepth 100000
/-! K41P3: what the defs give. -/
namespace Q.K41
open PySem Q
theorem runs_snoc' {p : Pr} {rs : List Pr} {j : Nat} (h : rs[j]? = some p) : rs.take (j + 1) = rs.take j ++ [p] := by rw [List.take_succ, h]; rfl
/-! loud ones -/
def loudI (row : List Int) (lv : Int) : List Int := (rgI 0 row.length).filter fun k => decide (lv ≤ row.getD k.toNat 0)
theorem loud_len {row : List Int} {lv : Int} : (loudI row lv).length ≤ row.length := by
  have := List.length_filter_le (fun k => decide (lv ≤ row.getD k.toNat 0)) (rgI 0 row.length)
  rw [rgI_len] at this
  unfold loudI
  omega
theorem loud_in {row : List Int} {lv x : Int} (h : x ∈ loudI row lv) : 0 ≤ x ∧ x < row.length := by
  unfold loudI at h
  rw [List.mem_filter, mem_rgI] at h
  exact h.1
theorem row_at {row : List Int} {x : Int} (h : 0 ≤ x ∧ x < row.length) : (row.map PyData.int)[x.toNat]? = some (.int (row.getD x.toNat 0)) := by
  have hx : x.toNat < row.length := by omega
  simp [hx, List.getD_eq_getElem?_getD]
section
variable {C : Nat → List D → M D} {k : Nat}
/-- the places of numbers at least so loud -/
theorem lc_loud {own : List Nat} {c e : Tm} {σ : Env} {row : List Int} {lv : Int} {i : Nat} (hc : ∀ x : Int, 0 ≤ x → x < row.length → evc C (some c) ((wipeE σ own).set i (.cl (.int x))) = ret (decide (lv ≤ row.getD x.toNat 0))) (he : ∀ x : Int, ev C false e ((wipeE σ own).set i (.cl (.int x))) = ret (.int x)) :
    lcL (lcS C own (.v i) (some c) e σ) (rgD 0 row.length) = ret ((loudI row lv).map .int) := by
  rw [rgD_I, lcL_fil .int (fun x => decide (lv ≤ row.getD x.toNat 0)) .int fun x hx => ?_]
  · rfl
  · have hx := mem_rgI.mp hx
    rw [lcS_v, hc x hx.1 hx.2, bnd_r, he x, bnd_r, ret_ite]
theorem loud_eq {row : List Int} {lv : Int} (hl : row.length ≤ 20) : cal T (k + 2) f_loud_runs [.tuple (row.map .int), .int lv] = ret (.tuple ((runsI (loudI row lv)).map encP)) := by
  rw [cal_at (show T[f_loud_runs]? = some ⟨2, 3, b_loud_runs⟩ from rfl)]
  unfold runF b_loud_runs
  have h1 := loud_len (row := row) (lv := lv)
  try simp -dsimp -implicitDefEqProofs (disch := first | omega | (simp; omega)) only [ev_var, ev_cst, ev_tup, ev_lst, ev_bin, ev_neg, ev_not, ev_and, ev_or, ev_cmp, ev_isN, ev_notN, ev_chn, ev_ite, ev_idx, ev_slc, ev_call, ev_bl, ev_mt, ev_isi, ev_lc, evI_it, evI_rg1, evI_rg2, evI_enum, exec_asg, exec_own, exec_par, exec_aug, exec_app, exec_ext, exec_ins, exec_put, exec_aput, exec_ifs, exec_for_, exec_whl, exec_ret, exec_retn, exec_brk, exec_cnt, exec_pass, exec_close, evs_nil, evs_cons, evo_none, evo_some, evc_none, evc_some, execs_nil, execs_cons, nxt_nx, nxt_rt, nxt_bk, nxt_ct, List.length_cons, List.length_nil, List.map_cons, List.map_nil, bnd_r, lift_ret, Env.read, Env.keep, Sl.read, Sl.keep, List.cons_append, List.nil_append, List.getElem?_cons_zero, List.getElem?_cons_succ, List.set_cons_zero, List.set_cons_succ, bindT, bindTs, closeS, ownS, keepP, if_true, if_false, ↓reduceIte, Bool.false_eq_true, Nat.reduceAdd, Nat.reduceSub, List.replicate_succ, List.replicate_zero, boolD_b, intD_i, isN_none, isN_int, isN_bool, isN_str, isN_tup, isN_lst, Bool.not_true, Bool.not_false, augD, add_int, sub_int, mul_int, fdiv_int, mod_int, mul_str, add_str, add_tup, add_lst, mul_lst, eq_int, ne_int, lt_int, gt_int, le_int, ge_int, eq_str, ne_str, len_str, len_lst, len_tup, abs_int, int_int, int_bool, min2_int, max2_int, tuple_lst, tuple_tup, list_lst, list_tup, slc_str, slc_lst, slc_tup, repS_one, repL_one, idx_t0, idx_t1, idx_t2, idx_l0, rg1_if, rg2_if, eq_self_str, eqv_bool, eq_nil, wipeE, isiD, lcS_v, forS_v, forS_t, lcS_t, app_if, ext_if, en_str, en_lst, items_str, items_lst, items_tup, Int.toNat_natCast, ev_lc2, lcS2_v, lcS2_t, tgV, tgVs, ev_rev, ev_itl, evI_rg3, rg3_if, List.append_nil, hideE, hideS, List.length_map]
  rw [lc_loud (lv := lv) (fun x x0 x1 => by
    unfold c_loud_runs_2
    try simp -dsimp -implicitDefEqProofs (disch := first | omega | (simp; omega)) only [ev_var, ev_cst, ev_tup, ev_lst, ev_bin, ev_neg, ev_not, ev_and, ev_or, ev_cmp, ev_isN, ev_notN, ev_chn, ev_ite, ev_idx, ev_slc, ev_call, ev_bl, ev_mt, ev_isi, ev_lc, evI_it, evI_rg1, evI_rg2, evI_enum, exec_asg, exec_own, exec_par, exec_aug, exec_app, exec_ext, exec_ins, exec_put, exec_aput, exec_ifs, exec_for_, exec_whl, exec_ret, exec_retn, exec_brk, exec_cnt, exec_pass, exec_close, evs_nil, evs_cons, evo_none, evo_some, evc_none, evc_some, execs_nil, execs_cons, nxt_nx, nxt_rt, nxt_bk, nxt_ct, List.length_cons, List.length_nil, List.map_cons, List.map_nil, bnd_r, lift_ret, Env.read, Env.keep, Sl.read, Sl.keep, List.cons_append, List.nil_append, List.getElem?_cons_zero, List.getElem?_cons_succ, List.set_cons_zero, List.set_cons_succ, bindT, bindTs, closeS, ownS, keepP, if_true, if_false, ↓reduceIte, Bool.false_eq_true, Nat.reduceAdd, Nat.reduceSub, List.replicate_succ, List.replicate_zero, boolD_b, intD_i, isN_none, isN_int, isN_bool, isN_str, isN_tup, isN_lst, Bool.not_true, Bool.not_false, augD, add_int, sub_int, mul_int, fdiv_int, mod_int, mul_str, add_str, add_tup, add_lst, mul_lst, eq_int, ne_int, lt_int, gt_int, le_int, ge_int, eq_str, ne_str, len_str, len_lst, len_tup, abs_int, int_int, int_bool, min2_int, max2_int, tuple_lst, tuple_tup, list_lst, list_tup, slc_str, slc_lst, slc_tup, repS_one, repL_one, idx_t0, idx_t1, idx_t2, idx_l0, rg1_if, rg2_if, eq_self_str, eqv_bool, eq_nil, wipeE, isiD, lcS_v, forS_v, forS_t, lcS_t, app_if, ext_if, en_str, en_lst, items_str, items_lst, items_tup, Int.toNat_natCast, ev_lc2, lcS2_v, lcS2_t, tgV, tgVs, ev_rev, ev_itl, evI_rg3, rg3_if, List.append_nil, hideE, hideS, idx_tup x0 (row_at ⟨x0, x1⟩)]) (fun x => by
    unfold e_loud_runs_1
    try simp -dsimp -implicitDefEqProofs (disch := first | omega | (simp; omega)) only [ev_var, ev_cst, ev_tup, ev_lst, ev_bin, ev_neg, ev_not, ev_and, ev_or, ev_cmp, ev_isN, ev_notN, ev_chn, ev_ite, ev_idx, ev_slc, ev_call, ev_bl, ev_mt, ev_isi, ev_lc, evI_it, evI_rg1, evI_rg2, evI_enum, exec_asg, exec_own, exec_par, exec_aug, exec_app, exec_ext, exec_ins, exec_put, exec_aput, exec_ifs, exec_for_, exec_whl, exec_ret, exec_retn, exec_brk, exec_cnt, exec_pass, exec_close, evs_nil, evs_cons, evo_none, evo_some, evc_none, evc_some, execs_nil, execs_cons, nxt_nx, nxt_rt, nxt_bk, nxt_ct, List.length_cons, List.length_nil, List.map_cons, List.map_nil, bnd_r, lift_ret, Env.read, Env.keep, Sl.read, Sl.keep, List.cons_append, List.nil_append, List.getElem?_cons_zero, List.getElem?_cons_succ, List.set_cons_zero, List.set_cons_succ, bindT, bindTs, closeS, ownS, keepP, if_true, if_false, ↓reduceIte, Bool.false_eq_true, Nat.reduceAdd, Nat.reduceSub, List.replicate_succ, List.replicate_zero, boolD_b, intD_i, isN_none, isN_int, isN_bool, isN_str, isN_tup, isN_lst, Bool.not_true, Bool.not_false, augD, add_int, sub_int, mul_int, fdiv_int, mod_int, mul_str, add_str, add_tup, add_lst, mul_lst, eq_int, ne_int, lt_int, gt_int, le_int, ge_int, eq_str, ne_str, len_str, len_lst, len_tup, abs_int, int_int, int_bool, min2_int, max2_int, tuple_lst, tuple_tup, list_lst, list_tup, slc_str, slc_lst, slc_tup, repS_one, repL_one, idx_t0, idx_t1, idx_t2, idx_l0, rg1_if, rg2_if, eq_self_str, eqv_bool, eq_nil, wipeE, isiD, lcS_v, forS_v, forS_t, lcS_t, app_if, ext_if, en_str, en_lst, items_str, items_lst, items_tup, Int.toNat_natCast, ev_lc2, lcS2_v, lcS2_t, tgV, tgVs, ev_rev, ev_itl, evI_rg3, rg3_if, List.append_nil, hideE, hideS])]
  try simp -dsimp -implicitDefEqProofs (disch := first | omega | (simp; omega)) only [ev_var, ev_cst, ev_tup, ev_lst, ev_bin, ev_neg, ev_not, ev_and, ev_or, ev_cmp, ev_isN, ev_notN, ev_chn, ev_ite, ev_idx, ev_slc, ev_call, ev_bl, ev_mt, ev_isi, ev_lc, evI_it, evI_rg1, evI_rg2, evI_enum, exec_asg, exec_own, exec_par, exec_aug, exec_app, exec_ext, exec_ins, exec_put, exec_aput, exec_ifs, exec_for_, exec_whl, exec_ret, exec_retn, exec_brk, exec_cnt, exec_pass, exec_close, evs_nil, evs_cons, evo_none, evo_some, evc_none, evc_some, execs_nil, execs_cons, nxt_nx, nxt_rt, nxt_bk, nxt_ct, List.length_cons, List.length_nil, List.map_cons, List.map_nil, bnd_r, lift_ret, Env.read, Env.keep, Sl.read, Sl.keep, List.cons_append, List.nil_append, List.getElem?_cons_zero, List.getElem?_cons_succ, List.set_cons_zero, List.set_cons_succ, bindT, bindTs, closeS, ownS, keepP, if_true, if_false, ↓reduceIte, Bool.false_eq_true, Nat.reduceAdd, Nat.reduceSub, List.replicate_succ, List.replicate_zero, boolD_b, intD_i, isN_none, isN_int, isN_bool, isN_str, isN_tup, isN_lst, Bool.not_true, Bool.not_false, augD, add_int, sub_int, mul_int, fdiv_int, mod_int, mul_str, add_str, add_tup, add_lst, mul_lst, eq_int, ne_int, lt_int, gt_int, le_int, ge_int, eq_str, ne_str, len_str, len_lst, len_tup, abs_int, int_int, int_bool, min2_int, max2_int, tuple_lst, tuple_tup, list_lst, list_tup, slc_str, slc_lst, slc_tup, repS_one, repL_one, idx_t0, idx_t1, idx_t2, idx_l0, rg1_if, rg2_if, eq_self_str, eqv_bool, eq_nil, wipeE, isiD, lcS_v, forS_v, forS_t, lcS_t, app_if, ext_if, en_str, en_lst, items_str, items_lst, items_tup, Int.toNat_natCast, ev_lc2, lcS2_v, lcS2_t, tgV, tgVs, ev_rev, ev_itl, evI_rg3, rg3_if, List.append_nil, hideE, hideS]
  rw [runs_at_eq (by omega) (.inl rfl)]
  try simp -dsimp -implicitDefEqProofs (disch := first | omega | (simp; omega)) only [ev_var, ev_cst, ev_tup, ev_lst, ev_bin, ev_neg, ev_not, ev_and, ev_or, ev_cmp, ev_isN, ev_notN, ev_chn, ev_ite, ev_idx, ev_slc, ev_call, ev_bl, ev_mt, ev_isi, ev_lc, evI_it, evI_rg1, evI_rg2, evI_enum, exec_asg, exec_own, exec_par, exec_aug, exec_app, exec_ext, exec_ins, exec_put, exec_aput, exec_ifs, exec_for_, exec_whl, exec_ret, exec_retn, exec_brk, exec_cnt, exec_pass, exec_close, evs_nil, evs_cons, evo_none, evo_some, evc_none, evc_some, execs_nil, execs_cons, nxt_nx, nxt_rt, nxt_bk, nxt_ct, List.length_cons, List.length_nil, List.map_cons, List.map_nil, bnd_r, lift_ret, Env.read, Env.keep, Sl.read, Sl.keep, List.cons_append, List.nil_append, List.getElem?_cons_zero, List.getElem?_cons_succ, List.set_cons_zero, List.set_cons_succ, bindT, bindTs, closeS, ownS, keepP, if_true, if_false, ↓reduceIte, Bool.false_eq_true, Nat.reduceAdd, Nat.reduceSub, List.replicate_succ, List.replicate_zero, boolD_b, intD_i, isN_none, isN_int, isN_bool, isN_str, isN_tup, isN_lst, Bool.not_true, Bool.not_false, augD, add_int, sub_int, mul_int, fdiv_int, mod_int, mul_str, add_str, add_tup, add_lst, mul_lst, eq_int, ne_int, lt_int, gt_int, le_int, ge_int, eq_str, ne_str, len_str, len_lst, len_tup, abs_int, int_int, int_bool, min2_int, max2_int, tuple_lst, tuple_tup, list_lst, list_tup, slc_str, slc_lst, slc_tup, repS_one, repL_one, idx_t0, idx_t1, idx_t2, idx_l0, rg1_if, rg2_if, eq_self_str, eqv_bool, eq_nil, wipeE, isiD, lcS_v, forS_v, forS_t, lcS_t, app_if, ext_if, en_str, en_lst, items_str, items_lst, items_tup, Int.toNat_natCast, ev_lc2, lcS2_v, lcS2_t, tgV, tgVs, ev_rev, ev_itl, evI_rg3, rg3_if, List.append_nil, hideE, hideS]
/-! near ones made one -/
def stepJ (gap : Int) (fs : List Pr) (p : Pr) : List Pr := match fs.getLast? with
  | some q => if p.1 - q.2 ≤ gap then fs.dropLast ++ [(q.1, p.2)] else fs ++ [p]
  | none => [p]
def joinI (gap : Int) (rs : List Pr) : List Pr := rs.foldl (stepJ gap) []
theorem stepJ_nil {g : Int} {p : Pr} : stepJ g [] p = [p] := rfl
theorem stepJ_snoc {g : Int} {i : List Pr} {q p : Pr} : stepJ g (i ++ [q]) p = if p.1 - q.2 ≤ g then i ++ [(q.1, p.2)] else i ++ [q] ++ [p] := by
  unfold stepJ
  rw [List.getLast?_concat]
  simp
theorem stepJ_len {g : Int} {l : List Pr} {p : Pr} : (stepJ g l p).length ≤ l.length + 1 := by
  rcases snoc_or l with rfl | ⟨i, q, rfl⟩
  · simp [stepJ_nil]
  · rw [stepJ_snoc]
    split <;> simp
theorem joinI_snoc {g : Int} {rs : List Pr} {p : Pr} : joinI g (rs ++ [p]) = stepJ g (joinI g rs) p := by
  unfold joinI
  rw [List.foldl_append]
  rfl
theorem joinI_len (g : Int) (rs : List Pr) : (joinI g rs).length ≤ rs.length := by
  unfold joinI
  have key : ∀ (rs : List Pr) (l : List Pr), (rs.foldl (stepJ g) l).length ≤ l.length + rs.length := fun ps => by
    induction ps with
    | nil => intro l; simp
    | cons x ps ih =>
      intro l
      have h1 := ih (stepJ g l x)
      have h2 := stepJ_len (g := g) (l := l) (p := x)
      rw [List.foldl_cons, List.length_cons]
      omega
  simpa using key rs []
theorem step_join {s0 : Sl} {g : Int} {l : List Pr} {p : Pr} (hl : l.length ≤ 1000) : execs C b_joined_runs_1 [s0, .cl (.int g), .ol (l.map encP), .cl (.int p.1), .cl (.int p.2)] = ret (.nx [s0, .cl (.int g), .ol ((stepJ g l p).map encP), .cl (.int p.1), .cl (.int p.2)]) := by
  unfold b_joined_runs_1
  rcases snoc_or l with rfl | ⟨i, q, rfl⟩
  · try simp -dsimp -implicitDefEqProofs (disch := first | omega | (simp; omega)) only [ev_var, ev_cst, ev_tup, ev_lst, ev_bin, ev_neg, ev_not, ev_and, ev_or, ev_cmp, ev_isN, ev_notN, ev_chn, ev_ite, ev_idx, ev_slc, ev_call, ev_bl, ev_mt, ev_isi, ev_lc, evI_it, evI_rg1, evI_rg2, evI_enum, exec_asg, exec_own, exec_par, exec_aug, exec_app, exec_ext, exec_ins, exec_put, exec_aput, exec_ifs, exec_for_, exec_whl, exec_ret, exec_retn, exec_brk, exec_cnt, exec_pass, exec_close, evs_nil, evs_cons, evo_none, evo_some, evc_none, evc_some, execs_nil, execs_cons, nxt_nx, nxt_rt, nxt_bk, nxt_ct, List.length_cons, List.length_nil, List.map_cons, List.map_nil, bnd_r, lift_ret, Env.read, Env.keep, Sl.read, Sl.keep, List.cons_append, List.nil_append, List.getElem?_cons_zero, List.getElem?_cons_succ, List.set_cons_zero, List.set_cons_succ, bindT, bindTs, closeS, ownS, keepP, if_true, if_false, ↓reduceIte, Bool.false_eq_true, Nat.reduceAdd, Nat.reduceSub, List.replicate_succ, List.replicate_zero, boolD_b, intD_i, isN_none, isN_int, isN_bool, isN_str, isN_tup, isN_lst, Bool.not_true, Bool.not_false, augD, add_int, sub_int, mul_int, fdiv_int, mod_int, mul_str, add_str, add_tup, add_lst, mul_lst, eq_int, ne_int, lt_int, gt_int, le_int, ge_int, eq_str, ne_str, len_str, len_lst, len_tup, abs_int, int_int, int_bool, min2_int, max2_int, tuple_lst, tuple_tup, list_lst, list_tup, slc_str, slc_lst, slc_tup, repS_one, repL_one, idx_t0, idx_t1, idx_t2, idx_l0, rg1_if, rg2_if, eq_self_str, eqv_bool, eq_nil, wipeE, isiD, lcS_v, forS_v, forS_t, lcS_t, app_if, ext_if, en_str, en_lst, items_str, items_lst, items_tup, Int.toNat_natCast, ev_lc2, lcS2_v, lcS2_t, tgV, tgVs, ev_rev, ev_itl, evI_rg3, rg3_if, List.append_nil, hideE, hideS, stepJ_nil, show cmpD .ne (.list []) (.list []) = some (.bool false) from rfl, getP]
  · rw [stepJ_snoc]
    have ne : cmpD .ne (.list (i.map encP ++ [.tuple [.int q.1, .int q.2]])) (.list []) = some (.bool true) := ne_snoc
    have l1 : (i.map encP).length = i.length := List.length_map _
    have l2 : i.length < 1000 := by simp at hl; omega
    by_cases h : p.1 - q.2 ≤ g
    · try simp -dsimp -implicitDefEqProofs (disch := first | omega | (simp; omega)) only [ev_var, ev_cst, ev_tup, ev_lst, ev_bin, ev_neg, ev_not, ev_and, ev_or, ev_cmp, ev_isN, ev_notN, ev_chn, ev_ite, ev_idx, ev_slc, ev_call, ev_bl, ev_mt, ev_isi, ev_lc, evI_it, evI_rg1, evI_rg2, evI_enum, exec_asg, exec_own, exec_par, exec_aug, exec_app, exec_ext, exec_ins, exec_put, exec_aput, exec_ifs, exec_for_, exec_whl, exec_ret, exec_retn, exec_brk, exec_cnt, exec_pass, exec_close, evs_nil, evs_cons, evo_none, evo_some, evc_none, evc_some, execs_nil, execs_cons, nxt_nx, nxt_rt, nxt_bk, nxt_ct, List.length_cons, List.length_nil, List.map_cons, List.map_nil, bnd_r, lift_ret, Env.read, Env.keep, Sl.read, Sl.keep, List.cons_append, List.nil_append, List.getElem?_cons_zero, List.getElem?_cons_succ, List.set_cons_zero, List.set_cons_succ, bindT, bindTs, closeS, ownS, keepP, if_true, if_false, ↓reduceIte, Bool.false_eq_true, Nat.reduceAdd, Nat.reduceSub, List.replicate_succ, List.replicate_zero, boolD_b, intD_i, isN_none, isN_int, isN_bool, isN_str, isN_tup, isN_lst, Bool.not_true, Bool.not_false, augD, add_int, sub_int, mul_int, fdiv_int, mod_int, mul_str, add_str, add_tup, add_lst, mul_lst, eq_int, ne_int, lt_int, gt_int, le_int, ge_int, eq_str, ne_str, len_str, len_lst, len_tup, abs_int, int_int, int_bool, min2_int, max2_int, tuple_lst, tuple_tup, list_lst, list_tup, slc_str, slc_lst, slc_tup, repS_one, repL_one, idx_t0, idx_t1, idx_t2, idx_l0, rg1_if, rg2_if, eq_self_str, eqv_bool, eq_nil, wipeE, isiD, lcS_v, forS_v, forS_t, lcS_t, app_if, ext_if, en_str, en_lst, items_str, items_lst, items_tup, Int.toNat_natCast, ev_lc2, lcS2_v, lcS2_t, tgV, tgVs, ev_rev, ev_itl, evI_rg3, rg3_if, List.append_nil, hideE, hideS, List.map_append, ne, idx_neg1, getP, h, decide_true, List.length_append, l1]
      rw [if_neg (by omega), if_pos (by omega), show (((i.length + 1 : Nat) : Int) + -1).toNat = (i.map encP).length by rw [l1]; omega, set_last]
      rfl
    · try simp -dsimp -implicitDefEqProofs (disch := first | omega | (simp; omega)) only [ev_var, ev_cst, ev_tup, ev_lst, ev_bin, ev_neg, ev_not, ev_and, ev_or, ev_cmp, ev_isN, ev_notN, ev_chn, ev_ite, ev_idx, ev_slc, ev_call, ev_bl, ev_mt, ev_isi, ev_lc, evI_it, evI_rg1, evI_rg2, evI_enum, exec_asg, exec_own, exec_par, exec_aug, exec_app, exec_ext, exec_ins, exec_put, exec_aput, exec_ifs, exec_for_, exec_whl, exec_ret, exec_retn, exec_brk, exec_cnt, exec_pass, exec_close, evs_nil, evs_cons, evo_none, evo_some, evc_none, evc_some, execs_nil, execs_cons, nxt_nx, nxt_rt, nxt_bk, nxt_ct, List.length_cons, List.length_nil, List.map_cons, List.map_nil, bnd_r, lift_ret, Env.read, Env.keep, Sl.read, Sl.keep, List.cons_append, List.nil_append, List.getElem?_cons_zero, List.getElem?_cons_succ, List.set_cons_zero, List.set_cons_succ, bindT, bindTs, closeS, ownS, keepP, if_true, if_false, ↓reduceIte, Bool.false_eq_true, Nat.reduceAdd, Nat.reduceSub, List.replicate_succ, List.replicate_zero, boolD_b, intD_i, isN_none, isN_int, isN_bool, isN_str, isN_tup, isN_lst, Bool.not_true, Bool.not_false, augD, add_int, sub_int, mul_int, fdiv_int, mod_int, mul_str, add_str, add_tup, add_lst, mul_lst, eq_int, ne_int, lt_int, gt_int, le_int, ge_int, eq_str, ne_str, len_str, len_lst, len_tup, abs_int, int_int, int_bool, min2_int, max2_int, tuple_lst, tuple_tup, list_lst, list_tup, slc_str, slc_lst, slc_tup, repS_one, repL_one, idx_t0, idx_t1, idx_t2, idx_l0, rg1_if, rg2_if, eq_self_str, eqv_bool, eq_nil, wipeE, isiD, lcS_v, forS_v, forS_t, lcS_t, app_if, ext_if, en_str, en_lst, items_str, items_lst, items_tup, Int.toNat_natCast, ev_lc2, lcS2_v, lcS2_t, tgV, tgVs, ev_rev, ev_itl, evI_rg3, rg3_if, List.append_nil, hideE, hideS, List.map_append, ne, idx_neg1, getP, h, decide_false, List.length_append, l1]
theorem lstep_join {s0 : Sl} {g : Int} {l : List Pr} {p : Pr} (hl : l.length ≤ 1000) : execs C b__law_joined_1 [s0, .cl (.int g), .ol (l.map encP), .cl (.int p.1), .cl (.int p.2)] = ret (.nx [s0, .cl (.int g), .ol ((stepJ g l p).map encP), .cl (.int p.1), .cl (.int p.2)]) := by
  unfold b__law_joined_1
  rcases snoc_or l with rfl | ⟨i, q, rfl⟩
  · try simp -dsimp -implicitDefEqProofs (disch := first | omega | (simp; omega)) only [ev_var, ev_cst, ev_tup, ev_lst, ev_bin, ev_neg, ev_not, ev_and, ev_or, ev_cmp, ev_isN, ev_notN, ev_chn, ev_ite, ev_idx, ev_slc, ev_call, ev_bl, ev_mt, ev_isi, ev_lc, evI_it, evI_rg1, evI_rg2, evI_enum, exec_asg, exec_own, exec_par, exec_aug, exec_app, exec_ext, exec_ins, exec_put, exec_aput, exec_ifs, exec_for_, exec_whl, exec_ret, exec_retn, exec_brk, exec_cnt, exec_pass, exec_close, evs_nil, evs_cons, evo_none, evo_some, evc_none, evc_some, execs_nil, execs_cons, nxt_nx, nxt_rt, nxt_bk, nxt_ct, List.length_cons, List.length_nil, List.map_cons, List.map_nil, bnd_r, lift_ret, Env.read, Env.keep, Sl.read, Sl.keep, List.cons_append, List.nil_append, List.getElem?_cons_zero, List.getElem?_cons_succ, List.set_cons_zero, List.set_cons_succ, bindT, bindTs, closeS, ownS, keepP, if_true, if_false, ↓reduceIte, Bool.false_eq_true, Nat.reduceAdd, Nat.reduceSub, List.replicate_succ, List.replicate_zero, boolD_b, intD_i, isN_none, isN_int, isN_bool, isN_str, isN_tup, isN_lst, Bool.not_true, Bool.not_false, augD, add_int, sub_int, mul_int, fdiv_int, mod_int, mul_str, add_str, add_tup, add_lst, mul_lst, eq_int, ne_int, lt_int, gt_int, le_int, ge_int, eq_str, ne_str, len_str, len_lst, len_tup, abs_int, int_int, int_bool, min2_int, max2_int, tuple_lst, tuple_tup, list_lst, list_tup, slc_str, slc_lst, slc_tup, repS_one, repL_one, idx_t0, idx_t1, idx_t2, idx_l0, rg1_if, rg2_if, eq_self_str, eqv_bool, eq_nil, wipeE, isiD, lcS_v, forS_v, forS_t, lcS_t, app_if, ext_if, en_str, en_lst, items_str, items_lst, items_tup, Int.toNat_natCast, ev_lc2, lcS2_v, lcS2_t, tgV, tgVs, ev_rev, ev_itl, evI_rg3, rg3_if, List.append_nil, hideE, hideS, stepJ_nil, show cmpD .ne (.list []) (.list []) = some (.bool false) from rfl, getP]
  · rw [stepJ_snoc]
    have ne : cmpD .ne (.list (i.map encP ++ [.tuple [.int q.1, .int q.2]])) (.list []) = some (.bool true) := ne_snoc
    have l1 : (i.map encP).length = i.length := List.length_map _
    have l2 : i.length < 1000 := by simp at hl; omega
    have l3 : ((i.length + 1 : Nat) : Int) - 1 = (i.map encP).length := by rw [l1]; omega
    by_cases h : p.1 - q.2 ≤ g
    · try simp -dsimp -implicitDefEqProofs (disch := first | omega | (simp; omega)) only [ev_var, ev_cst, ev_tup, ev_lst, ev_bin, ev_neg, ev_not, ev_and, ev_or, ev_cmp, ev_isN, ev_notN, ev_chn, ev_ite, ev_idx, ev_slc, ev_call, ev_bl, ev_mt, ev_isi, ev_lc, evI_it, evI_rg1, evI_rg2, evI_enum, exec_asg, exec_own, exec_par, exec_aug, exec_app, exec_ext, exec_ins, exec_put, exec_aput, exec_ifs, exec_for_, exec_whl, exec_ret, exec_retn, exec_brk, exec_cnt, exec_pass, exec_close, evs_nil, evs_cons, evo_none, evo_some, evc_none, evc_some, execs_nil, execs_cons, nxt_nx, nxt_rt, nxt_bk, nxt_ct, List.length_cons, List.length_nil, List.map_cons, List.map_nil, bnd_r, lift_ret, Env.read, Env.keep, Sl.read, Sl.keep, List.cons_append, List.nil_append, List.getElem?_cons_zero, List.getElem?_cons_succ, List.set_cons_zero, List.set_cons_succ, bindT, bindTs, closeS, ownS, keepP, if_true, if_false, ↓reduceIte, Bool.false_eq_true, Nat.reduceAdd, Nat.reduceSub, List.replicate_succ, List.replicate_zero, boolD_b, intD_i, isN_none, isN_int, isN_bool, isN_str, isN_tup, isN_lst, Bool.not_true, Bool.not_false, augD, add_int, sub_int, mul_int, fdiv_int, mod_int, mul_str, add_str, add_tup, add_lst, mul_lst, eq_int, ne_int, lt_int, gt_int, le_int, ge_int, eq_str, ne_str, len_str, len_lst, len_tup, abs_int, int_int, int_bool, min2_int, max2_int, tuple_lst, tuple_tup, list_lst, list_tup, slc_str, slc_lst, slc_tup, repS_one, repL_one, idx_t0, idx_t1, idx_t2, idx_l0, rg1_if, rg2_if, eq_self_str, eqv_bool, eq_nil, wipeE, isiD, lcS_v, forS_v, forS_t, lcS_t, app_if, ext_if, en_str, en_lst, items_str, items_lst, items_tup, Int.toNat_natCast, ev_lc2, lcS2_v, lcS2_t, tgV, tgVs, ev_rev, ev_itl, evI_rg3, rg3_if, List.append_nil, hideE, hideS, List.map_append, ne, idx_lastL l3, getP, h, decide_true, List.length_append, l1]
      rw [if_pos (by omega), show (((i.length + 1 : Nat) : Int) - 1).toNat = (i.map encP).length by rw [l1]; omega, set_last]
      rfl
    · try simp -dsimp -implicitDefEqProofs (disch := first | omega | (simp; omega)) only [ev_var, ev_cst, ev_tup, ev_lst, ev_bin, ev_neg, ev_not, ev_and, ev_or, ev_cmp, ev_isN, ev_notN, ev_chn, ev_ite, ev_idx, ev_slc, ev_call, ev_bl, ev_mt, ev_isi, ev_lc, evI_it, evI_rg1, evI_rg2, evI_enum, exec_asg, exec_own, exec_par, exec_aug, exec_app, exec_ext, exec_ins, exec_put, exec_aput, exec_ifs, exec_for_, exec_whl, exec_ret, exec_retn, exec_brk, exec_cnt, exec_pass, exec_close, evs_nil, evs_cons, evo_none, evo_some, evc_none, evc_some, execs_nil, execs_cons, nxt_nx, nxt_rt, nxt_bk, nxt_ct, List.length_cons, List.length_nil, List.map_cons, List.map_nil, bnd_r, lift_ret, Env.read, Env.keep, Sl.read, Sl.keep, List.cons_append, List.nil_append, List.getElem?_cons_zero, List.getElem?_cons_succ, List.set_cons_zero, List.set_cons_succ, bindT, bindTs, closeS, ownS, keepP, if_true, if_false, ↓reduceIte, Bool.false_eq_true, Nat.reduceAdd, Nat.reduceSub, List.replicate_succ, List.replicate_zero, boolD_b, intD_i, isN_none, isN_int, isN_bool, isN_str, isN_tup, isN_lst, Bool.not_true, Bool.not_false, augD, add_int, sub_int, mul_int, fdiv_int, mod_int, mul_str, add_str, add_tup, add_lst, mul_lst, eq_int, ne_int, lt_int, gt_int, le_int, ge_int, eq_str, ne_str, len_str, len_lst, len_tup, abs_int, int_int, int_bool, min2_int, max2_int, tuple_lst, tuple_tup, list_lst, list_tup, slc_str, slc_lst, slc_tup, repS_one, repL_one, idx_t0, idx_t1, idx_t2, idx_l0, rg1_if, rg2_if, eq_self_str, eqv_bool, eq_nil, wipeE, isiD, lcS_v, forS_v, forS_t, lcS_t, app_if, ext_if, en_str, en_lst, items_str, items_lst, items_tup, Int.toNat_natCast, ev_lc2, lcS2_v, lcS2_t, tgV, tgVs, ev_rev, ev_itl, evI_rg3, rg3_if, List.append_nil, hideE, hideS, List.map_append, ne, idx_lastL l3, getP, h, decide_false, List.length_append, l1]
theorem join_eq {rs : List Pr} {g : Int} (hl : rs.length ≤ 100) : cal T (k + 1) f_joined_runs [.tuple (rs.map encP), .int g] = ret (.tuple ((joinI g rs).map encP)) := by
  rw [cal_at (show T[f_joined_runs]? = some ⟨2, 5, b_joined_runs⟩ from rfl)]
  unfold runF b_joined_runs
  try simp -dsimp -implicitDefEqProofs (disch := first | omega | (simp; omega)) only [ev_var, ev_cst, ev_tup, ev_lst, ev_bin, ev_neg, ev_not, ev_and, ev_or, ev_cmp, ev_isN, ev_notN, ev_chn, ev_ite, ev_idx, ev_slc, ev_call, ev_bl, ev_mt, ev_isi, ev_lc, evI_it, evI_rg1, evI_rg2, evI_enum, exec_asg, exec_own, exec_par, exec_aug, exec_app, exec_ext, exec_ins, exec_put, exec_aput, exec_ifs, exec_for_, exec_whl, exec_ret, exec_retn, exec_brk, exec_cnt, exec_pass, exec_close, evs_nil, evs_cons, evo_none, evo_some, evc_none, evc_some, execs_nil, execs_cons, nxt_nx, nxt_rt, nxt_bk, nxt_ct, List.length_cons, List.length_nil, List.map_cons, List.map_nil, bnd_r, lift_ret, Env.read, Env.keep, Sl.read, Sl.keep, List.cons_append, List.nil_append, List.getElem?_cons_zero, List.getElem?_cons_succ, List.set_cons_zero, List.set_cons_succ, bindT, bindTs, closeS, ownS, keepP, if_true, if_false, ↓reduceIte, Bool.false_eq_true, Nat.reduceAdd, Nat.reduceSub, List.replicate_succ, List.replicate_zero, boolD_b, intD_i, isN_none, isN_int, isN_bool, isN_str, isN_tup, isN_lst, Bool.not_true, Bool.not_false, augD, add_int, sub_int, mul_int, fdiv_int, mod_int, mul_str, add_str, add_tup, add_lst, mul_lst, eq_int, ne_int, lt_int, gt_int, le_int, ge_int, eq_str, ne_str, len_str, len_lst, len_tup, abs_int, int_int, int_bool, min2_int, max2_int, tuple_lst, tuple_tup, list_lst, list_tup, slc_str, slc_lst, slc_tup, repS_one, repL_one, idx_t0, idx_t1, idx_t2, idx_l0, rg1_if, rg2_if, eq_self_str, eqv_bool, eq_nil, wipeE, isiD, lcS_v, forS_v, forS_t, lcS_t, app_if, ext_if, en_str, en_lst, items_str, items_lst, items_tup, Int.toNat_natCast, ev_lc2, lcS2_v, lcS2_t, tgV, tgVs, ev_rev, ev_itl, evI_rg3, rg3_if, List.append_nil, hideE, hideS]
  obtain ⟨σ', h1, s3, s4, rfl, _⟩ := forL_nx (step := forS (cal T k) (.t [.v 3, .v 4]) b_joined_runs_1) (fun j σ => ∃ s3 s4, σ = [.cl (.tuple (rs.map encP)), .cl (.int g), .ol ((joinI g (rs.take j)).map encP), s3, s4] ∧ j ≤ rs.length)
    (ds := rs.map encP) (σ := [.cl (.tuple (rs.map encP)), .cl (.int g), .ol [], .un, .un]) ⟨_, _, rfl, by omega⟩ fun j e σ hj hI => by
      obtain ⟨s3, s4, rfl, hj2⟩ := hI
      rw [List.getElem?_map] at hj
      obtain ⟨p, e1, rfl⟩ := Option.map_eq_some_iff.mp hj
      have hjl := (List.getElem?_eq_some_iff.mp e1).1
      have hr := joinI_len g (rs.take j)
      rw [List.length_take] at hr
      refine ⟨[.cl (.tuple (rs.map encP)), .cl (.int g), .ol ((joinI g (rs.take (j + 1))).map encP), .cl (.int p.1), .cl (.int p.2)], .inl ?_, _, _, rfl, by omega⟩
      rw [getP, forS_t (σ1 := [.cl (.tuple (rs.map encP)), .cl (.int g), .ol ((joinI g (rs.take j)).map encP), .cl (.int p.1), .cl (.int p.2)]) rfl, runs_snoc' e1, joinI_snoc]
      exact step_join (by omega)
  rw [h1, List.length_map, List.take_length]
  try simp -dsimp -implicitDefEqProofs (disch := first | omega | (simp; omega)) only [ev_var, ev_cst, ev_tup, ev_lst, ev_bin, ev_neg, ev_not, ev_and, ev_or, ev_cmp, ev_isN, ev_notN, ev_chn, ev_ite, ev_idx, ev_slc, ev_call, ev_bl, ev_mt, ev_isi, ev_lc, evI_it, evI_rg1, evI_rg2, evI_enum, exec_asg, exec_own, exec_par, exec_aug, exec_app, exec_ext, exec_ins, exec_put, exec_aput, exec_ifs, exec_for_, exec_whl, exec_ret, exec_retn, exec_brk, exec_cnt, exec_pass, exec_close, evs_nil, evs_cons, evo_none, evo_some, evc_none, evc_some, execs_nil, execs_cons, nxt_nx, nxt_rt, nxt_bk, nxt_ct, List.length_cons, List.length_nil, List.map_cons, List.map_nil, bnd_r, lift_ret, Env.read, Env.keep, Sl.read, Sl.keep, List.cons_append, List.nil_append, List.getElem?_cons_zero, List.getElem?_cons_succ, List.set_cons_zero, List.set_cons_succ, bindT, bindTs, closeS, ownS, keepP, if_true, if_false, ↓reduceIte, Bool.false_eq_true, Nat.reduceAdd, Nat.reduceSub, List.replicate_succ, List.replicate_zero, boolD_b, intD_i, isN_none, isN_int, isN_bool, isN_str, isN_tup, isN_lst, Bool.not_true, Bool.not_false, augD, add_int, sub_int, mul_int, fdiv_int, mod_int, mul_str, add_str, add_tup, add_lst, mul_lst, eq_int, ne_int, lt_int, gt_int, le_int, ge_int, eq_str, ne_str, len_str, len_lst, len_tup, abs_int, int_int, int_bool, min2_int, max2_int, tuple_lst, tuple_tup, list_lst, list_tup, slc_str, slc_lst, slc_tup, repS_one, repL_one, idx_t0, idx_t1, idx_t2, idx_l0, rg1_if, rg2_if, eq_self_str, eqv_bool, eq_nil, wipeE, isiD, lcS_v, forS_v, forS_t, lcS_t, app_if, ext_if, en_str, en_lst, items_str, items_lst, items_tup, Int.toNat_natCast, ev_lc2, lcS2_v, lcS2_t, tgV, tgVs, ev_rev, ev_itl, evI_rg3, rg3_if, List.append_nil, hideE, hideS]
theorem ljoin_eq {rs : List Pr} {g : Int} (hl : rs.length ≤ 100) : cal T (k + 1) f__law_joined [.list (rs.map encP), .int g] = ret (.list ((joinI g rs).map encP)) := by
  rw [cal_at (show T[f__law_joined]? = some ⟨2, 5, b__law_joined⟩ from rfl)]
  unfold runF b__law_joined
  try simp -dsimp -implicitDefEqProofs (disch := first | omega | (simp; omega)) only [ev_var, ev_cst, ev_tup, ev_lst, ev_bin, ev_neg, ev_not, ev_and, ev_or, ev_cmp, ev_isN, ev_notN, ev_chn, ev_ite, ev_idx, ev_slc, ev_call, ev_bl, ev_mt, ev_isi, ev_lc, evI_it, evI_rg1, evI_rg2, evI_enum, exec_asg, exec_own, exec_par, exec_aug, exec_app, exec_ext, exec_ins, exec_put, exec_aput, exec_ifs, exec_for_, exec_whl, exec_ret, exec_retn, exec_brk, exec_cnt, exec_pass, exec_close, evs_nil, evs_cons, evo_none, evo_some, evc_none, evc_some, execs_nil, execs_cons, nxt_nx, nxt_rt, nxt_bk, nxt_ct, List.length_cons, List.length_nil, List.map_cons, List.map_nil, bnd_r, lift_ret, Env.read, Env.keep, Sl.read, Sl.keep, List.cons_append, List.nil_append, List.getElem?_cons_zero, List.getElem?_cons_succ, List.set_cons_zero, List.set_cons_succ, bindT, bindTs, closeS, ownS, keepP, if_true, if_false, ↓reduceIte, Bool.false_eq_true, Nat.reduceAdd, Nat.reduceSub, List.replicate_succ, List.replicate_zero, boolD_b, intD_i, isN_none, isN_int, isN_bool, isN_str, isN_tup, isN_lst, Bool.not_true, Bool.not_false, augD, add_int, sub_int, mul_int, fdiv_int, mod_int, mul_str, add_str, add_tup, add_lst, mul_lst, eq_int, ne_int, lt_int, gt_int, le_int, ge_int, eq_str, ne_str, len_str, len_lst, len_tup, abs_int, int_int, int_bool, min2_int, max2_int, tuple_lst, tuple_tup, list_lst, list_tup, slc_str, slc_lst, slc_tup, repS_one, repL_one, idx_t0, idx_t1, idx_t2, idx_l0, rg1_if, rg2_if, eq_self_str, eqv_bool, eq_nil, wipeE, isiD, lcS_v, forS_v, forS_t, lcS_t, app_if, ext_if, en_str, en_lst, items_str, items_lst, items_tup, Int.toNat_natCast, ev_lc2, lcS2_v, lcS2_t, tgV, tgVs, ev_rev, ev_itl, evI_rg3, rg3_if, List.append_nil, hideE, hideS]
  obtain ⟨σ', h1, s3, s4, rfl, _⟩ := forL_nx (step := forS (cal T k) (.t [.v 3, .v 4]) b__law_joined_1) (fun j σ => ∃ s3 s4, σ = [.cl (.list (rs.map encP)), .cl (.int g), .ol ((joinI g (rs.take j)).map encP), s3, s4] ∧ j ≤ rs.length)
    (ds := rs.map encP) (σ := [.cl (.list (rs.map encP)), .cl (.int g), .ol [], .un, .un]) ⟨_, _, rfl, by omega⟩ fun j e σ hj hI => by
      obtain ⟨s3, s4, rfl, hj2⟩ := hI
      rw [List.getElem?_map] at hj
      obtain ⟨p, e1, rfl⟩ := Option.map_eq_some_iff.mp hj
      have hjl := (List.getElem?_eq_some_iff.mp e1).1
      have hr := joinI_len g (rs.take j)
      rw [List.length_take] at hr
      refine ⟨[.cl (.list (rs.map encP)), .cl (.int g), .ol ((joinI g (rs.take (j + 1))).map encP), .cl (.int p.1), .cl (.int p.2)], .inl ?_, _, _, rfl, by omega⟩
      rw [getP, forS_t (σ1 := [.cl (.list (rs.map encP)), .cl (.int g), .ol ((joinI g (rs.take j)).map encP), .cl (.int p.1), .cl (.int p.2)]) rfl, runs_snoc' e1, joinI_snoc]
      exact lstep_join (by omega)
  rw [h1, List.length_map, List.take_length]
  try simp -dsimp -implicitDefEqProofs (disch := first | omega | (simp; omega)) only [ev_var, ev_cst, ev_tup, ev_lst, ev_bin, ev_neg, ev_not, ev_and, ev_or, ev_cmp, ev_isN, ev_notN, ev_chn, ev_ite, ev_idx, ev_slc, ev_call, ev_bl, ev_mt, ev_isi, ev_lc, evI_it, evI_rg1, evI_rg2, evI_enum, exec_asg, exec_own, exec_par, exec_aug, exec_app, exec_ext, exec_ins, exec_put, exec_aput, exec_ifs, exec_for_, exec_whl, exec_ret, exec_retn, exec_brk, exec_cnt, exec_pass, exec_close, evs_nil, evs_cons, evo_none, evo_some, evc_none, evc_some, execs_nil, execs_cons, nxt_nx, nxt_rt, nxt_bk, nxt_ct, List.length_cons, List.length_nil, List.map_cons, List.map_nil, bnd_r, lift_ret, Env.read, Env.keep, Sl.read, Sl.keep, List.cons_append, List.nil_append, List.getElem?_cons_zero, List.getElem?_cons_succ, List.set_cons_zero, List.set_cons_succ, bindT, bindTs, closeS, ownS, keepP, if_true, if_false, ↓reduceIte, Bool.false_eq_true, Nat.reduceAdd, Nat.reduceSub, List.replicate_succ, List.replicate_zero, boolD_b, intD_i, isN_none, isN_int, isN_bool, isN_str, isN_tup, isN_lst, Bool.not_true, Bool.not_false, augD, add_int, sub_int, mul_int, fdiv_int, mod_int, mul_str, add_str, add_tup, add_lst, mul_lst, eq_int, ne_int, lt_int, gt_int, le_int, ge_int, eq_str, ne_str, len_str, len_lst, len_tup, abs_int, int_int, int_bool, min2_int, max2_int, tuple_lst, tuple_tup, list_lst, list_tup, slc_str, slc_lst, slc_tup, repS_one, repL_one, idx_t0, idx_t1, idx_t2, idx_l0, rg1_if, rg2_if, eq_self_str, eqv_bool, eq_nil, wipeE, isiD, lcS_v, forS_v, forS_t, lcS_t, app_if, ext_if, en_str, en_lst, items_str, items_lst, items_tup, Int.toNat_natCast, ev_lc2, lcS2_v, lcS2_t, tgV, tgVs, ev_rev, ev_itl, evI_rg3, rg3_if, List.append_nil, hideE, hideS]
/-! long ones -/
def longI (least : Int) (rs : List Pr) : List Pr := rs.filter fun p => decide (least ≤ p.2 - p.1)
theorem lc_P {own : List Nat} {i j : Nat} {c e : Tm} {σ : Env} {rs : List Pr} {f : Pr → Bool} (hc : ∀ p ∈ rs, evc C (some c) (((wipeE σ own).set i (.cl (.int p.1))).set j (.cl (.int p.2))) = ret (f p)) (he : ∀ p : Pr, ev C false e (((wipeE σ own).set i (.cl (.int p.1))).set j (.cl (.int p.2))) = ret (encP p)) :
    lcL (lcS C own (.t [.v i, .v j]) (some c) e σ) (rs.map encP) = ret ((rs.filter f).map encP) := by
  rw [lcL_fil encP f encP fun p hp => ?_]
  rw [getP, lcS_t (σ1 := ((wipeE σ own).set i (.cl (.int p.1))).set j (.cl (.int p.2))) rfl, hc p hp, bnd_r, he p, bnd_r, ret_ite, getP]
/-- the same, a pair by one name -/
theorem lc_P1 {own : List Nat} {i : Nat} {c e : Tm} {σ : Env} {rs : List Pr} {f : Pr → Bool} (hc : ∀ p ∈ rs, evc C (some c) ((wipeE σ own).set i (.cl (.tuple [.int p.1, .int p.2]))) = ret (f p)) (he : ∀ d : D, ev C false e ((wipeE σ own).set i (.cl d)) = ret d) :
    lcL (lcS C own (.v i) (some c) e σ) (rs.map encP) = ret ((rs.filter f).map encP) := by
  rw [lcL_fil encP f encP fun p hp => ?_]
  rw [getP, lcS_v, hc p hp, bnd_r, he, bnd_r, ret_ite]
theorem long_eq {rs : List Pr} {least : Int} : cal T (k + 1) f_long_runs [.tuple (rs.map encP), .int least] = ret (.tuple ((longI least rs).map encP)) := by
  rw [cal_at (show T[f_long_runs]? = some ⟨2, 4, b_long_runs⟩ from rfl)]
  unfold runF b_long_runs
  try simp -dsimp -implicitDefEqProofs (disch := first | omega | (simp; omega)) only [ev_var, ev_cst, ev_tup, ev_lst, ev_bin, ev_neg, ev_not, ev_and, ev_or, ev_cmp, ev_isN, ev_notN, ev_chn, ev_ite, ev_idx, ev_slc, ev_call, ev_bl, ev_mt, ev_isi, ev_lc, evI_it, evI_rg1, evI_rg2, evI_enum, exec_asg, exec_own, exec_par, exec_aug, exec_app, exec_ext, exec_ins, exec_put, exec_aput, exec_ifs, exec_for_, exec_whl, exec_ret, exec_retn, exec_brk, exec_cnt, exec_pass, exec_close, evs_nil, evs_cons, evo_none, evo_some, evc_none, evc_some, execs_nil, execs_cons, nxt_nx, nxt_rt, nxt_bk, nxt_ct, List.length_cons, List.length_nil, List.map_cons, List.map_nil, bnd_r, lift_ret, Env.read, Env.keep, Sl.read, Sl.keep, List.cons_append, List.nil_append, List.getElem?_cons_zero, List.getElem?_cons_succ, List.set_cons_zero, List.set_cons_succ, bindT, bindTs, closeS, ownS, keepP, if_true, if_false, ↓reduceIte, Bool.false_eq_true, Nat.reduceAdd, Nat.reduceSub, List.replicate_succ, List.replicate_zero, boolD_b, intD_i, isN_none, isN_int, isN_bool, isN_str, isN_tup, isN_lst, Bool.not_true, Bool.not_false, augD, add_int, sub_int, mul_int, fdiv_int, mod_int, mul_str, add_str, add_tup, add_lst, mul_lst, eq_int, ne_int, lt_int, gt_int, le_int, ge_int, eq_str, ne_str, len_str, len_lst, len_tup, abs_int, int_int, int_bool, min2_int, max2_int, tuple_lst, tuple_tup, list_lst, list_tup, slc_str, slc_lst, slc_tup, repS_one, repL_one, idx_t0, idx_t1, idx_t2, idx_l0, rg1_if, rg2_if, eq_self_str, eqv_bool, eq_nil, wipeE, isiD, lcS_v, forS_v, forS_t, lcS_t, app_if, ext_if, en_str, en_lst, items_str, items_lst, items_tup, Int.toNat_natCast, ev_lc2, lcS2_v, lcS2_t, tgV, tgVs, ev_rev, ev_itl, evI_rg3, rg3_if, List.append_nil, hideE, hideS]
  rw [lc_P (f := fun p => decide (least ≤ p.2 - p.1)) (fun p hp => by
    unfold c_long_runs_2
    try simp -dsimp -implicitDefEqProofs (disch := first | omega | (simp; omega)) only [ev_var, ev_cst, ev_tup, ev_lst, ev_bin, ev_neg, ev_not, ev_and, ev_or, ev_cmp, ev_isN, ev_notN, ev_chn, ev_ite, ev_idx, ev_slc, ev_call, ev_bl, ev_mt, ev_isi, ev_lc, evI_it, evI_rg1, evI_rg2, evI_enum, exec_asg, exec_own, exec_par, exec_aug, exec_app, exec_ext, exec_ins, exec_put, exec_aput, exec_ifs, exec_for_, exec_whl, exec_ret, exec_retn, exec_brk, exec_cnt, exec_pass, exec_close, evs_nil, evs_cons, evo_none, evo_some, evc_none, evc_some, execs_nil, execs_cons, nxt_nx, nxt_rt, nxt_bk, nxt_ct, List.length_cons, List.length_nil, List.map_cons, List.map_nil, bnd_r, lift_ret, Env.read, Env.keep, Sl.read, Sl.keep, List.cons_append, List.nil_append, List.getElem?_cons_zero, List.getElem?_cons_succ, List.set_cons_zero, List.set_cons_succ, bindT, bindTs, closeS, ownS, keepP, if_true, if_false, ↓reduceIte, Bool.false_eq_true, Nat.reduceAdd, Nat.reduceSub, List.replicate_succ, List.replicate_zero, boolD_b, intD_i, isN_none, isN_int, isN_bool, isN_str, isN_tup, isN_lst, Bool.not_true, Bool.not_false, augD, add_int, sub_int, mul_int, fdiv_int, mod_int, mul_str, add_str, add_tup, add_lst, mul_lst, eq_int, ne_int, lt_int, gt_int, le_int, ge_int, eq_str, ne_str, len_str, len_lst, len_tup, abs_int, int_int, int_bool, min2_int, max2_int, tuple_lst, tuple_tup, list_lst, list_tup, slc_str, slc_lst, slc_tup, repS_one, repL_one, idx_t0, idx_t1, idx_t2, idx_l0, rg1_if, rg2_if, eq_self_str, eqv_bool, eq_nil, wipeE, isiD, lcS_v, forS_v, forS_t, lcS_t, app_if, ext_if, en_str, en_lst, items_str, items_lst, items_tup, Int.toNat_natCast, ev_lc2, lcS2_v, lcS2_t, tgV, tgVs, ev_rev, ev_itl, evI_rg3, rg3_if, List.append_nil, hideE, hideS]) (fun p => by
    unfold e_long_runs_1
    try simp -dsimp -implicitDefEqProofs (disch := first | omega | (simp; omega)) only [ev_var, ev_cst, ev_tup, ev_lst, ev_bin, ev_neg, ev_not, ev_and, ev_or, ev_cmp, ev_isN, ev_notN, ev_chn, ev_ite, ev_idx, ev_slc, ev_call, ev_bl, ev_mt, ev_isi, ev_lc, evI_it, evI_rg1, evI_rg2, evI_enum, exec_asg, exec_own, exec_par, exec_aug, exec_app, exec_ext, exec_ins, exec_put, exec_aput, exec_ifs, exec_for_, exec_whl, exec_ret, exec_retn, exec_brk, exec_cnt, exec_pass, exec_close, evs_nil, evs_cons, evo_none, evo_some, evc_none, evc_some, execs_nil, execs_cons, nxt_nx, nxt_rt, nxt_bk, nxt_ct, List.length_cons, List.length_nil, List.map_cons, List.map_nil, bnd_r, lift_ret, Env.read, Env.keep, Sl.read, Sl.keep, List.cons_append, List.nil_append, List.getElem?_cons_zero, List.getElem?_cons_succ, List.set_cons_zero, List.set_cons_succ, bindT, bindTs, closeS, ownS, keepP, if_true, if_false, ↓reduceIte, Bool.false_eq_true, Nat.reduceAdd, Nat.reduceSub, List.replicate_succ, List.replicate_zero, boolD_b, intD_i, isN_none, isN_int, isN_bool, isN_str, isN_tup, isN_lst, Bool.not_true, Bool.not_false, augD, add_int, sub_int, mul_int, fdiv_int, mod_int, mul_str, add_str, add_tup, add_lst, mul_lst, eq_int, ne_int, lt_int, gt_int, le_int, ge_int, eq_str, ne_str, len_str, len_lst, len_tup, abs_int, int_int, int_bool, min2_int, max2_int, tuple_lst, tuple_tup, list_lst, list_tup, slc_str, slc_lst, slc_tup, repS_one, repL_one, idx_t0, idx_t1, idx_t2, idx_l0, rg1_if, rg2_if, eq_self_str, eqv_bool, eq_nil, wipeE, isiD, lcS_v, forS_v, forS_t, lcS_t, app_if, ext_if, en_str, en_lst, items_str, items_lst, items_tup, Int.toNat_natCast, ev_lc2, lcS2_v, lcS2_t, tgV, tgVs, ev_rev, ev_itl, evI_rg3, rg3_if, List.append_nil, hideE, hideS, getP])]
  try simp -dsimp -implicitDefEqProofs (disch := first | omega | (simp; omega)) only [ev_var, ev_cst, ev_tup, ev_lst, ev_bin, ev_neg, ev_not, ev_and, ev_or, ev_cmp, ev_isN, ev_notN, ev_chn, ev_ite, ev_idx, ev_slc, ev_call, ev_bl, ev_mt, ev_isi, ev_lc, evI_it, evI_rg1, evI_rg2, evI_enum, exec_asg, exec_own, exec_par, exec_aug, exec_app, exec_ext, exec_ins, exec_put, exec_aput, exec_ifs, exec_for_, exec_whl, exec_ret, exec_retn, exec_brk, exec_cnt, exec_pass, exec_close, evs_nil, evs_cons, evo_none, evo_some, evc_none, evc_some, execs_nil, execs_cons, nxt_nx, nxt_rt, nxt_bk, nxt_ct, List.length_cons, List.length_nil, List.map_cons, List.map_nil, bnd_r, lift_ret, Env.read, Env.keep, Sl.read, Sl.keep, List.cons_append, List.nil_append, List.getElem?_cons_zero, List.getElem?_cons_succ, List.set_cons_zero, List.set_cons_succ, bindT, bindTs, closeS, ownS, keepP, if_true, if_false, ↓reduceIte, Bool.false_eq_true, Nat.reduceAdd, Nat.reduceSub, List.replicate_succ, List.replicate_zero, boolD_b, intD_i, isN_none, isN_int, isN_bool, isN_str, isN_tup, isN_lst, Bool.not_true, Bool.not_false, augD, add_int, sub_int, mul_int, fdiv_int, mod_int, mul_str, add_str, add_tup, add_lst, mul_lst, eq_int, ne_int, lt_int, gt_int, le_int, ge_int, eq_str, ne_str, len_str, len_lst, len_tup, abs_int, int_int, int_bool, min2_int, max2_int, tuple_lst, tuple_tup, list_lst, list_tup, slc_str, slc_lst, slc_tup, repS_one, repL_one, idx_t0, idx_t1, idx_t2, idx_l0, rg1_if, rg2_if, eq_self_str, eqv_bool, eq_nil, wipeE, isiD, lcS_v, forS_v, forS_t, lcS_t, app_if, ext_if, en_str, en_lst, items_str, items_lst, items_tup, Int.toNat_natCast, ev_lc2, lcS2_v, lcS2_t, tgV, tgVs, ev_rev, ev_itl, evI_rg3, rg3_if, List.append_nil, hideE, hideS]
  rfl
theorem speech_eq {row : List Int} {lv g least : Int} (hl : row.length ≤ 20) : cal T (k + 3) f_speech_runs [.tuple (row.map .int), .int lv, .int g, .int least] = ret (.tuple ((longI least (joinI g (runsI (loudI row lv)))).map encP)) := by
  rw [cal_at (show T[f_speech_runs]? = some ⟨4, 4, b_speech_runs⟩ from rfl)]
  unfold runF b_speech_runs
  have h1 := loud_len (row := row) (lv := lv)
  have h2 := runsI_len (loudI row lv)
  try simp -dsimp -implicitDefEqProofs (disch := first | omega | (simp; omega)) only [ev_var, ev_cst, ev_tup, ev_lst, ev_bin, ev_neg, ev_not, ev_and, ev_or, ev_cmp, ev_isN, ev_notN, ev_chn, ev_ite, ev_idx, ev_slc, ev_call, ev_bl, ev_mt, ev_isi, ev_lc, evI_it, evI_rg1, evI_rg2, evI_enum, exec_asg, exec_own, exec_par, exec_aug, exec_app, exec_ext, exec_ins, exec_put, exec_aput, exec_ifs, exec_for_, exec_whl, exec_ret, exec_retn, exec_brk, exec_cnt, exec_pass, exec_close, evs_nil, evs_cons, evo_none, evo_some, evc_none, evc_some, execs_nil, execs_cons, nxt_nx, nxt_rt, nxt_bk, nxt_ct, List.length_cons, List.length_nil, List.map_cons, List.map_nil, bnd_r, lift_ret, Env.read, Env.keep, Sl.read, Sl.keep, List.cons_append, List.nil_append, List.getElem?_cons_zero, List.getElem?_cons_succ, List.set_cons_zero, List.set_cons_succ, bindT, bindTs, closeS, ownS, keepP, if_true, if_false, ↓reduceIte, Bool.false_eq_true, Nat.reduceAdd, Nat.reduceSub, List.replicate_succ, List.replicate_zero, boolD_b, intD_i, isN_none, isN_int, isN_bool, isN_str, isN_tup, isN_lst, Bool.not_true, Bool.not_false, augD, add_int, sub_int, mul_int, fdiv_int, mod_int, mul_str, add_str, add_tup, add_lst, mul_lst, eq_int, ne_int, lt_int, gt_int, le_int, ge_int, eq_str, ne_str, len_str, len_lst, len_tup, abs_int, int_int, int_bool, min2_int, max2_int, tuple_lst, tuple_tup, list_lst, list_tup, slc_str, slc_lst, slc_tup, repS_one, repL_one, idx_t0, idx_t1, idx_t2, idx_l0, rg1_if, rg2_if, eq_self_str, eqv_bool, eq_nil, wipeE, isiD, lcS_v, forS_v, forS_t, lcS_t, app_if, ext_if, en_str, en_lst, items_str, items_lst, items_tup, Int.toNat_natCast, ev_lc2, lcS2_v, lcS2_t, tgV, tgVs, ev_rev, ev_itl, evI_rg3, rg3_if, List.append_nil, hideE, hideS, loud_eq hl, join_eq (show (runsI (loudI row lv)).length ≤ 100 by omega), long_eq]
/-! two levels -/
def anyB (row : List Int) (hi : Int) (p : Pr) : Bool := (rgI p.1 p.2).any fun k => decide (hi ≤ row.getD k.toNat 0)
theorem two_eq {row : List Int} {hi lo : Int} (hl : row.length ≤ 20) : cal T (k + 3) f_two_levels [.tuple (row.map .int), .int hi, .int lo] = ret (.tuple (((runsI (loudI row lo)).filter (anyB row hi)).map encP)) := by
  rw [cal_at (show T[f_two_levels]? = some ⟨3, 5, b_two_levels⟩ from rfl)]
  unfold runF b_two_levels
  try simp -dsimp -implicitDefEqProofs (disch := first | omega | (simp; omega)) only [ev_var, ev_cst, ev_tup, ev_lst, ev_bin, ev_neg, ev_not, ev_and, ev_or, ev_cmp, ev_isN, ev_notN, ev_chn, ev_ite, ev_idx, ev_slc, ev_call, ev_bl, ev_mt, ev_isi, ev_lc, evI_it, evI_rg1, evI_rg2, evI_enum, exec_asg, exec_own, exec_par, exec_aug, exec_app, exec_ext, exec_ins, exec_put, exec_aput, exec_ifs, exec_for_, exec_whl, exec_ret, exec_retn, exec_brk, exec_cnt, exec_pass, exec_close, evs_nil, evs_cons, evo_none, evo_some, evc_none, evc_some, execs_nil, execs_cons, nxt_nx, nxt_rt, nxt_bk, nxt_ct, List.length_cons, List.length_nil, List.map_cons, List.map_nil, bnd_r, lift_ret, Env.read, Env.keep, Sl.read, Sl.keep, List.cons_append, List.nil_append, List.getElem?_cons_zero, List.getElem?_cons_succ, List.set_cons_zero, List.set_cons_succ, bindT, bindTs, closeS, ownS, keepP, if_true, if_false, ↓reduceIte, Bool.false_eq_true, Nat.reduceAdd, Nat.reduceSub, List.replicate_succ, List.replicate_zero, boolD_b, intD_i, isN_none, isN_int, isN_bool, isN_str, isN_tup, isN_lst, Bool.not_true, Bool.not_false, augD, add_int, sub_int, mul_int, fdiv_int, mod_int, mul_str, add_str, add_tup, add_lst, mul_lst, eq_int, ne_int, lt_int, gt_int, le_int, ge_int, eq_str, ne_str, len_str, len_lst, len_tup, abs_int, int_int, int_bool, min2_int, max2_int, tuple_lst, tuple_tup, list_lst, list_tup, slc_str, slc_lst, slc_tup, repS_one, repL_one, idx_t0, idx_t1, idx_t2, idx_l0, rg1_if, rg2_if, eq_self_str, eqv_bool, eq_nil, wipeE, isiD, lcS_v, forS_v, forS_t, lcS_t, app_if, ext_if, en_str, en_lst, items_str, items_lst, items_tup, Int.toNat_natCast, ev_lc2, lcS2_v, lcS2_t, tgV, tgVs, ev_rev, ev_itl, evI_rg3, rg3_if, List.append_nil, hideE, hideS, loud_eq hl]
  rw [lc_P (f := anyB row hi) (fun p hp => by
    obtain ⟨h1, h2, h3⟩ := runs_ends _ p hp
    have h2 := loud_in h2
    have h3 := loud_in h3
    obtain ⟨m, m1, m2⟩ := max_ex (l := (row.take p.2.toNat).drop p.1.toNat) (by
      intro z
      have := congrArg List.length z
      simp at this
      omega)
    have hmx : blD .max1 [.tuple (((row.take p.2.toNat).drop p.1.toNat).map .int)] = some (.int m) := max_ints m1 m2
    have key : decide (hi ≤ m) = anyB row hi p := by
      unfold anyB
      rw [Bool.eq_iff_iff, List.any_eq_true, decide_eq_true_iff]
      constructor
      · intro hm
        obtain ⟨i, hi1⟩ := List.mem_iff_getElem?.mp m1
        rw [List.getElem?_drop, List.getElem?_take] at hi1
        split at hi1
        · rename_i hlt
          refine ⟨p.1 + i, mem_rgI.mpr ⟨by omega, by omega⟩, ?_⟩
          rw [List.getD_eq_getElem?_getD, show (p.1 + (i : Int)).toNat = p.1.toNat + i by omega, hi1]
          simpa using hm
        · cases hi1
      · rintro ⟨x, hx, hx2⟩
        have hx := mem_rgI.mp hx
        have hx2 : hi ≤ row.getD x.toNat 0 := by simpa using hx2
        have hlt : x.toNat < row.length := by omega
        have : row.getD x.toNat 0 ∈ (row.take p.2.toNat).drop p.1.toNat := by
          rw [List.mem_iff_getElem?]
          refine ⟨x.toNat - p.1.toNat, ?_⟩
          rw [List.getElem?_drop, List.getElem?_take, if_pos (by omega), show p.1.toNat + (x.toNat - p.1.toNat) = x.toNat by omega, List.getD_eq_getElem?_getD, List.getElem?_eq_getElem hlt]
          rfl
        have := m2 _ this
        omega
    unfold c_two_levels_2
    try simp -dsimp -implicitDefEqProofs (disch := first | omega | (simp; omega)) only [ev_var, ev_cst, ev_tup, ev_lst, ev_bin, ev_neg, ev_not, ev_and, ev_or, ev_cmp, ev_isN, ev_notN, ev_chn, ev_ite, ev_idx, ev_slc, ev_call, ev_bl, ev_mt, ev_isi, ev_lc, evI_it, evI_rg1, evI_rg2, evI_enum, exec_asg, exec_own, exec_par, exec_aug, exec_app, exec_ext, exec_ins, exec_put, exec_aput, exec_ifs, exec_for_, exec_whl, exec_ret, exec_retn, exec_brk, exec_cnt, exec_pass, exec_close, evs_nil, evs_cons, evo_none, evo_some, evc_none, evc_some, execs_nil, execs_cons, nxt_nx, nxt_rt, nxt_bk, nxt_ct, List.length_cons, List.length_nil, List.map_cons, List.map_nil, bnd_r, lift_ret, Env.read, Env.keep, Sl.read, Sl.keep, List.cons_append, List.nil_append, List.getElem?_cons_zero, List.getElem?_cons_succ, List.set_cons_zero, List.set_cons_succ, bindT, bindTs, closeS, ownS, keepP, if_true, if_false, ↓reduceIte, Bool.false_eq_true, Nat.reduceAdd, Nat.reduceSub, List.replicate_succ, List.replicate_zero, boolD_b, intD_i, isN_none, isN_int, isN_bool, isN_str, isN_tup, isN_lst, Bool.not_true, Bool.not_false, augD, add_int, sub_int, mul_int, fdiv_int, mod_int, mul_str, add_str, add_tup, add_lst, mul_lst, eq_int, ne_int, lt_int, gt_int, le_int, ge_int, eq_str, ne_str, len_str, len_lst, len_tup, abs_int, int_int, int_bool, min2_int, max2_int, tuple_lst, tuple_tup, list_lst, list_tup, slc_str, slc_lst, slc_tup, repS_one, repL_one, idx_t0, idx_t1, idx_t2, idx_l0, rg1_if, rg2_if, eq_self_str, eqv_bool, eq_nil, wipeE, isiD, lcS_v, forS_v, forS_t, lcS_t, app_if, ext_if, en_str, en_lst, items_str, items_lst, items_tup, Int.toNat_natCast, ev_lc2, lcS2_v, lcS2_t, tgV, tgVs, ev_rev, ev_itl, evI_rg3, rg3_if, List.append_nil, hideE, hideS, slcL_mid, ← List.map_take, ← List.map_drop, hmx, key]) (fun p => by
    unfold e_two_levels_1
    try simp -dsimp -implicitDefEqProofs (disch := first | omega | (simp; omega)) only [ev_var, ev_cst, ev_tup, ev_lst, ev_bin, ev_neg, ev_not, ev_and, ev_or, ev_cmp, ev_isN, ev_notN, ev_chn, ev_ite, ev_idx, ev_slc, ev_call, ev_bl, ev_mt, ev_isi, ev_lc, evI_it, evI_rg1, evI_rg2, evI_enum, exec_asg, exec_own, exec_par, exec_aug, exec_app, exec_ext, exec_ins, exec_put, exec_aput, exec_ifs, exec_for_, exec_whl, exec_ret, exec_retn, exec_brk, exec_cnt, exec_pass, exec_close, evs_nil, evs_cons, evo_none, evo_some, evc_none, evc_some, execs_nil, execs_cons, nxt_nx, nxt_rt, nxt_bk, nxt_ct, List.length_cons, List.length_nil, List.map_cons, List.map_nil, bnd_r, lift_ret, Env.read, Env.keep, Sl.read, Sl.keep, List.cons_append, List.nil_append, List.getElem?_cons_zero, List.getElem?_cons_succ, List.set_cons_zero, List.set_cons_succ, bindT, bindTs, closeS, ownS, keepP, if_true, if_false, ↓reduceIte, Bool.false_eq_true, Nat.reduceAdd, Nat.reduceSub, List.replicate_succ, List.replicate_zero, boolD_b, intD_i, isN_none, isN_int, isN_bool, isN_str, isN_tup, isN_lst, Bool.not_true, Bool.not_false, augD, add_int, sub_int, mul_int, fdiv_int, mod_int, mul_str, add_str, add_tup, add_lst, mul_lst, eq_int, ne_int, lt_int, gt_int, le_int, ge_int, eq_str, ne_str, len_str, len_lst, len_tup, abs_int, int_int, int_bool, min2_int, max2_int, tuple_lst, tuple_tup, list_lst, list_tup, slc_str, slc_lst, slc_tup, repS_one, repL_one, idx_t0, idx_t1, idx_t2, idx_l0, rg1_if, rg2_if, eq_self_str, eqv_bool, eq_nil, wipeE, isiD, lcS_v, forS_v, forS_t, lcS_t, app_if, ext_if, en_str, en_lst, items_str, items_lst, items_tup, Int.toNat_natCast, ev_lc2, lcS2_v, lcS2_t, tgV, tgVs, ev_rev, ev_itl, evI_rg3, rg3_if, List.append_nil, hideE, hideS, getP])]
  try simp -dsimp -implicitDefEqProofs (disch := first | omega | (simp; omega)) only [ev_var, ev_cst, ev_tup, ev_lst, ev_bin, ev_neg, ev_not, ev_and, ev_or, ev_cmp, ev_isN, ev_notN, ev_chn, ev_ite, ev_idx, ev_slc, ev_call, ev_bl, ev_mt, ev_isi, ev_lc, evI_it, evI_rg1, evI_rg2, evI_enum, exec_asg, exec_own, exec_par, exec_aug, exec_app, exec_ext, exec_ins, exec_put, exec_aput, exec_ifs, exec_for_, exec_whl, exec_ret, exec_retn, exec_brk, exec_cnt, exec_pass, exec_close, evs_nil, evs_cons, evo_none, evo_some, evc_none, evc_some, execs_nil, execs_cons, nxt_nx, nxt_rt, nxt_bk, nxt_ct, List.length_cons, List.length_nil, List.map_cons, List.map_nil, bnd_r, lift_ret, Env.read, Env.keep, Sl.read, Sl.keep, List.cons_append, List.nil_append, List.getElem?_cons_zero, List.getElem?_cons_succ, List.set_cons_zero, List.set_cons_succ, bindT, bindTs, closeS, ownS, keepP, if_true, if_false, ↓reduceIte, Bool.false_eq_true, Nat.reduceAdd, Nat.reduceSub, List.replicate_succ, List.replicate_zero, boolD_b, intD_i, isN_none, isN_int, isN_bool, isN_str, isN_tup, isN_lst, Bool.not_true, Bool.not_false, augD, add_int, sub_int, mul_int, fdiv_int, mod_int, mul_str, add_str, add_tup, add_lst, mul_lst, eq_int, ne_int, lt_int, gt_int, le_int, ge_int, eq_str, ne_str, len_str, len_lst, len_tup, abs_int, int_int, int_bool, min2_int, max2_int, tuple_lst, tuple_tup, list_lst, list_tup, slc_str, slc_lst, slc_tup, repS_one, repL_one, idx_t0, idx_t1, idx_t2, idx_l0, rg1_if, rg2_if, eq_self_str, eqv_bool, eq_nil, wipeE, isiD, lcS_v, forS_v, forS_t, lcS_t, app_if, ext_if, en_str, en_lst, items_str, items_lst, items_tup, Int.toNat_natCast, ev_lc2, lcS2_v, lcS2_t, tgV, tgVs, ev_rev, ev_itl, evI_rg3, rg3_if, List.append_nil, hideE, hideS]
end
end Q.K41

set_option Elab.async false
set_option linter.all false
set_option maxRecDepth 100000
/-! K41P4: what the defs give, on. -/
namespace Q.K41
open PySem Q
theorem fil_first {p : Int → Bool} {n m : Int} (h0 : 0 ≤ n) (h1 : n < m) (h2 : p n = true) (h3 : ∀ j, 0 ≤ j → j < n → p j = false) : ∃ r, (rgI 0 m).filter p = n :: r := by
  rw [rgI_app h0 (by omega : n ≤ m), rgI_cons h1, List.filter_append, List.filter_cons, if_pos h2]
  refine ⟨(rgI (n + 1) m).filter p, ?_⟩
  have : (rgI 0 n).filter p = [] := List.filter_eq_nil_iff.mpr fun x hx => by
    have hx := mem_rgI.mp hx
    rw [h3 x hx.1 hx.2]
    decide
  rw [this]
  rfl
theorem lcL2_of {α : Type} {step : D → M (List D)} (g : α → D) (f : α → List D) : ∀ {l : List α}, (∀ x ∈ l, step (g x) = ret (f x)) → lcL2 step (l.map g) = ret (l.flatMap f)
  | [], _ => rfl
  | x :: l, h => by
    rw [List.map_cons, lcL2, h x List.mem_cons_self, bnd_r, lcL2_of g f fun y hy => h y (List.mem_cons_of_mem _ hy), bnd_r, List.flatMap_cons]
theorem lc_id {C : Nat → List D → M D} {own : List Nat} {i : Nat} {e : Tm} {σ : Env} {ds : List D} (he : ∀ d : D, ev C false e ((wipeE σ own).set i (.cl d)) = ret d) : lcL (lcS C own (.v i) none e σ) ds = ret ds := by
  have := lcL_map (step := lcS C own (.v i) none e σ) id id (l := ds) fun x hx => by
    rw [show id x = x from rfl, lcS_v, evc_none, bnd_r, if_pos rfl, he, bnd_r]
  simpa using this
/-- the first level that is kept by few enough -/
def okLv (row : List Int) (s0 s1 : Int) (lv : Int) : Bool := decide (((row.filter fun x => decide (lv ≤ x)).length : Int) * s1 ≤ s0 * row.length)
section
variable {k : Nat}
theorem cnt_ge {own : List Nat} {i : Nat} {c e : Tm} {σ : Env} {C : Nat → List D → M D} {row : List Int} {lv : Int} (hc : ∀ x : Int, evc C (some c) ((wipeE σ own).set i (.cl (.int x))) = ret (decide (lv ≤ x))) (he : ∀ x : Int, ev C false e ((wipeE σ own).set i (.cl (.int x))) = ret (.int 1)) :
    lcL (lcS C own (.v i) (some c) e σ) (row.map .int) = ret ((row.filter fun x => decide (lv ≤ x)).map fun _ => .int 1) := by
  rw [lcL_fil .int (fun x => decide (lv ≤ x)) (fun _ => .int 1) fun x hx => ?_]
  rw [lcS_v, hc x, bnd_r, he x, bnd_r, ret_ite]
theorem level_eq {row : List Int} {s0 s1 : Int} {n : Nat} (hl : row.length ≤ 20) (h0 : 0 ≤ s0 ∧ s0 ≤ 10) (h1 : 0 ≤ s1 ∧ s1 ≤ 10) (hn : n ≤ 100) (ok : okLv row s0 s1 n = true) (no : ∀ i : Nat, i < n → okLv row s0 s1 i = false) :
    cal T (k + 1) f_level_for [.tuple (row.map .int), .tuple [.int s0, .int s1]] = ret (.int n) := by
  rw [cal_at (show T[f_level_for]? = some ⟨2, 4, b_level_for⟩ from rfl)]
  unfold runF b_level_for
  try simp -dsimp -implicitDefEqProofs (disch := first | omega | (simp; omega)) only [ev_var, ev_cst, ev_tup, ev_lst, ev_bin, ev_neg, ev_not, ev_and, ev_or, ev_cmp, ev_isN, ev_notN, ev_chn, ev_ite, ev_idx, ev_slc, ev_call, ev_bl, ev_mt, ev_isi, ev_lc, evI_it, evI_rg1, evI_rg2, evI_enum, exec_asg, exec_own, exec_par, exec_aug, exec_app, exec_ext, exec_ins, exec_put, exec_aput, exec_ifs, exec_for_, exec_whl, exec_ret, exec_retn, exec_brk, exec_cnt, exec_pass, exec_close, evs_nil, evs_cons, evo_none, evo_some, evc_none, evc_some, execs_nil, execs_cons, nxt_nx, nxt_rt, nxt_bk, nxt_ct, List.length_cons, List.length_nil, List.map_cons, List.map_nil, bnd_r, lift_ret, Env.read, Env.keep, Sl.read, Sl.keep, List.cons_append, List.nil_append, List.getElem?_cons_zero, List.getElem?_cons_succ, List.set_cons_zero, List.set_cons_succ, bindT, bindTs, closeS, ownS, keepP, if_true, if_false, ↓reduceIte, Bool.false_eq_true, Nat.reduceAdd, Nat.reduceSub, List.replicate_succ, List.replicate_zero, boolD_b, intD_i, isN_none, isN_int, isN_bool, isN_str, isN_tup, isN_lst, Bool.not_true, Bool.not_false, augD, add_int, sub_int, mul_int, fdiv_int, mod_int, mul_str, add_str, add_tup, add_lst, mul_lst, eq_int, ne_int, lt_int, gt_int, le_int, ge_int, eq_str, ne_str, len_str, len_lst, len_tup, abs_int, int_int, int_bool, min2_int, max2_int, tuple_lst, tuple_tup, list_lst, list_tup, slc_str, slc_lst, slc_tup, repS_one, repL_one, idx_t0, idx_t1, idx_t2, idx_l0, rg1_if, rg2_if, eq_self_str, eqv_bool, eq_nil, wipeE, isiD, lcS_v, forS_v, forS_t, lcS_t, app_if, ext_if, en_str, en_lst, items_str, items_lst, items_tup, Int.toNat_natCast, ev_lc2, lcS2_v, lcS2_t, tgV, tgVs, ev_rev, ev_itl, evI_rg3, rg3_if, List.append_nil, hideE, hideS]
  have ht : ∀ i : Nat, whlT (cal T k) c_level_for_3 [.cl (.tuple (row.map .int)), .cl (.tuple [.int s0, .int s1]), .cl (.int (i : Int)), .un] = ret (!okLv row s0 s1 i) := fun i => by
    unfold whlT c_level_for_3
    try simp -dsimp -implicitDefEqProofs (disch := first | omega | (simp; omega)) only [ev_var, ev_cst, ev_tup, ev_lst, ev_bin, ev_neg, ev_not, ev_and, ev_or, ev_cmp, ev_isN, ev_notN, ev_chn, ev_ite, ev_idx, ev_slc, ev_call, ev_bl, ev_mt, ev_isi, ev_lc, evI_it, evI_rg1, evI_rg2, evI_enum, exec_asg, exec_own, exec_par, exec_aug, exec_app, exec_ext, exec_ins, exec_put, exec_aput, exec_ifs, exec_for_, exec_whl, exec_ret, exec_retn, exec_brk, exec_cnt, exec_pass, exec_close, evs_nil, evs_cons, evo_none, evo_some, evc_none, evc_some, execs_nil, execs_cons, nxt_nx, nxt_rt, nxt_bk, nxt_ct, List.length_cons, List.length_nil, List.map_cons, List.map_nil, bnd_r, lift_ret, Env.read, Env.keep, Sl.read, Sl.keep, List.cons_append, List.nil_append, List.getElem?_cons_zero, List.getElem?_cons_succ, List.set_cons_zero, List.set_cons_succ, bindT, bindTs, closeS, ownS, keepP, if_true, if_false, ↓reduceIte, Bool.false_eq_true, Nat.reduceAdd, Nat.reduceSub, List.replicate_succ, List.replicate_zero, boolD_b, intD_i, isN_none, isN_int, isN_bool, isN_str, isN_tup, isN_lst, Bool.not_true, Bool.not_false, augD, add_int, sub_int, mul_int, fdiv_int, mod_int, mul_str, add_str, add_tup, add_lst, mul_lst, eq_int, ne_int, lt_int, gt_int, le_int, ge_int, eq_str, ne_str, len_str, len_lst, len_tup, abs_int, int_int, int_bool, min2_int, max2_int, tuple_lst, tuple_tup, list_lst, list_tup, slc_str, slc_lst, slc_tup, repS_one, repL_one, idx_t0, idx_t1, idx_t2, idx_l0, rg1_if, rg2_if, eq_self_str, eqv_bool, eq_nil, wipeE, isiD, lcS_v, forS_v, forS_t, lcS_t, app_if, ext_if, en_str, en_lst, items_str, items_lst, items_tup, Int.toNat_natCast, ev_lc2, lcS2_v, lcS2_t, tgV, tgVs, ev_rev, ev_itl, evI_rg3, rg3_if, List.append_nil, hideE, hideS]
    rw [cnt_ge (lv := (i : Int)) (fun x => by
      unfold c_level_for_2
      try simp -dsimp -implicitDefEqProofs (disch := first | omega | (simp; omega)) only [ev_var, ev_cst, ev_tup, ev_lst, ev_bin, ev_neg, ev_not, ev_and, ev_or, ev_cmp, ev_isN, ev_notN, ev_chn, ev_ite, ev_idx, ev_slc, ev_call, ev_bl, ev_mt, ev_isi, ev_lc, evI_it, evI_rg1, evI_rg2, evI_enum, exec_asg, exec_own, exec_par, exec_aug, exec_app, exec_ext, exec_ins, exec_put, exec_aput, exec_ifs, exec_for_, exec_whl, exec_ret, exec_retn, exec_brk, exec_cnt, exec_pass, exec_close, evs_nil, evs_cons, evo_none, evo_some, evc_none, evc_some, execs_nil, execs_cons, nxt_nx, nxt_rt, nxt_bk, nxt_ct, List.length_cons, List.length_nil, List.map_cons, List.map_nil, bnd_r, lift_ret, Env.read, Env.keep, Sl.read, Sl.keep, List.cons_append, List.nil_append, List.getElem?_cons_zero, List.getElem?_cons_succ, List.set_cons_zero, List.set_cons_succ, bindT, bindTs, closeS, ownS, keepP, if_true, if_false, ↓reduceIte, Bool.false_eq_true, Nat.reduceAdd, Nat.reduceSub, List.replicate_succ, List.replicate_zero, boolD_b, intD_i, isN_none, isN_int, isN_bool, isN_str, isN_tup, isN_lst, Bool.not_true, Bool.not_false, augD, add_int, sub_int, mul_int, fdiv_int, mod_int, mul_str, add_str, add_tup, add_lst, mul_lst, eq_int, ne_int, lt_int, gt_int, le_int, ge_int, eq_str, ne_str, len_str, len_lst, len_tup, abs_int, int_int, int_bool, min2_int, max2_int, tuple_lst, tuple_tup, list_lst, list_tup, slc_str, slc_lst, slc_tup, repS_one, repL_one, idx_t0, idx_t1, idx_t2, idx_l0, rg1_if, rg2_if, eq_self_str, eqv_bool, eq_nil, wipeE, isiD, lcS_v, forS_v, forS_t, lcS_t, app_if, ext_if, en_str, en_lst, items_str, items_lst, items_tup, Int.toNat_natCast, ev_lc2, lcS2_v, lcS2_t, tgV, tgVs, ev_rev, ev_itl, evI_rg3, rg3_if, List.append_nil, hideE, hideS]) (fun x => by
      unfold e_level_for_1
      try simp -dsimp -implicitDefEqProofs (disch := first | omega | (simp; omega)) only [ev_var, ev_cst, ev_tup, ev_lst, ev_bin, ev_neg, ev_not, ev_and, ev_or, ev_cmp, ev_isN, ev_notN, ev_chn, ev_ite, ev_idx, ev_slc, ev_call, ev_bl, ev_mt, ev_isi, ev_lc, evI_it, evI_rg1, evI_rg2, evI_enum, exec_asg, exec_own, exec_par, exec_aug, exec_app, exec_ext, exec_ins, exec_put, exec_aput, exec_ifs, exec_for_, exec_whl, exec_ret, exec_retn, exec_brk, exec_cnt, exec_pass, exec_close, evs_nil, evs_cons, evo_none, evo_some, evc_none, evc_some, execs_nil, execs_cons, nxt_nx, nxt_rt, nxt_bk, nxt_ct, List.length_cons, List.length_nil, List.map_cons, List.map_nil, bnd_r, lift_ret, Env.read, Env.keep, Sl.read, Sl.keep, List.cons_append, List.nil_append, List.getElem?_cons_zero, List.getElem?_cons_succ, List.set_cons_zero, List.set_cons_succ, bindT, bindTs, closeS, ownS, keepP, if_true, if_false, ↓reduceIte, Bool.false_eq_true, Nat.reduceAdd, Nat.reduceSub, List.replicate_succ, List.replicate_zero, boolD_b, intD_i, isN_none, isN_int, isN_bool, isN_str, isN_tup, isN_lst, Bool.not_true, Bool.not_false, augD, add_int, sub_int, mul_int, fdiv_int, mod_int, mul_str, add_str, add_tup, add_lst, mul_lst, eq_int, ne_int, lt_int, gt_int, le_int, ge_int, eq_str, ne_str, len_str, len_lst, len_tup, abs_int, int_int, int_bool, min2_int, max2_int, tuple_lst, tuple_tup, list_lst, list_tup, slc_str, slc_lst, slc_tup, repS_one, repL_one, idx_t0, idx_t1, idx_t2, idx_l0, rg1_if, rg2_if, eq_self_str, eqv_bool, eq_nil, wipeE, isiD, lcS_v, forS_v, forS_t, lcS_t, app_if, ext_if, en_str, en_lst, items_str, items_lst, items_tup, Int.toNat_natCast, ev_lc2, lcS2_v, lcS2_t, tgV, tgVs, ev_rev, ev_itl, evI_rg3, rg3_if, List.append_nil, hideE, hideS])]
    try simp -dsimp -implicitDefEqProofs (disch := first | omega | (simp; omega)) only [ev_var, ev_cst, ev_tup, ev_lst, ev_bin, ev_neg, ev_not, ev_and, ev_or, ev_cmp, ev_isN, ev_notN, ev_chn, ev_ite, ev_idx, ev_slc, ev_call, ev_bl, ev_mt, ev_isi, ev_lc, evI_it, evI_rg1, evI_rg2, evI_enum, exec_asg, exec_own, exec_par, exec_aug, exec_app, exec_ext, exec_ins, exec_put, exec_aput, exec_ifs, exec_for_, exec_whl, exec_ret, exec_retn, exec_brk, exec_cnt, exec_pass, exec_close, evs_nil, evs_cons, evo_none, evo_some, evc_none, evc_some, execs_nil, execs_cons, nxt_nx, nxt_rt, nxt_bk, nxt_ct, List.length_cons, List.length_nil, List.map_cons, List.map_nil, bnd_r, lift_ret, Env.read, Env.keep, Sl.read, Sl.keep, List.cons_append, List.nil_append, List.getElem?_cons_zero, List.getElem?_cons_succ, List.set_cons_zero, List.set_cons_succ, bindT, bindTs, closeS, ownS, keepP, if_true, if_false, ↓reduceIte, Bool.false_eq_true, Nat.reduceAdd, Nat.reduceSub, List.replicate_succ, List.replicate_zero, boolD_b, intD_i, isN_none, isN_int, isN_bool, isN_str, isN_tup, isN_lst, Bool.not_true, Bool.not_false, augD, add_int, sub_int, mul_int, fdiv_int, mod_int, mul_str, add_str, add_tup, add_lst, mul_lst, eq_int, ne_int, lt_int, gt_int, le_int, ge_int, eq_str, ne_str, len_str, len_lst, len_tup, abs_int, int_int, int_bool, min2_int, max2_int, tuple_lst, tuple_tup, list_lst, list_tup, slc_str, slc_lst, slc_tup, repS_one, repL_one, idx_t0, idx_t1, idx_t2, idx_l0, rg1_if, rg2_if, eq_self_str, eqv_bool, eq_nil, wipeE, isiD, lcS_v, forS_v, forS_t, lcS_t, app_if, ext_if, en_str, en_lst, items_str, items_lst, items_tup, Int.toNat_natCast, ev_lc2, lcS2_v, lcS2_t, tgV, tgVs, ev_rev, ev_itl, evI_rg3, rg3_if, List.append_nil, hideE, hideS, List.length_map]
    have : decide (s0 * (row.length : Int) < ((row.filter fun x => decide ((i : Int) ≤ x)).length : Int) * s1) = !okLv row s0 s1 i := by
      unfold okLv
      rw [← decide_not]
      congr 1
      simp only [Int.not_le]
    rw [this]
  have hw := whl_up (test := whlT (cal T k) c_level_for_3) (step := execs (cal T k) b_level_for_4) (fun i => [.cl (.tuple (row.map .int)), .cl (.tuple [.int s0, .int s1]), .cl (.int (i : Int)), .un]) n n 0 fuelW (by omega) (by omega) (by have := fuel_big'; omega)
    (fun i hi => by rw [ht, no i hi]; rfl) (by rw [ht, ok]; rfl)
    (fun i hi => by
      unfold b_level_for_4
      try simp -dsimp -implicitDefEqProofs (disch := first | omega | (simp; omega)) only [ev_var, ev_cst, ev_tup, ev_lst, ev_bin, ev_neg, ev_not, ev_and, ev_or, ev_cmp, ev_isN, ev_notN, ev_chn, ev_ite, ev_idx, ev_slc, ev_call, ev_bl, ev_mt, ev_isi, ev_lc, evI_it, evI_rg1, evI_rg2, evI_enum, exec_asg, exec_own, exec_par, exec_aug, exec_app, exec_ext, exec_ins, exec_put, exec_aput, exec_ifs, exec_for_, exec_whl, exec_ret, exec_retn, exec_brk, exec_cnt, exec_pass, exec_close, evs_nil, evs_cons, evo_none, evo_some, evc_none, evc_some, execs_nil, execs_cons, nxt_nx, nxt_rt, nxt_bk, nxt_ct, List.length_cons, List.length_nil, List.map_cons, List.map_nil, bnd_r, lift_ret, Env.read, Env.keep, Sl.read, Sl.keep, List.cons_append, List.nil_append, List.getElem?_cons_zero, List.getElem?_cons_succ, List.set_cons_zero, List.set_cons_succ, bindT, bindTs, closeS, ownS, keepP, if_true, if_false, ↓reduceIte, Bool.false_eq_true, Nat.reduceAdd, Nat.reduceSub, List.replicate_succ, List.replicate_zero, boolD_b, intD_i, isN_none, isN_int, isN_bool, isN_str, isN_tup, isN_lst, Bool.not_true, Bool.not_false, augD, add_int, sub_int, mul_int, fdiv_int, mod_int, mul_str, add_str, add_tup, add_lst, mul_lst, eq_int, ne_int, lt_int, gt_int, le_int, ge_int, eq_str, ne_str, len_str, len_lst, len_tup, abs_int, int_int, int_bool, min2_int, max2_int, tuple_lst, tuple_tup, list_lst, list_tup, slc_str, slc_lst, slc_tup, repS_one, repL_one, idx_t0, idx_t1, idx_t2, idx_l0, rg1_if, rg2_if, eq_self_str, eqv_bool, eq_nil, wipeE, isiD, lcS_v, forS_v, forS_t, lcS_t, app_if, ext_if, en_str, en_lst, items_str, items_lst, items_tup, Int.toNat_natCast, ev_lc2, lcS2_v, lcS2_t, tgV, tgVs, ev_rev, ev_itl, evI_rg3, rg3_if, List.append_nil, hideE, hideS]
      rw [show (((i + 1 : Nat) : Int)) = (i : Int) + 1 by omega])
  rw [show (.cl (.int ((0 : Nat) : Int)) : Sl) = .cl (.int 0) from rfl] at hw
  rw [hw]
  try simp -dsimp -implicitDefEqProofs (disch := first | omega | (simp; omega)) only [ev_var, ev_cst, ev_tup, ev_lst, ev_bin, ev_neg, ev_not, ev_and, ev_or, ev_cmp, ev_isN, ev_notN, ev_chn, ev_ite, ev_idx, ev_slc, ev_call, ev_bl, ev_mt, ev_isi, ev_lc, evI_it, evI_rg1, evI_rg2, evI_enum, exec_asg, exec_own, exec_par, exec_aug, exec_app, exec_ext, exec_ins, exec_put, exec_aput, exec_ifs, exec_for_, exec_whl, exec_ret, exec_retn, exec_brk, exec_cnt, exec_pass, exec_close, evs_nil, evs_cons, evo_none, evo_some, evc_none, evc_some, execs_nil, execs_cons, nxt_nx, nxt_rt, nxt_bk, nxt_ct, List.length_cons, List.length_nil, List.map_cons, List.map_nil, bnd_r, lift_ret, Env.read, Env.keep, Sl.read, Sl.keep, List.cons_append, List.nil_append, List.getElem?_cons_zero, List.getElem?_cons_succ, List.set_cons_zero, List.set_cons_succ, bindT, bindTs, closeS, ownS, keepP, if_true, if_false, ↓reduceIte, Bool.false_eq_true, Nat.reduceAdd, Nat.reduceSub, List.replicate_succ, List.replicate_zero, boolD_b, intD_i, isN_none, isN_int, isN_bool, isN_str, isN_tup, isN_lst, Bool.not_true, Bool.not_false, augD, add_int, sub_int, mul_int, fdiv_int, mod_int, mul_str, add_str, add_tup, add_lst, mul_lst, eq_int, ne_int, lt_int, gt_int, le_int, ge_int, eq_str, ne_str, len_str, len_lst, len_tup, abs_int, int_int, int_bool, min2_int, max2_int, tuple_lst, tuple_tup, list_lst, list_tup, slc_str, slc_lst, slc_tup, repS_one, repL_one, idx_t0, idx_t1, idx_t2, idx_l0, rg1_if, rg2_if, eq_self_str, eqv_bool, eq_nil, wipeE, isiD, lcS_v, forS_v, forS_t, lcS_t, app_if, ext_if, en_str, en_lst, items_str, items_lst, items_tup, Int.toNat_natCast, ev_lc2, lcS2_v, lcS2_t, tgV, tgVs, ev_rev, ev_itl, evI_rg3, rg3_if, List.append_nil, hideE, hideS]
/-! places -/
theorem plI_len {rs : List Pr} {n : Nat} (h : ∀ p ∈ rs, 0 ≤ p.1 ∧ p.2 ≤ n) : (plI rs).length ≤ n * rs.length := by
  induction rs with
  | nil => simp [plI]
  | cons p rs ih =>
    have h1 := h p List.mem_cons_self
    have h2 := ih fun q hq => h q (List.mem_cons_of_mem _ hq)
    rw [plI_cons, List.length_append, rgI_len, List.length_cons, Nat.mul_add]
    omega
theorem plI_map {rs : List Pr} : (plI rs).map PyData.int = rs.flatMap fun p => (rgI p.1 p.2).map .int := by
  unfold plI
  rw [List.map_flatMap]
theorem places_eq {rs : List Pr} (hl : rs.length ≤ 100) (h : ∀ p ∈ rs, 0 ≤ p.1 ∧ p.1 < p.2 ∧ p.2 ≤ 100) : cal T (k + 1) f_places_of [.tuple (rs.map encP)] = ret (.list ((plI rs).map .int)) := by
  rw [cal_at (show T[f_places_of]? = some ⟨1, 4, b_places_of⟩ from rfl)]
  unfold runF b_places_of
  have l1 := plI_len (rs := rs) (n := 100) fun p hp => ⟨(h p hp).1, (h p hp).2.2⟩
  try simp -dsimp -implicitDefEqProofs (disch := first | omega | (simp; omega)) only [ev_var, ev_cst, ev_tup, ev_lst, ev_bin, ev_neg, ev_not, ev_and, ev_or, ev_cmp, ev_isN, ev_notN, ev_chn, ev_ite, ev_idx, ev_slc, ev_call, ev_bl, ev_mt, ev_isi, ev_lc, evI_it, evI_rg1, evI_rg2, evI_enum, exec_asg, exec_own, exec_par, exec_aug, exec_app, exec_ext, exec_ins, exec_put, exec_aput, exec_ifs, exec_for_, exec_whl, exec_ret, exec_retn, exec_brk, exec_cnt, exec_pass, exec_close, evs_nil, evs_cons, evo_none, evo_some, evc_none, evc_some, execs_nil, execs_cons, nxt_nx, nxt_rt, nxt_bk, nxt_ct, List.length_cons, List.length_nil, List.map_cons, List.map_nil, bnd_r, lift_ret, Env.read, Env.keep, Sl.read, Sl.keep, List.cons_append, List.nil_append, List.getElem?_cons_zero, List.getElem?_cons_succ, List.set_cons_zero, List.set_cons_succ, bindT, bindTs, closeS, ownS, keepP, if_true, if_false, ↓reduceIte, Bool.false_eq_true, Nat.reduceAdd, Nat.reduceSub, List.replicate_succ, List.replicate_zero, boolD_b, intD_i, isN_none, isN_int, isN_bool, isN_str, isN_tup, isN_lst, Bool.not_true, Bool.not_false, augD, add_int, sub_int, mul_int, fdiv_int, mod_int, mul_str, add_str, add_tup, add_lst, mul_lst, eq_int, ne_int, lt_int, gt_int, le_int, ge_int, eq_str, ne_str, len_str, len_lst, len_tup, abs_int, int_int, int_bool, min2_int, max2_int, tuple_lst, tuple_tup, list_lst, list_tup, slc_str, slc_lst, slc_tup, repS_one, repL_one, idx_t0, idx_t1, idx_t2, idx_l0, rg1_if, rg2_if, eq_self_str, eqv_bool, eq_nil, wipeE, isiD, lcS_v, forS_v, forS_t, lcS_t, app_if, ext_if, en_str, en_lst, items_str, items_lst, items_tup, Int.toNat_natCast, ev_lc2, lcS2_v, lcS2_t, tgV, tgVs, ev_rev, ev_itl, evI_rg3, rg3_if, List.append_nil, hideE, hideS]
  rw [lcL2_of encP (fun p => (rgI p.1 p.2).map .int) fun p hp => ?_]
  · rw [← plI_map]
    try simp -dsimp -implicitDefEqProofs (disch := first | omega | (simp; omega)) only [ev_var, ev_cst, ev_tup, ev_lst, ev_bin, ev_neg, ev_not, ev_and, ev_or, ev_cmp, ev_isN, ev_notN, ev_chn, ev_ite, ev_idx, ev_slc, ev_call, ev_bl, ev_mt, ev_isi, ev_lc, evI_it, evI_rg1, evI_rg2, evI_enum, exec_asg, exec_own, exec_par, exec_aug, exec_app, exec_ext, exec_ins, exec_put, exec_aput, exec_ifs, exec_for_, exec_whl, exec_ret, exec_retn, exec_brk, exec_cnt, exec_pass, exec_close, evs_nil, evs_cons, evo_none, evo_some, evc_none, evc_some, execs_nil, execs_cons, nxt_nx, nxt_rt, nxt_bk, nxt_ct, List.length_cons, List.length_nil, List.map_cons, List.map_nil, bnd_r, lift_ret, Env.read, Env.keep, Sl.read, Sl.keep, List.cons_append, List.nil_append, List.getElem?_cons_zero, List.getElem?_cons_succ, List.set_cons_zero, List.set_cons_succ, bindT, bindTs, closeS, ownS, keepP, if_true, if_false, ↓reduceIte, Bool.false_eq_true, Nat.reduceAdd, Nat.reduceSub, List.replicate_succ, List.replicate_zero, boolD_b, intD_i, isN_none, isN_int, isN_bool, isN_str, isN_tup, isN_lst, Bool.not_true, Bool.not_false, augD, add_int, sub_int, mul_int, fdiv_int, mod_int, mul_str, add_str, add_tup, add_lst, mul_lst, eq_int, ne_int, lt_int, gt_int, le_int, ge_int, eq_str, ne_str, len_str, len_lst, len_tup, abs_int, int_int, int_bool, min2_int, max2_int, tuple_lst, tuple_tup, list_lst, list_tup, slc_str, slc_lst, slc_tup, repS_one, repL_one, idx_t0, idx_t1, idx_t2, idx_l0, rg1_if, rg2_if, eq_self_str, eqv_bool, eq_nil, wipeE, isiD, lcS_v, forS_v, forS_t, lcS_t, app_if, ext_if, en_str, en_lst, items_str, items_lst, items_tup, Int.toNat_natCast, ev_lc2, lcS2_v, lcS2_t, tgV, tgVs, ev_rev, ev_itl, evI_rg3, rg3_if, List.append_nil, hideE, hideS, List.length_map]
  · have hp := h p hp
    rw [getP, lcS2_t (σ1 := [.cl (.tuple (rs.map encP)), .cl (.int p.1), .cl (.int p.2), .un]) rfl]
    try simp -dsimp -implicitDefEqProofs (disch := first | omega | (simp; omega)) only [ev_var, ev_cst, ev_tup, ev_lst, ev_bin, ev_neg, ev_not, ev_and, ev_or, ev_cmp, ev_isN, ev_notN, ev_chn, ev_ite, ev_idx, ev_slc, ev_call, ev_bl, ev_mt, ev_isi, ev_lc, evI_it, evI_rg1, evI_rg2, evI_enum, exec_asg, exec_own, exec_par, exec_aug, exec_app, exec_ext, exec_ins, exec_put, exec_aput, exec_ifs, exec_for_, exec_whl, exec_ret, exec_retn, exec_brk, exec_cnt, exec_pass, exec_close, evs_nil, evs_cons, evo_none, evo_some, evc_none, evc_some, execs_nil, execs_cons, nxt_nx, nxt_rt, nxt_bk, nxt_ct, List.length_cons, List.length_nil, List.map_cons, List.map_nil, bnd_r, lift_ret, Env.read, Env.keep, Sl.read, Sl.keep, List.cons_append, List.nil_append, List.getElem?_cons_zero, List.getElem?_cons_succ, List.set_cons_zero, List.set_cons_succ, bindT, bindTs, closeS, ownS, keepP, if_true, if_false, ↓reduceIte, Bool.false_eq_true, Nat.reduceAdd, Nat.reduceSub, List.replicate_succ, List.replicate_zero, boolD_b, intD_i, isN_none, isN_int, isN_bool, isN_str, isN_tup, isN_lst, Bool.not_true, Bool.not_false, augD, add_int, sub_int, mul_int, fdiv_int, mod_int, mul_str, add_str, add_tup, add_lst, mul_lst, eq_int, ne_int, lt_int, gt_int, le_int, ge_int, eq_str, ne_str, len_str, len_lst, len_tup, abs_int, int_int, int_bool, min2_int, max2_int, tuple_lst, tuple_tup, list_lst, list_tup, slc_str, slc_lst, slc_tup, repS_one, repL_one, idx_t0, idx_t1, idx_t2, idx_l0, rg1_if, rg2_if, eq_self_str, eqv_bool, eq_nil, wipeE, isiD, lcS_v, forS_v, forS_t, lcS_t, app_if, ext_if, en_str, en_lst, items_str, items_lst, items_tup, Int.toNat_natCast, ev_lc2, lcS2_v, lcS2_t, tgV, tgVs, ev_rev, ev_itl, evI_rg3, rg3_if, List.append_nil, hideE, hideS]
    rw [lc_id (fun d => by
      unfold e_places_of_1
      try simp -dsimp -implicitDefEqProofs (disch := first | omega | (simp; omega)) only [ev_var, ev_cst, ev_tup, ev_lst, ev_bin, ev_neg, ev_not, ev_and, ev_or, ev_cmp, ev_isN, ev_notN, ev_chn, ev_ite, ev_idx, ev_slc, ev_call, ev_bl, ev_mt, ev_isi, ev_lc, evI_it, evI_rg1, evI_rg2, evI_enum, exec_asg, exec_own, exec_par, exec_aug, exec_app, exec_ext, exec_ins, exec_put, exec_aput, exec_ifs, exec_for_, exec_whl, exec_ret, exec_retn, exec_brk, exec_cnt, exec_pass, exec_close, evs_nil, evs_cons, evo_none, evo_some, evc_none, evc_some, execs_nil, execs_cons, nxt_nx, nxt_rt, nxt_bk, nxt_ct, List.length_cons, List.length_nil, List.map_cons, List.map_nil, bnd_r, lift_ret, Env.read, Env.keep, Sl.read, Sl.keep, List.cons_append, List.nil_append, List.getElem?_cons_zero, List.getElem?_cons_succ, List.set_cons_zero, List.set_cons_succ, bindT, bindTs, closeS, ownS, keepP, if_true, if_false, ↓reduceIte, Bool.false_eq_true, Nat.reduceAdd, Nat.reduceSub, List.replicate_succ, List.replicate_zero, boolD_b, intD_i, isN_none, isN_int, isN_bool, isN_str, isN_tup, isN_lst, Bool.not_true, Bool.not_false, augD, add_int, sub_int, mul_int, fdiv_int, mod_int, mul_str, add_str, add_tup, add_lst, mul_lst, eq_int, ne_int, lt_int, gt_int, le_int, ge_int, eq_str, ne_str, len_str, len_lst, len_tup, abs_int, int_int, int_bool, min2_int, max2_int, tuple_lst, tuple_tup, list_lst, list_tup, slc_str, slc_lst, slc_tup, repS_one, repL_one, idx_t0, idx_t1, idx_t2, idx_l0, rg1_if, rg2_if, eq_self_str, eqv_bool, eq_nil, wipeE, isiD, lcS_v, forS_v, forS_t, lcS_t, app_if, ext_if, en_str, en_lst, items_str, items_lst, items_tup, Int.toNat_natCast, ev_lc2, lcS2_v, lcS2_t, tgV, tgVs, ev_rev, ev_itl, evI_rg3, rg3_if, List.append_nil, hideE, hideS]), rgD_I]
theorem lplaces_eq {rs : List Pr} (hl : rs.length ≤ 100) (h : ∀ p ∈ rs, 0 ≤ p.1 ∧ p.1 < p.2 ∧ p.2 ≤ 100) : cal T (k + 1) f__law_places [.list (rs.map encP)] = ret (.list ((plI rs).map .int)) := by
  rw [cal_at (show T[f__law_places]? = some ⟨1, 4, b__law_places⟩ from rfl)]
  unfold runF b__law_places
  try simp -dsimp -implicitDefEqProofs (disch := first | omega | (simp; omega)) only [ev_var, ev_cst, ev_tup, ev_lst, ev_bin, ev_neg, ev_not, ev_and, ev_or, ev_cmp, ev_isN, ev_notN, ev_chn, ev_ite, ev_idx, ev_slc, ev_call, ev_bl, ev_mt, ev_isi, ev_lc, evI_it, evI_rg1, evI_rg2, evI_enum, exec_asg, exec_own, exec_par, exec_aug, exec_app, exec_ext, exec_ins, exec_put, exec_aput, exec_ifs, exec_for_, exec_whl, exec_ret, exec_retn, exec_brk, exec_cnt, exec_pass, exec_close, evs_nil, evs_cons, evo_none, evo_some, evc_none, evc_some, execs_nil, execs_cons, nxt_nx, nxt_rt, nxt_bk, nxt_ct, List.length_cons, List.length_nil, List.map_cons, List.map_nil, bnd_r, lift_ret, Env.read, Env.keep, Sl.read, Sl.keep, List.cons_append, List.nil_append, List.getElem?_cons_zero, List.getElem?_cons_succ, List.set_cons_zero, List.set_cons_succ, bindT, bindTs, closeS, ownS, keepP, if_true, if_false, ↓reduceIte, Bool.false_eq_true, Nat.reduceAdd, Nat.reduceSub, List.replicate_succ, List.replicate_zero, boolD_b, intD_i, isN_none, isN_int, isN_bool, isN_str, isN_tup, isN_lst, Bool.not_true, Bool.not_false, augD, add_int, sub_int, mul_int, fdiv_int, mod_int, mul_str, add_str, add_tup, add_lst, mul_lst, eq_int, ne_int, lt_int, gt_int, le_int, ge_int, eq_str, ne_str, len_str, len_lst, len_tup, abs_int, int_int, int_bool, min2_int, max2_int, tuple_lst, tuple_tup, list_lst, list_tup, slc_str, slc_lst, slc_tup, repS_one, repL_one, idx_t0, idx_t1, idx_t2, idx_l0, rg1_if, rg2_if, eq_self_str, eqv_bool, eq_nil, wipeE, isiD, lcS_v, forS_v, forS_t, lcS_t, app_if, ext_if, en_str, en_lst, items_str, items_lst, items_tup, Int.toNat_natCast, ev_lc2, lcS2_v, lcS2_t, tgV, tgVs, ev_rev, ev_itl, evI_rg3, rg3_if, List.append_nil, hideE, hideS]
  obtain ⟨σ', h1, s3, s4, rfl, _⟩ := forL_nx (step := forS (cal T k) (.t [.v 2, .v 3]) b__law_places_1) (fun j σ => ∃ s3 s4, σ = [.cl (.list (rs.map encP)), .cl (.list ((plI (rs.take j)).map .int)), s3, s4] ∧ j ≤ rs.length)
    (ds := rs.map encP) (σ := [.cl (.list (rs.map encP)), .cl (.list []), .un, .un]) ⟨_, _, rfl, by omega⟩ fun j e σ hj hI => by
      obtain ⟨s3, s4, rfl, hj2⟩ := hI
      rw [List.getElem?_map] at hj
      obtain ⟨p, e1, rfl⟩ := Option.map_eq_some_iff.mp hj
      have hjl := (List.getElem?_eq_some_iff.mp e1).1
      have hp := h p (List.mem_of_getElem? e1)
      have l1 := plI_len (rs := rs.take j) (n := 100) fun p hp => by
        have := h p (List.mem_of_mem_take hp)
        exact ⟨this.1, this.2.2⟩
      rw [List.length_take] at l1
      refine ⟨[.cl (.list (rs.map encP)), .cl (.list ((plI (rs.take (j + 1))).map .int)), .cl (.int p.1), .cl (.int p.2)], .inl ?_, _, _, rfl, by omega⟩
      rw [getP, forS_t (σ1 := [.cl (.list (rs.map encP)), .cl (.list ((plI (rs.take j)).map .int)), .cl (.int p.1), .cl (.int p.2)]) rfl, runs_snoc' e1, plI_app, plI_one, List.map_append]
      have l2 : (rgI p.1 p.2).length ≤ 100 := by rw [rgI_len]; omega
      unfold b__law_places_1
      try simp -dsimp -implicitDefEqProofs (disch := first | omega | (simp; omega)) only [ev_var, ev_cst, ev_tup, ev_lst, ev_bin, ev_neg, ev_not, ev_and, ev_or, ev_cmp, ev_isN, ev_notN, ev_chn, ev_ite, ev_idx, ev_slc, ev_call, ev_bl, ev_mt, ev_isi, ev_lc, evI_it, evI_rg1, evI_rg2, evI_enum, exec_asg, exec_own, exec_par, exec_aug, exec_app, exec_ext, exec_ins, exec_put, exec_aput, exec_ifs, exec_for_, exec_whl, exec_ret, exec_retn, exec_brk, exec_cnt, exec_pass, exec_close, evs_nil, evs_cons, evo_none, evo_some, evc_none, evc_some, execs_nil, execs_cons, nxt_nx, nxt_rt, nxt_bk, nxt_ct, List.length_cons, List.length_nil, List.map_cons, List.map_nil, bnd_r, lift_ret, Env.read, Env.keep, Sl.read, Sl.keep, List.cons_append, List.nil_append, List.getElem?_cons_zero, List.getElem?_cons_succ, List.set_cons_zero, List.set_cons_succ, bindT, bindTs, closeS, ownS, keepP, if_true, if_false, ↓reduceIte, Bool.false_eq_true, Nat.reduceAdd, Nat.reduceSub, List.replicate_succ, List.replicate_zero, boolD_b, intD_i, isN_none, isN_int, isN_bool, isN_str, isN_tup, isN_lst, Bool.not_true, Bool.not_false, augD, add_int, sub_int, mul_int, fdiv_int, mod_int, mul_str, add_str, add_tup, add_lst, mul_lst, eq_int, ne_int, lt_int, gt_int, le_int, ge_int, eq_str, ne_str, len_str, len_lst, len_tup, abs_int, int_int, int_bool, min2_int, max2_int, tuple_lst, tuple_tup, list_lst, list_tup, slc_str, slc_lst, slc_tup, repS_one, repL_one, idx_t0, idx_t1, idx_t2, idx_l0, rg1_if, rg2_if, eq_self_str, eqv_bool, eq_nil, wipeE, isiD, lcS_v, forS_v, forS_t, lcS_t, app_if, ext_if, en_str, en_lst, items_str, items_lst, items_tup, Int.toNat_natCast, ev_lc2, lcS2_v, lcS2_t, tgV, tgVs, ev_rev, ev_itl, evI_rg3, rg3_if, List.append_nil, hideE, hideS, rgD_I, List.length_map]
  rw [h1, List.length_map, List.take_length]
  try simp -dsimp -implicitDefEqProofs (disch := first | omega | (simp; omega)) only [ev_var, ev_cst, ev_tup, ev_lst, ev_bin, ev_neg, ev_not, ev_and, ev_or, ev_cmp, ev_isN, ev_notN, ev_chn, ev_ite, ev_idx, ev_slc, ev_call, ev_bl, ev_mt, ev_isi, ev_lc, evI_it, evI_rg1, evI_rg2, evI_enum, exec_asg, exec_own, exec_par, exec_aug, exec_app, exec_ext, exec_ins, exec_put, exec_aput, exec_ifs, exec_for_, exec_whl, exec_ret, exec_retn, exec_brk, exec_cnt, exec_pass, exec_close, evs_nil, evs_cons, evo_none, evo_some, evc_none, evc_some, execs_nil, execs_cons, nxt_nx, nxt_rt, nxt_bk, nxt_ct, List.length_cons, List.length_nil, List.map_cons, List.map_nil, bnd_r, lift_ret, Env.read, Env.keep, Sl.read, Sl.keep, List.cons_append, List.nil_append, List.getElem?_cons_zero, List.getElem?_cons_succ, List.set_cons_zero, List.set_cons_succ, bindT, bindTs, closeS, ownS, keepP, if_true, if_false, ↓reduceIte, Bool.false_eq_true, Nat.reduceAdd, Nat.reduceSub, List.replicate_succ, List.replicate_zero, boolD_b, intD_i, isN_none, isN_int, isN_bool, isN_str, isN_tup, isN_lst, Bool.not_true, Bool.not_false, augD, add_int, sub_int, mul_int, fdiv_int, mod_int, mul_str, add_str, add_tup, add_lst, mul_lst, eq_int, ne_int, lt_int, gt_int, le_int, ge_int, eq_str, ne_str, len_str, len_lst, len_tup, abs_int, int_int, int_bool, min2_int, max2_int, tuple_lst, tuple_tup, list_lst, list_tup, slc_str, slc_lst, slc_tup, repS_one, repL_one, idx_t0, idx_t1, idx_t2, idx_l0, rg1_if, rg2_if, eq_self_str, eqv_bool, eq_nil, wipeE, isiD, lcS_v, forS_v, forS_t, lcS_t, app_if, ext_if, en_str, en_lst, items_str, items_lst, items_tup, Int.toNat_natCast, ev_lc2, lcS2_v, lcS2_t, tgV, tgVs, ev_rev, ev_itl, evI_rg3, rg3_if, List.append_nil, hideE, hideS]
/-! how far apart -/
def offI (a b : List Int) : Int := ((a.filter fun x => !decide (x ∈ b)).length : Int) + ((b.filter fun x => !decide (x ∈ a)).length : Int)
theorem runs_ok {ps : List Int} {n : Nat} (h : ∀ x ∈ ps, 0 ≤ x ∧ x < n) : ∀ p ∈ runsI ps, 0 ≤ p.1 ∧ p.1 < p.2 ∧ p.2 ≤ n := fun p hp => by
  obtain ⟨h1, h2, h3⟩ := runs_ends ps p hp
  have := h _ h2
  have := h _ h3
  omega
theorem off_eq {a b : List Int} (ha : a.length ≤ 100) (hb : b.length ≤ 100) (ha2 : ∀ x ∈ a, 0 ≤ x ∧ x < (100 : Nat)) (hb2 : ∀ x ∈ b, 0 ≤ x ∧ x < (100 : Nat)) :
    cal T (k + 2) f_runs_off [.tuple ((runsI a).map encP), .tuple ((runsI b).map encP)] = ret (.int (offI a b)) := by
  rw [cal_at (show T[f_runs_off]? = some ⟨2, 5, b_runs_off⟩ from rfl)]
  unfold runF b_runs_off
  have a1 := runsI_len a
  have b1 := runsI_len b
  have e1 := places_eq (k := k) (rs := runsI a) (by omega) (runs_ok ha2)
  have e2 := places_eq (k := k) (rs := runsI b) (by omega) (runs_ok hb2)
  rw [pl_runs] at e1 e2
  try simp -dsimp -implicitDefEqProofs (disch := first | omega | (simp; omega)) only [ev_var, ev_cst, ev_tup, ev_lst, ev_bin, ev_neg, ev_not, ev_and, ev_or, ev_cmp, ev_isN, ev_notN, ev_chn, ev_ite, ev_idx, ev_slc, ev_call, ev_bl, ev_mt, ev_isi, ev_lc, evI_it, evI_rg1, evI_rg2, evI_enum, exec_asg, exec_own, exec_par, exec_aug, exec_app, exec_ext, exec_ins, exec_put, exec_aput, exec_ifs, exec_for_, exec_whl, exec_ret, exec_retn, exec_brk, exec_cnt, exec_pass, exec_close, evs_nil, evs_cons, evo_none, evo_some, evc_none, evc_some, execs_nil, execs_cons, nxt_nx, nxt_rt, nxt_bk, nxt_ct, List.length_cons, List.length_nil, List.map_cons, List.map_nil, bnd_r, lift_ret, Env.read, Env.keep, Sl.read, Sl.keep, List.cons_append, List.nil_append, List.getElem?_cons_zero, List.getElem?_cons_succ, List.set_cons_zero, List.set_cons_succ, bindT, bindTs, closeS, ownS, keepP, if_true, if_false, ↓reduceIte, Bool.false_eq_true, Nat.reduceAdd, Nat.reduceSub, List.replicate_succ, List.replicate_zero, boolD_b, intD_i, isN_none, isN_int, isN_bool, isN_str, isN_tup, isN_lst, Bool.not_true, Bool.not_false, augD, add_int, sub_int, mul_int, fdiv_int, mod_int, mul_str, add_str, add_tup, add_lst, mul_lst, eq_int, ne_int, lt_int, gt_int, le_int, ge_int, eq_str, ne_str, len_str, len_lst, len_tup, abs_int, int_int, int_bool, min2_int, max2_int, tuple_lst, tuple_tup, list_lst, list_tup, slc_str, slc_lst, slc_tup, repS_one, repL_one, idx_t0, idx_t1, idx_t2, idx_l0, rg1_if, rg2_if, eq_self_str, eqv_bool, eq_nil, wipeE, isiD, lcS_v, forS_v, forS_t, lcS_t, app_if, ext_if, en_str, en_lst, items_str, items_lst, items_tup, Int.toNat_natCast, ev_lc2, lcS2_v, lcS2_t, tgV, tgVs, ev_rev, ev_itl, evI_rg3, rg3_if, List.append_nil, hideE, hideS, e1, e2]
  rw [lcL_fil .int (fun x => !decide (x ∈ b)) (fun _ => .int 1) fun x hx => by
    rw [lcS_v]
    unfold c_runs_off_2 e_runs_off_1
    try simp -dsimp -implicitDefEqProofs (disch := first | omega | (simp; omega)) only [ev_var, ev_cst, ev_tup, ev_lst, ev_bin, ev_neg, ev_not, ev_and, ev_or, ev_cmp, ev_isN, ev_notN, ev_chn, ev_ite, ev_idx, ev_slc, ev_call, ev_bl, ev_mt, ev_isi, ev_lc, evI_it, evI_rg1, evI_rg2, evI_enum, exec_asg, exec_own, exec_par, exec_aug, exec_app, exec_ext, exec_ins, exec_put, exec_aput, exec_ifs, exec_for_, exec_whl, exec_ret, exec_retn, exec_brk, exec_cnt, exec_pass, exec_close, evs_nil, evs_cons, evo_none, evo_some, evc_none, evc_some, execs_nil, execs_cons, nxt_nx, nxt_rt, nxt_bk, nxt_ct, List.length_cons, List.length_nil, List.map_cons, List.map_nil, bnd_r, lift_ret, Env.read, Env.keep, Sl.read, Sl.keep, List.cons_append, List.nil_append, List.getElem?_cons_zero, List.getElem?_cons_succ, List.set_cons_zero, List.set_cons_succ, bindT, bindTs, closeS, ownS, keepP, if_true, if_false, ↓reduceIte, Bool.false_eq_true, Nat.reduceAdd, Nat.reduceSub, List.replicate_succ, List.replicate_zero, boolD_b, intD_i, isN_none, isN_int, isN_bool, isN_str, isN_tup, isN_lst, Bool.not_true, Bool.not_false, augD, add_int, sub_int, mul_int, fdiv_int, mod_int, mul_str, add_str, add_tup, add_lst, mul_lst, eq_int, ne_int, lt_int, gt_int, le_int, ge_int, eq_str, ne_str, len_str, len_lst, len_tup, abs_int, int_int, int_bool, min2_int, max2_int, tuple_lst, tuple_tup, list_lst, list_tup, slc_str, slc_lst, slc_tup, repS_one, repL_one, idx_t0, idx_t1, idx_t2, idx_l0, rg1_if, rg2_if, eq_self_str, eqv_bool, eq_nil, wipeE, isiD, lcS_v, forS_v, forS_t, lcS_t, app_if, ext_if, en_str, en_lst, items_str, items_lst, items_tup, Int.toNat_natCast, ev_lc2, lcS2_v, lcS2_t, tgV, tgVs, ev_rev, ev_itl, evI_rg3, rg3_if, List.append_nil, hideE, hideS, nin_ints, ret_ite]]
  try simp -dsimp -implicitDefEqProofs (disch := first | omega | (simp; omega)) only [ev_var, ev_cst, ev_tup, ev_lst, ev_bin, ev_neg, ev_not, ev_and, ev_or, ev_cmp, ev_isN, ev_notN, ev_chn, ev_ite, ev_idx, ev_slc, ev_call, ev_bl, ev_mt, ev_isi, ev_lc, evI_it, evI_rg1, evI_rg2, evI_enum, exec_asg, exec_own, exec_par, exec_aug, exec_app, exec_ext, exec_ins, exec_put, exec_aput, exec_ifs, exec_for_, exec_whl, exec_ret, exec_retn, exec_brk, exec_cnt, exec_pass, exec_close, evs_nil, evs_cons, evo_none, evo_some, evc_none, evc_some, execs_nil, execs_cons, nxt_nx, nxt_rt, nxt_bk, nxt_ct, List.length_cons, List.length_nil, List.map_cons, List.map_nil, bnd_r, lift_ret, Env.read, Env.keep, Sl.read, Sl.keep, List.cons_append, List.nil_append, List.getElem?_cons_zero, List.getElem?_cons_succ, List.set_cons_zero, List.set_cons_succ, bindT, bindTs, closeS, ownS, keepP, if_true, if_false, ↓reduceIte, Bool.false_eq_true, Nat.reduceAdd, Nat.reduceSub, List.replicate_succ, List.replicate_zero, boolD_b, intD_i, isN_none, isN_int, isN_bool, isN_str, isN_tup, isN_lst, Bool.not_true, Bool.not_false, augD, add_int, sub_int, mul_int, fdiv_int, mod_int, mul_str, add_str, add_tup, add_lst, mul_lst, eq_int, ne_int, lt_int, gt_int, le_int, ge_int, eq_str, ne_str, len_str, len_lst, len_tup, abs_int, int_int, int_bool, min2_int, max2_int, tuple_lst, tuple_tup, list_lst, list_tup, slc_str, slc_lst, slc_tup, repS_one, repL_one, idx_t0, idx_t1, idx_t2, idx_l0, rg1_if, rg2_if, eq_self_str, eqv_bool, eq_nil, wipeE, isiD, lcS_v, forS_v, forS_t, lcS_t, app_if, ext_if, en_str, en_lst, items_str, items_lst, items_tup, Int.toNat_natCast, ev_lc2, lcS2_v, lcS2_t, tgV, tgVs, ev_rev, ev_itl, evI_rg3, rg3_if, List.append_nil, hideE, hideS]
  rw [lcL_fil .int (fun x => !decide (x ∈ a)) (fun _ => .int 1) fun x hx => by
    rw [lcS_v]
    unfold c_runs_off_4 e_runs_off_3
    try simp -dsimp -implicitDefEqProofs (disch := first | omega | (simp; omega)) only [ev_var, ev_cst, ev_tup, ev_lst, ev_bin, ev_neg, ev_not, ev_and, ev_or, ev_cmp, ev_isN, ev_notN, ev_chn, ev_ite, ev_idx, ev_slc, ev_call, ev_bl, ev_mt, ev_isi, ev_lc, evI_it, evI_rg1, evI_rg2, evI_enum, exec_asg, exec_own, exec_par, exec_aug, exec_app, exec_ext, exec_ins, exec_put, exec_aput, exec_ifs, exec_for_, exec_whl, exec_ret, exec_retn, exec_brk, exec_cnt, exec_pass, exec_close, evs_nil, evs_cons, evo_none, evo_some, evc_none, evc_some, execs_nil, execs_cons, nxt_nx, nxt_rt, nxt_bk, nxt_ct, List.length_cons, List.length_nil, List.map_cons, List.map_nil, bnd_r, lift_ret, Env.read, Env.keep, Sl.read, Sl.keep, List.cons_append, List.nil_append, List.getElem?_cons_zero, List.getElem?_cons_succ, List.set_cons_zero, List.set_cons_succ, bindT, bindTs, closeS, ownS, keepP, if_true, if_false, ↓reduceIte, Bool.false_eq_true, Nat.reduceAdd, Nat.reduceSub, List.replicate_succ, List.replicate_zero, boolD_b, intD_i, isN_none, isN_int, isN_bool, isN_str, isN_tup, isN_lst, Bool.not_true, Bool.not_false, augD, add_int, sub_int, mul_int, fdiv_int, mod_int, mul_str, add_str, add_tup, add_lst, mul_lst, eq_int, ne_int, lt_int, gt_int, le_int, ge_int, eq_str, ne_str, len_str, len_lst, len_tup, abs_int, int_int, int_bool, min2_int, max2_int, tuple_lst, tuple_tup, list_lst, list_tup, slc_str, slc_lst, slc_tup, repS_one, repL_one, idx_t0, idx_t1, idx_t2, idx_l0, rg1_if, rg2_if, eq_self_str, eqv_bool, eq_nil, wipeE, isiD, lcS_v, forS_v, forS_t, lcS_t, app_if, ext_if, en_str, en_lst, items_str, items_lst, items_tup, Int.toNat_natCast, ev_lc2, lcS2_v, lcS2_t, tgV, tgVs, ev_rev, ev_itl, evI_rg3, rg3_if, List.append_nil, hideE, hideS, nin_ints, ret_ite]]
  try simp -dsimp -implicitDefEqProofs (disch := first | omega | (simp; omega)) only [ev_var, ev_cst, ev_tup, ev_lst, ev_bin, ev_neg, ev_not, ev_and, ev_or, ev_cmp, ev_isN, ev_notN, ev_chn, ev_ite, ev_idx, ev_slc, ev_call, ev_bl, ev_mt, ev_isi, ev_lc, evI_it, evI_rg1, evI_rg2, evI_enum, exec_asg, exec_own, exec_par, exec_aug, exec_app, exec_ext, exec_ins, exec_put, exec_aput, exec_ifs, exec_for_, exec_whl, exec_ret, exec_retn, exec_brk, exec_cnt, exec_pass, exec_close, evs_nil, evs_cons, evo_none, evo_some, evc_none, evc_some, execs_nil, execs_cons, nxt_nx, nxt_rt, nxt_bk, nxt_ct, List.length_cons, List.length_nil, List.map_cons, List.map_nil, bnd_r, lift_ret, Env.read, Env.keep, Sl.read, Sl.keep, List.cons_append, List.nil_append, List.getElem?_cons_zero, List.getElem?_cons_succ, List.set_cons_zero, List.set_cons_succ, bindT, bindTs, closeS, ownS, keepP, if_true, if_false, ↓reduceIte, Bool.false_eq_true, Nat.reduceAdd, Nat.reduceSub, List.replicate_succ, List.replicate_zero, boolD_b, intD_i, isN_none, isN_int, isN_bool, isN_str, isN_tup, isN_lst, Bool.not_true, Bool.not_false, augD, add_int, sub_int, mul_int, fdiv_int, mod_int, mul_str, add_str, add_tup, add_lst, mul_lst, eq_int, ne_int, lt_int, gt_int, le_int, ge_int, eq_str, ne_str, len_str, len_lst, len_tup, abs_int, int_int, int_bool, min2_int, max2_int, tuple_lst, tuple_tup, list_lst, list_tup, slc_str, slc_lst, slc_tup, repS_one, repL_one, idx_t0, idx_t1, idx_t2, idx_l0, rg1_if, rg2_if, eq_self_str, eqv_bool, eq_nil, wipeE, isiD, lcS_v, forS_v, forS_t, lcS_t, app_if, ext_if, en_str, en_lst, items_str, items_lst, items_tup, Int.toNat_natCast, ev_lc2, lcS2_v, lcS2_t, tgV, tgVs, ev_rev, ev_itl, evI_rg3, rg3_if, List.append_nil, hideE, hideS, List.length_map]
  rfl
theorem loff_eq {a b : List Int} (ha : a.length ≤ 100) (hb : b.length ≤ 100) (ha2 : ∀ x ∈ a, 0 ≤ x ∧ x < (100 : Nat)) (hb2 : ∀ x ∈ b, 0 ≤ x ∧ x < (100 : Nat)) :
    cal T (k + 2) f__law_off [.list ((runsI a).map encP), .list ((runsI b).map encP)] = ret (.int (offI a b)) := by
  rw [cal_at (show T[f__law_off]? = some ⟨2, 5, b__law_off⟩ from rfl)]
  unfold runF b__law_off
  have a1 := runsI_len a
  have b1 := runsI_len b
  have e1 := lplaces_eq (k := k) (rs := runsI a) (by omega) (runs_ok ha2)
  have e2 := lplaces_eq (k := k) (rs := runsI b) (by omega) (runs_ok hb2)
  rw [pl_runs] at e1 e2
  try simp -dsimp -implicitDefEqProofs (disch := first | omega | (simp; omega)) only [ev_var, ev_cst, ev_tup, ev_lst, ev_bin, ev_neg, ev_not, ev_and, ev_or, ev_cmp, ev_isN, ev_notN, ev_chn, ev_ite, ev_idx, ev_slc, ev_call, ev_bl, ev_mt, ev_isi, ev_lc, evI_it, evI_rg1, evI_rg2, evI_enum, exec_asg, exec_own, exec_par, exec_aug, exec_app, exec_ext, exec_ins, exec_put, exec_aput, exec_ifs, exec_for_, exec_whl, exec_ret, exec_retn, exec_brk, exec_cnt, exec_pass, exec_close, evs_nil, evs_cons, evo_none, evo_some, evc_none, evc_some, execs_nil, execs_cons, nxt_nx, nxt_rt, nxt_bk, nxt_ct, List.length_cons, List.length_nil, List.map_cons, List.map_nil, bnd_r, lift_ret, Env.read, Env.keep, Sl.read, Sl.keep, List.cons_append, List.nil_append, List.getElem?_cons_zero, List.getElem?_cons_succ, List.set_cons_zero, List.set_cons_succ, bindT, bindTs, closeS, ownS, keepP, if_true, if_false, ↓reduceIte, Bool.false_eq_true, Nat.reduceAdd, Nat.reduceSub, List.replicate_succ, List.replicate_zero, boolD_b, intD_i, isN_none, isN_int, isN_bool, isN_str, isN_tup, isN_lst, Bool.not_true, Bool.not_false, augD, add_int, sub_int, mul_int, fdiv_int, mod_int, mul_str, add_str, add_tup, add_lst, mul_lst, eq_int, ne_int, lt_int, gt_int, le_int, ge_int, eq_str, ne_str, len_str, len_lst, len_tup, abs_int, int_int, int_bool, min2_int, max2_int, tuple_lst, tuple_tup, list_lst, list_tup, slc_str, slc_lst, slc_tup, repS_one, repL_one, idx_t0, idx_t1, idx_t2, idx_l0, rg1_if, rg2_if, eq_self_str, eqv_bool, eq_nil, wipeE, isiD, lcS_v, forS_v, forS_t, lcS_t, app_if, ext_if, en_str, en_lst, items_str, items_lst, items_tup, Int.toNat_natCast, ev_lc2, lcS2_v, lcS2_t, tgV, tgVs, ev_rev, ev_itl, evI_rg3, rg3_if, List.append_nil, hideE, hideS, e1, e2]
  rw [lcL_fil .int (fun x => !decide (x ∈ b)) .int fun x hx => by
    rw [lcS_v]
    unfold c__law_off_2 e__law_off_1
    try simp -dsimp -implicitDefEqProofs (disch := first | omega | (simp; omega)) only [ev_var, ev_cst, ev_tup, ev_lst, ev_bin, ev_neg, ev_not, ev_and, ev_or, ev_cmp, ev_isN, ev_notN, ev_chn, ev_ite, ev_idx, ev_slc, ev_call, ev_bl, ev_mt, ev_isi, ev_lc, evI_it, evI_rg1, evI_rg2, evI_enum, exec_asg, exec_own, exec_par, exec_aug, exec_app, exec_ext, exec_ins, exec_put, exec_aput, exec_ifs, exec_for_, exec_whl, exec_ret, exec_retn, exec_brk, exec_cnt, exec_pass, exec_close, evs_nil, evs_cons, evo_none, evo_some, evc_none, evc_some, execs_nil, execs_cons, nxt_nx, nxt_rt, nxt_bk, nxt_ct, List.length_cons, List.length_nil, List.map_cons, List.map_nil, bnd_r, lift_ret, Env.read, Env.keep, Sl.read, Sl.keep, List.cons_append, List.nil_append, List.getElem?_cons_zero, List.getElem?_cons_succ, List.set_cons_zero, List.set_cons_succ, bindT, bindTs, closeS, ownS, keepP, if_true, if_false, ↓reduceIte, Bool.false_eq_true, Nat.reduceAdd, Nat.reduceSub, List.replicate_succ, List.replicate_zero, boolD_b, intD_i, isN_none, isN_int, isN_bool, isN_str, isN_tup, isN_lst, Bool.not_true, Bool.not_false, augD, add_int, sub_int, mul_int, fdiv_int, mod_int, mul_str, add_str, add_tup, add_lst, mul_lst, eq_int, ne_int, lt_int, gt_int, le_int, ge_int, eq_str, ne_str, len_str, len_lst, len_tup, abs_int, int_int, int_bool, min2_int, max2_int, tuple_lst, tuple_tup, list_lst, list_tup, slc_str, slc_lst, slc_tup, repS_one, repL_one, idx_t0, idx_t1, idx_t2, idx_l0, rg1_if, rg2_if, eq_self_str, eqv_bool, eq_nil, wipeE, isiD, lcS_v, forS_v, forS_t, lcS_t, app_if, ext_if, en_str, en_lst, items_str, items_lst, items_tup, Int.toNat_natCast, ev_lc2, lcS2_v, lcS2_t, tgV, tgVs, ev_rev, ev_itl, evI_rg3, rg3_if, List.append_nil, hideE, hideS, nin_ints, ret_ite]]
  try simp -dsimp -implicitDefEqProofs (disch := first | omega | (simp; omega)) only [ev_var, ev_cst, ev_tup, ev_lst, ev_bin, ev_neg, ev_not, ev_and, ev_or, ev_cmp, ev_isN, ev_notN, ev_chn, ev_ite, ev_idx, ev_slc, ev_call, ev_bl, ev_mt, ev_isi, ev_lc, evI_it, evI_rg1, evI_rg2, evI_enum, exec_asg, exec_own, exec_par, exec_aug, exec_app, exec_ext, exec_ins, exec_put, exec_aput, exec_ifs, exec_for_, exec_whl, exec_ret, exec_retn, exec_brk, exec_cnt, exec_pass, exec_close, evs_nil, evs_cons, evo_none, evo_some, evc_none, evc_some, execs_nil, execs_cons, nxt_nx, nxt_rt, nxt_bk, nxt_ct, List.length_cons, List.length_nil, List.map_cons, List.map_nil, bnd_r, lift_ret, Env.read, Env.keep, Sl.read, Sl.keep, List.cons_append, List.nil_append, List.getElem?_cons_zero, List.getElem?_cons_succ, List.set_cons_zero, List.set_cons_succ, bindT, bindTs, closeS, ownS, keepP, if_true, if_false, ↓reduceIte, Bool.false_eq_true, Nat.reduceAdd, Nat.reduceSub, List.replicate_succ, List.replicate_zero, boolD_b, intD_i, isN_none, isN_int, isN_bool, isN_str, isN_tup, isN_lst, Bool.not_true, Bool.not_false, augD, add_int, sub_int, mul_int, fdiv_int, mod_int, mul_str, add_str, add_tup, add_lst, mul_lst, eq_int, ne_int, lt_int, gt_int, le_int, ge_int, eq_str, ne_str, len_str, len_lst, len_tup, abs_int, int_int, int_bool, min2_int, max2_int, tuple_lst, tuple_tup, list_lst, list_tup, slc_str, slc_lst, slc_tup, repS_one, repL_one, idx_t0, idx_t1, idx_t2, idx_l0, rg1_if, rg2_if, eq_self_str, eqv_bool, eq_nil, wipeE, isiD, lcS_v, forS_v, forS_t, lcS_t, app_if, ext_if, en_str, en_lst, items_str, items_lst, items_tup, Int.toNat_natCast, ev_lc2, lcS2_v, lcS2_t, tgV, tgVs, ev_rev, ev_itl, evI_rg3, rg3_if, List.append_nil, hideE, hideS]
  rw [lcL_fil .int (fun x => !decide (x ∈ a)) .int fun x hx => by
    rw [lcS_v]
    unfold c__law_off_4 e__law_off_3
    try simp -dsimp -implicitDefEqProofs (disch := first | omega | (simp; omega)) only [ev_var, ev_cst, ev_tup, ev_lst, ev_bin, ev_neg, ev_not, ev_and, ev_or, ev_cmp, ev_isN, ev_notN, ev_chn, ev_ite, ev_idx, ev_slc, ev_call, ev_bl, ev_mt, ev_isi, ev_lc, evI_it, evI_rg1, evI_rg2, evI_enum, exec_asg, exec_own, exec_par, exec_aug, exec_app, exec_ext, exec_ins, exec_put, exec_aput, exec_ifs, exec_for_, exec_whl, exec_ret, exec_retn, exec_brk, exec_cnt, exec_pass, exec_close, evs_nil, evs_cons, evo_none, evo_some, evc_none, evc_some, execs_nil, execs_cons, nxt_nx, nxt_rt, nxt_bk, nxt_ct, List.length_cons, List.length_nil, List.map_cons, List.map_nil, bnd_r, lift_ret, Env.read, Env.keep, Sl.read, Sl.keep, List.cons_append, List.nil_append, List.getElem?_cons_zero, List.getElem?_cons_succ, List.set_cons_zero, List.set_cons_succ, bindT, bindTs, closeS, ownS, keepP, if_true, if_false, ↓reduceIte, Bool.false_eq_true, Nat.reduceAdd, Nat.reduceSub, List.replicate_succ, List.replicate_zero, boolD_b, intD_i, isN_none, isN_int, isN_bool, isN_str, isN_tup, isN_lst, Bool.not_true, Bool.not_false, augD, add_int, sub_int, mul_int, fdiv_int, mod_int, mul_str, add_str, add_tup, add_lst, mul_lst, eq_int, ne_int, lt_int, gt_int, le_int, ge_int, eq_str, ne_str, len_str, len_lst, len_tup, abs_int, int_int, int_bool, min2_int, max2_int, tuple_lst, tuple_tup, list_lst, list_tup, slc_str, slc_lst, slc_tup, repS_one, repL_one, idx_t0, idx_t1, idx_t2, idx_l0, rg1_if, rg2_if, eq_self_str, eqv_bool, eq_nil, wipeE, isiD, lcS_v, forS_v, forS_t, lcS_t, app_if, ext_if, en_str, en_lst, items_str, items_lst, items_tup, Int.toNat_natCast, ev_lc2, lcS2_v, lcS2_t, tgV, tgVs, ev_rev, ev_itl, evI_rg3, rg3_if, List.append_nil, hideE, hideS, nin_ints, ret_ite]]
  try simp -dsimp -implicitDefEqProofs (disch := first | omega | (simp; omega)) only [ev_var, ev_cst, ev_tup, ev_lst, ev_bin, ev_neg, ev_not, ev_and, ev_or, ev_cmp, ev_isN, ev_notN, ev_chn, ev_ite, ev_idx, ev_slc, ev_call, ev_bl, ev_mt, ev_isi, ev_lc, evI_it, evI_rg1, evI_rg2, evI_enum, exec_asg, exec_own, exec_par, exec_aug, exec_app, exec_ext, exec_ins, exec_put, exec_aput, exec_ifs, exec_for_, exec_whl, exec_ret, exec_retn, exec_brk, exec_cnt, exec_pass, exec_close, evs_nil, evs_cons, evo_none, evo_some, evc_none, evc_some, execs_nil, execs_cons, nxt_nx, nxt_rt, nxt_bk, nxt_ct, List.length_cons, List.length_nil, List.map_cons, List.map_nil, bnd_r, lift_ret, Env.read, Env.keep, Sl.read, Sl.keep, List.cons_append, List.nil_append, List.getElem?_cons_zero, List.getElem?_cons_succ, List.set_cons_zero, List.set_cons_succ, bindT, bindTs, closeS, ownS, keepP, if_true, if_false, ↓reduceIte, Bool.false_eq_true, Nat.reduceAdd, Nat.reduceSub, List.replicate_succ, List.replicate_zero, boolD_b, intD_i, isN_none, isN_int, isN_bool, isN_str, isN_tup, isN_lst, Bool.not_true, Bool.not_false, augD, add_int, sub_int, mul_int, fdiv_int, mod_int, mul_str, add_str, add_tup, add_lst, mul_lst, eq_int, ne_int, lt_int, gt_int, le_int, ge_int, eq_str, ne_str, len_str, len_lst, len_tup, abs_int, int_int, int_bool, min2_int, max2_int, tuple_lst, tuple_tup, list_lst, list_tup, slc_str, slc_lst, slc_tup, repS_one, repL_one, idx_t0, idx_t1, idx_t2, idx_l0, rg1_if, rg2_if, eq_self_str, eqv_bool, eq_nil, wipeE, isiD, lcS_v, forS_v, forS_t, lcS_t, app_if, ext_if, en_str, en_lst, items_str, items_lst, items_tup, Int.toNat_natCast, ev_lc2, lcS2_v, lcS2_t, tgV, tgVs, ev_rev, ev_itl, evI_rg3, rg3_if, List.append_nil, hideE, hideS, List.length_map]
  rfl
/-! the best level -/
def offsF (row ps : List Int) (j : Nat) : Int := offI (loudI row j) ps
theorem rgI_nat {n : Nat} : rgI 0 n = (List.range n).map fun k : Nat => (k : Int) := by
  unfold rgI
  simp
theorem top_eq {row : List Int} {M : Nat} (hM : (M : Int) ∈ (0 :: row)) (hle : ∀ x ∈ row, x ≤ M) : blD .max1 [.tuple (.int 0 :: row.map .int)] = some (.int M) := by
  refine max_ints (l := 0 :: row) hM fun x hx => ?_
  rcases List.mem_cons.mp hx with rfl | hx
  · omega
  · exact hle x hx
theorem best_eq {row ps : List Int} {M b : Nat} (hl : row.length ≤ 20) (hp : ps.length ≤ 20) (hp2 : ∀ x ∈ ps, 0 ≤ x ∧ x < (20 : Nat)) (hM : (M : Int) ∈ (0 :: row)) (hle : ∀ x ∈ row, x ≤ M) (hM2 : M ≤ 100) (hb : b < M + 2) (h1 : ∀ j, j < M + 2 → offsF row ps b ≤ offsF row ps j) (h2 : ∀ j, j < b → offsF row ps b < offsF row ps j) :
    cal T (k + 3) f_best_level [.tuple (row.map .int), .tuple ((runsI ps).map encP)] = ret (.tuple [.int (offsF row ps b), .int b]) := by
  rw [cal_at (show T[f_best_level]? = some ⟨2, 4, b_best_level⟩ from rfl)]
  unfold runF b_best_level
  try simp -dsimp -implicitDefEqProofs (disch := first | omega | (simp; omega)) only [ev_var, ev_cst, ev_tup, ev_lst, ev_bin, ev_neg, ev_not, ev_and, ev_or, ev_cmp, ev_isN, ev_notN, ev_chn, ev_ite, ev_idx, ev_slc, ev_call, ev_bl, ev_mt, ev_isi, ev_lc, evI_it, evI_rg1, evI_rg2, evI_enum, exec_asg, exec_own, exec_par, exec_aug, exec_app, exec_ext, exec_ins, exec_put, exec_aput, exec_ifs, exec_for_, exec_whl, exec_ret, exec_retn, exec_brk, exec_cnt, exec_pass, exec_close, evs_nil, evs_cons, evo_none, evo_some, evc_none, evc_some, execs_nil, execs_cons, nxt_nx, nxt_rt, nxt_bk, nxt_ct, List.length_cons, List.length_nil, List.map_cons, List.map_nil, bnd_r, lift_ret, Env.read, Env.keep, Sl.read, Sl.keep, List.cons_append, List.nil_append, List.getElem?_cons_zero, List.getElem?_cons_succ, List.set_cons_zero, List.set_cons_succ, bindT, bindTs, closeS, ownS, keepP, if_true, if_false, ↓reduceIte, Bool.false_eq_true, Nat.reduceAdd, Nat.reduceSub, List.replicate_succ, List.replicate_zero, boolD_b, intD_i, isN_none, isN_int, isN_bool, isN_str, isN_tup, isN_lst, Bool.not_true, Bool.not_false, augD, add_int, sub_int, mul_int, fdiv_int, mod_int, mul_str, add_str, add_tup, add_lst, mul_lst, eq_int, ne_int, lt_int, gt_int, le_int, ge_int, eq_str, ne_str, len_str, len_lst, len_tup, abs_int, int_int, int_bool, min2_int, max2_int, tuple_lst, tuple_tup, list_lst, list_tup, slc_str, slc_lst, slc_tup, repS_one, repL_one, idx_t0, idx_t1, idx_t2, idx_l0, rg1_if, rg2_if, eq_self_str, eqv_bool, eq_nil, wipeE, isiD, lcS_v, forS_v, forS_t, lcS_t, app_if, ext_if, en_str, en_lst, items_str, items_lst, items_tup, Int.toNat_natCast, ev_lc2, lcS2_v, lcS2_t, tgV, tgVs, ev_rev, ev_itl, evI_rg3, rg3_if, List.append_nil, hideE, hideS, top_eq hM hle]
  rw [rgD_I, show ((M : Int) + 2) = ((M + 2 : Nat) : Int) by omega]
  have l3 : ((rgI 0 ((M + 2 : Nat) : Int)).map PyData.int).length ≤ lineMax := by
    rw [List.length_map, rgI_len]
    have : lineMax = 16000000 := rfl
    omega
  try simp -dsimp -implicitDefEqProofs (disch := first | omega | (simp; omega)) only [ev_var, ev_cst, ev_tup, ev_lst, ev_bin, ev_neg, ev_not, ev_and, ev_or, ev_cmp, ev_isN, ev_notN, ev_chn, ev_ite, ev_idx, ev_slc, ev_call, ev_bl, ev_mt, ev_isi, ev_lc, evI_it, evI_rg1, evI_rg2, evI_enum, exec_asg, exec_own, exec_par, exec_aug, exec_app, exec_ext, exec_ins, exec_put, exec_aput, exec_ifs, exec_for_, exec_whl, exec_ret, exec_retn, exec_brk, exec_cnt, exec_pass, exec_close, evs_nil, evs_cons, evo_none, evo_some, evc_none, evc_some, execs_nil, execs_cons, nxt_nx, nxt_rt, nxt_bk, nxt_ct, List.length_cons, List.length_nil, List.map_cons, List.map_nil, bnd_r, lift_ret, Env.read, Env.keep, Sl.read, Sl.keep, List.cons_append, List.nil_append, List.getElem?_cons_zero, List.getElem?_cons_succ, List.set_cons_zero, List.set_cons_succ, bindT, bindTs, closeS, ownS, keepP, if_true, if_false, ↓reduceIte, Bool.false_eq_true, Nat.reduceAdd, Nat.reduceSub, List.replicate_succ, List.replicate_zero, boolD_b, intD_i, isN_none, isN_int, isN_bool, isN_str, isN_tup, isN_lst, Bool.not_true, Bool.not_false, augD, add_int, sub_int, mul_int, fdiv_int, mod_int, mul_str, add_str, add_tup, add_lst, mul_lst, eq_int, ne_int, lt_int, gt_int, le_int, ge_int, eq_str, ne_str, len_str, len_lst, len_tup, abs_int, int_int, int_bool, min2_int, max2_int, tuple_lst, tuple_tup, list_lst, list_tup, slc_str, slc_lst, slc_tup, repS_one, repL_one, idx_t0, idx_t1, idx_t2, idx_l0, rg1_if, rg2_if, eq_self_str, eqv_bool, eq_nil, wipeE, isiD, lcS_v, forS_v, forS_t, lcS_t, app_if, ext_if, en_str, en_lst, items_str, items_lst, items_tup, Int.toNat_natCast, ev_lc2, lcS2_v, lcS2_t, tgV, tgVs, ev_rev, ev_itl, evI_rg3, rg3_if, List.append_nil, hideE, hideS, if_pos l3]
  rw [rgI_nat, List.map_map, lcL_map (PyData.int ∘ fun k : Nat => (k : Int)) (fun j => encP (offsF row ps j, (j : Int))) fun j hj => ?_]
  · try simp -dsimp -implicitDefEqProofs (disch := first | omega | (simp; omega)) only [ev_var, ev_cst, ev_tup, ev_lst, ev_bin, ev_neg, ev_not, ev_and, ev_or, ev_cmp, ev_isN, ev_notN, ev_chn, ev_ite, ev_idx, ev_slc, ev_call, ev_bl, ev_mt, ev_isi, ev_lc, evI_it, evI_rg1, evI_rg2, evI_enum, exec_asg, exec_own, exec_par, exec_aug, exec_app, exec_ext, exec_ins, exec_put, exec_aput, exec_ifs, exec_for_, exec_whl, exec_ret, exec_retn, exec_brk, exec_cnt, exec_pass, exec_close, evs_nil, evs_cons, evo_none, evo_some, evc_none, evc_some, execs_nil, execs_cons, nxt_nx, nxt_rt, nxt_bk, nxt_ct, List.length_cons, List.length_nil, List.map_cons, List.map_nil, bnd_r, lift_ret, Env.read, Env.keep, Sl.read, Sl.keep, List.cons_append, List.nil_append, List.getElem?_cons_zero, List.getElem?_cons_succ, List.set_cons_zero, List.set_cons_succ, bindT, bindTs, closeS, ownS, keepP, if_true, if_false, ↓reduceIte, Bool.false_eq_true, Nat.reduceAdd, Nat.reduceSub, List.replicate_succ, List.replicate_zero, boolD_b, intD_i, isN_none, isN_int, isN_bool, isN_str, isN_tup, isN_lst, Bool.not_true, Bool.not_false, augD, add_int, sub_int, mul_int, fdiv_int, mod_int, mul_str, add_str, add_tup, add_lst, mul_lst, eq_int, ne_int, lt_int, gt_int, le_int, ge_int, eq_str, ne_str, len_str, len_lst, len_tup, abs_int, int_int, int_bool, min2_int, max2_int, tuple_lst, tuple_tup, list_lst, list_tup, slc_str, slc_lst, slc_tup, repS_one, repL_one, idx_t0, idx_t1, idx_t2, idx_l0, rg1_if, rg2_if, eq_self_str, eqv_bool, eq_nil, wipeE, isiD, lcS_v, forS_v, forS_t, lcS_t, app_if, ext_if, en_str, en_lst, items_str, items_lst, items_tup, Int.toNat_natCast, ev_lc2, lcS2_v, lcS2_t, tgV, tgVs, ev_rev, ev_itl, evI_rg3, rg3_if, List.append_nil, hideE, hideS]
    have := min_places (f := offsF row ps) hb h1 h2
    rw [List.map_map] at this
    rw [show (fun j : Nat => encP (offsF row ps j, (j : Int))) = (encP ∘ fun k : Nat => (offsF row ps k, (k : Int))) from rfl]
    try simp -dsimp -implicitDefEqProofs (disch := first | omega | (simp; omega)) only [ev_var, ev_cst, ev_tup, ev_lst, ev_bin, ev_neg, ev_not, ev_and, ev_or, ev_cmp, ev_isN, ev_notN, ev_chn, ev_ite, ev_idx, ev_slc, ev_call, ev_bl, ev_mt, ev_isi, ev_lc, evI_it, evI_rg1, evI_rg2, evI_enum, exec_asg, exec_own, exec_par, exec_aug, exec_app, exec_ext, exec_ins, exec_put, exec_aput, exec_ifs, exec_for_, exec_whl, exec_ret, exec_retn, exec_brk, exec_cnt, exec_pass, exec_close, evs_nil, evs_cons, evo_none, evo_some, evc_none, evc_some, execs_nil, execs_cons, nxt_nx, nxt_rt, nxt_bk, nxt_ct, List.length_cons, List.length_nil, List.map_cons, List.map_nil, bnd_r, lift_ret, Env.read, Env.keep, Sl.read, Sl.keep, List.cons_append, List.nil_append, List.getElem?_cons_zero, List.getElem?_cons_succ, List.set_cons_zero, List.set_cons_succ, bindT, bindTs, closeS, ownS, keepP, if_true, if_false, ↓reduceIte, Bool.false_eq_true, Nat.reduceAdd, Nat.reduceSub, List.replicate_succ, List.replicate_zero, boolD_b, intD_i, isN_none, isN_int, isN_bool, isN_str, isN_tup, isN_lst, Bool.not_true, Bool.not_false, augD, add_int, sub_int, mul_int, fdiv_int, mod_int, mul_str, add_str, add_tup, add_lst, mul_lst, eq_int, ne_int, lt_int, gt_int, le_int, ge_int, eq_str, ne_str, len_str, len_lst, len_tup, abs_int, int_int, int_bool, min2_int, max2_int, tuple_lst, tuple_tup, list_lst, list_tup, slc_str, slc_lst, slc_tup, repS_one, repL_one, idx_t0, idx_t1, idx_t2, idx_l0, rg1_if, rg2_if, eq_self_str, eqv_bool, eq_nil, wipeE, isiD, lcS_v, forS_v, forS_t, lcS_t, app_if, ext_if, en_str, en_lst, items_str, items_lst, items_tup, Int.toNat_natCast, ev_lc2, lcS2_v, lcS2_t, tgV, tgVs, ev_rev, ev_itl, evI_rg3, rg3_if, List.append_nil, hideE, hideS, this]
    rfl
  · have e1 := loud_eq (k := k) (row := row) (lv := (j : Int)) hl
    have l1 := loud_len (row := row) (lv := (j : Int))
    have e2 := off_eq (k := k) (a := loudI row j) (b := ps) (by omega) (by omega) (fun x hx => by have := loud_in hx; omega) fun x hx => by have := hp2 x hx; omega
    show lcS _ _ _ _ _ _ (.int (j : Int)) = _
    rw [lcS_v]
    unfold e_best_level_1
    try simp -dsimp -implicitDefEqProofs (disch := first | omega | (simp; omega)) only [ev_var, ev_cst, ev_tup, ev_lst, ev_bin, ev_neg, ev_not, ev_and, ev_or, ev_cmp, ev_isN, ev_notN, ev_chn, ev_ite, ev_idx, ev_slc, ev_call, ev_bl, ev_mt, ev_isi, ev_lc, evI_it, evI_rg1, evI_rg2, evI_enum, exec_asg, exec_own, exec_par, exec_aug, exec_app, exec_ext, exec_ins, exec_put, exec_aput, exec_ifs, exec_for_, exec_whl, exec_ret, exec_retn, exec_brk, exec_cnt, exec_pass, exec_close, evs_nil, evs_cons, evo_none, evo_some, evc_none, evc_some, execs_nil, execs_cons, nxt_nx, nxt_rt, nxt_bk, nxt_ct, List.length_cons, List.length_nil, List.map_cons, List.map_nil, bnd_r, lift_ret, Env.read, Env.keep, Sl.read, Sl.keep, List.cons_append, List.nil_append, List.getElem?_cons_zero, List.getElem?_cons_succ, List.set_cons_zero, List.set_cons_succ, bindT, bindTs, closeS, ownS, keepP, if_true, if_false, ↓reduceIte, Bool.false_eq_true, Nat.reduceAdd, Nat.reduceSub, List.replicate_succ, List.replicate_zero, boolD_b, intD_i, isN_none, isN_int, isN_bool, isN_str, isN_tup, isN_lst, Bool.not_true, Bool.not_false, augD, add_int, sub_int, mul_int, fdiv_int, mod_int, mul_str, add_str, add_tup, add_lst, mul_lst, eq_int, ne_int, lt_int, gt_int, le_int, ge_int, eq_str, ne_str, len_str, len_lst, len_tup, abs_int, int_int, int_bool, min2_int, max2_int, tuple_lst, tuple_tup, list_lst, list_tup, slc_str, slc_lst, slc_tup, repS_one, repL_one, idx_t0, idx_t1, idx_t2, idx_l0, rg1_if, rg2_if, eq_self_str, eqv_bool, eq_nil, wipeE, isiD, lcS_v, forS_v, forS_t, lcS_t, app_if, ext_if, en_str, en_lst, items_str, items_lst, items_tup, Int.toNat_natCast, ev_lc2, lcS2_v, lcS2_t, tgV, tgVs, ev_rev, ev_itl, evI_rg3, rg3_if, List.append_nil, hideE, hideS, e1, e2, getP]
    rfl
/-! captions over places -/
def cov (caps : List Cap) (m : Int) : Bool := caps.any fun c => decide (c.1 ≤ m) && decide (m < c.2.1)
theorem shown_eq {caps : List Cap} {m : Int} (hl : caps.length ≤ 100) : ∃ d, cal T (k + 1) f_shown_at [.tuple (caps.map encC), .int m] = ret d ∧ isN d = !cov caps m := by
  rw [cal_at (show T[f_shown_at]? = some ⟨2, 4, b_shown_at⟩ from rfl)]
  unfold runF b_shown_at
  let q : Int → Bool := fun i => match caps[i.toNat]? with
    | some c => decide (c.1 ≤ m) && decide (m < c.2.1)
    | none => false
  have e : lcL (lcS (cal T k) [3] (.v 3) (some c_shown_at_2) e_shown_at_1 [.cl (.tuple (caps.map encC)), .cl (.int m), .un, .un]) (rgD 0 caps.length) = ret (((rgI 0 caps.length).filter q).map .int) := by
    rw [rgD_I, lcL_fil .int q .int fun x hx => ?_]
    have hx := mem_rgI.mp hx
    have hlt : x.toNat < caps.length := by omega
    have e1 : (caps.map encC)[x.toNat]? = some (encC caps[x.toNat]) := by simp [hlt]
    have hq : q x = (decide (caps[x.toNat].1 ≤ m) && decide (m < caps[x.toNat].2.1)) := by
      show (match caps[x.toNat]? with | some c => _ | none => _) = _
      rw [List.getElem?_eq_getElem hlt]
    rw [lcS_v, hq]
    unfold c_shown_at_2 e_shown_at_1
    by_cases h1 : caps[x.toNat].1 ≤ m
    · try simp -dsimp -implicitDefEqProofs (disch := first | omega | (simp; omega)) only [ev_var, ev_cst, ev_tup, ev_lst, ev_bin, ev_neg, ev_not, ev_and, ev_or, ev_cmp, ev_isN, ev_notN, ev_chn, ev_ite, ev_idx, ev_slc, ev_call, ev_bl, ev_mt, ev_isi, ev_lc, evI_it, evI_rg1, evI_rg2, evI_enum, exec_asg, exec_own, exec_par, exec_aug, exec_app, exec_ext, exec_ins, exec_put, exec_aput, exec_ifs, exec_for_, exec_whl, exec_ret, exec_retn, exec_brk, exec_cnt, exec_pass, exec_close, evs_nil, evs_cons, evo_none, evo_some, evc_none, evc_some, execs_nil, execs_cons, nxt_nx, nxt_rt, nxt_bk, nxt_ct, List.length_cons, List.length_nil, List.map_cons, List.map_nil, bnd_r, lift_ret, Env.read, Env.keep, Sl.read, Sl.keep, List.cons_append, List.nil_append, List.getElem?_cons_zero, List.getElem?_cons_succ, List.set_cons_zero, List.set_cons_succ, bindT, bindTs, closeS, ownS, keepP, if_true, if_false, ↓reduceIte, Bool.false_eq_true, Nat.reduceAdd, Nat.reduceSub, List.replicate_succ, List.replicate_zero, boolD_b, intD_i, isN_none, isN_int, isN_bool, isN_str, isN_tup, isN_lst, Bool.not_true, Bool.not_false, augD, add_int, sub_int, mul_int, fdiv_int, mod_int, mul_str, add_str, add_tup, add_lst, mul_lst, eq_int, ne_int, lt_int, gt_int, le_int, ge_int, eq_str, ne_str, len_str, len_lst, len_tup, abs_int, int_int, int_bool, min2_int, max2_int, tuple_lst, tuple_tup, list_lst, list_tup, slc_str, slc_lst, slc_tup, repS_one, repL_one, idx_t0, idx_t1, idx_t2, idx_l0, rg1_if, rg2_if, eq_self_str, eqv_bool, eq_nil, wipeE, isiD, lcS_v, forS_v, forS_t, lcS_t, app_if, ext_if, en_str, en_lst, items_str, items_lst, items_tup, Int.toNat_natCast, ev_lc2, lcS2_v, lcS2_t, tgV, tgVs, ev_rev, ev_itl, evI_rg3, rg3_if, List.append_nil, hideE, hideS, idx_tup hx.1 e1, encC, h1, decide_true, Bool.true_and, ret_ite]
    · try simp -dsimp -implicitDefEqProofs (disch := first | omega | (simp; omega)) only [ev_var, ev_cst, ev_tup, ev_lst, ev_bin, ev_neg, ev_not, ev_and, ev_or, ev_cmp, ev_isN, ev_notN, ev_chn, ev_ite, ev_idx, ev_slc, ev_call, ev_bl, ev_mt, ev_isi, ev_lc, evI_it, evI_rg1, evI_rg2, evI_enum, exec_asg, exec_own, exec_par, exec_aug, exec_app, exec_ext, exec_ins, exec_put, exec_aput, exec_ifs, exec_for_, exec_whl, exec_ret, exec_retn, exec_brk, exec_cnt, exec_pass, exec_close, evs_nil, evs_cons, evo_none, evo_some, evc_none, evc_some, execs_nil, execs_cons, nxt_nx, nxt_rt, nxt_bk, nxt_ct, List.length_cons, List.length_nil, List.map_cons, List.map_nil, bnd_r, lift_ret, Env.read, Env.keep, Sl.read, Sl.keep, List.cons_append, List.nil_append, List.getElem?_cons_zero, List.getElem?_cons_succ, List.set_cons_zero, List.set_cons_succ, bindT, bindTs, closeS, ownS, keepP, if_true, if_false, ↓reduceIte, Bool.false_eq_true, Nat.reduceAdd, Nat.reduceSub, List.replicate_succ, List.replicate_zero, boolD_b, intD_i, isN_none, isN_int, isN_bool, isN_str, isN_tup, isN_lst, Bool.not_true, Bool.not_false, augD, add_int, sub_int, mul_int, fdiv_int, mod_int, mul_str, add_str, add_tup, add_lst, mul_lst, eq_int, ne_int, lt_int, gt_int, le_int, ge_int, eq_str, ne_str, len_str, len_lst, len_tup, abs_int, int_int, int_bool, min2_int, max2_int, tuple_lst, tuple_tup, list_lst, list_tup, slc_str, slc_lst, slc_tup, repS_one, repL_one, idx_t0, idx_t1, idx_t2, idx_l0, rg1_if, rg2_if, eq_self_str, eqv_bool, eq_nil, wipeE, isiD, lcS_v, forS_v, forS_t, lcS_t, app_if, ext_if, en_str, en_lst, items_str, items_lst, items_tup, Int.toNat_natCast, ev_lc2, lcS2_v, lcS2_t, tgV, tgVs, ev_rev, ev_itl, evI_rg3, rg3_if, List.append_nil, hideE, hideS, idx_tup hx.1 e1, encC, h1, decide_false, Bool.false_and]
  have hany : cov caps m = !((rgI 0 caps.length).filter q).isEmpty := by
    unfold cov
    rw [Bool.eq_iff_iff]
    simp only [List.any_eq_true, Bool.not_eq_true', List.isEmpty_eq_false_iff_exists_mem, List.mem_filter]
    constructor
    · rintro ⟨c, hc, h⟩
      obtain ⟨i, hi⟩ := List.mem_iff_getElem?.mp hc
      refine ⟨(i : Int), mem_rgI.mpr ⟨by omega, ?_⟩, ?_⟩
      · have := (List.getElem?_eq_some_iff.mp hi).1
        omega
      · show (match caps[(i : Int).toNat]? with | some c => _ | none => _) = true
        rw [Int.toNat_natCast, hi]
        exact h
    · rintro ⟨x, hx, h⟩
      have hx := mem_rgI.mp hx
      have hlt : x.toNat < caps.length := by omega
      have h : (match caps[x.toNat]? with | some c => decide (c.1 ≤ m) && decide (m < c.2.1) | none => false) = true := h
      rw [List.getElem?_eq_getElem hlt] at h
      exact ⟨_, List.getElem_mem _, h⟩
  try simp -dsimp -implicitDefEqProofs (disch := first | omega | (simp; omega)) only [ev_var, ev_cst, ev_tup, ev_lst, ev_bin, ev_neg, ev_not, ev_and, ev_or, ev_cmp, ev_isN, ev_notN, ev_chn, ev_ite, ev_idx, ev_slc, ev_call, ev_bl, ev_mt, ev_isi, ev_lc, evI_it, evI_rg1, evI_rg2, evI_enum, exec_asg, exec_own, exec_par, exec_aug, exec_app, exec_ext, exec_ins, exec_put, exec_aput, exec_ifs, exec_for_, exec_whl, exec_ret, exec_retn, exec_brk, exec_cnt, exec_pass, exec_close, evs_nil, evs_cons, evo_none, evo_some, evc_none, evc_some, execs_nil, execs_cons, nxt_nx, nxt_rt, nxt_bk, nxt_ct, List.length_cons, List.length_nil, List.map_cons, List.map_nil, bnd_r, lift_ret, Env.read, Env.keep, Sl.read, Sl.keep, List.cons_append, List.nil_append, List.getElem?_cons_zero, List.getElem?_cons_succ, List.set_cons_zero, List.set_cons_succ, bindT, bindTs, closeS, ownS, keepP, if_true, if_false, ↓reduceIte, Bool.false_eq_true, Nat.reduceAdd, Nat.reduceSub, List.replicate_succ, List.replicate_zero, boolD_b, intD_i, isN_none, isN_int, isN_bool, isN_str, isN_tup, isN_lst, Bool.not_true, Bool.not_false, augD, add_int, sub_int, mul_int, fdiv_int, mod_int, mul_str, add_str, add_tup, add_lst, mul_lst, eq_int, ne_int, lt_int, gt_int, le_int, ge_int, eq_str, ne_str, len_str, len_lst, len_tup, abs_int, int_int, int_bool, min2_int, max2_int, tuple_lst, tuple_tup, list_lst, list_tup, slc_str, slc_lst, slc_tup, repS_one, repL_one, idx_t0, idx_t1, idx_t2, idx_l0, rg1_if, rg2_if, eq_self_str, eqv_bool, eq_nil, wipeE, isiD, lcS_v, forS_v, forS_t, lcS_t, app_if, ext_if, en_str, en_lst, items_str, items_lst, items_tup, Int.toNat_natCast, ev_lc2, lcS2_v, lcS2_t, tgV, tgVs, ev_rev, ev_itl, evI_rg3, rg3_if, List.append_nil, hideE, hideS, List.length_map]
  rw [e, hany]
  cases hf : (rgI 0 caps.length).filter q with
  | nil =>
    refine ⟨.none, ?_, rfl⟩
    try simp -dsimp -implicitDefEqProofs (disch := first | omega | (simp; omega)) only [ev_var, ev_cst, ev_tup, ev_lst, ev_bin, ev_neg, ev_not, ev_and, ev_or, ev_cmp, ev_isN, ev_notN, ev_chn, ev_ite, ev_idx, ev_slc, ev_call, ev_bl, ev_mt, ev_isi, ev_lc, evI_it, evI_rg1, evI_rg2, evI_enum, exec_asg, exec_own, exec_par, exec_aug, exec_app, exec_ext, exec_ins, exec_put, exec_aput, exec_ifs, exec_for_, exec_whl, exec_ret, exec_retn, exec_brk, exec_cnt, exec_pass, exec_close, evs_nil, evs_cons, evo_none, evo_some, evc_none, evc_some, execs_nil, execs_cons, nxt_nx, nxt_rt, nxt_bk, nxt_ct, List.length_cons, List.length_nil, List.map_cons, List.map_nil, bnd_r, lift_ret, Env.read, Env.keep, Sl.read, Sl.keep, List.cons_append, List.nil_append, List.getElem?_cons_zero, List.getElem?_cons_succ, List.set_cons_zero, List.set_cons_succ, bindT, bindTs, closeS, ownS, keepP, if_true, if_false, ↓reduceIte, Bool.false_eq_true, Nat.reduceAdd, Nat.reduceSub, List.replicate_succ, List.replicate_zero, boolD_b, intD_i, isN_none, isN_int, isN_bool, isN_str, isN_tup, isN_lst, Bool.not_true, Bool.not_false, augD, add_int, sub_int, mul_int, fdiv_int, mod_int, mul_str, add_str, add_tup, add_lst, mul_lst, eq_int, ne_int, lt_int, gt_int, le_int, ge_int, eq_str, ne_str, len_str, len_lst, len_tup, abs_int, int_int, int_bool, min2_int, max2_int, tuple_lst, tuple_tup, list_lst, list_tup, slc_str, slc_lst, slc_tup, repS_one, repL_one, idx_t0, idx_t1, idx_t2, idx_l0, rg1_if, rg2_if, eq_self_str, eqv_bool, eq_nil, wipeE, isiD, lcS_v, forS_v, forS_t, lcS_t, app_if, ext_if, en_str, en_lst, items_str, items_lst, items_tup, Int.toNat_natCast, ev_lc2, lcS2_v, lcS2_t, tgV, tgVs, ev_rev, ev_itl, evI_rg3, rg3_if, List.append_nil, hideE, hideS, show cmpD .ne (.list []) (.list []) = some (.bool false) from rfl]
  | cons x r =>
    refine ⟨.int x, ?_, rfl⟩
    have ne : cmpD .ne (.list (PyData.int x :: r.map PyData.int)) (.list []) = some (.bool true) := by
      have := ne_ints (l := x :: r)
      exact this
    try simp -dsimp -implicitDefEqProofs (disch := first | omega | (simp; omega)) only [ev_var, ev_cst, ev_tup, ev_lst, ev_bin, ev_neg, ev_not, ev_and, ev_or, ev_cmp, ev_isN, ev_notN, ev_chn, ev_ite, ev_idx, ev_slc, ev_call, ev_bl, ev_mt, ev_isi, ev_lc, evI_it, evI_rg1, evI_rg2, evI_enum, exec_asg, exec_own, exec_par, exec_aug, exec_app, exec_ext, exec_ins, exec_put, exec_aput, exec_ifs, exec_for_, exec_whl, exec_ret, exec_retn, exec_brk, exec_cnt, exec_pass, exec_close, evs_nil, evs_cons, evo_none, evo_some, evc_none, evc_some, execs_nil, execs_cons, nxt_nx, nxt_rt, nxt_bk, nxt_ct, List.length_cons, List.length_nil, List.map_cons, List.map_nil, bnd_r, lift_ret, Env.read, Env.keep, Sl.read, Sl.keep, List.cons_append, List.nil_append, List.getElem?_cons_zero, List.getElem?_cons_succ, List.set_cons_zero, List.set_cons_succ, bindT, bindTs, closeS, ownS, keepP, if_true, if_false, ↓reduceIte, Bool.false_eq_true, Nat.reduceAdd, Nat.reduceSub, List.replicate_succ, List.replicate_zero, boolD_b, intD_i, isN_none, isN_int, isN_bool, isN_str, isN_tup, isN_lst, Bool.not_true, Bool.not_false, augD, add_int, sub_int, mul_int, fdiv_int, mod_int, mul_str, add_str, add_tup, add_lst, mul_lst, eq_int, ne_int, lt_int, gt_int, le_int, ge_int, eq_str, ne_str, len_str, len_lst, len_tup, abs_int, int_int, int_bool, min2_int, max2_int, tuple_lst, tuple_tup, list_lst, list_tup, slc_str, slc_lst, slc_tup, repS_one, repL_one, idx_t0, idx_t1, idx_t2, idx_l0, rg1_if, rg2_if, eq_self_str, eqv_bool, eq_nil, wipeE, isiD, lcS_v, forS_v, forS_t, lcS_t, app_if, ext_if, en_str, en_lst, items_str, items_lst, items_tup, Int.toNat_natCast, ev_lc2, lcS2_v, lcS2_t, tgV, tgVs, ev_rev, ev_itl, evI_rg3, rg3_if, List.append_nil, hideE, hideS, ne]
end
end Q.K41

set_option Elab.async false
set_option linter.all false
set_option maxRecDepth 100000
/-! K41P5: what the defs give, the last. -/
namespace Q.K41
open PySem Q
section
variable {k : Nat}
def toldI (caps : List Cap) (ps : List Int) : List Int := ps.filter fun x => cov caps (100 * x)
theorem covered_eq {caps : List Cap} {ps : List Int} (hc : caps.length ≤ 100) (hp : ps.length ≤ 100) (hp2 : ∀ x ∈ ps, 0 ≤ x ∧ x < (100 : Nat)) :
    cal T (k + 3) f_covered_runs [.tuple ((runsI ps).map encP), .tuple (caps.map encC)] = ret (if ps = [] then .tuple [.int 1, .int 1] else fracD (toldI caps ps).length ps.length) := by
  rw [cal_at (show T[f_covered_runs]? = some ⟨2, 5, b_covered_runs⟩ from rfl)]
  unfold runF b_covered_runs
  have a1 := runsI_len ps
  have e1 := places_eq (k := k + 1) (rs := runsI ps) (by omega) (runs_ok hp2)
  rw [pl_runs] at e1
  try simp -dsimp -implicitDefEqProofs (disch := first | omega | (simp; omega)) only [ev_var, ev_cst, ev_tup, ev_lst, ev_bin, ev_neg, ev_not, ev_and, ev_or, ev_cmp, ev_isN, ev_notN, ev_chn, ev_ite, ev_idx, ev_slc, ev_call, ev_bl, ev_mt, ev_isi, ev_lc, evI_it, evI_rg1, evI_rg2, evI_enum, exec_asg, exec_own, exec_par, exec_aug, exec_app, exec_ext, exec_ins, exec_put, exec_aput, exec_ifs, exec_for_, exec_whl, exec_ret, exec_retn, exec_brk, exec_cnt, exec_pass, exec_close, evs_nil, evs_cons, evo_none, evo_some, evc_none, evc_some, execs_nil, execs_cons, nxt_nx, nxt_rt, nxt_bk, nxt_ct, List.length_cons, List.length_nil, List.map_cons, List.map_nil, bnd_r, lift_ret, Env.read, Env.keep, Sl.read, Sl.keep, List.cons_append, List.nil_append, List.getElem?_cons_zero, List.getElem?_cons_succ, List.set_cons_zero, List.set_cons_succ, bindT, bindTs, closeS, ownS, keepP, if_true, if_false, ↓reduceIte, Bool.false_eq_true, Nat.reduceAdd, Nat.reduceSub, List.replicate_succ, List.replicate_zero, boolD_b, intD_i, isN_none, isN_int, isN_bool, isN_str, isN_tup, isN_lst, Bool.not_true, Bool.not_false, augD, add_int, sub_int, mul_int, fdiv_int, mod_int, mul_str, add_str, add_tup, add_lst, mul_lst, eq_int, ne_int, lt_int, gt_int, le_int, ge_int, eq_str, ne_str, len_str, len_lst, len_tup, abs_int, int_int, int_bool, min2_int, max2_int, tuple_lst, tuple_tup, list_lst, list_tup, slc_str, slc_lst, slc_tup, repS_one, repL_one, idx_t0, idx_t1, idx_t2, idx_l0, rg1_if, rg2_if, eq_self_str, eqv_bool, eq_nil, wipeE, isiD, lcS_v, forS_v, forS_t, lcS_t, app_if, ext_if, en_str, en_lst, items_str, items_lst, items_tup, Int.toNat_natCast, ev_lc2, lcS2_v, lcS2_t, tgV, tgVs, ev_rev, ev_itl, evI_rg3, rg3_if, List.append_nil, hideE, hideS, e1]
  rw [lcL_fil .int (fun x => cov caps (100 * x)) .int fun x hx => by
    obtain ⟨d, d1, d2⟩ := shown_eq (k := k + 1) (caps := caps) (m := 100 * x) hc
    rw [lcS_v]
    unfold c_covered_runs_2 e_covered_runs_1
    try simp -dsimp -implicitDefEqProofs (disch := first | omega | (simp; omega)) only [ev_var, ev_cst, ev_tup, ev_lst, ev_bin, ev_neg, ev_not, ev_and, ev_or, ev_cmp, ev_isN, ev_notN, ev_chn, ev_ite, ev_idx, ev_slc, ev_call, ev_bl, ev_mt, ev_isi, ev_lc, evI_it, evI_rg1, evI_rg2, evI_enum, exec_asg, exec_own, exec_par, exec_aug, exec_app, exec_ext, exec_ins, exec_put, exec_aput, exec_ifs, exec_for_, exec_whl, exec_ret, exec_retn, exec_brk, exec_cnt, exec_pass, exec_close, evs_nil, evs_cons, evo_none, evo_some, evc_none, evc_some, execs_nil, execs_cons, nxt_nx, nxt_rt, nxt_bk, nxt_ct, List.length_cons, List.length_nil, List.map_cons, List.map_nil, bnd_r, lift_ret, Env.read, Env.keep, Sl.read, Sl.keep, List.cons_append, List.nil_append, List.getElem?_cons_zero, List.getElem?_cons_succ, List.set_cons_zero, List.set_cons_succ, bindT, bindTs, closeS, ownS, keepP, if_true, if_false, ↓reduceIte, Bool.false_eq_true, Nat.reduceAdd, Nat.reduceSub, List.replicate_succ, List.replicate_zero, boolD_b, intD_i, isN_none, isN_int, isN_bool, isN_str, isN_tup, isN_lst, Bool.not_true, Bool.not_false, augD, add_int, sub_int, mul_int, fdiv_int, mod_int, mul_str, add_str, add_tup, add_lst, mul_lst, eq_int, ne_int, lt_int, gt_int, le_int, ge_int, eq_str, ne_str, len_str, len_lst, len_tup, abs_int, int_int, int_bool, min2_int, max2_int, tuple_lst, tuple_tup, list_lst, list_tup, slc_str, slc_lst, slc_tup, repS_one, repL_one, idx_t0, idx_t1, idx_t2, idx_l0, rg1_if, rg2_if, eq_self_str, eqv_bool, eq_nil, wipeE, isiD, lcS_v, forS_v, forS_t, lcS_t, app_if, ext_if, en_str, en_lst, items_str, items_lst, items_tup, Int.toNat_natCast, ev_lc2, lcS2_v, lcS2_t, tgV, tgVs, ev_rev, ev_itl, evI_rg3, rg3_if, List.append_nil, hideE, hideS, d1, d2, Bool.not_not, ret_ite]]
  cases ps with
  | nil => try simp -dsimp -implicitDefEqProofs (disch := first | omega | (simp; omega)) only [ev_var, ev_cst, ev_tup, ev_lst, ev_bin, ev_neg, ev_not, ev_and, ev_or, ev_cmp, ev_isN, ev_notN, ev_chn, ev_ite, ev_idx, ev_slc, ev_call, ev_bl, ev_mt, ev_isi, ev_lc, evI_it, evI_rg1, evI_rg2, evI_enum, exec_asg, exec_own, exec_par, exec_aug, exec_app, exec_ext, exec_ins, exec_put, exec_aput, exec_ifs, exec_for_, exec_whl, exec_ret, exec_retn, exec_brk, exec_cnt, exec_pass, exec_close, evs_nil, evs_cons, evo_none, evo_some, evc_none, evc_some, execs_nil, execs_cons, nxt_nx, nxt_rt, nxt_bk, nxt_ct, List.length_cons, List.length_nil, List.map_cons, List.map_nil, bnd_r, lift_ret, Env.read, Env.keep, Sl.read, Sl.keep, List.cons_append, List.nil_append, List.getElem?_cons_zero, List.getElem?_cons_succ, List.set_cons_zero, List.set_cons_succ, bindT, bindTs, closeS, ownS, keepP, if_true, if_false, ↓reduceIte, Bool.false_eq_true, Nat.reduceAdd, Nat.reduceSub, List.replicate_succ, List.replicate_zero, boolD_b, intD_i, isN_none, isN_int, isN_bool, isN_str, isN_tup, isN_lst, Bool.not_true, Bool.not_false, augD, add_int, sub_int, mul_int, fdiv_int, mod_int, mul_str, add_str, add_tup, add_lst, mul_lst, eq_int, ne_int, lt_int, gt_int, le_int, ge_int, eq_str, ne_str, len_str, len_lst, len_tup, abs_int, int_int, int_bool, min2_int, max2_int, tuple_lst, tuple_tup, list_lst, list_tup, slc_str, slc_lst, slc_tup, repS_one, repL_one, idx_t0, idx_t1, idx_t2, idx_l0, rg1_if, rg2_if, eq_self_str, eqv_bool, eq_nil, wipeE, isiD, lcS_v, forS_v, forS_t, lcS_t, app_if, ext_if, en_str, en_lst, items_str, items_lst, items_tup, Int.toNat_natCast, ev_lc2, lcS2_v, lcS2_t, tgV, tgVs, ev_rev, ev_itl, evI_rg3, rg3_if, List.append_nil, hideE, hideS, show cmpD .ne (.list []) (.list []) = some (.bool false) from rfl]
  | cons x r =>
    have ne : cmpD .ne (.list (PyData.int x :: r.map PyData.int)) (.list []) = some (.bool true) := ne_ints (l := x :: r)
    have hl : r.length < 100 := by simp at hp; omega
    have e3 := fraction_eq (k := k) t_div t_frac (a := ((toldI caps (x :: r)).length : Int)) (b := (((x :: r).length : Nat) : Int)) (by simp; omega)
    rw [List.length_cons] at e3 ⊢
    rw [if_neg (by simp)]
    try simp -dsimp -implicitDefEqProofs (disch := first | omega | (simp; omega)) only [ev_var, ev_cst, ev_tup, ev_lst, ev_bin, ev_neg, ev_not, ev_and, ev_or, ev_cmp, ev_isN, ev_notN, ev_chn, ev_ite, ev_idx, ev_slc, ev_call, ev_bl, ev_mt, ev_isi, ev_lc, evI_it, evI_rg1, evI_rg2, evI_enum, exec_asg, exec_own, exec_par, exec_aug, exec_app, exec_ext, exec_ins, exec_put, exec_aput, exec_ifs, exec_for_, exec_whl, exec_ret, exec_retn, exec_brk, exec_cnt, exec_pass, exec_close, evs_nil, evs_cons, evo_none, evo_some, evc_none, evc_some, execs_nil, execs_cons, nxt_nx, nxt_rt, nxt_bk, nxt_ct, List.length_cons, List.length_nil, List.map_cons, List.map_nil, bnd_r, lift_ret, Env.read, Env.keep, Sl.read, Sl.keep, List.cons_append, List.nil_append, List.getElem?_cons_zero, List.getElem?_cons_succ, List.set_cons_zero, List.set_cons_succ, bindT, bindTs, closeS, ownS, keepP, if_true, if_false, ↓reduceIte, Bool.false_eq_true, Nat.reduceAdd, Nat.reduceSub, List.replicate_succ, List.replicate_zero, boolD_b, intD_i, isN_none, isN_int, isN_bool, isN_str, isN_tup, isN_lst, Bool.not_true, Bool.not_false, augD, add_int, sub_int, mul_int, fdiv_int, mod_int, mul_str, add_str, add_tup, add_lst, mul_lst, eq_int, ne_int, lt_int, gt_int, le_int, ge_int, eq_str, ne_str, len_str, len_lst, len_tup, abs_int, int_int, int_bool, min2_int, max2_int, tuple_lst, tuple_tup, list_lst, list_tup, slc_str, slc_lst, slc_tup, repS_one, repL_one, idx_t0, idx_t1, idx_t2, idx_l0, rg1_if, rg2_if, eq_self_str, eqv_bool, eq_nil, wipeE, isiD, lcS_v, forS_v, forS_t, lcS_t, app_if, ext_if, en_str, en_lst, items_str, items_lst, items_tup, Int.toNat_natCast, ev_lc2, lcS2_v, lcS2_t, tgV, tgVs, ev_rev, ev_itl, evI_rg3, rg3_if, List.append_nil, hideE, hideS, ne, List.length_map, show ((x :: r).filter fun x => cov caps (100 * x)) = toldI caps (x :: r) from rfl, e3]
def absI (i : Int) : Int := if i < 0 then -i else i
def lateB (caps : List Cap) (rs : List Pr) (most x : Int) : Bool := !(rs.any fun p => decide (absI ((caps.getD x.toNat (0, 0, [])).1 - 100 * p.1) ≤ most))
def lateI (caps : List Cap) (rs : List Pr) (most : Int) : List Int := (rgI 0 caps.length).filter (lateB caps rs most)
theorem caps_at {caps : List Cap} {x : Int} (h : 0 ≤ x ∧ x < caps.length) : (caps.map encC)[x.toNat]? = some (encC (caps.getD x.toNat (0, 0, []))) := by
  have hx : x.toNat < caps.length := by omega
  simp [hx, List.getD_eq_getElem?_getD]
theorem caps_at' {caps : List Cap} {j : Nat} (h : j < caps.length) : (caps.map encC)[((j : Nat) : Int).toNat]? = some (encC (caps.getD j (0, 0, []))) := by
  simp [h, List.getD_eq_getElem?_getD]
theorem late_eq {caps : List Cap} {rs : List Pr} {most : Int} (hc : caps.length ≤ 100) (hr : rs.length ≤ 100) :
    cal T (k + 1) f_late_captions [.tuple (rs.map encP), .tuple (caps.map encC), .int most] = ret (.tuple ((lateI caps rs most).map .int)) := by
  rw [cal_at (show T[f_late_captions]? = some ⟨3, 7, b_late_captions⟩ from rfl)]
  unfold runF b_late_captions
  try simp -dsimp -implicitDefEqProofs (disch := first | omega | (simp; omega)) only [ev_var, ev_cst, ev_tup, ev_lst, ev_bin, ev_neg, ev_not, ev_and, ev_or, ev_cmp, ev_isN, ev_notN, ev_chn, ev_ite, ev_idx, ev_slc, ev_call, ev_bl, ev_mt, ev_isi, ev_lc, evI_it, evI_rg1, evI_rg2, evI_enum, exec_asg, exec_own, exec_par, exec_aug, exec_app, exec_ext, exec_ins, exec_put, exec_aput, exec_ifs, exec_for_, exec_whl, exec_ret, exec_retn, exec_brk, exec_cnt, exec_pass, exec_close, evs_nil, evs_cons, evo_none, evo_some, evc_none, evc_some, execs_nil, execs_cons, nxt_nx, nxt_rt, nxt_bk, nxt_ct, List.length_cons, List.length_nil, List.map_cons, List.map_nil, bnd_r, lift_ret, Env.read, Env.keep, Sl.read, Sl.keep, List.cons_append, List.nil_append, List.getElem?_cons_zero, List.getElem?_cons_succ, List.set_cons_zero, List.set_cons_succ, bindT, bindTs, closeS, ownS, keepP, if_true, if_false, ↓reduceIte, Bool.false_eq_true, Nat.reduceAdd, Nat.reduceSub, List.replicate_succ, List.replicate_zero, boolD_b, intD_i, isN_none, isN_int, isN_bool, isN_str, isN_tup, isN_lst, Bool.not_true, Bool.not_false, augD, add_int, sub_int, mul_int, fdiv_int, mod_int, mul_str, add_str, add_tup, add_lst, mul_lst, eq_int, ne_int, lt_int, gt_int, le_int, ge_int, eq_str, ne_str, len_str, len_lst, len_tup, abs_int, int_int, int_bool, min2_int, max2_int, tuple_lst, tuple_tup, list_lst, list_tup, slc_str, slc_lst, slc_tup, repS_one, repL_one, idx_t0, idx_t1, idx_t2, idx_l0, rg1_if, rg2_if, eq_self_str, eqv_bool, eq_nil, wipeE, isiD, lcS_v, forS_v, forS_t, lcS_t, app_if, ext_if, en_str, en_lst, items_str, items_lst, items_tup, Int.toNat_natCast, ev_lc2, lcS2_v, lcS2_t, tgV, tgVs, ev_rev, ev_itl, evI_rg3, rg3_if, List.append_nil, hideE, hideS, List.length_map]
  obtain ⟨σ', h1, s4, s5, s6, rfl, _⟩ := forL_nx (step := forS (cal T k) (.v 4) b_late_captions_2) (fun j σ => ∃ s4 s5 s6, σ = [.cl (.tuple (rs.map encP)), .cl (.tuple (caps.map encC)), .cl (.int most), .ol (((rgI 0 j).filter (lateB caps rs most)).map .int), s4, s5, s6] ∧ j ≤ caps.length)
    (ds := rgD 0 caps.length) (σ := [.cl (.tuple (rs.map encP)), .cl (.tuple (caps.map encC)), .cl (.int most), .ol [], .un, .un, .un]) ⟨_, _, _, rfl, by omega⟩ fun j e σ hj hI => by
      obtain ⟨s4, s5, s6, rfl, hj2⟩ := hI
      obtain ⟨rfl, hj3⟩ := rg_get hj
      have hj3 : j < caps.length := by omega
      have hx : (0 : Int) ≤ (j : Int) ∧ (j : Int) < caps.length := by omega
      have hl : ((rgI 0 j).filter (lateB caps rs most)).length ≤ j := by
        have := List.length_filter_le (lateB caps rs most) (rgI 0 j)
        rw [rgI_len] at this
        omega
      refine ⟨[.cl (.tuple (rs.map encP)), .cl (.tuple (caps.map encC)), .cl (.int most), .ol (((rgI 0 ((j : Int) + 1)).filter (lateB caps rs most)).map .int), .cl (.int j), s5, s6], .inl ?_, _, _, _, by rw [show (((j + 1 : Nat) : Int)) = (j : Int) + 1 by omega], by omega⟩
      rw [forS_v, rgI_snoc hx.1, List.filter_append, List.filter_cons, List.filter_nil]
      unfold b_late_captions_2
      try simp -dsimp -implicitDefEqProofs (disch := first | omega | (simp; omega)) only [ev_var, ev_cst, ev_tup, ev_lst, ev_bin, ev_neg, ev_not, ev_and, ev_or, ev_cmp, ev_isN, ev_notN, ev_chn, ev_ite, ev_idx, ev_slc, ev_call, ev_bl, ev_mt, ev_isi, ev_lc, evI_it, evI_rg1, evI_rg2, evI_enum, exec_asg, exec_own, exec_par, exec_aug, exec_app, exec_ext, exec_ins, exec_put, exec_aput, exec_ifs, exec_for_, exec_whl, exec_ret, exec_retn, exec_brk, exec_cnt, exec_pass, exec_close, evs_nil, evs_cons, evo_none, evo_some, evc_none, evc_some, execs_nil, execs_cons, nxt_nx, nxt_rt, nxt_bk, nxt_ct, List.length_cons, List.length_nil, List.map_cons, List.map_nil, bnd_r, lift_ret, Env.read, Env.keep, Sl.read, Sl.keep, List.cons_append, List.nil_append, List.getElem?_cons_zero, List.getElem?_cons_succ, List.set_cons_zero, List.set_cons_succ, bindT, bindTs, closeS, ownS, keepP, if_true, if_false, ↓reduceIte, Bool.false_eq_true, Nat.reduceAdd, Nat.reduceSub, List.replicate_succ, List.replicate_zero, boolD_b, intD_i, isN_none, isN_int, isN_bool, isN_str, isN_tup, isN_lst, Bool.not_true, Bool.not_false, augD, add_int, sub_int, mul_int, fdiv_int, mod_int, mul_str, add_str, add_tup, add_lst, mul_lst, eq_int, ne_int, lt_int, gt_int, le_int, ge_int, eq_str, ne_str, len_str, len_lst, len_tup, abs_int, int_int, int_bool, min2_int, max2_int, tuple_lst, tuple_tup, list_lst, list_tup, slc_str, slc_lst, slc_tup, repS_one, repL_one, idx_t0, idx_t1, idx_t2, idx_l0, rg1_if, rg2_if, eq_self_str, eqv_bool, eq_nil, wipeE, isiD, lcS_v, forS_v, forS_t, lcS_t, app_if, ext_if, en_str, en_lst, items_str, items_lst, items_tup, Int.toNat_natCast, ev_lc2, lcS2_v, lcS2_t, tgV, tgVs, ev_rev, ev_itl, evI_rg3, rg3_if, List.append_nil, hideE, hideS]
      rw [lcL_map encP (fun p => .bool (decide (absI ((caps.getD j (0, 0, [])).1 - 100 * p.1) ≤ most))) fun p hp => by
        rw [getP, lcS_t (σ1 := [.cl (.tuple (rs.map encP)), .cl (.tuple (caps.map encC)), .cl (.int most), .ol (((rgI 0 j).filter (lateB caps rs most)).map .int), .cl (.int (j : Int)), .cl (.int p.1), .cl (.int p.2)]) rfl]
        unfold e_late_captions_1
        try simp -dsimp -implicitDefEqProofs (disch := first | omega | (simp; omega)) only [ev_var, ev_cst, ev_tup, ev_lst, ev_bin, ev_neg, ev_not, ev_and, ev_or, ev_cmp, ev_isN, ev_notN, ev_chn, ev_ite, ev_idx, ev_slc, ev_call, ev_bl, ev_mt, ev_isi, ev_lc, evI_it, evI_rg1, evI_rg2, evI_enum, exec_asg, exec_own, exec_par, exec_aug, exec_app, exec_ext, exec_ins, exec_put, exec_aput, exec_ifs, exec_for_, exec_whl, exec_ret, exec_retn, exec_brk, exec_cnt, exec_pass, exec_close, evs_nil, evs_cons, evo_none, evo_some, evc_none, evc_some, execs_nil, execs_cons, nxt_nx, nxt_rt, nxt_bk, nxt_ct, List.length_cons, List.length_nil, List.map_cons, List.map_nil, bnd_r, lift_ret, Env.read, Env.keep, Sl.read, Sl.keep, List.cons_append, List.nil_append, List.getElem?_cons_zero, List.getElem?_cons_succ, List.set_cons_zero, List.set_cons_succ, bindT, bindTs, closeS, ownS, keepP, if_true, if_false, ↓reduceIte, Bool.false_eq_true, Nat.reduceAdd, Nat.reduceSub, List.replicate_succ, List.replicate_zero, boolD_b, intD_i, isN_none, isN_int, isN_bool, isN_str, isN_tup, isN_lst, Bool.not_true, Bool.not_false, augD, add_int, sub_int, mul_int, fdiv_int, mod_int, mul_str, add_str, add_tup, add_lst, mul_lst, eq_int, ne_int, lt_int, gt_int, le_int, ge_int, eq_str, ne_str, len_str, len_lst, len_tup, abs_int, int_int, int_bool, min2_int, max2_int, tuple_lst, tuple_tup, list_lst, list_tup, slc_str, slc_lst, slc_tup, repS_one, repL_one, idx_t0, idx_t1, idx_t2, idx_l0, rg1_if, rg2_if, eq_self_str, eqv_bool, eq_nil, wipeE, isiD, lcS_v, forS_v, forS_t, lcS_t, app_if, ext_if, en_str, en_lst, items_str, items_lst, items_tup, Int.toNat_natCast, ev_lc2, lcS2_v, lcS2_t, tgV, tgVs, ev_rev, ev_itl, evI_rg3, rg3_if, List.append_nil, hideE, hideS, idx_tup hx.1 (caps_at' hj3), encC]
        rfl]
      have hb : lateB caps rs most (j : Int) = !(rs.any fun p => decide (absI ((caps.getD j (0, 0, [])).1 - 100 * p.1) ≤ most)) := rfl
      rw [hb]
      cases hq : (rs.any fun p => decide (absI ((caps.getD j (0, 0, [])).1 - 100 * p.1) ≤ most)) with
      | true => try simp -dsimp -implicitDefEqProofs (disch := first | omega | (simp; omega)) only [ev_var, ev_cst, ev_tup, ev_lst, ev_bin, ev_neg, ev_not, ev_and, ev_or, ev_cmp, ev_isN, ev_notN, ev_chn, ev_ite, ev_idx, ev_slc, ev_call, ev_bl, ev_mt, ev_isi, ev_lc, evI_it, evI_rg1, evI_rg2, evI_enum, exec_asg, exec_own, exec_par, exec_aug, exec_app, exec_ext, exec_ins, exec_put, exec_aput, exec_ifs, exec_for_, exec_whl, exec_ret, exec_retn, exec_brk, exec_cnt, exec_pass, exec_close, evs_nil, evs_cons, evo_none, evo_some, evc_none, evc_some, execs_nil, execs_cons, nxt_nx, nxt_rt, nxt_bk, nxt_ct, List.length_cons, List.length_nil, List.map_cons, List.map_nil, bnd_r, lift_ret, Env.read, Env.keep, Sl.read, Sl.keep, List.cons_append, List.nil_append, List.getElem?_cons_zero, List.getElem?_cons_succ, List.set_cons_zero, List.set_cons_succ, bindT, bindTs, closeS, ownS, keepP, if_true, if_false, ↓reduceIte, Bool.false_eq_true, Nat.reduceAdd, Nat.reduceSub, List.replicate_succ, List.replicate_zero, boolD_b, intD_i, isN_none, isN_int, isN_bool, isN_str, isN_tup, isN_lst, Bool.not_true, Bool.not_false, augD, add_int, sub_int, mul_int, fdiv_int, mod_int, mul_str, add_str, add_tup, add_lst, mul_lst, eq_int, ne_int, lt_int, gt_int, le_int, ge_int, eq_str, ne_str, len_str, len_lst, len_tup, abs_int, int_int, int_bool, min2_int, max2_int, tuple_lst, tuple_tup, list_lst, list_tup, slc_str, slc_lst, slc_tup, repS_one, repL_one, idx_t0, idx_t1, idx_t2, idx_l0, rg1_if, rg2_if, eq_self_str, eqv_bool, eq_nil, wipeE, isiD, lcS_v, forS_v, forS_t, lcS_t, app_if, ext_if, en_str, en_lst, items_str, items_lst, items_tup, Int.toNat_natCast, ev_lc2, lcS2_v, lcS2_t, tgV, tgVs, ev_rev, ev_itl, evI_rg3, rg3_if, List.append_nil, hideE, hideS, any_map, hq]
      | false => try simp -dsimp -implicitDefEqProofs (disch := first | omega | (simp; omega)) only [ev_var, ev_cst, ev_tup, ev_lst, ev_bin, ev_neg, ev_not, ev_and, ev_or, ev_cmp, ev_isN, ev_notN, ev_chn, ev_ite, ev_idx, ev_slc, ev_call, ev_bl, ev_mt, ev_isi, ev_lc, evI_it, evI_rg1, evI_rg2, evI_enum, exec_asg, exec_own, exec_par, exec_aug, exec_app, exec_ext, exec_ins, exec_put, exec_aput, exec_ifs, exec_for_, exec_whl, exec_ret, exec_retn, exec_brk, exec_cnt, exec_pass, exec_close, evs_nil, evs_cons, evo_none, evo_some, evc_none, evc_some, execs_nil, execs_cons, nxt_nx, nxt_rt, nxt_bk, nxt_ct, List.length_cons, List.length_nil, List.map_cons, List.map_nil, bnd_r, lift_ret, Env.read, Env.keep, Sl.read, Sl.keep, List.cons_append, List.nil_append, List.getElem?_cons_zero, List.getElem?_cons_succ, List.set_cons_zero, List.set_cons_succ, bindT, bindTs, closeS, ownS, keepP, if_true, if_false, ↓reduceIte, Bool.false_eq_true, Nat.reduceAdd, Nat.reduceSub, List.replicate_succ, List.replicate_zero, boolD_b, intD_i, isN_none, isN_int, isN_bool, isN_str, isN_tup, isN_lst, Bool.not_true, Bool.not_false, augD, add_int, sub_int, mul_int, fdiv_int, mod_int, mul_str, add_str, add_tup, add_lst, mul_lst, eq_int, ne_int, lt_int, gt_int, le_int, ge_int, eq_str, ne_str, len_str, len_lst, len_tup, abs_int, int_int, int_bool, min2_int, max2_int, tuple_lst, tuple_tup, list_lst, list_tup, slc_str, slc_lst, slc_tup, repS_one, repL_one, idx_t0, idx_t1, idx_t2, idx_l0, rg1_if, rg2_if, eq_self_str, eqv_bool, eq_nil, wipeE, isiD, lcS_v, forS_v, forS_t, lcS_t, app_if, ext_if, en_str, en_lst, items_str, items_lst, items_tup, Int.toNat_natCast, ev_lc2, lcS2_v, lcS2_t, tgV, tgVs, ev_rev, ev_itl, evI_rg3, rg3_if, List.append_nil, hideE, hideS, any_map, hq, List.length_map, List.map_append]
  rw [h1, rg_len]
  try simp -dsimp -implicitDefEqProofs (disch := first | omega | (simp; omega)) only [ev_var, ev_cst, ev_tup, ev_lst, ev_bin, ev_neg, ev_not, ev_and, ev_or, ev_cmp, ev_isN, ev_notN, ev_chn, ev_ite, ev_idx, ev_slc, ev_call, ev_bl, ev_mt, ev_isi, ev_lc, evI_it, evI_rg1, evI_rg2, evI_enum, exec_asg, exec_own, exec_par, exec_aug, exec_app, exec_ext, exec_ins, exec_put, exec_aput, exec_ifs, exec_for_, exec_whl, exec_ret, exec_retn, exec_brk, exec_cnt, exec_pass, exec_close, evs_nil, evs_cons, evo_none, evo_some, evc_none, evc_some, execs_nil, execs_cons, nxt_nx, nxt_rt, nxt_bk, nxt_ct, List.length_cons, List.length_nil, List.map_cons, List.map_nil, bnd_r, lift_ret, Env.read, Env.keep, Sl.read, Sl.keep, List.cons_append, List.nil_append, List.getElem?_cons_zero, List.getElem?_cons_succ, List.set_cons_zero, List.set_cons_succ, bindT, bindTs, closeS, ownS, keepP, if_true, if_false, ↓reduceIte, Bool.false_eq_true, Nat.reduceAdd, Nat.reduceSub, List.replicate_succ, List.replicate_zero, boolD_b, intD_i, isN_none, isN_int, isN_bool, isN_str, isN_tup, isN_lst, Bool.not_true, Bool.not_false, augD, add_int, sub_int, mul_int, fdiv_int, mod_int, mul_str, add_str, add_tup, add_lst, mul_lst, eq_int, ne_int, lt_int, gt_int, le_int, ge_int, eq_str, ne_str, len_str, len_lst, len_tup, abs_int, int_int, int_bool, min2_int, max2_int, tuple_lst, tuple_tup, list_lst, list_tup, slc_str, slc_lst, slc_tup, repS_one, repL_one, idx_t0, idx_t1, idx_t2, idx_l0, rg1_if, rg2_if, eq_self_str, eqv_bool, eq_nil, wipeE, isiD, lcS_v, forS_v, forS_t, lcS_t, app_if, ext_if, en_str, en_lst, items_str, items_lst, items_tup, Int.toNat_natCast, ev_lc2, lcS2_v, lcS2_t, tgV, tgVs, ev_rev, ev_itl, evI_rg3, rg3_if, List.append_nil, hideE, hideS]
  rfl
def bareB (caps : List Cap) (p : Pr) : Bool := (rgI p.1 p.2).all fun x => !cov caps (100 * x)
theorem bare_eq {caps : List Cap} {rs : List Pr} (hc : caps.length ≤ 100) (hr : ∀ p ∈ rs, 0 ≤ p.1 ∧ p.1 < p.2 ∧ p.2 ≤ 100) :
    cal T (k + 2) f_bare_runs [.tuple (rs.map encP), .tuple (caps.map encC)] = ret (.tuple ((rs.filter (bareB caps)).map encP)) := by
  rw [cal_at (show T[f_bare_runs]? = some ⟨2, 4, b_bare_runs⟩ from rfl)]
  unfold runF b_bare_runs
  try simp -dsimp -implicitDefEqProofs (disch := first | omega | (simp; omega)) only [ev_var, ev_cst, ev_tup, ev_lst, ev_bin, ev_neg, ev_not, ev_and, ev_or, ev_cmp, ev_isN, ev_notN, ev_chn, ev_ite, ev_idx, ev_slc, ev_call, ev_bl, ev_mt, ev_isi, ev_lc, evI_it, evI_rg1, evI_rg2, evI_enum, exec_asg, exec_own, exec_par, exec_aug, exec_app, exec_ext, exec_ins, exec_put, exec_aput, exec_ifs, exec_for_, exec_whl, exec_ret, exec_retn, exec_brk, exec_cnt, exec_pass, exec_close, evs_nil, evs_cons, evo_none, evo_some, evc_none, evc_some, execs_nil, execs_cons, nxt_nx, nxt_rt, nxt_bk, nxt_ct, List.length_cons, List.length_nil, List.map_cons, List.map_nil, bnd_r, lift_ret, Env.read, Env.keep, Sl.read, Sl.keep, List.cons_append, List.nil_append, List.getElem?_cons_zero, List.getElem?_cons_succ, List.set_cons_zero, List.set_cons_succ, bindT, bindTs, closeS, ownS, keepP, if_true, if_false, ↓reduceIte, Bool.false_eq_true, Nat.reduceAdd, Nat.reduceSub, List.replicate_succ, List.replicate_zero, boolD_b, intD_i, isN_none, isN_int, isN_bool, isN_str, isN_tup, isN_lst, Bool.not_true, Bool.not_false, augD, add_int, sub_int, mul_int, fdiv_int, mod_int, mul_str, add_str, add_tup, add_lst, mul_lst, eq_int, ne_int, lt_int, gt_int, le_int, ge_int, eq_str, ne_str, len_str, len_lst, len_tup, abs_int, int_int, int_bool, min2_int, max2_int, tuple_lst, tuple_tup, list_lst, list_tup, slc_str, slc_lst, slc_tup, repS_one, repL_one, idx_t0, idx_t1, idx_t2, idx_l0, rg1_if, rg2_if, eq_self_str, eqv_bool, eq_nil, wipeE, isiD, lcS_v, forS_v, forS_t, lcS_t, app_if, ext_if, en_str, en_lst, items_str, items_lst, items_tup, Int.toNat_natCast, ev_lc2, lcS2_v, lcS2_t, tgV, tgVs, ev_rev, ev_itl, evI_rg3, rg3_if, List.append_nil, hideE, hideS]
  rw [lc_P1 (f := bareB caps) (fun p hp => by
    have e1 := places_eq (k := k) (rs := [p]) (by simp) (fun q hq => by
      have : q = p := by simpa using hq
      subst this
      exact hr q hp)
    rw [plI_one] at e1
    unfold c_bare_runs_3
    try simp -dsimp -implicitDefEqProofs (disch := first | omega | (simp; omega)) only [ev_var, ev_cst, ev_tup, ev_lst, ev_bin, ev_neg, ev_not, ev_and, ev_or, ev_cmp, ev_isN, ev_notN, ev_chn, ev_ite, ev_idx, ev_slc, ev_call, ev_bl, ev_mt, ev_isi, ev_lc, evI_it, evI_rg1, evI_rg2, evI_enum, exec_asg, exec_own, exec_par, exec_aug, exec_app, exec_ext, exec_ins, exec_put, exec_aput, exec_ifs, exec_for_, exec_whl, exec_ret, exec_retn, exec_brk, exec_cnt, exec_pass, exec_close, evs_nil, evs_cons, evo_none, evo_some, evc_none, evc_some, execs_nil, execs_cons, nxt_nx, nxt_rt, nxt_bk, nxt_ct, List.length_cons, List.length_nil, List.map_cons, List.map_nil, bnd_r, lift_ret, Env.read, Env.keep, Sl.read, Sl.keep, List.cons_append, List.nil_append, List.getElem?_cons_zero, List.getElem?_cons_succ, List.set_cons_zero, List.set_cons_succ, bindT, bindTs, closeS, ownS, keepP, if_true, if_false, ↓reduceIte, Bool.false_eq_true, Nat.reduceAdd, Nat.reduceSub, List.replicate_succ, List.replicate_zero, boolD_b, intD_i, isN_none, isN_int, isN_bool, isN_str, isN_tup, isN_lst, Bool.not_true, Bool.not_false, augD, add_int, sub_int, mul_int, fdiv_int, mod_int, mul_str, add_str, add_tup, add_lst, mul_lst, eq_int, ne_int, lt_int, gt_int, le_int, ge_int, eq_str, ne_str, len_str, len_lst, len_tup, abs_int, int_int, int_bool, min2_int, max2_int, tuple_lst, tuple_tup, list_lst, list_tup, slc_str, slc_lst, slc_tup, repS_one, repL_one, idx_t0, idx_t1, idx_t2, idx_l0, rg1_if, rg2_if, eq_self_str, eqv_bool, eq_nil, wipeE, isiD, lcS_v, forS_v, forS_t, lcS_t, app_if, ext_if, en_str, en_lst, items_str, items_lst, items_tup, Int.toNat_natCast, ev_lc2, lcS2_v, lcS2_t, tgV, tgVs, ev_rev, ev_itl, evI_rg3, rg3_if, List.append_nil, hideE, hideS, getP] at e1
    try simp -dsimp -implicitDefEqProofs (disch := first | omega | (simp; omega)) only [ev_var, ev_cst, ev_tup, ev_lst, ev_bin, ev_neg, ev_not, ev_and, ev_or, ev_cmp, ev_isN, ev_notN, ev_chn, ev_ite, ev_idx, ev_slc, ev_call, ev_bl, ev_mt, ev_isi, ev_lc, evI_it, evI_rg1, evI_rg2, evI_enum, exec_asg, exec_own, exec_par, exec_aug, exec_app, exec_ext, exec_ins, exec_put, exec_aput, exec_ifs, exec_for_, exec_whl, exec_ret, exec_retn, exec_brk, exec_cnt, exec_pass, exec_close, evs_nil, evs_cons, evo_none, evo_some, evc_none, evc_some, execs_nil, execs_cons, nxt_nx, nxt_rt, nxt_bk, nxt_ct, List.length_cons, List.length_nil, List.map_cons, List.map_nil, bnd_r, lift_ret, Env.read, Env.keep, Sl.read, Sl.keep, List.cons_append, List.nil_append, List.getElem?_cons_zero, List.getElem?_cons_succ, List.set_cons_zero, List.set_cons_succ, bindT, bindTs, closeS, ownS, keepP, if_true, if_false, ↓reduceIte, Bool.false_eq_true, Nat.reduceAdd, Nat.reduceSub, List.replicate_succ, List.replicate_zero, boolD_b, intD_i, isN_none, isN_int, isN_bool, isN_str, isN_tup, isN_lst, Bool.not_true, Bool.not_false, augD, add_int, sub_int, mul_int, fdiv_int, mod_int, mul_str, add_str, add_tup, add_lst, mul_lst, eq_int, ne_int, lt_int, gt_int, le_int, ge_int, eq_str, ne_str, len_str, len_lst, len_tup, abs_int, int_int, int_bool, min2_int, max2_int, tuple_lst, tuple_tup, list_lst, list_tup, slc_str, slc_lst, slc_tup, repS_one, repL_one, idx_t0, idx_t1, idx_t2, idx_l0, rg1_if, rg2_if, eq_self_str, eqv_bool, eq_nil, wipeE, isiD, lcS_v, forS_v, forS_t, lcS_t, app_if, ext_if, en_str, en_lst, items_str, items_lst, items_tup, Int.toNat_natCast, ev_lc2, lcS2_v, lcS2_t, tgV, tgVs, ev_rev, ev_itl, evI_rg3, rg3_if, List.append_nil, hideE, hideS, e1]
    rw [lcL_map .int (fun x => .bool (!cov caps (100 * x))) fun x hx => by
      obtain ⟨d, d1, d2⟩ := shown_eq (k := k) (caps := caps) (m := 100 * x) hc
      rw [lcS_v]
      unfold e_bare_runs_2
      try simp -dsimp -implicitDefEqProofs (disch := first | omega | (simp; omega)) only [ev_var, ev_cst, ev_tup, ev_lst, ev_bin, ev_neg, ev_not, ev_and, ev_or, ev_cmp, ev_isN, ev_notN, ev_chn, ev_ite, ev_idx, ev_slc, ev_call, ev_bl, ev_mt, ev_isi, ev_lc, evI_it, evI_rg1, evI_rg2, evI_enum, exec_asg, exec_own, exec_par, exec_aug, exec_app, exec_ext, exec_ins, exec_put, exec_aput, exec_ifs, exec_for_, exec_whl, exec_ret, exec_retn, exec_brk, exec_cnt, exec_pass, exec_close, evs_nil, evs_cons, evo_none, evo_some, evc_none, evc_some, execs_nil, execs_cons, nxt_nx, nxt_rt, nxt_bk, nxt_ct, List.length_cons, List.length_nil, List.map_cons, List.map_nil, bnd_r, lift_ret, Env.read, Env.keep, Sl.read, Sl.keep, List.cons_append, List.nil_append, List.getElem?_cons_zero, List.getElem?_cons_succ, List.set_cons_zero, List.set_cons_succ, bindT, bindTs, closeS, ownS, keepP, if_true, if_false, ↓reduceIte, Bool.false_eq_true, Nat.reduceAdd, Nat.reduceSub, List.replicate_succ, List.replicate_zero, boolD_b, intD_i, isN_none, isN_int, isN_bool, isN_str, isN_tup, isN_lst, Bool.not_true, Bool.not_false, augD, add_int, sub_int, mul_int, fdiv_int, mod_int, mul_str, add_str, add_tup, add_lst, mul_lst, eq_int, ne_int, lt_int, gt_int, le_int, ge_int, eq_str, ne_str, len_str, len_lst, len_tup, abs_int, int_int, int_bool, min2_int, max2_int, tuple_lst, tuple_tup, list_lst, list_tup, slc_str, slc_lst, slc_tup, repS_one, repL_one, idx_t0, idx_t1, idx_t2, idx_l0, rg1_if, rg2_if, eq_self_str, eqv_bool, eq_nil, wipeE, isiD, lcS_v, forS_v, forS_t, lcS_t, app_if, ext_if, en_str, en_lst, items_str, items_lst, items_tup, Int.toNat_natCast, ev_lc2, lcS2_v, lcS2_t, tgV, tgVs, ev_rev, ev_itl, evI_rg3, rg3_if, List.append_nil, hideE, hideS, d1, d2]]
    try simp -dsimp -implicitDefEqProofs (disch := first | omega | (simp; omega)) only [ev_var, ev_cst, ev_tup, ev_lst, ev_bin, ev_neg, ev_not, ev_and, ev_or, ev_cmp, ev_isN, ev_notN, ev_chn, ev_ite, ev_idx, ev_slc, ev_call, ev_bl, ev_mt, ev_isi, ev_lc, evI_it, evI_rg1, evI_rg2, evI_enum, exec_asg, exec_own, exec_par, exec_aug, exec_app, exec_ext, exec_ins, exec_put, exec_aput, exec_ifs, exec_for_, exec_whl, exec_ret, exec_retn, exec_brk, exec_cnt, exec_pass, exec_close, evs_nil, evs_cons, evo_none, evo_some, evc_none, evc_some, execs_nil, execs_cons, nxt_nx, nxt_rt, nxt_bk, nxt_ct, List.length_cons, List.length_nil, List.map_cons, List.map_nil, bnd_r, lift_ret, Env.read, Env.keep, Sl.read, Sl.keep, List.cons_append, List.nil_append, List.getElem?_cons_zero, List.getElem?_cons_succ, List.set_cons_zero, List.set_cons_succ, bindT, bindTs, closeS, ownS, keepP, if_true, if_false, ↓reduceIte, Bool.false_eq_true, Nat.reduceAdd, Nat.reduceSub, List.replicate_succ, List.replicate_zero, boolD_b, intD_i, isN_none, isN_int, isN_bool, isN_str, isN_tup, isN_lst, Bool.not_true, Bool.not_false, augD, add_int, sub_int, mul_int, fdiv_int, mod_int, mul_str, add_str, add_tup, add_lst, mul_lst, eq_int, ne_int, lt_int, gt_int, le_int, ge_int, eq_str, ne_str, len_str, len_lst, len_tup, abs_int, int_int, int_bool, min2_int, max2_int, tuple_lst, tuple_tup, list_lst, list_tup, slc_str, slc_lst, slc_tup, repS_one, repL_one, idx_t0, idx_t1, idx_t2, idx_l0, rg1_if, rg2_if, eq_self_str, eqv_bool, eq_nil, wipeE, isiD, lcS_v, forS_v, forS_t, lcS_t, app_if, ext_if, en_str, en_lst, items_str, items_lst, items_tup, Int.toNat_natCast, ev_lc2, lcS2_v, lcS2_t, tgV, tgVs, ev_rev, ev_itl, evI_rg3, rg3_if, List.append_nil, hideE, hideS, all_map]
    rfl) (fun d => by
    unfold e_bare_runs_1
    try simp -dsimp -implicitDefEqProofs (disch := first | omega | (simp; omega)) only [ev_var, ev_cst, ev_tup, ev_lst, ev_bin, ev_neg, ev_not, ev_and, ev_or, ev_cmp, ev_isN, ev_notN, ev_chn, ev_ite, ev_idx, ev_slc, ev_call, ev_bl, ev_mt, ev_isi, ev_lc, evI_it, evI_rg1, evI_rg2, evI_enum, exec_asg, exec_own, exec_par, exec_aug, exec_app, exec_ext, exec_ins, exec_put, exec_aput, exec_ifs, exec_for_, exec_whl, exec_ret, exec_retn, exec_brk, exec_cnt, exec_pass, exec_close, evs_nil, evs_cons, evo_none, evo_some, evc_none, evc_some, execs_nil, execs_cons, nxt_nx, nxt_rt, nxt_bk, nxt_ct, List.length_cons, List.length_nil, List.map_cons, List.map_nil, bnd_r, lift_ret, Env.read, Env.keep, Sl.read, Sl.keep, List.cons_append, List.nil_append, List.getElem?_cons_zero, List.getElem?_cons_succ, List.set_cons_zero, List.set_cons_succ, bindT, bindTs, closeS, ownS, keepP, if_true, if_false, ↓reduceIte, Bool.false_eq_true, Nat.reduceAdd, Nat.reduceSub, List.replicate_succ, List.replicate_zero, boolD_b, intD_i, isN_none, isN_int, isN_bool, isN_str, isN_tup, isN_lst, Bool.not_true, Bool.not_false, augD, add_int, sub_int, mul_int, fdiv_int, mod_int, mul_str, add_str, add_tup, add_lst, mul_lst, eq_int, ne_int, lt_int, gt_int, le_int, ge_int, eq_str, ne_str, len_str, len_lst, len_tup, abs_int, int_int, int_bool, min2_int, max2_int, tuple_lst, tuple_tup, list_lst, list_tup, slc_str, slc_lst, slc_tup, repS_one, repL_one, idx_t0, idx_t1, idx_t2, idx_l0, rg1_if, rg2_if, eq_self_str, eqv_bool, eq_nil, wipeE, isiD, lcS_v, forS_v, forS_t, lcS_t, app_if, ext_if, en_str, en_lst, items_str, items_lst, items_tup, Int.toNat_natCast, ev_lc2, lcS2_v, lcS2_t, tgV, tgVs, ev_rev, ev_itl, evI_rg3, rg3_if, List.append_nil, hideE, hideS])]
  try simp -dsimp -implicitDefEqProofs (disch := first | omega | (simp; omega)) only [ev_var, ev_cst, ev_tup, ev_lst, ev_bin, ev_neg, ev_not, ev_and, ev_or, ev_cmp, ev_isN, ev_notN, ev_chn, ev_ite, ev_idx, ev_slc, ev_call, ev_bl, ev_mt, ev_isi, ev_lc, evI_it, evI_rg1, evI_rg2, evI_enum, exec_asg, exec_own, exec_par, exec_aug, exec_app, exec_ext, exec_ins, exec_put, exec_aput, exec_ifs, exec_for_, exec_whl, exec_ret, exec_retn, exec_brk, exec_cnt, exec_pass, exec_close, evs_nil, evs_cons, evo_none, evo_some, evc_none, evc_some, execs_nil, execs_cons, nxt_nx, nxt_rt, nxt_bk, nxt_ct, List.length_cons, List.length_nil, List.map_cons, List.map_nil, bnd_r, lift_ret, Env.read, Env.keep, Sl.read, Sl.keep, List.cons_append, List.nil_append, List.getElem?_cons_zero, List.getElem?_cons_succ, List.set_cons_zero, List.set_cons_succ, bindT, bindTs, closeS, ownS, keepP, if_true, if_false, ↓reduceIte, Bool.false_eq_true, Nat.reduceAdd, Nat.reduceSub, List.replicate_succ, List.replicate_zero, boolD_b, intD_i, isN_none, isN_int, isN_bool, isN_str, isN_tup, isN_lst, Bool.not_true, Bool.not_false, augD, add_int, sub_int, mul_int, fdiv_int, mod_int, mul_str, add_str, add_tup, add_lst, mul_lst, eq_int, ne_int, lt_int, gt_int, le_int, ge_int, eq_str, ne_str, len_str, len_lst, len_tup, abs_int, int_int, int_bool, min2_int, max2_int, tuple_lst, tuple_tup, list_lst, list_tup, slc_str, slc_lst, slc_tup, repS_one, repL_one, idx_t0, idx_t1, idx_t2, idx_l0, rg1_if, rg2_if, eq_self_str, eqv_bool, eq_nil, wipeE, isiD, lcS_v, forS_v, forS_t, lcS_t, app_if, ext_if, en_str, en_lst, items_str, items_lst, items_tup, Int.toNat_natCast, ev_lc2, lcS2_v, lcS2_t, tgV, tgVs, ev_rev, ev_itl, evI_rg3, rg3_if, List.append_nil, hideE, hideS]
/-! between -/
theorem stepG_len {en : Int} : ∀ (rs : List Pr) (st : List Pr × Int), (rs.foldl (stepG en) st).1.length ≤ st.1.length + rs.length
  | [], st => by simp
  | p :: rs, st => by
    have h := stepG_len (en := en) rs (stepG en st p)
    have h2 : (stepG en st p).1.length ≤ st.1.length + 1 := by
      unfold stepG
      simp only
      split <;> simp
    rw [List.foldl_cons, List.length_cons]
    omega
theorem gaps_eq {rs : List Pr} {en : Int} (hr : rs.length ≤ 100) : cal T (k + 1) f_run_gaps [.tuple (rs.map encP), .int en] = ret (.tuple ((gapsI rs en).map encP)) := by
  rw [cal_at (show T[f_run_gaps]? = some ⟨2, 6, b_run_gaps⟩ from rfl)]
  unfold runF b_run_gaps
  try simp -dsimp -implicitDefEqProofs (disch := first | omega | (simp; omega)) only [ev_var, ev_cst, ev_tup, ev_lst, ev_bin, ev_neg, ev_not, ev_and, ev_or, ev_cmp, ev_isN, ev_notN, ev_chn, ev_ite, ev_idx, ev_slc, ev_call, ev_bl, ev_mt, ev_isi, ev_lc, evI_it, evI_rg1, evI_rg2, evI_enum, exec_asg, exec_own, exec_par, exec_aug, exec_app, exec_ext, exec_ins, exec_put, exec_aput, exec_ifs, exec_for_, exec_whl, exec_ret, exec_retn, exec_brk, exec_cnt, exec_pass, exec_close, evs_nil, evs_cons, evo_none, evo_some, evc_none, evc_some, execs_nil, execs_cons, nxt_nx, nxt_rt, nxt_bk, nxt_ct, List.length_cons, List.length_nil, List.map_cons, List.map_nil, bnd_r, lift_ret, Env.read, Env.keep, Sl.read, Sl.keep, List.cons_append, List.nil_append, List.getElem?_cons_zero, List.getElem?_cons_succ, List.set_cons_zero, List.set_cons_succ, bindT, bindTs, closeS, ownS, keepP, if_true, if_false, ↓reduceIte, Bool.false_eq_true, Nat.reduceAdd, Nat.reduceSub, List.replicate_succ, List.replicate_zero, boolD_b, intD_i, isN_none, isN_int, isN_bool, isN_str, isN_tup, isN_lst, Bool.not_true, Bool.not_false, augD, add_int, sub_int, mul_int, fdiv_int, mod_int, mul_str, add_str, add_tup, add_lst, mul_lst, eq_int, ne_int, lt_int, gt_int, le_int, ge_int, eq_str, ne_str, len_str, len_lst, len_tup, abs_int, int_int, int_bool, min2_int, max2_int, tuple_lst, tuple_tup, list_lst, list_tup, slc_str, slc_lst, slc_tup, repS_one, repL_one, idx_t0, idx_t1, idx_t2, idx_l0, rg1_if, rg2_if, eq_self_str, eqv_bool, eq_nil, wipeE, isiD, lcS_v, forS_v, forS_t, lcS_t, app_if, ext_if, en_str, en_lst, items_str, items_lst, items_tup, Int.toNat_natCast, ev_lc2, lcS2_v, lcS2_t, tgV, tgVs, ev_rev, ev_itl, evI_rg3, rg3_if, List.append_nil, hideE, hideS]
  obtain ⟨σ', h1, s4, s5, rfl, _⟩ := forL_nx (step := forS (cal T k) (.t [.v 4, .v 5]) b_run_gaps_1) (fun j σ => ∃ s4 s5, σ = [.cl (.tuple (rs.map encP)), .cl (.int en), .ol (((rs.take j).foldl (stepG en) ([], 0)).1.map encP), .cl (.int ((rs.take j).foldl (stepG en) ([], 0)).2), s4, s5] ∧ j ≤ rs.length)
    (ds := rs.map encP) (σ := [.cl (.tuple (rs.map encP)), .cl (.int en), .ol [], .cl (.int 0), .un, .un]) ⟨_, _, rfl, by omega⟩ fun j e σ hj hI => by
      obtain ⟨s4, s5, rfl, hj2⟩ := hI
      rw [List.getElem?_map] at hj
      obtain ⟨p, e1, rfl⟩ := Option.map_eq_some_iff.mp hj
      have hjl := (List.getElem?_eq_some_iff.mp e1).1
      have hl := stepG_len (en := en) (rs.take j) ([], 0)
      rw [List.length_take] at hl
      have hl : ((rs.take j).foldl (stepG en) ([], 0)).1.length ≤ 100 := by simp at hl; omega
      refine ⟨[.cl (.tuple (rs.map encP)), .cl (.int en), .ol (((rs.take (j + 1)).foldl (stepG en) ([], 0)).1.map encP), .cl (.int ((rs.take (j + 1)).foldl (stepG en) ([], 0)).2), .cl (.int p.1), .cl (.int p.2)], .inl ?_, _, _, rfl, by omega⟩
      rw [runs_snoc' e1, List.foldl_append, List.foldl_cons, List.foldl_nil]
      generalize (rs.take j).foldl (stepG en) ([], 0) = st at hl
      rw [getP, forS_t (σ1 := [.cl (.tuple (rs.map encP)), .cl (.int en), .ol (st.1.map encP), .cl (.int st.2), .cl (.int p.1), .cl (.int p.2)]) rfl]
      unfold b_run_gaps_1 stepG
      by_cases h : st.2 < min p.1 en
      · try simp -dsimp -implicitDefEqProofs (disch := first | omega | (simp; omega)) only [ev_var, ev_cst, ev_tup, ev_lst, ev_bin, ev_neg, ev_not, ev_and, ev_or, ev_cmp, ev_isN, ev_notN, ev_chn, ev_ite, ev_idx, ev_slc, ev_call, ev_bl, ev_mt, ev_isi, ev_lc, evI_it, evI_rg1, evI_rg2, evI_enum, exec_asg, exec_own, exec_par, exec_aug, exec_app, exec_ext, exec_ins, exec_put, exec_aput, exec_ifs, exec_for_, exec_whl, exec_ret, exec_retn, exec_brk, exec_cnt, exec_pass, exec_close, evs_nil, evs_cons, evo_none, evo_some, evc_none, evc_some, execs_nil, execs_cons, nxt_nx, nxt_rt, nxt_bk, nxt_ct, List.length_cons, List.length_nil, List.map_cons, List.map_nil, bnd_r, lift_ret, Env.read, Env.keep, Sl.read, Sl.keep, List.cons_append, List.nil_append, List.getElem?_cons_zero, List.getElem?_cons_succ, List.set_cons_zero, List.set_cons_succ, bindT, bindTs, closeS, ownS, keepP, if_true, if_false, ↓reduceIte, Bool.false_eq_true, Nat.reduceAdd, Nat.reduceSub, List.replicate_succ, List.replicate_zero, boolD_b, intD_i, isN_none, isN_int, isN_bool, isN_str, isN_tup, isN_lst, Bool.not_true, Bool.not_false, augD, add_int, sub_int, mul_int, fdiv_int, mod_int, mul_str, add_str, add_tup, add_lst, mul_lst, eq_int, ne_int, lt_int, gt_int, le_int, ge_int, eq_str, ne_str, len_str, len_lst, len_tup, abs_int, int_int, int_bool, min2_int, max2_int, tuple_lst, tuple_tup, list_lst, list_tup, slc_str, slc_lst, slc_tup, repS_one, repL_one, idx_t0, idx_t1, idx_t2, idx_l0, rg1_if, rg2_if, eq_self_str, eqv_bool, eq_nil, wipeE, isiD, lcS_v, forS_v, forS_t, lcS_t, app_if, ext_if, en_str, en_lst, items_str, items_lst, items_tup, Int.toNat_natCast, ev_lc2, lcS2_v, lcS2_t, tgV, tgVs, ev_rev, ev_itl, evI_rg3, rg3_if, List.append_nil, hideE, hideS, h, decide_true, List.length_map, List.map_append, getP]
      · try simp -dsimp -implicitDefEqProofs (disch := first | omega | (simp; omega)) only [ev_var, ev_cst, ev_tup, ev_lst, ev_bin, ev_neg, ev_not, ev_and, ev_or, ev_cmp, ev_isN, ev_notN, ev_chn, ev_ite, ev_idx, ev_slc, ev_call, ev_bl, ev_mt, ev_isi, ev_lc, evI_it, evI_rg1, evI_rg2, evI_enum, exec_asg, exec_own, exec_par, exec_aug, exec_app, exec_ext, exec_ins, exec_put, exec_aput, exec_ifs, exec_for_, exec_whl, exec_ret, exec_retn, exec_brk, exec_cnt, exec_pass, exec_close, evs_nil, evs_cons, evo_none, evo_some, evc_none, evc_some, execs_nil, execs_cons, nxt_nx, nxt_rt, nxt_bk, nxt_ct, List.length_cons, List.length_nil, List.map_cons, List.map_nil, bnd_r, lift_ret, Env.read, Env.keep, Sl.read, Sl.keep, List.cons_append, List.nil_append, List.getElem?_cons_zero, List.getElem?_cons_succ, List.set_cons_zero, List.set_cons_succ, bindT, bindTs, closeS, ownS, keepP, if_true, if_false, ↓reduceIte, Bool.false_eq_true, Nat.reduceAdd, Nat.reduceSub, List.replicate_succ, List.replicate_zero, boolD_b, intD_i, isN_none, isN_int, isN_bool, isN_str, isN_tup, isN_lst, Bool.not_true, Bool.not_false, augD, add_int, sub_int, mul_int, fdiv_int, mod_int, mul_str, add_str, add_tup, add_lst, mul_lst, eq_int, ne_int, lt_int, gt_int, le_int, ge_int, eq_str, ne_str, len_str, len_lst, len_tup, abs_int, int_int, int_bool, min2_int, max2_int, tuple_lst, tuple_tup, list_lst, list_tup, slc_str, slc_lst, slc_tup, repS_one, repL_one, idx_t0, idx_t1, idx_t2, idx_l0, rg1_if, rg2_if, eq_self_str, eqv_bool, eq_nil, wipeE, isiD, lcS_v, forS_v, forS_t, lcS_t, app_if, ext_if, en_str, en_lst, items_str, items_lst, items_tup, Int.toNat_natCast, ev_lc2, lcS2_v, lcS2_t, tgV, tgVs, ev_rev, ev_itl, evI_rg3, rg3_if, List.append_nil, hideE, hideS, h, decide_false]
  rw [h1, List.length_map, List.take_length]
  have hl := stepG_len (en := en) rs ([], 0)
  have hl : (rs.foldl (stepG en) ([], 0)).1.length ≤ 100 := by simp at hl; omega
  unfold gapsI
  generalize rs.foldl (stepG en) ([], 0) = st at hl
  by_cases h : st.2 < en
  · try simp -dsimp -implicitDefEqProofs (disch := first | omega | (simp; omega)) only [ev_var, ev_cst, ev_tup, ev_lst, ev_bin, ev_neg, ev_not, ev_and, ev_or, ev_cmp, ev_isN, ev_notN, ev_chn, ev_ite, ev_idx, ev_slc, ev_call, ev_bl, ev_mt, ev_isi, ev_lc, evI_it, evI_rg1, evI_rg2, evI_enum, exec_asg, exec_own, exec_par, exec_aug, exec_app, exec_ext, exec_ins, exec_put, exec_aput, exec_ifs, exec_for_, exec_whl, exec_ret, exec_retn, exec_brk, exec_cnt, exec_pass, exec_close, evs_nil, evs_cons, evo_none, evo_some, evc_none, evc_some, execs_nil, execs_cons, nxt_nx, nxt_rt, nxt_bk, nxt_ct, List.length_cons, List.length_nil, List.map_cons, List.map_nil, bnd_r, lift_ret, Env.read, Env.keep, Sl.read, Sl.keep, List.cons_append, List.nil_append, List.getElem?_cons_zero, List.getElem?_cons_succ, List.set_cons_zero, List.set_cons_succ, bindT, bindTs, closeS, ownS, keepP, if_true, if_false, ↓reduceIte, Bool.false_eq_true, Nat.reduceAdd, Nat.reduceSub, List.replicate_succ, List.replicate_zero, boolD_b, intD_i, isN_none, isN_int, isN_bool, isN_str, isN_tup, isN_lst, Bool.not_true, Bool.not_false, augD, add_int, sub_int, mul_int, fdiv_int, mod_int, mul_str, add_str, add_tup, add_lst, mul_lst, eq_int, ne_int, lt_int, gt_int, le_int, ge_int, eq_str, ne_str, len_str, len_lst, len_tup, abs_int, int_int, int_bool, min2_int, max2_int, tuple_lst, tuple_tup, list_lst, list_tup, slc_str, slc_lst, slc_tup, repS_one, repL_one, idx_t0, idx_t1, idx_t2, idx_l0, rg1_if, rg2_if, eq_self_str, eqv_bool, eq_nil, wipeE, isiD, lcS_v, forS_v, forS_t, lcS_t, app_if, ext_if, en_str, en_lst, items_str, items_lst, items_tup, Int.toNat_natCast, ev_lc2, lcS2_v, lcS2_t, tgV, tgVs, ev_rev, ev_itl, evI_rg3, rg3_if, List.append_nil, hideE, hideS, h, decide_true, List.length_map, List.map_append, getP]
  · try simp -dsimp -implicitDefEqProofs (disch := first | omega | (simp; omega)) only [ev_var, ev_cst, ev_tup, ev_lst, ev_bin, ev_neg, ev_not, ev_and, ev_or, ev_cmp, ev_isN, ev_notN, ev_chn, ev_ite, ev_idx, ev_slc, ev_call, ev_bl, ev_mt, ev_isi, ev_lc, evI_it, evI_rg1, evI_rg2, evI_enum, exec_asg, exec_own, exec_par, exec_aug, exec_app, exec_ext, exec_ins, exec_put, exec_aput, exec_ifs, exec_for_, exec_whl, exec_ret, exec_retn, exec_brk, exec_cnt, exec_pass, exec_close, evs_nil, evs_cons, evo_none, evo_some, evc_none, evc_some, execs_nil, execs_cons, nxt_nx, nxt_rt, nxt_bk, nxt_ct, List.length_cons, List.length_nil, List.map_cons, List.map_nil, bnd_r, lift_ret, Env.read, Env.keep, Sl.read, Sl.keep, List.cons_append, List.nil_append, List.getElem?_cons_zero, List.getElem?_cons_succ, List.set_cons_zero, List.set_cons_succ, bindT, bindTs, closeS, ownS, keepP, if_true, if_false, ↓reduceIte, Bool.false_eq_true, Nat.reduceAdd, Nat.reduceSub, List.replicate_succ, List.replicate_zero, boolD_b, intD_i, isN_none, isN_int, isN_bool, isN_str, isN_tup, isN_lst, Bool.not_true, Bool.not_false, augD, add_int, sub_int, mul_int, fdiv_int, mod_int, mul_str, add_str, add_tup, add_lst, mul_lst, eq_int, ne_int, lt_int, gt_int, le_int, ge_int, eq_str, ne_str, len_str, len_lst, len_tup, abs_int, int_int, int_bool, min2_int, max2_int, tuple_lst, tuple_tup, list_lst, list_tup, slc_str, slc_lst, slc_tup, repS_one, repL_one, idx_t0, idx_t1, idx_t2, idx_l0, rg1_if, rg2_if, eq_self_str, eqv_bool, eq_nil, wipeE, isiD, lcS_v, forS_v, forS_t, lcS_t, app_if, ext_if, en_str, en_lst, items_str, items_lst, items_tup, Int.toNat_natCast, ev_lc2, lcS2_v, lcS2_t, tgV, tgVs, ev_rev, ev_itl, evI_rg3, rg3_if, List.append_nil, hideE, hideS, h, decide_false, List.length_map, List.map_append]
/-! the busiest window -/
def winF (ps : List Int) (wide : Int) (j : Nat) : Int := ((ps.filter fun x => decide ((j : Int) ≤ x) && decide (x < (j : Int) + wide)).length : Int)
theorem neg_top {ps : List Int} {n : Nat} (h : ((n : Int) - 1) ∈ (-1 :: ps)) (hle : ∀ x ∈ ps, x ≤ (n : Int) - 1) : blD .max1 [.list (.int (-1) :: ps.map .int)] = some (.int ((n : Int) - 1)) := by
  refine max_ints (l := -1 :: ps) h fun x hx => ?_
  rcases List.mem_cons.mp hx with rfl | hx
  · omega
  · exact hle x hx
theorem busy_eq {ps : List Int} {wide : Int} {n b : Nat} (hp : ps.length ≤ 100) (hp2 : ∀ x ∈ ps, 0 ≤ x ∧ x < (100 : Nat)) (hn : ((n : Int) - 1) ∈ (-1 :: ps)) (hle : ∀ x ∈ ps, x ≤ (n : Int) - 1) (hn2 : n ≤ 200) (hb : n = 0 ∨ (b < n ∧ (∀ j, j < n → winF ps wide j ≤ winF ps wide b) ∧ ∀ j, j < b → winF ps wide j < winF ps wide b)) :
    cal T (k + 2) f_busiest [.tuple ((runsI ps).map encP), .int wide] = ret (if n = 0 then .tuple [.int 0, .int 0] else .tuple [.int (winF ps wide b), .int b]) := by
  rw [cal_at (show T[f_busiest]? = some ⟨2, 6, b_busiest⟩ from rfl)]
  unfold runF b_busiest
  have a1 := runsI_len ps
  have e1 := places_eq (k := k) (rs := runsI ps) (by omega) (runs_ok hp2)
  rw [pl_runs] at e1
  try simp -dsimp -implicitDefEqProofs (disch := first | omega | (simp; omega)) only [ev_var, ev_cst, ev_tup, ev_lst, ev_bin, ev_neg, ev_not, ev_and, ev_or, ev_cmp, ev_isN, ev_notN, ev_chn, ev_ite, ev_idx, ev_slc, ev_call, ev_bl, ev_mt, ev_isi, ev_lc, evI_it, evI_rg1, evI_rg2, evI_enum, exec_asg, exec_own, exec_par, exec_aug, exec_app, exec_ext, exec_ins, exec_put, exec_aput, exec_ifs, exec_for_, exec_whl, exec_ret, exec_retn, exec_brk, exec_cnt, exec_pass, exec_close, evs_nil, evs_cons, evo_none, evo_some, evc_none, evc_some, execs_nil, execs_cons, nxt_nx, nxt_rt, nxt_bk, nxt_ct, List.length_cons, List.length_nil, List.map_cons, List.map_nil, bnd_r, lift_ret, Env.read, Env.keep, Sl.read, Sl.keep, List.cons_append, List.nil_append, List.getElem?_cons_zero, List.getElem?_cons_succ, List.set_cons_zero, List.set_cons_succ, bindT, bindTs, closeS, ownS, keepP, if_true, if_false, ↓reduceIte, Bool.false_eq_true, Nat.reduceAdd, Nat.reduceSub, List.replicate_succ, List.replicate_zero, boolD_b, intD_i, isN_none, isN_int, isN_bool, isN_str, isN_tup, isN_lst, Bool.not_true, Bool.not_false, augD, add_int, sub_int, mul_int, fdiv_int, mod_int, mul_str, add_str, add_tup, add_lst, mul_lst, eq_int, ne_int, lt_int, gt_int, le_int, ge_int, eq_str, ne_str, len_str, len_lst, len_tup, abs_int, int_int, int_bool, min2_int, max2_int, tuple_lst, tuple_tup, list_lst, list_tup, slc_str, slc_lst, slc_tup, repS_one, repL_one, idx_t0, idx_t1, idx_t2, idx_l0, rg1_if, rg2_if, eq_self_str, eqv_bool, eq_nil, wipeE, isiD, lcS_v, forS_v, forS_t, lcS_t, app_if, ext_if, en_str, en_lst, items_str, items_lst, items_tup, Int.toNat_natCast, ev_lc2, lcS2_v, lcS2_t, tgV, tgVs, ev_rev, ev_itl, evI_rg3, rg3_if, List.append_nil, hideE, hideS, e1, List.length_map, show (-1 : Int) = -1 from rfl, neg_top hn hle]
  rw [rgD_nat, show ((n : Int) - 1 + 1).toNat = n by omega, lcL_map (fun k : Nat => PyData.int (k : Int)) (fun j => encP (-(winF ps wide j), (j : Int))) fun j hj => ?_]
  · rw [show (fun j : Nat => encP (-(winF ps wide j), (j : Int))) = (encP ∘ fun j : Nat => (-(winF ps wide j), (j : Int))) from rfl, ← List.map_map]
    rcases hb with rfl | ⟨b1, b2, b3⟩
    · try simp -dsimp -implicitDefEqProofs (disch := first | omega | (simp; omega)) only [ev_var, ev_cst, ev_tup, ev_lst, ev_bin, ev_neg, ev_not, ev_and, ev_or, ev_cmp, ev_isN, ev_notN, ev_chn, ev_ite, ev_idx, ev_slc, ev_call, ev_bl, ev_mt, ev_isi, ev_lc, evI_it, evI_rg1, evI_rg2, evI_enum, exec_asg, exec_own, exec_par, exec_aug, exec_app, exec_ext, exec_ins, exec_put, exec_aput, exec_ifs, exec_for_, exec_whl, exec_ret, exec_retn, exec_brk, exec_cnt, exec_pass, exec_close, evs_nil, evs_cons, evo_none, evo_some, evc_none, evc_some, execs_nil, execs_cons, nxt_nx, nxt_rt, nxt_bk, nxt_ct, List.length_cons, List.length_nil, List.map_cons, List.map_nil, bnd_r, lift_ret, Env.read, Env.keep, Sl.read, Sl.keep, List.cons_append, List.nil_append, List.getElem?_cons_zero, List.getElem?_cons_succ, List.set_cons_zero, List.set_cons_succ, bindT, bindTs, closeS, ownS, keepP, if_true, if_false, ↓reduceIte, Bool.false_eq_true, Nat.reduceAdd, Nat.reduceSub, List.replicate_succ, List.replicate_zero, boolD_b, intD_i, isN_none, isN_int, isN_bool, isN_str, isN_tup, isN_lst, Bool.not_true, Bool.not_false, augD, add_int, sub_int, mul_int, fdiv_int, mod_int, mul_str, add_str, add_tup, add_lst, mul_lst, eq_int, ne_int, lt_int, gt_int, le_int, ge_int, eq_str, ne_str, len_str, len_lst, len_tup, abs_int, int_int, int_bool, min2_int, max2_int, tuple_lst, tuple_tup, list_lst, list_tup, slc_str, slc_lst, slc_tup, repS_one, repL_one, idx_t0, idx_t1, idx_t2, idx_l0, rg1_if, rg2_if, eq_self_str, eqv_bool, eq_nil, wipeE, isiD, lcS_v, forS_v, forS_t, lcS_t, app_if, ext_if, en_str, en_lst, items_str, items_lst, items_tup, Int.toNat_natCast, ev_lc2, lcS2_v, lcS2_t, tgV, tgVs, ev_rev, ev_itl, evI_rg3, rg3_if, List.append_nil, hideE, hideS, List.range_zero, show cmpD .ne (.list []) (.list []) = some (.bool false) from rfl]
    · have h0 : n ≠ 0 := by omega
      have e2 := min_places (f := fun j => -(winF ps wide j)) b1 (fun j hj => by have := b2 j hj; omega) fun j hj => by have := b3 j hj; omega
      have e3 : (!((List.range n).map fun j : Nat => (-(winF ps wide j), (j : Int))).isEmpty) = true := by
        cases n with
        | zero => omega
        | succ n => simp [List.range_succ_eq_map]
      try simp -dsimp -implicitDefEqProofs (disch := first | omega | (simp; omega)) only [ev_var, ev_cst, ev_tup, ev_lst, ev_bin, ev_neg, ev_not, ev_and, ev_or, ev_cmp, ev_isN, ev_notN, ev_chn, ev_ite, ev_idx, ev_slc, ev_call, ev_bl, ev_mt, ev_isi, ev_lc, evI_it, evI_rg1, evI_rg2, evI_enum, exec_asg, exec_own, exec_par, exec_aug, exec_app, exec_ext, exec_ins, exec_put, exec_aput, exec_ifs, exec_for_, exec_whl, exec_ret, exec_retn, exec_brk, exec_cnt, exec_pass, exec_close, evs_nil, evs_cons, evo_none, evo_some, evc_none, evc_some, execs_nil, execs_cons, nxt_nx, nxt_rt, nxt_bk, nxt_ct, List.length_cons, List.length_nil, List.map_cons, List.map_nil, bnd_r, lift_ret, Env.read, Env.keep, Sl.read, Sl.keep, List.cons_append, List.nil_append, List.getElem?_cons_zero, List.getElem?_cons_succ, List.set_cons_zero, List.set_cons_succ, bindT, bindTs, closeS, ownS, keepP, if_true, if_false, ↓reduceIte, Bool.false_eq_true, Nat.reduceAdd, Nat.reduceSub, List.replicate_succ, List.replicate_zero, boolD_b, intD_i, isN_none, isN_int, isN_bool, isN_str, isN_tup, isN_lst, Bool.not_true, Bool.not_false, augD, add_int, sub_int, mul_int, fdiv_int, mod_int, mul_str, add_str, add_tup, add_lst, mul_lst, eq_int, ne_int, lt_int, gt_int, le_int, ge_int, eq_str, ne_str, len_str, len_lst, len_tup, abs_int, int_int, int_bool, min2_int, max2_int, tuple_lst, tuple_tup, list_lst, list_tup, slc_str, slc_lst, slc_tup, repS_one, repL_one, idx_t0, idx_t1, idx_t2, idx_l0, rg1_if, rg2_if, eq_self_str, eqv_bool, eq_nil, wipeE, isiD, lcS_v, forS_v, forS_t, lcS_t, app_if, ext_if, en_str, en_lst, items_str, items_lst, items_tup, Int.toNat_natCast, ev_lc2, lcS2_v, lcS2_t, tgV, tgVs, ev_rev, ev_itl, evI_rg3, rg3_if, List.append_nil, hideE, hideS, ne_Ps, e3, e2, getP, Int.neg_neg, h0]
  · rw [lcS_v]
    unfold e_busiest_3
    try simp -dsimp -implicitDefEqProofs (disch := first | omega | (simp; omega)) only [ev_var, ev_cst, ev_tup, ev_lst, ev_bin, ev_neg, ev_not, ev_and, ev_or, ev_cmp, ev_isN, ev_notN, ev_chn, ev_ite, ev_idx, ev_slc, ev_call, ev_bl, ev_mt, ev_isi, ev_lc, evI_it, evI_rg1, evI_rg2, evI_enum, exec_asg, exec_own, exec_par, exec_aug, exec_app, exec_ext, exec_ins, exec_put, exec_aput, exec_ifs, exec_for_, exec_whl, exec_ret, exec_retn, exec_brk, exec_cnt, exec_pass, exec_close, evs_nil, evs_cons, evo_none, evo_some, evc_none, evc_some, execs_nil, execs_cons, nxt_nx, nxt_rt, nxt_bk, nxt_ct, List.length_cons, List.length_nil, List.map_cons, List.map_nil, bnd_r, lift_ret, Env.read, Env.keep, Sl.read, Sl.keep, List.cons_append, List.nil_append, List.getElem?_cons_zero, List.getElem?_cons_succ, List.set_cons_zero, List.set_cons_succ, bindT, bindTs, closeS, ownS, keepP, if_true, if_false, ↓reduceIte, Bool.false_eq_true, Nat.reduceAdd, Nat.reduceSub, List.replicate_succ, List.replicate_zero, boolD_b, intD_i, isN_none, isN_int, isN_bool, isN_str, isN_tup, isN_lst, Bool.not_true, Bool.not_false, augD, add_int, sub_int, mul_int, fdiv_int, mod_int, mul_str, add_str, add_tup, add_lst, mul_lst, eq_int, ne_int, lt_int, gt_int, le_int, ge_int, eq_str, ne_str, len_str, len_lst, len_tup, abs_int, int_int, int_bool, min2_int, max2_int, tuple_lst, tuple_tup, list_lst, list_tup, slc_str, slc_lst, slc_tup, repS_one, repL_one, idx_t0, idx_t1, idx_t2, idx_l0, rg1_if, rg2_if, eq_self_str, eqv_bool, eq_nil, wipeE, isiD, lcS_v, forS_v, forS_t, lcS_t, app_if, ext_if, en_str, en_lst, items_str, items_lst, items_tup, Int.toNat_natCast, ev_lc2, lcS2_v, lcS2_t, tgV, tgVs, ev_rev, ev_itl, evI_rg3, rg3_if, List.append_nil, hideE, hideS]
    rw [lcL_fil .int (fun x => decide ((j : Int) ≤ x) && decide (x < (j : Int) + wide)) (fun _ => .int 1) fun x hx => by
      rw [lcS_v]
      unfold c_busiest_2 e_busiest_1
      by_cases h : (j : Int) ≤ x
      · try simp -dsimp -implicitDefEqProofs (disch := first | omega | (simp; omega)) only [ev_var, ev_cst, ev_tup, ev_lst, ev_bin, ev_neg, ev_not, ev_and, ev_or, ev_cmp, ev_isN, ev_notN, ev_chn, ev_ite, ev_idx, ev_slc, ev_call, ev_bl, ev_mt, ev_isi, ev_lc, evI_it, evI_rg1, evI_rg2, evI_enum, exec_asg, exec_own, exec_par, exec_aug, exec_app, exec_ext, exec_ins, exec_put, exec_aput, exec_ifs, exec_for_, exec_whl, exec_ret, exec_retn, exec_brk, exec_cnt, exec_pass, exec_close, evs_nil, evs_cons, evo_none, evo_some, evc_none, evc_some, execs_nil, execs_cons, nxt_nx, nxt_rt, nxt_bk, nxt_ct, List.length_cons, List.length_nil, List.map_cons, List.map_nil, bnd_r, lift_ret, Env.read, Env.keep, Sl.read, Sl.keep, List.cons_append, List.nil_append, List.getElem?_cons_zero, List.getElem?_cons_succ, List.set_cons_zero, List.set_cons_succ, bindT, bindTs, closeS, ownS, keepP, if_true, if_false, ↓reduceIte, Bool.false_eq_true, Nat.reduceAdd, Nat.reduceSub, List.replicate_succ, List.replicate_zero, boolD_b, intD_i, isN_none, isN_int, isN_bool, isN_str, isN_tup, isN_lst, Bool.not_true, Bool.not_false, augD, add_int, sub_int, mul_int, fdiv_int, mod_int, mul_str, add_str, add_tup, add_lst, mul_lst, eq_int, ne_int, lt_int, gt_int, le_int, ge_int, eq_str, ne_str, len_str, len_lst, len_tup, abs_int, int_int, int_bool, min2_int, max2_int, tuple_lst, tuple_tup, list_lst, list_tup, slc_str, slc_lst, slc_tup, repS_one, repL_one, idx_t0, idx_t1, idx_t2, idx_l0, rg1_if, rg2_if, eq_self_str, eqv_bool, eq_nil, wipeE, isiD, lcS_v, forS_v, forS_t, lcS_t, app_if, ext_if, en_str, en_lst, items_str, items_lst, items_tup, Int.toNat_natCast, ev_lc2, lcS2_v, lcS2_t, tgV, tgVs, ev_rev, ev_itl, evI_rg3, rg3_if, List.append_nil, hideE, hideS, h, decide_true, Bool.true_and, ret_ite]
      · try simp -dsimp -implicitDefEqProofs (disch := first | omega | (simp; omega)) only [ev_var, ev_cst, ev_tup, ev_lst, ev_bin, ev_neg, ev_not, ev_and, ev_or, ev_cmp, ev_isN, ev_notN, ev_chn, ev_ite, ev_idx, ev_slc, ev_call, ev_bl, ev_mt, ev_isi, ev_lc, evI_it, evI_rg1, evI_rg2, evI_enum, exec_asg, exec_own, exec_par, exec_aug, exec_app, exec_ext, exec_ins, exec_put, exec_aput, exec_ifs, exec_for_, exec_whl, exec_ret, exec_retn, exec_brk, exec_cnt, exec_pass, exec_close, evs_nil, evs_cons, evo_none, evo_some, evc_none, evc_some, execs_nil, execs_cons, nxt_nx, nxt_rt, nxt_bk, nxt_ct, List.length_cons, List.length_nil, List.map_cons, List.map_nil, bnd_r, lift_ret, Env.read, Env.keep, Sl.read, Sl.keep, List.cons_append, List.nil_append, List.getElem?_cons_zero, List.getElem?_cons_succ, List.set_cons_zero, List.set_cons_succ, bindT, bindTs, closeS, ownS, keepP, if_true, if_false, ↓reduceIte, Bool.false_eq_true, Nat.reduceAdd, Nat.reduceSub, List.replicate_succ, List.replicate_zero, boolD_b, intD_i, isN_none, isN_int, isN_bool, isN_str, isN_tup, isN_lst, Bool.not_true, Bool.not_false, augD, add_int, sub_int, mul_int, fdiv_int, mod_int, mul_str, add_str, add_tup, add_lst, mul_lst, eq_int, ne_int, lt_int, gt_int, le_int, ge_int, eq_str, ne_str, len_str, len_lst, len_tup, abs_int, int_int, int_bool, min2_int, max2_int, tuple_lst, tuple_tup, list_lst, list_tup, slc_str, slc_lst, slc_tup, repS_one, repL_one, idx_t0, idx_t1, idx_t2, idx_l0, rg1_if, rg2_if, eq_self_str, eqv_bool, eq_nil, wipeE, isiD, lcS_v, forS_v, forS_t, lcS_t, app_if, ext_if, en_str, en_lst, items_str, items_lst, items_tup, Int.toNat_natCast, ev_lc2, lcS2_v, lcS2_t, tgV, tgVs, ev_rev, ev_itl, evI_rg3, rg3_if, List.append_nil, hideE, hideS, h, decide_false, Bool.false_and]]
    try simp -dsimp -implicitDefEqProofs (disch := first | omega | (simp; omega)) only [ev_var, ev_cst, ev_tup, ev_lst, ev_bin, ev_neg, ev_not, ev_and, ev_or, ev_cmp, ev_isN, ev_notN, ev_chn, ev_ite, ev_idx, ev_slc, ev_call, ev_bl, ev_mt, ev_isi, ev_lc, evI_it, evI_rg1, evI_rg2, evI_enum, exec_asg, exec_own, exec_par, exec_aug, exec_app, exec_ext, exec_ins, exec_put, exec_aput, exec_ifs, exec_for_, exec_whl, exec_ret, exec_retn, exec_brk, exec_cnt, exec_pass, exec_close, evs_nil, evs_cons, evo_none, evo_some, evc_none, evc_some, execs_nil, execs_cons, nxt_nx, nxt_rt, nxt_bk, nxt_ct, List.length_cons, List.length_nil, List.map_cons, List.map_nil, bnd_r, lift_ret, Env.read, Env.keep, Sl.read, Sl.keep, List.cons_append, List.nil_append, List.getElem?_cons_zero, List.getElem?_cons_succ, List.set_cons_zero, List.set_cons_succ, bindT, bindTs, closeS, ownS, keepP, if_true, if_false, ↓reduceIte, Bool.false_eq_true, Nat.reduceAdd, Nat.reduceSub, List.replicate_succ, List.replicate_zero, boolD_b, intD_i, isN_none, isN_int, isN_bool, isN_str, isN_tup, isN_lst, Bool.not_true, Bool.not_false, augD, add_int, sub_int, mul_int, fdiv_int, mod_int, mul_str, add_str, add_tup, add_lst, mul_lst, eq_int, ne_int, lt_int, gt_int, le_int, ge_int, eq_str, ne_str, len_str, len_lst, len_tup, abs_int, int_int, int_bool, min2_int, max2_int, tuple_lst, tuple_tup, list_lst, list_tup, slc_str, slc_lst, slc_tup, repS_one, repL_one, idx_t0, idx_t1, idx_t2, idx_l0, rg1_if, rg2_if, eq_self_str, eqv_bool, eq_nil, wipeE, isiD, lcS_v, forS_v, forS_t, lcS_t, app_if, ext_if, en_str, en_lst, items_str, items_lst, items_tup, Int.toNat_natCast, ev_lc2, lcS2_v, lcS2_t, tgV, tgVs, ev_rev, ev_itl, evI_rg3, rg3_if, List.append_nil, hideE, hideS, List.length_map, getP]
    rfl
end
end Q.K41

set_option Elab.async false
set_option linter.all false
set_option maxRecDepth 100000
/-! K41P6: the law's body. -/
namespace Q.K41
open PySem Q
theorem plainP {rs : List Pr} (h : rs.length ≤ 1000) : plainD 59 (.tuple (rs.map encP)) = true := by
  unfold plainD
  rw [Bool.and_eq_true, List.length_map, decide_eq_true_iff, List.all_eq_true]
  refine ⟨fun x hx => ?_, h⟩
  obtain ⟨p, _, rfl⟩ := List.mem_map.mp hx
  rfl
theorem plainI {l : List Int} (h : l.length ≤ 1000) : plainD 59 (.tuple (l.map .int)) = true := by
  unfold plainD
  rw [Bool.and_eq_true, List.length_map, decide_eq_true_iff, List.all_eq_true]
  refine ⟨fun x hx => ?_, h⟩
  obtain ⟨p, _, rfl⟩ := List.mem_map.mp hx
  rfl
theorem sameP {rs : List Pr} (h : rs.length ≤ 1000) : cal T 60 f__law_same [.tuple (rs.map encP), .tuple (rs.map encP)] = ret (.bool true) := same_self (T := T) t_same 59 _ (plainP h)
theorem sameI {l : List Int} (h : l.length ≤ 1000) : cal T 60 f__law_same [.tuple (l.map .int), .tuple (l.map .int)] = ret (.bool true) := same_self (T := T) t_same 59 _ (plainI h)
theorem sameIn {i : Int} : cal T 60 f__law_same [.int i, .int i] = ret (.bool true) := same_self (T := T) t_same 59 _ rfl
theorem same2 {i j : Int} : cal T 60 f__law_same [.tuple [.int i, .int j], .tuple [.int i, .int j]] = ret (.bool true) := same_self (T := T) t_same 59 _ rfl
section
variable {F0 s2 s3 s4 s5 s6 s7 s8 s9 s10 s11 s12 s13 s14 s15 s16 s17 s18 s19 s20 s21 s22 s23 s24 s25 s26 s27 s28 s29 s30 s31 : Sl} {Q : Fl → Prop}
theorem g1 (h : ∀ (row : List Int) (level gap least : Int), row.length ≤ 14 → (∀ x ∈ row, 0 ≤ x ∧ x ≤ 9) → (0 ≤ level ∧ level ≤ 9) → (0 ≤ gap ∧ gap ≤ 3) → (1 ≤ least ∧ least ≤ 3) → Sure (execs (cal T 60) t_1_2 [F0, .cl W, s2, .cl (.tuple (row.map .int)), s4, .cl (.int level), .cl (.int gap), .cl (.int least), s8, s9, s10, s11, s12, s13, s14, s15, s16, s17, s18, s19, s20, s21, s22, s23, s24, s25, s26, s27, s28, s29, s30, s31]) Q) :
    Sure (execs (cal T 60) t_1_0 [F0, .cl W, s2, s3, s4, s5, s6, s7, s8, s9, s10, s11, s12, s13, s14, s15, s16, s17, s18, s19, s20, s21, s22, s23, s24, s25, s26, s27, s28, s29, s30, s31]) Q := by
  unfold t_1_0
  refine sure_seq ?_
  try simp -dsimp -implicitDefEqProofs (disch := first | omega | (simp; omega)) only [ev_var, ev_cst, ev_tup, ev_lst, ev_bin, ev_neg, ev_not, ev_and, ev_or, ev_cmp, ev_isN, ev_notN, ev_chn, ev_ite, ev_idx, ev_slc, ev_call, ev_bl, ev_mt, ev_isi, ev_lc, evI_it, evI_rg1, evI_rg2, evI_enum, exec_asg, exec_own, exec_par, exec_aug, exec_app, exec_ext, exec_ins, exec_put, exec_aput, exec_ifs, exec_for_, exec_whl, exec_ret, exec_retn, exec_brk, exec_cnt, exec_pass, exec_close, evs_nil, evs_cons, evo_none, evo_some, evc_none, evc_some, execs_nil, execs_cons, nxt_nx, nxt_rt, nxt_bk, nxt_ct, List.length_cons, List.length_nil, List.map_cons, List.map_nil, bnd_r, lift_ret, Env.read, Env.keep, Sl.read, Sl.keep, List.cons_append, List.nil_append, List.getElem?_cons_zero, List.getElem?_cons_succ, List.set_cons_zero, List.set_cons_succ, bindT, bindTs, closeS, ownS, keepP, if_true, if_false, ↓reduceIte, Bool.false_eq_true, Nat.reduceAdd, Nat.reduceSub, List.replicate_succ, List.replicate_zero, boolD_b, intD_i, isN_none, isN_int, isN_bool, isN_str, isN_tup, isN_lst, Bool.not_true, Bool.not_false, augD, add_int, sub_int, mul_int, fdiv_int, mod_int, mul_str, add_str, add_tup, add_lst, mul_lst, eq_int, ne_int, lt_int, gt_int, le_int, ge_int, eq_str, ne_str, len_str, len_lst, len_tup, abs_int, int_int, int_bool, min2_int, max2_int, tuple_lst, tuple_tup, list_lst, list_tup, slc_str, slc_lst, slc_tup, repS_one, repL_one, idx_t0, idx_t1, idx_t2, idx_l0, rg1_if, rg2_if, eq_self_str, eqv_bool, eq_nil, wipeE, isiD, lcS_v, forS_v, forS_t, lcS_t, app_if, ext_if, en_str, en_lst, items_str, items_lst, items_tup, Int.toNat_natCast, ev_lc2, lcS2_v, lcS2_t, tgV, tgVs, ev_rev, ev_itl, evI_rg3, rg3_if, List.append_nil, hideE, hideS, bnd_assoc]
  refine sure_bnd ((sure_next t_next (by omega)).mono fun d hd => ?_)
  obtain ⟨m, rfl, h1, h2⟩ := hd
  try simp -dsimp -implicitDefEqProofs (disch := first | omega | (simp; omega)) only [ev_var, ev_cst, ev_tup, ev_lst, ev_bin, ev_neg, ev_not, ev_and, ev_or, ev_cmp, ev_isN, ev_notN, ev_chn, ev_ite, ev_idx, ev_slc, ev_call, ev_bl, ev_mt, ev_isi, ev_lc, evI_it, evI_rg1, evI_rg2, evI_enum, exec_asg, exec_own, exec_par, exec_aug, exec_app, exec_ext, exec_ins, exec_put, exec_aput, exec_ifs, exec_for_, exec_whl, exec_ret, exec_retn, exec_brk, exec_cnt, exec_pass, exec_close, evs_nil, evs_cons, evo_none, evo_some, evc_none, evc_some, execs_nil, execs_cons, nxt_nx, nxt_rt, nxt_bk, nxt_ct, List.length_cons, List.length_nil, List.map_cons, List.map_nil, bnd_r, lift_ret, Env.read, Env.keep, Sl.read, Sl.keep, List.cons_append, List.nil_append, List.getElem?_cons_zero, List.getElem?_cons_succ, List.set_cons_zero, List.set_cons_succ, bindT, bindTs, closeS, ownS, keepP, if_true, if_false, ↓reduceIte, Bool.false_eq_true, Nat.reduceAdd, Nat.reduceSub, List.replicate_succ, List.replicate_zero, boolD_b, intD_i, isN_none, isN_int, isN_bool, isN_str, isN_tup, isN_lst, Bool.not_true, Bool.not_false, augD, add_int, sub_int, mul_int, fdiv_int, mod_int, mul_str, add_str, add_tup, add_lst, mul_lst, eq_int, ne_int, lt_int, gt_int, le_int, ge_int, eq_str, ne_str, len_str, len_lst, len_tup, abs_int, int_int, int_bool, min2_int, max2_int, tuple_lst, tuple_tup, list_lst, list_tup, slc_str, slc_lst, slc_tup, repS_one, repL_one, idx_t0, idx_t1, idx_t2, idx_l0, rg1_if, rg2_if, eq_self_str, eqv_bool, eq_nil, wipeE, isiD, lcS_v, forS_v, forS_t, lcS_t, app_if, ext_if, en_str, en_lst, items_str, items_lst, items_tup, Int.toNat_natCast, ev_lc2, lcS2_v, lcS2_t, tgV, tgVs, ev_rev, ev_itl, evI_rg3, rg3_if, List.append_nil, hideE, hideS, bnd_assoc]
  refine sure_bnd ((sure_lc (fun x => ∃ i : Int, x = .int i ∧ (0 ≤ i ∧ i ≤ 9)) fun d hd => ?_).mono fun l hl => ?_)
  · rw [lcS_v]
    unfold e_law_2
    try simp -dsimp -implicitDefEqProofs (disch := first | omega | (simp; omega)) only [ev_var, ev_cst, ev_tup, ev_lst, ev_bin, ev_neg, ev_not, ev_and, ev_or, ev_cmp, ev_isN, ev_notN, ev_chn, ev_ite, ev_idx, ev_slc, ev_call, ev_bl, ev_mt, ev_isi, ev_lc, evI_it, evI_rg1, evI_rg2, evI_enum, exec_asg, exec_own, exec_par, exec_aug, exec_app, exec_ext, exec_ins, exec_put, exec_aput, exec_ifs, exec_for_, exec_whl, exec_ret, exec_retn, exec_brk, exec_cnt, exec_pass, exec_close, evs_nil, evs_cons, evo_none, evo_some, evc_none, evc_some, execs_nil, execs_cons, nxt_nx, nxt_rt, nxt_bk, nxt_ct, List.length_cons, List.length_nil, List.map_cons, List.map_nil, bnd_r, lift_ret, Env.read, Env.keep, Sl.read, Sl.keep, List.cons_append, List.nil_append, List.getElem?_cons_zero, List.getElem?_cons_succ, List.set_cons_zero, List.set_cons_succ, bindT, bindTs, closeS, ownS, keepP, if_true, if_false, ↓reduceIte, Bool.false_eq_true, Nat.reduceAdd, Nat.reduceSub, List.replicate_succ, List.replicate_zero, boolD_b, intD_i, isN_none, isN_int, isN_bool, isN_str, isN_tup, isN_lst, Bool.not_true, Bool.not_false, augD, add_int, sub_int, mul_int, fdiv_int, mod_int, mul_str, add_str, add_tup, add_lst, mul_lst, eq_int, ne_int, lt_int, gt_int, le_int, ge_int, eq_str, ne_str, len_str, len_lst, len_tup, abs_int, int_int, int_bool, min2_int, max2_int, tuple_lst, tuple_tup, list_lst, list_tup, slc_str, slc_lst, slc_tup, repS_one, repL_one, idx_t0, idx_t1, idx_t2, idx_l0, rg1_if, rg2_if, eq_self_str, eqv_bool, eq_nil, wipeE, isiD, lcS_v, forS_v, forS_t, lcS_t, app_if, ext_if, en_str, en_lst, items_str, items_lst, items_tup, Int.toNat_natCast, ev_lc2, lcS2_v, lcS2_t, tgV, tgVs, ev_rev, ev_itl, evI_rg3, rg3_if, List.append_nil, hideE, hideS, bnd_assoc]
    refine sure_bnd ((sure_pick t_next t_pick (xs := [.int 0, .int 0, .int 1, .int 4, .int 6, .int 9]) (by simp)).mono fun d hd => ?_)
    refine sure_ret ⟨d, rfl, ?_⟩
    simp only [List.mem_cons, List.not_mem_nil, or_false] at hd
    rcases hd with rfl | rfl | rfl | rfl | rfl | rfl <;> exact ⟨_, rfl, by omega⟩
  · obtain ⟨hl, hx⟩ := hl
    obtain ⟨row, rfl, hx2⟩ := un_int hx
    rw [rg_len, List.length_map] at hl
    try simp -dsimp -implicitDefEqProofs (disch := first | omega | (simp; omega)) only [ev_var, ev_cst, ev_tup, ev_lst, ev_bin, ev_neg, ev_not, ev_and, ev_or, ev_cmp, ev_isN, ev_notN, ev_chn, ev_ite, ev_idx, ev_slc, ev_call, ev_bl, ev_mt, ev_isi, ev_lc, evI_it, evI_rg1, evI_rg2, evI_enum, exec_asg, exec_own, exec_par, exec_aug, exec_app, exec_ext, exec_ins, exec_put, exec_aput, exec_ifs, exec_for_, exec_whl, exec_ret, exec_retn, exec_brk, exec_cnt, exec_pass, exec_close, evs_nil, evs_cons, evo_none, evo_some, evc_none, evc_some, execs_nil, execs_cons, nxt_nx, nxt_rt, nxt_bk, nxt_ct, List.length_cons, List.length_nil, List.map_cons, List.map_nil, bnd_r, lift_ret, Env.read, Env.keep, Sl.read, Sl.keep, List.cons_append, List.nil_append, List.getElem?_cons_zero, List.getElem?_cons_succ, List.set_cons_zero, List.set_cons_succ, bindT, bindTs, closeS, ownS, keepP, if_true, if_false, ↓reduceIte, Bool.false_eq_true, Nat.reduceAdd, Nat.reduceSub, List.replicate_succ, List.replicate_zero, boolD_b, intD_i, isN_none, isN_int, isN_bool, isN_str, isN_tup, isN_lst, Bool.not_true, Bool.not_false, augD, add_int, sub_int, mul_int, fdiv_int, mod_int, mul_str, add_str, add_tup, add_lst, mul_lst, eq_int, ne_int, lt_int, gt_int, le_int, ge_int, eq_str, ne_str, len_str, len_lst, len_tup, abs_int, int_int, int_bool, min2_int, max2_int, tuple_lst, tuple_tup, list_lst, list_tup, slc_str, slc_lst, slc_tup, repS_one, repL_one, idx_t0, idx_t1, idx_t2, idx_l0, rg1_if, rg2_if, eq_self_str, eqv_bool, eq_nil, wipeE, isiD, lcS_v, forS_v, forS_t, lcS_t, app_if, ext_if, en_str, en_lst, items_str, items_lst, items_tup, Int.toNat_natCast, ev_lc2, lcS2_v, lcS2_t, tgV, tgVs, ev_rev, ev_itl, evI_rg3, rg3_if, List.append_nil, hideE, hideS]
    refine sure_nx ?_
    unfold t_1_1
    refine sure_seq ?_
    try simp -dsimp -implicitDefEqProofs (disch := first | omega | (simp; omega)) only [ev_var, ev_cst, ev_tup, ev_lst, ev_bin, ev_neg, ev_not, ev_and, ev_or, ev_cmp, ev_isN, ev_notN, ev_chn, ev_ite, ev_idx, ev_slc, ev_call, ev_bl, ev_mt, ev_isi, ev_lc, evI_it, evI_rg1, evI_rg2, evI_enum, exec_asg, exec_own, exec_par, exec_aug, exec_app, exec_ext, exec_ins, exec_put, exec_aput, exec_ifs, exec_for_, exec_whl, exec_ret, exec_retn, exec_brk, exec_cnt, exec_pass, exec_close, evs_nil, evs_cons, evo_none, evo_some, evc_none, evc_some, execs_nil, execs_cons, nxt_nx, nxt_rt, nxt_bk, nxt_ct, List.length_cons, List.length_nil, List.map_cons, List.map_nil, bnd_r, lift_ret, Env.read, Env.keep, Sl.read, Sl.keep, List.cons_append, List.nil_append, List.getElem?_cons_zero, List.getElem?_cons_succ, List.set_cons_zero, List.set_cons_succ, bindT, bindTs, closeS, ownS, keepP, if_true, if_false, ↓reduceIte, Bool.false_eq_true, Nat.reduceAdd, Nat.reduceSub, List.replicate_succ, List.replicate_zero, boolD_b, intD_i, isN_none, isN_int, isN_bool, isN_str, isN_tup, isN_lst, Bool.not_true, Bool.not_false, augD, add_int, sub_int, mul_int, fdiv_int, mod_int, mul_str, add_str, add_tup, add_lst, mul_lst, eq_int, ne_int, lt_int, gt_int, le_int, ge_int, eq_str, ne_str, len_str, len_lst, len_tup, abs_int, int_int, int_bool, min2_int, max2_int, tuple_lst, tuple_tup, list_lst, list_tup, slc_str, slc_lst, slc_tup, repS_one, repL_one, idx_t0, idx_t1, idx_t2, idx_l0, rg1_if, rg2_if, eq_self_str, eqv_bool, eq_nil, wipeE, isiD, lcS_v, forS_v, forS_t, lcS_t, app_if, ext_if, en_str, en_lst, items_str, items_lst, items_tup, Int.toNat_natCast, ev_lc2, lcS2_v, lcS2_t, tgV, tgVs, ev_rev, ev_itl, evI_rg3, rg3_if, List.append_nil, hideE, hideS, bnd_assoc]
    refine sure_bnd ((sure_next t_next (by omega)).mono fun d hd => ?_)
    obtain ⟨a, rfl, a1, a2⟩ := hd
    try simp -dsimp -implicitDefEqProofs (disch := first | omega | (simp; omega)) only [ev_var, ev_cst, ev_tup, ev_lst, ev_bin, ev_neg, ev_not, ev_and, ev_or, ev_cmp, ev_isN, ev_notN, ev_chn, ev_ite, ev_idx, ev_slc, ev_call, ev_bl, ev_mt, ev_isi, ev_lc, evI_it, evI_rg1, evI_rg2, evI_enum, exec_asg, exec_own, exec_par, exec_aug, exec_app, exec_ext, exec_ins, exec_put, exec_aput, exec_ifs, exec_for_, exec_whl, exec_ret, exec_retn, exec_brk, exec_cnt, exec_pass, exec_close, evs_nil, evs_cons, evo_none, evo_some, evc_none, evc_some, execs_nil, execs_cons, nxt_nx, nxt_rt, nxt_bk, nxt_ct, List.length_cons, List.length_nil, List.map_cons, List.map_nil, bnd_r, lift_ret, Env.read, Env.keep, Sl.read, Sl.keep, List.cons_append, List.nil_append, List.getElem?_cons_zero, List.getElem?_cons_succ, List.set_cons_zero, List.set_cons_succ, bindT, bindTs, closeS, ownS, keepP, if_true, if_false, ↓reduceIte, Bool.false_eq_true, Nat.reduceAdd, Nat.reduceSub, List.replicate_succ, List.replicate_zero, boolD_b, intD_i, isN_none, isN_int, isN_bool, isN_str, isN_tup, isN_lst, Bool.not_true, Bool.not_false, augD, add_int, sub_int, mul_int, fdiv_int, mod_int, mul_str, add_str, add_tup, add_lst, mul_lst, eq_int, ne_int, lt_int, gt_int, le_int, ge_int, eq_str, ne_str, len_str, len_lst, len_tup, abs_int, int_int, int_bool, min2_int, max2_int, tuple_lst, tuple_tup, list_lst, list_tup, slc_str, slc_lst, slc_tup, repS_one, repL_one, idx_t0, idx_t1, idx_t2, idx_l0, rg1_if, rg2_if, eq_self_str, eqv_bool, eq_nil, wipeE, isiD, lcS_v, forS_v, forS_t, lcS_t, app_if, ext_if, en_str, en_lst, items_str, items_lst, items_tup, Int.toNat_natCast, ev_lc2, lcS2_v, lcS2_t, tgV, tgVs, ev_rev, ev_itl, evI_rg3, rg3_if, List.append_nil, hideE, hideS, bnd_assoc]
    refine sure_bnd ((sure_next t_next (by omega)).mono fun d hd => ?_)
    obtain ⟨b, rfl, b1, b2⟩ := hd
    try simp -dsimp -implicitDefEqProofs (disch := first | omega | (simp; omega)) only [ev_var, ev_cst, ev_tup, ev_lst, ev_bin, ev_neg, ev_not, ev_and, ev_or, ev_cmp, ev_isN, ev_notN, ev_chn, ev_ite, ev_idx, ev_slc, ev_call, ev_bl, ev_mt, ev_isi, ev_lc, evI_it, evI_rg1, evI_rg2, evI_enum, exec_asg, exec_own, exec_par, exec_aug, exec_app, exec_ext, exec_ins, exec_put, exec_aput, exec_ifs, exec_for_, exec_whl, exec_ret, exec_retn, exec_brk, exec_cnt, exec_pass, exec_close, evs_nil, evs_cons, evo_none, evo_some, evc_none, evc_some, execs_nil, execs_cons, nxt_nx, nxt_rt, nxt_bk, nxt_ct, List.length_cons, List.length_nil, List.map_cons, List.map_nil, bnd_r, lift_ret, Env.read, Env.keep, Sl.read, Sl.keep, List.cons_append, List.nil_append, List.getElem?_cons_zero, List.getElem?_cons_succ, List.set_cons_zero, List.set_cons_succ, bindT, bindTs, closeS, ownS, keepP, if_true, if_false, ↓reduceIte, Bool.false_eq_true, Nat.reduceAdd, Nat.reduceSub, List.replicate_succ, List.replicate_zero, boolD_b, intD_i, isN_none, isN_int, isN_bool, isN_str, isN_tup, isN_lst, Bool.not_true, Bool.not_false, augD, add_int, sub_int, mul_int, fdiv_int, mod_int, mul_str, add_str, add_tup, add_lst, mul_lst, eq_int, ne_int, lt_int, gt_int, le_int, ge_int, eq_str, ne_str, len_str, len_lst, len_tup, abs_int, int_int, int_bool, min2_int, max2_int, tuple_lst, tuple_tup, list_lst, list_tup, slc_str, slc_lst, slc_tup, repS_one, repL_one, idx_t0, idx_t1, idx_t2, idx_l0, rg1_if, rg2_if, eq_self_str, eqv_bool, eq_nil, wipeE, isiD, lcS_v, forS_v, forS_t, lcS_t, app_if, ext_if, en_str, en_lst, items_str, items_lst, items_tup, Int.toNat_natCast, ev_lc2, lcS2_v, lcS2_t, tgV, tgVs, ev_rev, ev_itl, evI_rg3, rg3_if, List.append_nil, hideE, hideS, bnd_assoc]
    refine sure_bnd ((sure_next t_next (by omega)).mono fun d hd => ?_)
    obtain ⟨c, rfl, c1, c2⟩ := hd
    try simp -dsimp -implicitDefEqProofs (disch := first | omega | (simp; omega)) only [ev_var, ev_cst, ev_tup, ev_lst, ev_bin, ev_neg, ev_not, ev_and, ev_or, ev_cmp, ev_isN, ev_notN, ev_chn, ev_ite, ev_idx, ev_slc, ev_call, ev_bl, ev_mt, ev_isi, ev_lc, evI_it, evI_rg1, evI_rg2, evI_enum, exec_asg, exec_own, exec_par, exec_aug, exec_app, exec_ext, exec_ins, exec_put, exec_aput, exec_ifs, exec_for_, exec_whl, exec_ret, exec_retn, exec_brk, exec_cnt, exec_pass, exec_close, evs_nil, evs_cons, evo_none, evo_some, evc_none, evc_some, execs_nil, execs_cons, nxt_nx, nxt_rt, nxt_bk, nxt_ct, List.length_cons, List.length_nil, List.map_cons, List.map_nil, bnd_r, lift_ret, Env.read, Env.keep, Sl.read, Sl.keep, List.cons_append, List.nil_append, List.getElem?_cons_zero, List.getElem?_cons_succ, List.set_cons_zero, List.set_cons_succ, bindT, bindTs, closeS, ownS, keepP, if_true, if_false, ↓reduceIte, Bool.false_eq_true, Nat.reduceAdd, Nat.reduceSub, List.replicate_succ, List.replicate_zero, boolD_b, intD_i, isN_none, isN_int, isN_bool, isN_str, isN_tup, isN_lst, Bool.not_true, Bool.not_false, augD, add_int, sub_int, mul_int, fdiv_int, mod_int, mul_str, add_str, add_tup, add_lst, mul_lst, eq_int, ne_int, lt_int, gt_int, le_int, ge_int, eq_str, ne_str, len_str, len_lst, len_tup, abs_int, int_int, int_bool, min2_int, max2_int, tuple_lst, tuple_tup, list_lst, list_tup, slc_str, slc_lst, slc_tup, repS_one, repL_one, idx_t0, idx_t1, idx_t2, idx_l0, rg1_if, rg2_if, eq_self_str, eqv_bool, eq_nil, wipeE, isiD, lcS_v, forS_v, forS_t, lcS_t, app_if, ext_if, en_str, en_lst, items_str, items_lst, items_tup, Int.toNat_natCast, ev_lc2, lcS2_v, lcS2_t, tgV, tgVs, ev_rev, ev_itl, evI_rg3, rg3_if, List.append_nil, hideE, hideS, bnd_assoc]
    exact sure_nx (h row a b (1 + c) (by omega) hx2 (by omega) (by omega) (by omega))
theorem g2 {row : List Int} {level gap least : Int} (hr : row.length ≤ 14) (hx : ∀ x ∈ row, 0 ≤ x ∧ x ≤ 9) (hg : 0 ≤ gap ∧ gap ≤ 3)
    (h : ∀ s9 : Sl, Sure (execs (cal T 60) t_1_7 [F0, .cl W, s2, .cl (.tuple (row.map .int)), s4, .cl (.int level), .cl (.int gap), .cl (.int least), .cl (.list ((runsI (loudI row level)).map encP)), s9, s10, s11, s12, s13, s14, s15, s16, s17, s18, s19, s20, s21, s22, s23, s24, s25, s26, s27, s28, s29, s30, s31]) Q) :
    Sure (execs (cal T 60) t_1_2 [F0, .cl W, s2, .cl (.tuple (row.map .int)), s4, .cl (.int level), .cl (.int gap), .cl (.int least), s8, s9, s10, s11, s12, s13, s14, s15, s16, s17, s18, s19, s20, s21, s22, s23, s24, s25, s26, s27, s28, s29, s30, s31]) Q := by
  have l1 := loud_len (row := row) (lv := level)
  have l2 := runsI_len (loudI row level)
  have l3 := joinI_len gap (runsI (loudI row level))
  have l4 := List.length_filter_le (fun p : Pr => decide (least ≤ p.2 - p.1)) (runsI (loudI row level))
  have l5 := List.length_filter_le (fun p : Pr => decide (least ≤ p.2 - p.1)) (joinI gap (runsI (loudI row level)))
  unfold t_1_2
  refine sure_seq ?_
  try simp -dsimp -implicitDefEqProofs (disch := first | omega | (simp; omega)) only [ev_var, ev_cst, ev_tup, ev_lst, ev_bin, ev_neg, ev_not, ev_and, ev_or, ev_cmp, ev_isN, ev_notN, ev_chn, ev_ite, ev_idx, ev_slc, ev_call, ev_bl, ev_mt, ev_isi, ev_lc, evI_it, evI_rg1, evI_rg2, evI_enum, exec_asg, exec_own, exec_par, exec_aug, exec_app, exec_ext, exec_ins, exec_put, exec_aput, exec_ifs, exec_for_, exec_whl, exec_ret, exec_retn, exec_brk, exec_cnt, exec_pass, exec_close, evs_nil, evs_cons, evo_none, evo_some, evc_none, evc_some, execs_nil, execs_cons, nxt_nx, nxt_rt, nxt_bk, nxt_ct, List.length_cons, List.length_nil, List.map_cons, List.map_nil, bnd_r, lift_ret, Env.read, Env.keep, Sl.read, Sl.keep, List.cons_append, List.nil_append, List.getElem?_cons_zero, List.getElem?_cons_succ, List.set_cons_zero, List.set_cons_succ, bindT, bindTs, closeS, ownS, keepP, if_true, if_false, ↓reduceIte, Bool.false_eq_true, Nat.reduceAdd, Nat.reduceSub, List.replicate_succ, List.replicate_zero, boolD_b, intD_i, isN_none, isN_int, isN_bool, isN_str, isN_tup, isN_lst, Bool.not_true, Bool.not_false, augD, add_int, sub_int, mul_int, fdiv_int, mod_int, mul_str, add_str, add_tup, add_lst, mul_lst, eq_int, ne_int, lt_int, gt_int, le_int, ge_int, eq_str, ne_str, len_str, len_lst, len_tup, abs_int, int_int, int_bool, min2_int, max2_int, tuple_lst, tuple_tup, list_lst, list_tup, slc_str, slc_lst, slc_tup, repS_one, repL_one, idx_t0, idx_t1, idx_t2, idx_l0, rg1_if, rg2_if, eq_self_str, eqv_bool, eq_nil, wipeE, isiD, lcS_v, forS_v, forS_t, lcS_t, app_if, ext_if, en_str, en_lst, items_str, items_lst, items_tup, Int.toNat_natCast, ev_lc2, lcS2_v, lcS2_t, tgV, tgVs, ev_rev, ev_itl, evI_rg3, rg3_if, List.append_nil, hideE, hideS, bnd_assoc, List.length_map]
  rw [lc_loud (lv := level) (fun x x0 x1 => by
    unfold c_law_4
    try simp -dsimp -implicitDefEqProofs (disch := first | omega | (simp; omega)) only [ev_var, ev_cst, ev_tup, ev_lst, ev_bin, ev_neg, ev_not, ev_and, ev_or, ev_cmp, ev_isN, ev_notN, ev_chn, ev_ite, ev_idx, ev_slc, ev_call, ev_bl, ev_mt, ev_isi, ev_lc, evI_it, evI_rg1, evI_rg2, evI_enum, exec_asg, exec_own, exec_par, exec_aug, exec_app, exec_ext, exec_ins, exec_put, exec_aput, exec_ifs, exec_for_, exec_whl, exec_ret, exec_retn, exec_brk, exec_cnt, exec_pass, exec_close, evs_nil, evs_cons, evo_none, evo_some, evc_none, evc_some, execs_nil, execs_cons, nxt_nx, nxt_rt, nxt_bk, nxt_ct, List.length_cons, List.length_nil, List.map_cons, List.map_nil, bnd_r, lift_ret, Env.read, Env.keep, Sl.read, Sl.keep, List.cons_append, List.nil_append, List.getElem?_cons_zero, List.getElem?_cons_succ, List.set_cons_zero, List.set_cons_succ, bindT, bindTs, closeS, ownS, keepP, if_true, if_false, ↓reduceIte, Bool.false_eq_true, Nat.reduceAdd, Nat.reduceSub, List.replicate_succ, List.replicate_zero, boolD_b, intD_i, isN_none, isN_int, isN_bool, isN_str, isN_tup, isN_lst, Bool.not_true, Bool.not_false, augD, add_int, sub_int, mul_int, fdiv_int, mod_int, mul_str, add_str, add_tup, add_lst, mul_lst, eq_int, ne_int, lt_int, gt_int, le_int, ge_int, eq_str, ne_str, len_str, len_lst, len_tup, abs_int, int_int, int_bool, min2_int, max2_int, tuple_lst, tuple_tup, list_lst, list_tup, slc_str, slc_lst, slc_tup, repS_one, repL_one, idx_t0, idx_t1, idx_t2, idx_l0, rg1_if, rg2_if, eq_self_str, eqv_bool, eq_nil, wipeE, isiD, lcS_v, forS_v, forS_t, lcS_t, app_if, ext_if, en_str, en_lst, items_str, items_lst, items_tup, Int.toNat_natCast, ev_lc2, lcS2_v, lcS2_t, tgV, tgVs, ev_rev, ev_itl, evI_rg3, rg3_if, List.append_nil, hideE, hideS, idx_tup x0 (row_at ⟨x0, x1⟩)]) (fun x => by
    unfold e_law_3
    try simp -dsimp -implicitDefEqProofs (disch := first | omega | (simp; omega)) only [ev_var, ev_cst, ev_tup, ev_lst, ev_bin, ev_neg, ev_not, ev_and, ev_or, ev_cmp, ev_isN, ev_notN, ev_chn, ev_ite, ev_idx, ev_slc, ev_call, ev_bl, ev_mt, ev_isi, ev_lc, evI_it, evI_rg1, evI_rg2, evI_enum, exec_asg, exec_own, exec_par, exec_aug, exec_app, exec_ext, exec_ins, exec_put, exec_aput, exec_ifs, exec_for_, exec_whl, exec_ret, exec_retn, exec_brk, exec_cnt, exec_pass, exec_close, evs_nil, evs_cons, evo_none, evo_some, evc_none, evc_some, execs_nil, execs_cons, nxt_nx, nxt_rt, nxt_bk, nxt_ct, List.length_cons, List.length_nil, List.map_cons, List.map_nil, bnd_r, lift_ret, Env.read, Env.keep, Sl.read, Sl.keep, List.cons_append, List.nil_append, List.getElem?_cons_zero, List.getElem?_cons_succ, List.set_cons_zero, List.set_cons_succ, bindT, bindTs, closeS, ownS, keepP, if_true, if_false, ↓reduceIte, Bool.false_eq_true, Nat.reduceAdd, Nat.reduceSub, List.replicate_succ, List.replicate_zero, boolD_b, intD_i, isN_none, isN_int, isN_bool, isN_str, isN_tup, isN_lst, Bool.not_true, Bool.not_false, augD, add_int, sub_int, mul_int, fdiv_int, mod_int, mul_str, add_str, add_tup, add_lst, mul_lst, eq_int, ne_int, lt_int, gt_int, le_int, ge_int, eq_str, ne_str, len_str, len_lst, len_tup, abs_int, int_int, int_bool, min2_int, max2_int, tuple_lst, tuple_tup, list_lst, list_tup, slc_str, slc_lst, slc_tup, repS_one, repL_one, idx_t0, idx_t1, idx_t2, idx_l0, rg1_if, rg2_if, eq_self_str, eqv_bool, eq_nil, wipeE, isiD, lcS_v, forS_v, forS_t, lcS_t, app_if, ext_if, en_str, en_lst, items_str, items_lst, items_tup, Int.toNat_natCast, ev_lc2, lcS2_v, lcS2_t, tgV, tgVs, ev_rev, ev_itl, evI_rg3, rg3_if, List.append_nil, hideE, hideS])]
  try simp -dsimp -implicitDefEqProofs (disch := first | omega | (simp; omega)) only [ev_var, ev_cst, ev_tup, ev_lst, ev_bin, ev_neg, ev_not, ev_and, ev_or, ev_cmp, ev_isN, ev_notN, ev_chn, ev_ite, ev_idx, ev_slc, ev_call, ev_bl, ev_mt, ev_isi, ev_lc, evI_it, evI_rg1, evI_rg2, evI_enum, exec_asg, exec_own, exec_par, exec_aug, exec_app, exec_ext, exec_ins, exec_put, exec_aput, exec_ifs, exec_for_, exec_whl, exec_ret, exec_retn, exec_brk, exec_cnt, exec_pass, exec_close, evs_nil, evs_cons, evo_none, evo_some, evc_none, evc_some, execs_nil, execs_cons, nxt_nx, nxt_rt, nxt_bk, nxt_ct, List.length_cons, List.length_nil, List.map_cons, List.map_nil, bnd_r, lift_ret, Env.read, Env.keep, Sl.read, Sl.keep, List.cons_append, List.nil_append, List.getElem?_cons_zero, List.getElem?_cons_succ, List.set_cons_zero, List.set_cons_succ, bindT, bindTs, closeS, ownS, keepP, if_true, if_false, ↓reduceIte, Bool.false_eq_true, Nat.reduceAdd, Nat.reduceSub, List.replicate_succ, List.replicate_zero, boolD_b, intD_i, isN_none, isN_int, isN_bool, isN_str, isN_tup, isN_lst, Bool.not_true, Bool.not_false, augD, add_int, sub_int, mul_int, fdiv_int, mod_int, mul_str, add_str, add_tup, add_lst, mul_lst, eq_int, ne_int, lt_int, gt_int, le_int, ge_int, eq_str, ne_str, len_str, len_lst, len_tup, abs_int, int_int, int_bool, min2_int, max2_int, tuple_lst, tuple_tup, list_lst, list_tup, slc_str, slc_lst, slc_tup, repS_one, repL_one, idx_t0, idx_t1, idx_t2, idx_l0, rg1_if, rg2_if, eq_self_str, eqv_bool, eq_nil, wipeE, isiD, lcS_v, forS_v, forS_t, lcS_t, app_if, ext_if, en_str, en_lst, items_str, items_lst, items_tup, Int.toNat_natCast, ev_lc2, lcS2_v, lcS2_t, tgV, tgVs, ev_rev, ev_itl, evI_rg3, rg3_if, List.append_nil, hideE, hideS, bnd_assoc, lruns_eq (show (loudI row level).length ≤ 100 by omega)]
  refine sure_nx ?_
  unfold t_1_3
  refine sure_seq ?_
  try simp -dsimp -implicitDefEqProofs (disch := first | omega | (simp; omega)) only [ev_var, ev_cst, ev_tup, ev_lst, ev_bin, ev_neg, ev_not, ev_and, ev_or, ev_cmp, ev_isN, ev_notN, ev_chn, ev_ite, ev_idx, ev_slc, ev_call, ev_bl, ev_mt, ev_isi, ev_lc, evI_it, evI_rg1, evI_rg2, evI_enum, exec_asg, exec_own, exec_par, exec_aug, exec_app, exec_ext, exec_ins, exec_put, exec_aput, exec_ifs, exec_for_, exec_whl, exec_ret, exec_retn, exec_brk, exec_cnt, exec_pass, exec_close, evs_nil, evs_cons, evo_none, evo_some, evc_none, evc_some, execs_nil, execs_cons, nxt_nx, nxt_rt, nxt_bk, nxt_ct, List.length_cons, List.length_nil, List.map_cons, List.map_nil, bnd_r, lift_ret, Env.read, Env.keep, Sl.read, Sl.keep, List.cons_append, List.nil_append, List.getElem?_cons_zero, List.getElem?_cons_succ, List.set_cons_zero, List.set_cons_succ, bindT, bindTs, closeS, ownS, keepP, if_true, if_false, ↓reduceIte, Bool.false_eq_true, Nat.reduceAdd, Nat.reduceSub, List.replicate_succ, List.replicate_zero, boolD_b, intD_i, isN_none, isN_int, isN_bool, isN_str, isN_tup, isN_lst, Bool.not_true, Bool.not_false, augD, add_int, sub_int, mul_int, fdiv_int, mod_int, mul_str, add_str, add_tup, add_lst, mul_lst, eq_int, ne_int, lt_int, gt_int, le_int, ge_int, eq_str, ne_str, len_str, len_lst, len_tup, abs_int, int_int, int_bool, min2_int, max2_int, tuple_lst, tuple_tup, list_lst, list_tup, slc_str, slc_lst, slc_tup, repS_one, repL_one, idx_t0, idx_t1, idx_t2, idx_l0, rg1_if, rg2_if, eq_self_str, eqv_bool, eq_nil, wipeE, isiD, lcS_v, forS_v, forS_t, lcS_t, app_if, ext_if, en_str, en_lst, items_str, items_lst, items_tup, Int.toNat_natCast, ev_lc2, lcS2_v, lcS2_t, tgV, tgVs, ev_rev, ev_itl, evI_rg3, rg3_if, List.append_nil, hideE, hideS, bnd_assoc, loud_eq (show row.length ≤ 20 by omega), sameP (show (runsI (loudI row level)).length ≤ 1000 by omega), join_eq (show (runsI (loudI row level)).length ≤ 100 by omega), ljoin_eq (show (runsI (loudI row level)).length ≤ 100 by omega), sameP (show (joinI gap (runsI (loudI row level))).length ≤ 1000 by omega)]
  refine sure_nx ?_
  unfold t_1_4
  refine sure_seq ?_
  try simp -dsimp -implicitDefEqProofs (disch := first | omega | (simp; omega)) only [ev_var, ev_cst, ev_tup, ev_lst, ev_bin, ev_neg, ev_not, ev_and, ev_or, ev_cmp, ev_isN, ev_notN, ev_chn, ev_ite, ev_idx, ev_slc, ev_call, ev_bl, ev_mt, ev_isi, ev_lc, evI_it, evI_rg1, evI_rg2, evI_enum, exec_asg, exec_own, exec_par, exec_aug, exec_app, exec_ext, exec_ins, exec_put, exec_aput, exec_ifs, exec_for_, exec_whl, exec_ret, exec_retn, exec_brk, exec_cnt, exec_pass, exec_close, evs_nil, evs_cons, evo_none, evo_some, evc_none, evc_some, execs_nil, execs_cons, nxt_nx, nxt_rt, nxt_bk, nxt_ct, List.length_cons, List.length_nil, List.map_cons, List.map_nil, bnd_r, lift_ret, Env.read, Env.keep, Sl.read, Sl.keep, List.cons_append, List.nil_append, List.getElem?_cons_zero, List.getElem?_cons_succ, List.set_cons_zero, List.set_cons_succ, bindT, bindTs, closeS, ownS, keepP, if_true, if_false, ↓reduceIte, Bool.false_eq_true, Nat.reduceAdd, Nat.reduceSub, List.replicate_succ, List.replicate_zero, boolD_b, intD_i, isN_none, isN_int, isN_bool, isN_str, isN_tup, isN_lst, Bool.not_true, Bool.not_false, augD, add_int, sub_int, mul_int, fdiv_int, mod_int, mul_str, add_str, add_tup, add_lst, mul_lst, eq_int, ne_int, lt_int, gt_int, le_int, ge_int, eq_str, ne_str, len_str, len_lst, len_tup, abs_int, int_int, int_bool, min2_int, max2_int, tuple_lst, tuple_tup, list_lst, list_tup, slc_str, slc_lst, slc_tup, repS_one, repL_one, idx_t0, idx_t1, idx_t2, idx_l0, rg1_if, rg2_if, eq_self_str, eqv_bool, eq_nil, wipeE, isiD, lcS_v, forS_v, forS_t, lcS_t, app_if, ext_if, en_str, en_lst, items_str, items_lst, items_tup, Int.toNat_natCast, ev_lc2, lcS2_v, lcS2_t, tgV, tgVs, ev_rev, ev_itl, evI_rg3, rg3_if, List.append_nil, hideE, hideS, bnd_assoc, ljoin_eq (show (runsI (loudI row level)).length ≤ 100 by omega)]
  rw [lc_P1 (f := fun p => decide (least ≤ p.2 - p.1)) (fun p hp => by
    unfold c_law_6
    try simp -dsimp -implicitDefEqProofs (disch := first | omega | (simp; omega)) only [ev_var, ev_cst, ev_tup, ev_lst, ev_bin, ev_neg, ev_not, ev_and, ev_or, ev_cmp, ev_isN, ev_notN, ev_chn, ev_ite, ev_idx, ev_slc, ev_call, ev_bl, ev_mt, ev_isi, ev_lc, evI_it, evI_rg1, evI_rg2, evI_enum, exec_asg, exec_own, exec_par, exec_aug, exec_app, exec_ext, exec_ins, exec_put, exec_aput, exec_ifs, exec_for_, exec_whl, exec_ret, exec_retn, exec_brk, exec_cnt, exec_pass, exec_close, evs_nil, evs_cons, evo_none, evo_some, evc_none, evc_some, execs_nil, execs_cons, nxt_nx, nxt_rt, nxt_bk, nxt_ct, List.length_cons, List.length_nil, List.map_cons, List.map_nil, bnd_r, lift_ret, Env.read, Env.keep, Sl.read, Sl.keep, List.cons_append, List.nil_append, List.getElem?_cons_zero, List.getElem?_cons_succ, List.set_cons_zero, List.set_cons_succ, bindT, bindTs, closeS, ownS, keepP, if_true, if_false, ↓reduceIte, Bool.false_eq_true, Nat.reduceAdd, Nat.reduceSub, List.replicate_succ, List.replicate_zero, boolD_b, intD_i, isN_none, isN_int, isN_bool, isN_str, isN_tup, isN_lst, Bool.not_true, Bool.not_false, augD, add_int, sub_int, mul_int, fdiv_int, mod_int, mul_str, add_str, add_tup, add_lst, mul_lst, eq_int, ne_int, lt_int, gt_int, le_int, ge_int, eq_str, ne_str, len_str, len_lst, len_tup, abs_int, int_int, int_bool, min2_int, max2_int, tuple_lst, tuple_tup, list_lst, list_tup, slc_str, slc_lst, slc_tup, repS_one, repL_one, idx_t0, idx_t1, idx_t2, idx_l0, rg1_if, rg2_if, eq_self_str, eqv_bool, eq_nil, wipeE, isiD, lcS_v, forS_v, forS_t, lcS_t, app_if, ext_if, en_str, en_lst, items_str, items_lst, items_tup, Int.toNat_natCast, ev_lc2, lcS2_v, lcS2_t, tgV, tgVs, ev_rev, ev_itl, evI_rg3, rg3_if, List.append_nil, hideE, hideS]) (fun d => by
    unfold e_law_5
    try simp -dsimp -implicitDefEqProofs (disch := first | omega | (simp; omega)) only [ev_var, ev_cst, ev_tup, ev_lst, ev_bin, ev_neg, ev_not, ev_and, ev_or, ev_cmp, ev_isN, ev_notN, ev_chn, ev_ite, ev_idx, ev_slc, ev_call, ev_bl, ev_mt, ev_isi, ev_lc, evI_it, evI_rg1, evI_rg2, evI_enum, exec_asg, exec_own, exec_par, exec_aug, exec_app, exec_ext, exec_ins, exec_put, exec_aput, exec_ifs, exec_for_, exec_whl, exec_ret, exec_retn, exec_brk, exec_cnt, exec_pass, exec_close, evs_nil, evs_cons, evo_none, evo_some, evc_none, evc_some, execs_nil, execs_cons, nxt_nx, nxt_rt, nxt_bk, nxt_ct, List.length_cons, List.length_nil, List.map_cons, List.map_nil, bnd_r, lift_ret, Env.read, Env.keep, Sl.read, Sl.keep, List.cons_append, List.nil_append, List.getElem?_cons_zero, List.getElem?_cons_succ, List.set_cons_zero, List.set_cons_succ, bindT, bindTs, closeS, ownS, keepP, if_true, if_false, ↓reduceIte, Bool.false_eq_true, Nat.reduceAdd, Nat.reduceSub, List.replicate_succ, List.replicate_zero, boolD_b, intD_i, isN_none, isN_int, isN_bool, isN_str, isN_tup, isN_lst, Bool.not_true, Bool.not_false, augD, add_int, sub_int, mul_int, fdiv_int, mod_int, mul_str, add_str, add_tup, add_lst, mul_lst, eq_int, ne_int, lt_int, gt_int, le_int, ge_int, eq_str, ne_str, len_str, len_lst, len_tup, abs_int, int_int, int_bool, min2_int, max2_int, tuple_lst, tuple_tup, list_lst, list_tup, slc_str, slc_lst, slc_tup, repS_one, repL_one, idx_t0, idx_t1, idx_t2, idx_l0, rg1_if, rg2_if, eq_self_str, eqv_bool, eq_nil, wipeE, isiD, lcS_v, forS_v, forS_t, lcS_t, app_if, ext_if, en_str, en_lst, items_str, items_lst, items_tup, Int.toNat_natCast, ev_lc2, lcS2_v, lcS2_t, tgV, tgVs, ev_rev, ev_itl, evI_rg3, rg3_if, List.append_nil, hideE, hideS])]
  try simp -dsimp -implicitDefEqProofs (disch := first | omega | (simp; omega)) only [ev_var, ev_cst, ev_tup, ev_lst, ev_bin, ev_neg, ev_not, ev_and, ev_or, ev_cmp, ev_isN, ev_notN, ev_chn, ev_ite, ev_idx, ev_slc, ev_call, ev_bl, ev_mt, ev_isi, ev_lc, evI_it, evI_rg1, evI_rg2, evI_enum, exec_asg, exec_own, exec_par, exec_aug, exec_app, exec_ext, exec_ins, exec_put, exec_aput, exec_ifs, exec_for_, exec_whl, exec_ret, exec_retn, exec_brk, exec_cnt, exec_pass, exec_close, evs_nil, evs_cons, evo_none, evo_some, evc_none, evc_some, execs_nil, execs_cons, nxt_nx, nxt_rt, nxt_bk, nxt_ct, List.length_cons, List.length_nil, List.map_cons, List.map_nil, bnd_r, lift_ret, Env.read, Env.keep, Sl.read, Sl.keep, List.cons_append, List.nil_append, List.getElem?_cons_zero, List.getElem?_cons_succ, List.set_cons_zero, List.set_cons_succ, bindT, bindTs, closeS, ownS, keepP, if_true, if_false, ↓reduceIte, Bool.false_eq_true, Nat.reduceAdd, Nat.reduceSub, List.replicate_succ, List.replicate_zero, boolD_b, intD_i, isN_none, isN_int, isN_bool, isN_str, isN_tup, isN_lst, Bool.not_true, Bool.not_false, augD, add_int, sub_int, mul_int, fdiv_int, mod_int, mul_str, add_str, add_tup, add_lst, mul_lst, eq_int, ne_int, lt_int, gt_int, le_int, ge_int, eq_str, ne_str, len_str, len_lst, len_tup, abs_int, int_int, int_bool, min2_int, max2_int, tuple_lst, tuple_tup, list_lst, list_tup, slc_str, slc_lst, slc_tup, repS_one, repL_one, idx_t0, idx_t1, idx_t2, idx_l0, rg1_if, rg2_if, eq_self_str, eqv_bool, eq_nil, wipeE, isiD, lcS_v, forS_v, forS_t, lcS_t, app_if, ext_if, en_str, en_lst, items_str, items_lst, items_tup, Int.toNat_natCast, ev_lc2, lcS2_v, lcS2_t, tgV, tgVs, ev_rev, ev_itl, evI_rg3, rg3_if, List.append_nil, hideE, hideS, bnd_assoc]
  refine sure_nx ?_
  unfold t_1_5
  refine sure_seq ?_
  try simp -dsimp -implicitDefEqProofs (disch := first | omega | (simp; omega)) only [ev_var, ev_cst, ev_tup, ev_lst, ev_bin, ev_neg, ev_not, ev_and, ev_or, ev_cmp, ev_isN, ev_notN, ev_chn, ev_ite, ev_idx, ev_slc, ev_call, ev_bl, ev_mt, ev_isi, ev_lc, evI_it, evI_rg1, evI_rg2, evI_enum, exec_asg, exec_own, exec_par, exec_aug, exec_app, exec_ext, exec_ins, exec_put, exec_aput, exec_ifs, exec_for_, exec_whl, exec_ret, exec_retn, exec_brk, exec_cnt, exec_pass, exec_close, evs_nil, evs_cons, evo_none, evo_some, evc_none, evc_some, execs_nil, execs_cons, nxt_nx, nxt_rt, nxt_bk, nxt_ct, List.length_cons, List.length_nil, List.map_cons, List.map_nil, bnd_r, lift_ret, Env.read, Env.keep, Sl.read, Sl.keep, List.cons_append, List.nil_append, List.getElem?_cons_zero, List.getElem?_cons_succ, List.set_cons_zero, List.set_cons_succ, bindT, bindTs, closeS, ownS, keepP, if_true, if_false, ↓reduceIte, Bool.false_eq_true, Nat.reduceAdd, Nat.reduceSub, List.replicate_succ, List.replicate_zero, boolD_b, intD_i, isN_none, isN_int, isN_bool, isN_str, isN_tup, isN_lst, Bool.not_true, Bool.not_false, augD, add_int, sub_int, mul_int, fdiv_int, mod_int, mul_str, add_str, add_tup, add_lst, mul_lst, eq_int, ne_int, lt_int, gt_int, le_int, ge_int, eq_str, ne_str, len_str, len_lst, len_tup, abs_int, int_int, int_bool, min2_int, max2_int, tuple_lst, tuple_tup, list_lst, list_tup, slc_str, slc_lst, slc_tup, repS_one, repL_one, idx_t0, idx_t1, idx_t2, idx_l0, rg1_if, rg2_if, eq_self_str, eqv_bool, eq_nil, wipeE, isiD, lcS_v, forS_v, forS_t, lcS_t, app_if, ext_if, en_str, en_lst, items_str, items_lst, items_tup, Int.toNat_natCast, ev_lc2, lcS2_v, lcS2_t, tgV, tgVs, ev_rev, ev_itl, evI_rg3, rg3_if, List.append_nil, hideE, hideS, bnd_assoc, long_eq]
  rw [lc_P1 (f := fun p => decide (least ≤ p.2 - p.1)) (fun p hp => by
    unfold c_law_8
    try simp -dsimp -implicitDefEqProofs (disch := first | omega | (simp; omega)) only [ev_var, ev_cst, ev_tup, ev_lst, ev_bin, ev_neg, ev_not, ev_and, ev_or, ev_cmp, ev_isN, ev_notN, ev_chn, ev_ite, ev_idx, ev_slc, ev_call, ev_bl, ev_mt, ev_isi, ev_lc, evI_it, evI_rg1, evI_rg2, evI_enum, exec_asg, exec_own, exec_par, exec_aug, exec_app, exec_ext, exec_ins, exec_put, exec_aput, exec_ifs, exec_for_, exec_whl, exec_ret, exec_retn, exec_brk, exec_cnt, exec_pass, exec_close, evs_nil, evs_cons, evo_none, evo_some, evc_none, evc_some, execs_nil, execs_cons, nxt_nx, nxt_rt, nxt_bk, nxt_ct, List.length_cons, List.length_nil, List.map_cons, List.map_nil, bnd_r, lift_ret, Env.read, Env.keep, Sl.read, Sl.keep, List.cons_append, List.nil_append, List.getElem?_cons_zero, List.getElem?_cons_succ, List.set_cons_zero, List.set_cons_succ, bindT, bindTs, closeS, ownS, keepP, if_true, if_false, ↓reduceIte, Bool.false_eq_true, Nat.reduceAdd, Nat.reduceSub, List.replicate_succ, List.replicate_zero, boolD_b, intD_i, isN_none, isN_int, isN_bool, isN_str, isN_tup, isN_lst, Bool.not_true, Bool.not_false, augD, add_int, sub_int, mul_int, fdiv_int, mod_int, mul_str, add_str, add_tup, add_lst, mul_lst, eq_int, ne_int, lt_int, gt_int, le_int, ge_int, eq_str, ne_str, len_str, len_lst, len_tup, abs_int, int_int, int_bool, min2_int, max2_int, tuple_lst, tuple_tup, list_lst, list_tup, slc_str, slc_lst, slc_tup, repS_one, repL_one, idx_t0, idx_t1, idx_t2, idx_l0, rg1_if, rg2_if, eq_self_str, eqv_bool, eq_nil, wipeE, isiD, lcS_v, forS_v, forS_t, lcS_t, app_if, ext_if, en_str, en_lst, items_str, items_lst, items_tup, Int.toNat_natCast, ev_lc2, lcS2_v, lcS2_t, tgV, tgVs, ev_rev, ev_itl, evI_rg3, rg3_if, List.append_nil, hideE, hideS]) (fun d => by
    unfold e_law_7
    try simp -dsimp -implicitDefEqProofs (disch := first | omega | (simp; omega)) only [ev_var, ev_cst, ev_tup, ev_lst, ev_bin, ev_neg, ev_not, ev_and, ev_or, ev_cmp, ev_isN, ev_notN, ev_chn, ev_ite, ev_idx, ev_slc, ev_call, ev_bl, ev_mt, ev_isi, ev_lc, evI_it, evI_rg1, evI_rg2, evI_enum, exec_asg, exec_own, exec_par, exec_aug, exec_app, exec_ext, exec_ins, exec_put, exec_aput, exec_ifs, exec_for_, exec_whl, exec_ret, exec_retn, exec_brk, exec_cnt, exec_pass, exec_close, evs_nil, evs_cons, evo_none, evo_some, evc_none, evc_some, execs_nil, execs_cons, nxt_nx, nxt_rt, nxt_bk, nxt_ct, List.length_cons, List.length_nil, List.map_cons, List.map_nil, bnd_r, lift_ret, Env.read, Env.keep, Sl.read, Sl.keep, List.cons_append, List.nil_append, List.getElem?_cons_zero, List.getElem?_cons_succ, List.set_cons_zero, List.set_cons_succ, bindT, bindTs, closeS, ownS, keepP, if_true, if_false, ↓reduceIte, Bool.false_eq_true, Nat.reduceAdd, Nat.reduceSub, List.replicate_succ, List.replicate_zero, boolD_b, intD_i, isN_none, isN_int, isN_bool, isN_str, isN_tup, isN_lst, Bool.not_true, Bool.not_false, augD, add_int, sub_int, mul_int, fdiv_int, mod_int, mul_str, add_str, add_tup, add_lst, mul_lst, eq_int, ne_int, lt_int, gt_int, le_int, ge_int, eq_str, ne_str, len_str, len_lst, len_tup, abs_int, int_int, int_bool, min2_int, max2_int, tuple_lst, tuple_tup, list_lst, list_tup, slc_str, slc_lst, slc_tup, repS_one, repL_one, idx_t0, idx_t1, idx_t2, idx_l0, rg1_if, rg2_if, eq_self_str, eqv_bool, eq_nil, wipeE, isiD, lcS_v, forS_v, forS_t, lcS_t, app_if, ext_if, en_str, en_lst, items_str, items_lst, items_tup, Int.toNat_natCast, ev_lc2, lcS2_v, lcS2_t, tgV, tgVs, ev_rev, ev_itl, evI_rg3, rg3_if, List.append_nil, hideE, hideS])]
  try simp -dsimp -implicitDefEqProofs (disch := first | omega | (simp; omega)) only [ev_var, ev_cst, ev_tup, ev_lst, ev_bin, ev_neg, ev_not, ev_and, ev_or, ev_cmp, ev_isN, ev_notN, ev_chn, ev_ite, ev_idx, ev_slc, ev_call, ev_bl, ev_mt, ev_isi, ev_lc, evI_it, evI_rg1, evI_rg2, evI_enum, exec_asg, exec_own, exec_par, exec_aug, exec_app, exec_ext, exec_ins, exec_put, exec_aput, exec_ifs, exec_for_, exec_whl, exec_ret, exec_retn, exec_brk, exec_cnt, exec_pass, exec_close, evs_nil, evs_cons, evo_none, evo_some, evc_none, evc_some, execs_nil, execs_cons, nxt_nx, nxt_rt, nxt_bk, nxt_ct, List.length_cons, List.length_nil, List.map_cons, List.map_nil, bnd_r, lift_ret, Env.read, Env.keep, Sl.read, Sl.keep, List.cons_append, List.nil_append, List.getElem?_cons_zero, List.getElem?_cons_succ, List.set_cons_zero, List.set_cons_succ, bindT, bindTs, closeS, ownS, keepP, if_true, if_false, ↓reduceIte, Bool.false_eq_true, Nat.reduceAdd, Nat.reduceSub, List.replicate_succ, List.replicate_zero, boolD_b, intD_i, isN_none, isN_int, isN_bool, isN_str, isN_tup, isN_lst, Bool.not_true, Bool.not_false, augD, add_int, sub_int, mul_int, fdiv_int, mod_int, mul_str, add_str, add_tup, add_lst, mul_lst, eq_int, ne_int, lt_int, gt_int, le_int, ge_int, eq_str, ne_str, len_str, len_lst, len_tup, abs_int, int_int, int_bool, min2_int, max2_int, tuple_lst, tuple_tup, list_lst, list_tup, slc_str, slc_lst, slc_tup, repS_one, repL_one, idx_t0, idx_t1, idx_t2, idx_l0, rg1_if, rg2_if, eq_self_str, eqv_bool, eq_nil, wipeE, isiD, lcS_v, forS_v, forS_t, lcS_t, app_if, ext_if, en_str, en_lst, items_str, items_lst, items_tup, Int.toNat_natCast, ev_lc2, lcS2_v, lcS2_t, tgV, tgVs, ev_rev, ev_itl, evI_rg3, rg3_if, List.append_nil, hideE, hideS, bnd_assoc, show (runsI (loudI row level)).filter (fun p => decide (least ≤ p.2 - p.1)) = longI least (runsI (loudI row level)) from rfl, sameP (show (longI least (runsI (loudI row level))).length ≤ 1000 by unfold longI; omega)]
  refine sure_nx ?_
  unfold t_1_6
  refine sure_seq ?_
  try simp -dsimp -implicitDefEqProofs (disch := first | omega | (simp; omega)) only [ev_var, ev_cst, ev_tup, ev_lst, ev_bin, ev_neg, ev_not, ev_and, ev_or, ev_cmp, ev_isN, ev_notN, ev_chn, ev_ite, ev_idx, ev_slc, ev_call, ev_bl, ev_mt, ev_isi, ev_lc, evI_it, evI_rg1, evI_rg2, evI_enum, exec_asg, exec_own, exec_par, exec_aug, exec_app, exec_ext, exec_ins, exec_put, exec_aput, exec_ifs, exec_for_, exec_whl, exec_ret, exec_retn, exec_brk, exec_cnt, exec_pass, exec_close, evs_nil, evs_cons, evo_none, evo_some, evc_none, evc_some, execs_nil, execs_cons, nxt_nx, nxt_rt, nxt_bk, nxt_ct, List.length_cons, List.length_nil, List.map_cons, List.map_nil, bnd_r, lift_ret, Env.read, Env.keep, Sl.read, Sl.keep, List.cons_append, List.nil_append, List.getElem?_cons_zero, List.getElem?_cons_succ, List.set_cons_zero, List.set_cons_succ, bindT, bindTs, closeS, ownS, keepP, if_true, if_false, ↓reduceIte, Bool.false_eq_true, Nat.reduceAdd, Nat.reduceSub, List.replicate_succ, List.replicate_zero, boolD_b, intD_i, isN_none, isN_int, isN_bool, isN_str, isN_tup, isN_lst, Bool.not_true, Bool.not_false, augD, add_int, sub_int, mul_int, fdiv_int, mod_int, mul_str, add_str, add_tup, add_lst, mul_lst, eq_int, ne_int, lt_int, gt_int, le_int, ge_int, eq_str, ne_str, len_str, len_lst, len_tup, abs_int, int_int, int_bool, min2_int, max2_int, tuple_lst, tuple_tup, list_lst, list_tup, slc_str, slc_lst, slc_tup, repS_one, repL_one, idx_t0, idx_t1, idx_t2, idx_l0, rg1_if, rg2_if, eq_self_str, eqv_bool, eq_nil, wipeE, isiD, lcS_v, forS_v, forS_t, lcS_t, app_if, ext_if, en_str, en_lst, items_str, items_lst, items_tup, Int.toNat_natCast, ev_lc2, lcS2_v, lcS2_t, tgV, tgVs, ev_rev, ev_itl, evI_rg3, rg3_if, List.append_nil, hideE, hideS, bnd_assoc, speech_eq (show row.length ≤ 20 by omega), show (joinI gap (runsI (loudI row level))).filter (fun p => decide (least ≤ p.2 - p.1)) = longI least (joinI gap (runsI (loudI row level))) from rfl, sameP (show (longI least (joinI gap (runsI (loudI row level)))).length ≤ 1000 by unfold longI; omega)]
  exact sure_nx (h _)
end
end Q.K41

set_option Elab.async false
set_option linter.all false
set_option maxRecDepth 100000
/-! K41P7: the law's body, on. -/
namespace Q.K41
open PySem Q
section
variable {F0 s2 s3 s4 s5 s6 s7 s8 s9 s10 s11 s12 s13 s14 s15 s16 s17 s18 s19 s20 s21 s22 s23 s24 s25 s26 s27 s28 s29 s30 s31 : Sl} {Q : Fl → Prop}
theorem g3 {row : List Int} {level : Int} (hr : row.length ≤ 14) (hl : 0 ≤ level ∧ level ≤ 9)
    (h : ∀ s11 s12 : Sl, Sure (execs (cal T 60) t_1_10 [F0, .cl W, s2, .cl (.tuple (row.map .int)), s4, .cl (.int level), s6, s7, s8, s9, s10, s11, s12, s13, s14, s15, s16, s17, s18, s19, s20, s21, s22, s23, s24, s25, s26, s27, s28, s29, s30, s31]) Q) :
    Sure (execs (cal T 60) t_1_7 [F0, .cl W, s2, .cl (.tuple (row.map .int)), s4, .cl (.int level), s6, s7, s8, s9, s10, s11, s12, s13, s14, s15, s16, s17, s18, s19, s20, s21, s22, s23, s24, s25, s26, s27, s28, s29, s30, s31]) Q := by
  unfold t_1_7
  refine sure_seq ?_
  try simp -dsimp -implicitDefEqProofs (disch := first | omega | (simp; omega)) only [ev_var, ev_cst, ev_tup, ev_lst, ev_bin, ev_neg, ev_not, ev_and, ev_or, ev_cmp, ev_isN, ev_notN, ev_chn, ev_ite, ev_idx, ev_slc, ev_call, ev_bl, ev_mt, ev_isi, ev_lc, evI_it, evI_rg1, evI_rg2, evI_enum, exec_asg, exec_own, exec_par, exec_aug, exec_app, exec_ext, exec_ins, exec_put, exec_aput, exec_ifs, exec_for_, exec_whl, exec_ret, exec_retn, exec_brk, exec_cnt, exec_pass, exec_close, evs_nil, evs_cons, evo_none, evo_some, evc_none, evc_some, execs_nil, execs_cons, nxt_nx, nxt_rt, nxt_bk, nxt_ct, List.length_cons, List.length_nil, List.map_cons, List.map_nil, bnd_r, lift_ret, Env.read, Env.keep, Sl.read, Sl.keep, List.cons_append, List.nil_append, List.getElem?_cons_zero, List.getElem?_cons_succ, List.set_cons_zero, List.set_cons_succ, bindT, bindTs, closeS, ownS, keepP, if_true, if_false, ↓reduceIte, Bool.false_eq_true, Nat.reduceAdd, Nat.reduceSub, List.replicate_succ, List.replicate_zero, boolD_b, intD_i, isN_none, isN_int, isN_bool, isN_str, isN_tup, isN_lst, Bool.not_true, Bool.not_false, augD, add_int, sub_int, mul_int, fdiv_int, mod_int, mul_str, add_str, add_tup, add_lst, mul_lst, eq_int, ne_int, lt_int, gt_int, le_int, ge_int, eq_str, ne_str, len_str, len_lst, len_tup, abs_int, int_int, int_bool, min2_int, max2_int, tuple_lst, tuple_tup, list_lst, list_tup, slc_str, slc_lst, slc_tup, repS_one, repL_one, idx_t0, idx_t1, idx_t2, idx_l0, rg1_if, rg2_if, eq_self_str, eqv_bool, eq_nil, wipeE, isiD, lcS_v, forS_v, forS_t, lcS_t, app_if, ext_if, en_str, en_lst, items_str, items_lst, items_tup, Int.toNat_natCast, ev_lc2, lcS2_v, lcS2_t, tgV, tgVs, ev_rev, ev_itl, evI_rg3, rg3_if, List.append_nil, hideE, hideS, bnd_assoc]
  refine sure_bnd ((sure_next t_next (by omega)).mono fun d hd => ?_)
  obtain ⟨low, rfl, _, _⟩ := hd
  have l1 := loud_len (row := row) (lv := low)
  have l2 := runsI_len (loudI row low)
  have l3 := List.length_filter_le (anyB row level) (runsI (loudI row low))
  try simp -dsimp -implicitDefEqProofs (disch := first | omega | (simp; omega)) only [ev_var, ev_cst, ev_tup, ev_lst, ev_bin, ev_neg, ev_not, ev_and, ev_or, ev_cmp, ev_isN, ev_notN, ev_chn, ev_ite, ev_idx, ev_slc, ev_call, ev_bl, ev_mt, ev_isi, ev_lc, evI_it, evI_rg1, evI_rg2, evI_enum, exec_asg, exec_own, exec_par, exec_aug, exec_app, exec_ext, exec_ins, exec_put, exec_aput, exec_ifs, exec_for_, exec_whl, exec_ret, exec_retn, exec_brk, exec_cnt, exec_pass, exec_close, evs_nil, evs_cons, evo_none, evo_some, evc_none, evc_some, execs_nil, execs_cons, nxt_nx, nxt_rt, nxt_bk, nxt_ct, List.length_cons, List.length_nil, List.map_cons, List.map_nil, bnd_r, lift_ret, Env.read, Env.keep, Sl.read, Sl.keep, List.cons_append, List.nil_append, List.getElem?_cons_zero, List.getElem?_cons_succ, List.set_cons_zero, List.set_cons_succ, bindT, bindTs, closeS, ownS, keepP, if_true, if_false, ↓reduceIte, Bool.false_eq_true, Nat.reduceAdd, Nat.reduceSub, List.replicate_succ, List.replicate_zero, boolD_b, intD_i, isN_none, isN_int, isN_bool, isN_str, isN_tup, isN_lst, Bool.not_true, Bool.not_false, augD, add_int, sub_int, mul_int, fdiv_int, mod_int, mul_str, add_str, add_tup, add_lst, mul_lst, eq_int, ne_int, lt_int, gt_int, le_int, ge_int, eq_str, ne_str, len_str, len_lst, len_tup, abs_int, int_int, int_bool, min2_int, max2_int, tuple_lst, tuple_tup, list_lst, list_tup, slc_str, slc_lst, slc_tup, repS_one, repL_one, idx_t0, idx_t1, idx_t2, idx_l0, rg1_if, rg2_if, eq_self_str, eqv_bool, eq_nil, wipeE, isiD, lcS_v, forS_v, forS_t, lcS_t, app_if, ext_if, en_str, en_lst, items_str, items_lst, items_tup, Int.toNat_natCast, ev_lc2, lcS2_v, lcS2_t, tgV, tgVs, ev_rev, ev_itl, evI_rg3, rg3_if, List.append_nil, hideE, hideS, bnd_assoc]
  refine sure_nx ?_
  unfold t_1_8
  refine sure_seq ?_
  try simp -dsimp -implicitDefEqProofs (disch := first | omega | (simp; omega)) only [ev_var, ev_cst, ev_tup, ev_lst, ev_bin, ev_neg, ev_not, ev_and, ev_or, ev_cmp, ev_isN, ev_notN, ev_chn, ev_ite, ev_idx, ev_slc, ev_call, ev_bl, ev_mt, ev_isi, ev_lc, evI_it, evI_rg1, evI_rg2, evI_enum, exec_asg, exec_own, exec_par, exec_aug, exec_app, exec_ext, exec_ins, exec_put, exec_aput, exec_ifs, exec_for_, exec_whl, exec_ret, exec_retn, exec_brk, exec_cnt, exec_pass, exec_close, evs_nil, evs_cons, evo_none, evo_some, evc_none, evc_some, execs_nil, execs_cons, nxt_nx, nxt_rt, nxt_bk, nxt_ct, List.length_cons, List.length_nil, List.map_cons, List.map_nil, bnd_r, lift_ret, Env.read, Env.keep, Sl.read, Sl.keep, List.cons_append, List.nil_append, List.getElem?_cons_zero, List.getElem?_cons_succ, List.set_cons_zero, List.set_cons_succ, bindT, bindTs, closeS, ownS, keepP, if_true, if_false, ↓reduceIte, Bool.false_eq_true, Nat.reduceAdd, Nat.reduceSub, List.replicate_succ, List.replicate_zero, boolD_b, intD_i, isN_none, isN_int, isN_bool, isN_str, isN_tup, isN_lst, Bool.not_true, Bool.not_false, augD, add_int, sub_int, mul_int, fdiv_int, mod_int, mul_str, add_str, add_tup, add_lst, mul_lst, eq_int, ne_int, lt_int, gt_int, le_int, ge_int, eq_str, ne_str, len_str, len_lst, len_tup, abs_int, int_int, int_bool, min2_int, max2_int, tuple_lst, tuple_tup, list_lst, list_tup, slc_str, slc_lst, slc_tup, repS_one, repL_one, idx_t0, idx_t1, idx_t2, idx_l0, rg1_if, rg2_if, eq_self_str, eqv_bool, eq_nil, wipeE, isiD, lcS_v, forS_v, forS_t, lcS_t, app_if, ext_if, en_str, en_lst, items_str, items_lst, items_tup, Int.toNat_natCast, ev_lc2, lcS2_v, lcS2_t, tgV, tgVs, ev_rev, ev_itl, evI_rg3, rg3_if, List.append_nil, hideE, hideS, bnd_assoc, List.length_map]
  rw [lc_loud (lv := low) (fun x x0 x1 => by
    unfold c_law_10
    try simp -dsimp -implicitDefEqProofs (disch := first | omega | (simp; omega)) only [ev_var, ev_cst, ev_tup, ev_lst, ev_bin, ev_neg, ev_not, ev_and, ev_or, ev_cmp, ev_isN, ev_notN, ev_chn, ev_ite, ev_idx, ev_slc, ev_call, ev_bl, ev_mt, ev_isi, ev_lc, evI_it, evI_rg1, evI_rg2, evI_enum, exec_asg, exec_own, exec_par, exec_aug, exec_app, exec_ext, exec_ins, exec_put, exec_aput, exec_ifs, exec_for_, exec_whl, exec_ret, exec_retn, exec_brk, exec_cnt, exec_pass, exec_close, evs_nil, evs_cons, evo_none, evo_some, evc_none, evc_some, execs_nil, execs_cons, nxt_nx, nxt_rt, nxt_bk, nxt_ct, List.length_cons, List.length_nil, List.map_cons, List.map_nil, bnd_r, lift_ret, Env.read, Env.keep, Sl.read, Sl.keep, List.cons_append, List.nil_append, List.getElem?_cons_zero, List.getElem?_cons_succ, List.set_cons_zero, List.set_cons_succ, bindT, bindTs, closeS, ownS, keepP, if_true, if_false, ↓reduceIte, Bool.false_eq_true, Nat.reduceAdd, Nat.reduceSub, List.replicate_succ, List.replicate_zero, boolD_b, intD_i, isN_none, isN_int, isN_bool, isN_str, isN_tup, isN_lst, Bool.not_true, Bool.not_false, augD, add_int, sub_int, mul_int, fdiv_int, mod_int, mul_str, add_str, add_tup, add_lst, mul_lst, eq_int, ne_int, lt_int, gt_int, le_int, ge_int, eq_str, ne_str, len_str, len_lst, len_tup, abs_int, int_int, int_bool, min2_int, max2_int, tuple_lst, tuple_tup, list_lst, list_tup, slc_str, slc_lst, slc_tup, repS_one, repL_one, idx_t0, idx_t1, idx_t2, idx_l0, rg1_if, rg2_if, eq_self_str, eqv_bool, eq_nil, wipeE, isiD, lcS_v, forS_v, forS_t, lcS_t, app_if, ext_if, en_str, en_lst, items_str, items_lst, items_tup, Int.toNat_natCast, ev_lc2, lcS2_v, lcS2_t, tgV, tgVs, ev_rev, ev_itl, evI_rg3, rg3_if, List.append_nil, hideE, hideS, idx_tup x0 (row_at ⟨x0, x1⟩)]) (fun x => by
    unfold e_law_9
    try simp -dsimp -implicitDefEqProofs (disch := first | omega | (simp; omega)) only [ev_var, ev_cst, ev_tup, ev_lst, ev_bin, ev_neg, ev_not, ev_and, ev_or, ev_cmp, ev_isN, ev_notN, ev_chn, ev_ite, ev_idx, ev_slc, ev_call, ev_bl, ev_mt, ev_isi, ev_lc, evI_it, evI_rg1, evI_rg2, evI_enum, exec_asg, exec_own, exec_par, exec_aug, exec_app, exec_ext, exec_ins, exec_put, exec_aput, exec_ifs, exec_for_, exec_whl, exec_ret, exec_retn, exec_brk, exec_cnt, exec_pass, exec_close, evs_nil, evs_cons, evo_none, evo_some, evc_none, evc_some, execs_nil, execs_cons, nxt_nx, nxt_rt, nxt_bk, nxt_ct, List.length_cons, List.length_nil, List.map_cons, List.map_nil, bnd_r, lift_ret, Env.read, Env.keep, Sl.read, Sl.keep, List.cons_append, List.nil_append, List.getElem?_cons_zero, List.getElem?_cons_succ, List.set_cons_zero, List.set_cons_succ, bindT, bindTs, closeS, ownS, keepP, if_true, if_false, ↓reduceIte, Bool.false_eq_true, Nat.reduceAdd, Nat.reduceSub, List.replicate_succ, List.replicate_zero, boolD_b, intD_i, isN_none, isN_int, isN_bool, isN_str, isN_tup, isN_lst, Bool.not_true, Bool.not_false, augD, add_int, sub_int, mul_int, fdiv_int, mod_int, mul_str, add_str, add_tup, add_lst, mul_lst, eq_int, ne_int, lt_int, gt_int, le_int, ge_int, eq_str, ne_str, len_str, len_lst, len_tup, abs_int, int_int, int_bool, min2_int, max2_int, tuple_lst, tuple_tup, list_lst, list_tup, slc_str, slc_lst, slc_tup, repS_one, repL_one, idx_t0, idx_t1, idx_t2, idx_l0, rg1_if, rg2_if, eq_self_str, eqv_bool, eq_nil, wipeE, isiD, lcS_v, forS_v, forS_t, lcS_t, app_if, ext_if, en_str, en_lst, items_str, items_lst, items_tup, Int.toNat_natCast, ev_lc2, lcS2_v, lcS2_t, tgV, tgVs, ev_rev, ev_itl, evI_rg3, rg3_if, List.append_nil, hideE, hideS])]
  try simp -dsimp -implicitDefEqProofs (disch := first | omega | (simp; omega)) only [ev_var, ev_cst, ev_tup, ev_lst, ev_bin, ev_neg, ev_not, ev_and, ev_or, ev_cmp, ev_isN, ev_notN, ev_chn, ev_ite, ev_idx, ev_slc, ev_call, ev_bl, ev_mt, ev_isi, ev_lc, evI_it, evI_rg1, evI_rg2, evI_enum, exec_asg, exec_own, exec_par, exec_aug, exec_app, exec_ext, exec_ins, exec_put, exec_aput, exec_ifs, exec_for_, exec_whl, exec_ret, exec_retn, exec_brk, exec_cnt, exec_pass, exec_close, evs_nil, evs_cons, evo_none, evo_some, evc_none, evc_some, execs_nil, execs_cons, nxt_nx, nxt_rt, nxt_bk, nxt_ct, List.length_cons, List.length_nil, List.map_cons, List.map_nil, bnd_r, lift_ret, Env.read, Env.keep, Sl.read, Sl.keep, List.cons_append, List.nil_append, List.getElem?_cons_zero, List.getElem?_cons_succ, List.set_cons_zero, List.set_cons_succ, bindT, bindTs, closeS, ownS, keepP, if_true, if_false, ↓reduceIte, Bool.false_eq_true, Nat.reduceAdd, Nat.reduceSub, List.replicate_succ, List.replicate_zero, boolD_b, intD_i, isN_none, isN_int, isN_bool, isN_str, isN_tup, isN_lst, Bool.not_true, Bool.not_false, augD, add_int, sub_int, mul_int, fdiv_int, mod_int, mul_str, add_str, add_tup, add_lst, mul_lst, eq_int, ne_int, lt_int, gt_int, le_int, ge_int, eq_str, ne_str, len_str, len_lst, len_tup, abs_int, int_int, int_bool, min2_int, max2_int, tuple_lst, tuple_tup, list_lst, list_tup, slc_str, slc_lst, slc_tup, repS_one, repL_one, idx_t0, idx_t1, idx_t2, idx_l0, rg1_if, rg2_if, eq_self_str, eqv_bool, eq_nil, wipeE, isiD, lcS_v, forS_v, forS_t, lcS_t, app_if, ext_if, en_str, en_lst, items_str, items_lst, items_tup, Int.toNat_natCast, ev_lc2, lcS2_v, lcS2_t, tgV, tgVs, ev_rev, ev_itl, evI_rg3, rg3_if, List.append_nil, hideE, hideS, bnd_assoc, lruns_eq (show (loudI row low).length ≤ 100 by omega)]
  refine sure_nx ?_
  unfold t_1_9
  refine sure_seq ?_
  try simp -dsimp -implicitDefEqProofs (disch := first | omega | (simp; omega)) only [ev_var, ev_cst, ev_tup, ev_lst, ev_bin, ev_neg, ev_not, ev_and, ev_or, ev_cmp, ev_isN, ev_notN, ev_chn, ev_ite, ev_idx, ev_slc, ev_call, ev_bl, ev_mt, ev_isi, ev_lc, evI_it, evI_rg1, evI_rg2, evI_enum, exec_asg, exec_own, exec_par, exec_aug, exec_app, exec_ext, exec_ins, exec_put, exec_aput, exec_ifs, exec_for_, exec_whl, exec_ret, exec_retn, exec_brk, exec_cnt, exec_pass, exec_close, evs_nil, evs_cons, evo_none, evo_some, evc_none, evc_some, execs_nil, execs_cons, nxt_nx, nxt_rt, nxt_bk, nxt_ct, List.length_cons, List.length_nil, List.map_cons, List.map_nil, bnd_r, lift_ret, Env.read, Env.keep, Sl.read, Sl.keep, List.cons_append, List.nil_append, List.getElem?_cons_zero, List.getElem?_cons_succ, List.set_cons_zero, List.set_cons_succ, bindT, bindTs, closeS, ownS, keepP, if_true, if_false, ↓reduceIte, Bool.false_eq_true, Nat.reduceAdd, Nat.reduceSub, List.replicate_succ, List.replicate_zero, boolD_b, intD_i, isN_none, isN_int, isN_bool, isN_str, isN_tup, isN_lst, Bool.not_true, Bool.not_false, augD, add_int, sub_int, mul_int, fdiv_int, mod_int, mul_str, add_str, add_tup, add_lst, mul_lst, eq_int, ne_int, lt_int, gt_int, le_int, ge_int, eq_str, ne_str, len_str, len_lst, len_tup, abs_int, int_int, int_bool, min2_int, max2_int, tuple_lst, tuple_tup, list_lst, list_tup, slc_str, slc_lst, slc_tup, repS_one, repL_one, idx_t0, idx_t1, idx_t2, idx_l0, rg1_if, rg2_if, eq_self_str, eqv_bool, eq_nil, wipeE, isiD, lcS_v, forS_v, forS_t, lcS_t, app_if, ext_if, en_str, en_lst, items_str, items_lst, items_tup, Int.toNat_natCast, ev_lc2, lcS2_v, lcS2_t, tgV, tgVs, ev_rev, ev_itl, evI_rg3, rg3_if, List.append_nil, hideE, hideS, bnd_assoc, two_eq (show row.length ≤ 20 by omega)]
  rw [lc_P1 (f := anyB row level) (fun p hp => by
    obtain ⟨p1, p2, p3⟩ := runs_ends _ p hp
    have p2 := loud_in p2
    have p3 := loud_in p3
    unfold c_law_14
    try simp -dsimp -implicitDefEqProofs (disch := first | omega | (simp; omega)) only [ev_var, ev_cst, ev_tup, ev_lst, ev_bin, ev_neg, ev_not, ev_and, ev_or, ev_cmp, ev_isN, ev_notN, ev_chn, ev_ite, ev_idx, ev_slc, ev_call, ev_bl, ev_mt, ev_isi, ev_lc, evI_it, evI_rg1, evI_rg2, evI_enum, exec_asg, exec_own, exec_par, exec_aug, exec_app, exec_ext, exec_ins, exec_put, exec_aput, exec_ifs, exec_for_, exec_whl, exec_ret, exec_retn, exec_brk, exec_cnt, exec_pass, exec_close, evs_nil, evs_cons, evo_none, evo_some, evc_none, evc_some, execs_nil, execs_cons, nxt_nx, nxt_rt, nxt_bk, nxt_ct, List.length_cons, List.length_nil, List.map_cons, List.map_nil, bnd_r, lift_ret, Env.read, Env.keep, Sl.read, Sl.keep, List.cons_append, List.nil_append, List.getElem?_cons_zero, List.getElem?_cons_succ, List.set_cons_zero, List.set_cons_succ, bindT, bindTs, closeS, ownS, keepP, if_true, if_false, ↓reduceIte, Bool.false_eq_true, Nat.reduceAdd, Nat.reduceSub, List.replicate_succ, List.replicate_zero, boolD_b, intD_i, isN_none, isN_int, isN_bool, isN_str, isN_tup, isN_lst, Bool.not_true, Bool.not_false, augD, add_int, sub_int, mul_int, fdiv_int, mod_int, mul_str, add_str, add_tup, add_lst, mul_lst, eq_int, ne_int, lt_int, gt_int, le_int, ge_int, eq_str, ne_str, len_str, len_lst, len_tup, abs_int, int_int, int_bool, min2_int, max2_int, tuple_lst, tuple_tup, list_lst, list_tup, slc_str, slc_lst, slc_tup, repS_one, repL_one, idx_t0, idx_t1, idx_t2, idx_l0, rg1_if, rg2_if, eq_self_str, eqv_bool, eq_nil, wipeE, isiD, lcS_v, forS_v, forS_t, lcS_t, app_if, ext_if, en_str, en_lst, items_str, items_lst, items_tup, Int.toNat_natCast, ev_lc2, lcS2_v, lcS2_t, tgV, tgVs, ev_rev, ev_itl, evI_rg3, rg3_if, List.append_nil, hideE, hideS]
    rw [rgD_I, lcL_fil .int (fun x => decide (level ≤ row.getD x.toNat 0)) .int fun x hx => by
      have hx := mem_rgI.mp hx
      rw [lcS_v]
      unfold c_law_13 e_law_12
      try simp -dsimp -implicitDefEqProofs (disch := first | omega | (simp; omega)) only [ev_var, ev_cst, ev_tup, ev_lst, ev_bin, ev_neg, ev_not, ev_and, ev_or, ev_cmp, ev_isN, ev_notN, ev_chn, ev_ite, ev_idx, ev_slc, ev_call, ev_bl, ev_mt, ev_isi, ev_lc, evI_it, evI_rg1, evI_rg2, evI_enum, exec_asg, exec_own, exec_par, exec_aug, exec_app, exec_ext, exec_ins, exec_put, exec_aput, exec_ifs, exec_for_, exec_whl, exec_ret, exec_retn, exec_brk, exec_cnt, exec_pass, exec_close, evs_nil, evs_cons, evo_none, evo_some, evc_none, evc_some, execs_nil, execs_cons, nxt_nx, nxt_rt, nxt_bk, nxt_ct, List.length_cons, List.length_nil, List.map_cons, List.map_nil, bnd_r, lift_ret, Env.read, Env.keep, Sl.read, Sl.keep, List.cons_append, List.nil_append, List.getElem?_cons_zero, List.getElem?_cons_succ, List.set_cons_zero, List.set_cons_succ, bindT, bindTs, closeS, ownS, keepP, if_true, if_false, ↓reduceIte, Bool.false_eq_true, Nat.reduceAdd, Nat.reduceSub, List.replicate_succ, List.replicate_zero, boolD_b, intD_i, isN_none, isN_int, isN_bool, isN_str, isN_tup, isN_lst, Bool.not_true, Bool.not_false, augD, add_int, sub_int, mul_int, fdiv_int, mod_int, mul_str, add_str, add_tup, add_lst, mul_lst, eq_int, ne_int, lt_int, gt_int, le_int, ge_int, eq_str, ne_str, len_str, len_lst, len_tup, abs_int, int_int, int_bool, min2_int, max2_int, tuple_lst, tuple_tup, list_lst, list_tup, slc_str, slc_lst, slc_tup, repS_one, repL_one, idx_t0, idx_t1, idx_t2, idx_l0, rg1_if, rg2_if, eq_self_str, eqv_bool, eq_nil, wipeE, isiD, lcS_v, forS_v, forS_t, lcS_t, app_if, ext_if, en_str, en_lst, items_str, items_lst, items_tup, Int.toNat_natCast, ev_lc2, lcS2_v, lcS2_t, tgV, tgVs, ev_rev, ev_itl, evI_rg3, rg3_if, List.append_nil, hideE, hideS, idx_tup (show 0 ≤ x by omega) (row_at (row := row) (x := x) (by omega)), ret_ite]]
    try simp -dsimp -implicitDefEqProofs (disch := first | omega | (simp; omega)) only [ev_var, ev_cst, ev_tup, ev_lst, ev_bin, ev_neg, ev_not, ev_and, ev_or, ev_cmp, ev_isN, ev_notN, ev_chn, ev_ite, ev_idx, ev_slc, ev_call, ev_bl, ev_mt, ev_isi, ev_lc, evI_it, evI_rg1, evI_rg2, evI_enum, exec_asg, exec_own, exec_par, exec_aug, exec_app, exec_ext, exec_ins, exec_put, exec_aput, exec_ifs, exec_for_, exec_whl, exec_ret, exec_retn, exec_brk, exec_cnt, exec_pass, exec_close, evs_nil, evs_cons, evo_none, evo_some, evc_none, evc_some, execs_nil, execs_cons, nxt_nx, nxt_rt, nxt_bk, nxt_ct, List.length_cons, List.length_nil, List.map_cons, List.map_nil, bnd_r, lift_ret, Env.read, Env.keep, Sl.read, Sl.keep, List.cons_append, List.nil_append, List.getElem?_cons_zero, List.getElem?_cons_succ, List.set_cons_zero, List.set_cons_succ, bindT, bindTs, closeS, ownS, keepP, if_true, if_false, ↓reduceIte, Bool.false_eq_true, Nat.reduceAdd, Nat.reduceSub, List.replicate_succ, List.replicate_zero, boolD_b, intD_i, isN_none, isN_int, isN_bool, isN_str, isN_tup, isN_lst, Bool.not_true, Bool.not_false, augD, add_int, sub_int, mul_int, fdiv_int, mod_int, mul_str, add_str, add_tup, add_lst, mul_lst, eq_int, ne_int, lt_int, gt_int, le_int, ge_int, eq_str, ne_str, len_str, len_lst, len_tup, abs_int, int_int, int_bool, min2_int, max2_int, tuple_lst, tuple_tup, list_lst, list_tup, slc_str, slc_lst, slc_tup, repS_one, repL_one, idx_t0, idx_t1, idx_t2, idx_l0, rg1_if, rg2_if, eq_self_str, eqv_bool, eq_nil, wipeE, isiD, lcS_v, forS_v, forS_t, lcS_t, app_if, ext_if, en_str, en_lst, items_str, items_lst, items_tup, Int.toNat_natCast, ev_lc2, lcS2_v, lcS2_t, tgV, tgVs, ev_rev, ev_itl, evI_rg3, rg3_if, List.append_nil, hideE, hideS, ne_ints, any_fil]
    rfl) (fun d => by
    unfold e_law_11
    try simp -dsimp -implicitDefEqProofs (disch := first | omega | (simp; omega)) only [ev_var, ev_cst, ev_tup, ev_lst, ev_bin, ev_neg, ev_not, ev_and, ev_or, ev_cmp, ev_isN, ev_notN, ev_chn, ev_ite, ev_idx, ev_slc, ev_call, ev_bl, ev_mt, ev_isi, ev_lc, evI_it, evI_rg1, evI_rg2, evI_enum, exec_asg, exec_own, exec_par, exec_aug, exec_app, exec_ext, exec_ins, exec_put, exec_aput, exec_ifs, exec_for_, exec_whl, exec_ret, exec_retn, exec_brk, exec_cnt, exec_pass, exec_close, evs_nil, evs_cons, evo_none, evo_some, evc_none, evc_some, execs_nil, execs_cons, nxt_nx, nxt_rt, nxt_bk, nxt_ct, List.length_cons, List.length_nil, List.map_cons, List.map_nil, bnd_r, lift_ret, Env.read, Env.keep, Sl.read, Sl.keep, List.cons_append, List.nil_append, List.getElem?_cons_zero, List.getElem?_cons_succ, List.set_cons_zero, List.set_cons_succ, bindT, bindTs, closeS, ownS, keepP, if_true, if_false, ↓reduceIte, Bool.false_eq_true, Nat.reduceAdd, Nat.reduceSub, List.replicate_succ, List.replicate_zero, boolD_b, intD_i, isN_none, isN_int, isN_bool, isN_str, isN_tup, isN_lst, Bool.not_true, Bool.not_false, augD, add_int, sub_int, mul_int, fdiv_int, mod_int, mul_str, add_str, add_tup, add_lst, mul_lst, eq_int, ne_int, lt_int, gt_int, le_int, ge_int, eq_str, ne_str, len_str, len_lst, len_tup, abs_int, int_int, int_bool, min2_int, max2_int, tuple_lst, tuple_tup, list_lst, list_tup, slc_str, slc_lst, slc_tup, repS_one, repL_one, idx_t0, idx_t1, idx_t2, idx_l0, rg1_if, rg2_if, eq_self_str, eqv_bool, eq_nil, wipeE, isiD, lcS_v, forS_v, forS_t, lcS_t, app_if, ext_if, en_str, en_lst, items_str, items_lst, items_tup, Int.toNat_natCast, ev_lc2, lcS2_v, lcS2_t, tgV, tgVs, ev_rev, ev_itl, evI_rg3, rg3_if, List.append_nil, hideE, hideS])]
  try simp -dsimp -implicitDefEqProofs (disch := first | omega | (simp; omega)) only [ev_var, ev_cst, ev_tup, ev_lst, ev_bin, ev_neg, ev_not, ev_and, ev_or, ev_cmp, ev_isN, ev_notN, ev_chn, ev_ite, ev_idx, ev_slc, ev_call, ev_bl, ev_mt, ev_isi, ev_lc, evI_it, evI_rg1, evI_rg2, evI_enum, exec_asg, exec_own, exec_par, exec_aug, exec_app, exec_ext, exec_ins, exec_put, exec_aput, exec_ifs, exec_for_, exec_whl, exec_ret, exec_retn, exec_brk, exec_cnt, exec_pass, exec_close, evs_nil, evs_cons, evo_none, evo_some, evc_none, evc_some, execs_nil, execs_cons, nxt_nx, nxt_rt, nxt_bk, nxt_ct, List.length_cons, List.length_nil, List.map_cons, List.map_nil, bnd_r, lift_ret, Env.read, Env.keep, Sl.read, Sl.keep, List.cons_append, List.nil_append, List.getElem?_cons_zero, List.getElem?_cons_succ, List.set_cons_zero, List.set_cons_succ, bindT, bindTs, closeS, ownS, keepP, if_true, if_false, ↓reduceIte, Bool.false_eq_true, Nat.reduceAdd, Nat.reduceSub, List.replicate_succ, List.replicate_zero, boolD_b, intD_i, isN_none, isN_int, isN_bool, isN_str, isN_tup, isN_lst, Bool.not_true, Bool.not_false, augD, add_int, sub_int, mul_int, fdiv_int, mod_int, mul_str, add_str, add_tup, add_lst, mul_lst, eq_int, ne_int, lt_int, gt_int, le_int, ge_int, eq_str, ne_str, len_str, len_lst, len_tup, abs_int, int_int, int_bool, min2_int, max2_int, tuple_lst, tuple_tup, list_lst, list_tup, slc_str, slc_lst, slc_tup, repS_one, repL_one, idx_t0, idx_t1, idx_t2, idx_l0, rg1_if, rg2_if, eq_self_str, eqv_bool, eq_nil, wipeE, isiD, lcS_v, forS_v, forS_t, lcS_t, app_if, ext_if, en_str, en_lst, items_str, items_lst, items_tup, Int.toNat_natCast, ev_lc2, lcS2_v, lcS2_t, tgV, tgVs, ev_rev, ev_itl, evI_rg3, rg3_if, List.append_nil, hideE, hideS, bnd_assoc, sameP (show ((runsI (loudI row low)).filter (anyB row level)).length ≤ 1000 by omega)]
  exact sure_nx (h _ _)
theorem g4 {row : List Int} (hr : row.length ≤ 14) (hx : ∀ x ∈ row, 0 ≤ x ∧ x ≤ 9)
    (h : ∀ s13 s14 : Sl, Sure (execs (cal T 60) t_1_13 [F0, .cl W, s2, .cl (.tuple (row.map .int)), s4, s5, s6, s7, s8, s9, s10, s11, s12, s13, s14, s15, s16, s17, s18, s19, s20, s21, s22, s23, s24, s25, s26, s27, s28, s29, s30, s31]) Q) :
    Sure (execs (cal T 60) t_1_10 [F0, .cl W, s2, .cl (.tuple (row.map .int)), s4, s5, s6, s7, s8, s9, s10, s11, s12, s13, s14, s15, s16, s17, s18, s19, s20, s21, s22, s23, s24, s25, s26, s27, s28, s29, s30, s31]) Q := by
  unfold t_1_10
  refine sure_seq ?_
  try simp -dsimp -implicitDefEqProofs (disch := first | omega | (simp; omega)) only [ev_var, ev_cst, ev_tup, ev_lst, ev_bin, ev_neg, ev_not, ev_and, ev_or, ev_cmp, ev_isN, ev_notN, ev_chn, ev_ite, ev_idx, ev_slc, ev_call, ev_bl, ev_mt, ev_isi, ev_lc, evI_it, evI_rg1, evI_rg2, evI_enum, exec_asg, exec_own, exec_par, exec_aug, exec_app, exec_ext, exec_ins, exec_put, exec_aput, exec_ifs, exec_for_, exec_whl, exec_ret, exec_retn, exec_brk, exec_cnt, exec_pass, exec_close, evs_nil, evs_cons, evo_none, evo_some, evc_none, evc_some, execs_nil, execs_cons, nxt_nx, nxt_rt, nxt_bk, nxt_ct, List.length_cons, List.length_nil, List.map_cons, List.map_nil, bnd_r, lift_ret, Env.read, Env.keep, Sl.read, Sl.keep, List.cons_append, List.nil_append, List.getElem?_cons_zero, List.getElem?_cons_succ, List.set_cons_zero, List.set_cons_succ, bindT, bindTs, closeS, ownS, keepP, if_true, if_false, ↓reduceIte, Bool.false_eq_true, Nat.reduceAdd, Nat.reduceSub, List.replicate_succ, List.replicate_zero, boolD_b, intD_i, isN_none, isN_int, isN_bool, isN_str, isN_tup, isN_lst, Bool.not_true, Bool.not_false, augD, add_int, sub_int, mul_int, fdiv_int, mod_int, mul_str, add_str, add_tup, add_lst, mul_lst, eq_int, ne_int, lt_int, gt_int, le_int, ge_int, eq_str, ne_str, len_str, len_lst, len_tup, abs_int, int_int, int_bool, min2_int, max2_int, tuple_lst, tuple_tup, list_lst, list_tup, slc_str, slc_lst, slc_tup, repS_one, repL_one, idx_t0, idx_t1, idx_t2, idx_l0, rg1_if, rg2_if, eq_self_str, eqv_bool, eq_nil, wipeE, isiD, lcS_v, forS_v, forS_t, lcS_t, app_if, ext_if, en_str, en_lst, items_str, items_lst, items_tup, Int.toNat_natCast, ev_lc2, lcS2_v, lcS2_t, tgV, tgVs, ev_rev, ev_itl, evI_rg3, rg3_if, List.append_nil, hideE, hideS, bnd_assoc]
  refine sure_bnd ((sure_pick t_next t_pick (xs := [.tuple [.int 0, .int 1], .tuple [.int 1, .int 2], .tuple [.int 1, .int 3], .tuple [.int 1, .int 1]]) (by simp)).mono fun d hd => ?_)
  have hd : ∃ a b : Int, d = .tuple [.int a, .int b] ∧ (0 ≤ a ∧ a ≤ 10) ∧ (0 ≤ b ∧ b ≤ 10) := by
    simp only [List.mem_cons, List.not_mem_nil, or_false] at hd
    rcases hd with rfl | rfl | rfl | rfl <;> exact ⟨_, _, rfl, by omega, by omega⟩
  obtain ⟨a, b, rfl, ha, hb⟩ := hd
  try simp -dsimp -implicitDefEqProofs (disch := first | omega | (simp; omega)) only [ev_var, ev_cst, ev_tup, ev_lst, ev_bin, ev_neg, ev_not, ev_and, ev_or, ev_cmp, ev_isN, ev_notN, ev_chn, ev_ite, ev_idx, ev_slc, ev_call, ev_bl, ev_mt, ev_isi, ev_lc, evI_it, evI_rg1, evI_rg2, evI_enum, exec_asg, exec_own, exec_par, exec_aug, exec_app, exec_ext, exec_ins, exec_put, exec_aput, exec_ifs, exec_for_, exec_whl, exec_ret, exec_retn, exec_brk, exec_cnt, exec_pass, exec_close, evs_nil, evs_cons, evo_none, evo_some, evc_none, evc_some, execs_nil, execs_cons, nxt_nx, nxt_rt, nxt_bk, nxt_ct, List.length_cons, List.length_nil, List.map_cons, List.map_nil, bnd_r, lift_ret, Env.read, Env.keep, Sl.read, Sl.keep, List.cons_append, List.nil_append, List.getElem?_cons_zero, List.getElem?_cons_succ, List.set_cons_zero, List.set_cons_succ, bindT, bindTs, closeS, ownS, keepP, if_true, if_false, ↓reduceIte, Bool.false_eq_true, Nat.reduceAdd, Nat.reduceSub, List.replicate_succ, List.replicate_zero, boolD_b, intD_i, isN_none, isN_int, isN_bool, isN_str, isN_tup, isN_lst, Bool.not_true, Bool.not_false, augD, add_int, sub_int, mul_int, fdiv_int, mod_int, mul_str, add_str, add_tup, add_lst, mul_lst, eq_int, ne_int, lt_int, gt_int, le_int, ge_int, eq_str, ne_str, len_str, len_lst, len_tup, abs_int, int_int, int_bool, min2_int, max2_int, tuple_lst, tuple_tup, list_lst, list_tup, slc_str, slc_lst, slc_tup, repS_one, repL_one, idx_t0, idx_t1, idx_t2, idx_l0, rg1_if, rg2_if, eq_self_str, eqv_bool, eq_nil, wipeE, isiD, lcS_v, forS_v, forS_t, lcS_t, app_if, ext_if, en_str, en_lst, items_str, items_lst, items_tup, Int.toNat_natCast, ev_lc2, lcS2_v, lcS2_t, tgV, tgVs, ev_rev, ev_itl, evI_rg3, rg3_if, List.append_nil, hideE, hideS, bnd_assoc]
  refine sure_nx ?_
  unfold t_1_11
  refine sure_seq ?_
  have h10 : okLv row a b ((10 : Nat) : Int) = true := by
    unfold okLv
    have : row.filter (fun x => decide (((10 : Nat) : Int) ≤ x)) = [] := List.filter_eq_nil_iff.mpr fun x hx' => by
      have := hx x hx'
      simp
      omega
    rw [this, decide_eq_true_iff]
    have := Int.mul_nonneg ha.1 (Int.natCast_nonneg row.length)
    simpa using this
  obtain ⟨n, n1, n2, n3⟩ := first_nat (fun i => okLv row a b (i : Int)) 10 h10
  obtain ⟨r, hf⟩ := fil_first (p := okLv row a b) (n := (n : Int)) (m := 12) (by omega) (by omega) n2 fun j j0 j1 => by
    have := n3 j.toNat (by omega)
    rw [show ((j.toNat : Nat) : Int) = j by omega] at this
    exact this
  try simp -dsimp -implicitDefEqProofs (disch := first | omega | (simp; omega)) only [ev_var, ev_cst, ev_tup, ev_lst, ev_bin, ev_neg, ev_not, ev_and, ev_or, ev_cmp, ev_isN, ev_notN, ev_chn, ev_ite, ev_idx, ev_slc, ev_call, ev_bl, ev_mt, ev_isi, ev_lc, evI_it, evI_rg1, evI_rg2, evI_enum, exec_asg, exec_own, exec_par, exec_aug, exec_app, exec_ext, exec_ins, exec_put, exec_aput, exec_ifs, exec_for_, exec_whl, exec_ret, exec_retn, exec_brk, exec_cnt, exec_pass, exec_close, evs_nil, evs_cons, evo_none, evo_some, evc_none, evc_some, execs_nil, execs_cons, nxt_nx, nxt_rt, nxt_bk, nxt_ct, List.length_cons, List.length_nil, List.map_cons, List.map_nil, bnd_r, lift_ret, Env.read, Env.keep, Sl.read, Sl.keep, List.cons_append, List.nil_append, List.getElem?_cons_zero, List.getElem?_cons_succ, List.set_cons_zero, List.set_cons_succ, bindT, bindTs, closeS, ownS, keepP, if_true, if_false, ↓reduceIte, Bool.false_eq_true, Nat.reduceAdd, Nat.reduceSub, List.replicate_succ, List.replicate_zero, boolD_b, intD_i, isN_none, isN_int, isN_bool, isN_str, isN_tup, isN_lst, Bool.not_true, Bool.not_false, augD, add_int, sub_int, mul_int, fdiv_int, mod_int, mul_str, add_str, add_tup, add_lst, mul_lst, eq_int, ne_int, lt_int, gt_int, le_int, ge_int, eq_str, ne_str, len_str, len_lst, len_tup, abs_int, int_int, int_bool, min2_int, max2_int, tuple_lst, tuple_tup, list_lst, list_tup, slc_str, slc_lst, slc_tup, repS_one, repL_one, idx_t0, idx_t1, idx_t2, idx_l0, rg1_if, rg2_if, eq_self_str, eqv_bool, eq_nil, wipeE, isiD, lcS_v, forS_v, forS_t, lcS_t, app_if, ext_if, en_str, en_lst, items_str, items_lst, items_tup, Int.toNat_natCast, ev_lc2, lcS2_v, lcS2_t, tgV, tgVs, ev_rev, ev_itl, evI_rg3, rg3_if, List.append_nil, hideE, hideS, bnd_assoc]
  rw [rgD_I, lcL_fil .int (okLv row a b) .int fun x hx => by
    rw [lcS_v]
    unfold c_law_18 e_law_15
    try simp -dsimp -implicitDefEqProofs (disch := first | omega | (simp; omega)) only [ev_var, ev_cst, ev_tup, ev_lst, ev_bin, ev_neg, ev_not, ev_and, ev_or, ev_cmp, ev_isN, ev_notN, ev_chn, ev_ite, ev_idx, ev_slc, ev_call, ev_bl, ev_mt, ev_isi, ev_lc, evI_it, evI_rg1, evI_rg2, evI_enum, exec_asg, exec_own, exec_par, exec_aug, exec_app, exec_ext, exec_ins, exec_put, exec_aput, exec_ifs, exec_for_, exec_whl, exec_ret, exec_retn, exec_brk, exec_cnt, exec_pass, exec_close, evs_nil, evs_cons, evo_none, evo_some, evc_none, evc_some, execs_nil, execs_cons, nxt_nx, nxt_rt, nxt_bk, nxt_ct, List.length_cons, List.length_nil, List.map_cons, List.map_nil, bnd_r, lift_ret, Env.read, Env.keep, Sl.read, Sl.keep, List.cons_append, List.nil_append, List.getElem?_cons_zero, List.getElem?_cons_succ, List.set_cons_zero, List.set_cons_succ, bindT, bindTs, closeS, ownS, keepP, if_true, if_false, ↓reduceIte, Bool.false_eq_true, Nat.reduceAdd, Nat.reduceSub, List.replicate_succ, List.replicate_zero, boolD_b, intD_i, isN_none, isN_int, isN_bool, isN_str, isN_tup, isN_lst, Bool.not_true, Bool.not_false, augD, add_int, sub_int, mul_int, fdiv_int, mod_int, mul_str, add_str, add_tup, add_lst, mul_lst, eq_int, ne_int, lt_int, gt_int, le_int, ge_int, eq_str, ne_str, len_str, len_lst, len_tup, abs_int, int_int, int_bool, min2_int, max2_int, tuple_lst, tuple_tup, list_lst, list_tup, slc_str, slc_lst, slc_tup, repS_one, repL_one, idx_t0, idx_t1, idx_t2, idx_l0, rg1_if, rg2_if, eq_self_str, eqv_bool, eq_nil, wipeE, isiD, lcS_v, forS_v, forS_t, lcS_t, app_if, ext_if, en_str, en_lst, items_str, items_lst, items_tup, Int.toNat_natCast, ev_lc2, lcS2_v, lcS2_t, tgV, tgVs, ev_rev, ev_itl, evI_rg3, rg3_if, List.append_nil, hideE, hideS]
    rw [cnt_ge (lv := x) (fun x => by
      unfold c_law_17
      try simp -dsimp -implicitDefEqProofs (disch := first | omega | (simp; omega)) only [ev_var, ev_cst, ev_tup, ev_lst, ev_bin, ev_neg, ev_not, ev_and, ev_or, ev_cmp, ev_isN, ev_notN, ev_chn, ev_ite, ev_idx, ev_slc, ev_call, ev_bl, ev_mt, ev_isi, ev_lc, evI_it, evI_rg1, evI_rg2, evI_enum, exec_asg, exec_own, exec_par, exec_aug, exec_app, exec_ext, exec_ins, exec_put, exec_aput, exec_ifs, exec_for_, exec_whl, exec_ret, exec_retn, exec_brk, exec_cnt, exec_pass, exec_close, evs_nil, evs_cons, evo_none, evo_some, evc_none, evc_some, execs_nil, execs_cons, nxt_nx, nxt_rt, nxt_bk, nxt_ct, List.length_cons, List.length_nil, List.map_cons, List.map_nil, bnd_r, lift_ret, Env.read, Env.keep, Sl.read, Sl.keep, List.cons_append, List.nil_append, List.getElem?_cons_zero, List.getElem?_cons_succ, List.set_cons_zero, List.set_cons_succ, bindT, bindTs, closeS, ownS, keepP, if_true, if_false, ↓reduceIte, Bool.false_eq_true, Nat.reduceAdd, Nat.reduceSub, List.replicate_succ, List.replicate_zero, boolD_b, intD_i, isN_none, isN_int, isN_bool, isN_str, isN_tup, isN_lst, Bool.not_true, Bool.not_false, augD, add_int, sub_int, mul_int, fdiv_int, mod_int, mul_str, add_str, add_tup, add_lst, mul_lst, eq_int, ne_int, lt_int, gt_int, le_int, ge_int, eq_str, ne_str, len_str, len_lst, len_tup, abs_int, int_int, int_bool, min2_int, max2_int, tuple_lst, tuple_tup, list_lst, list_tup, slc_str, slc_lst, slc_tup, repS_one, repL_one, idx_t0, idx_t1, idx_t2, idx_l0, rg1_if, rg2_if, eq_self_str, eqv_bool, eq_nil, wipeE, isiD, lcS_v, forS_v, forS_t, lcS_t, app_if, ext_if, en_str, en_lst, items_str, items_lst, items_tup, Int.toNat_natCast, ev_lc2, lcS2_v, lcS2_t, tgV, tgVs, ev_rev, ev_itl, evI_rg3, rg3_if, List.append_nil, hideE, hideS]) (fun x => by
      unfold e_law_16
      try simp -dsimp -implicitDefEqProofs (disch := first | omega | (simp; omega)) only [ev_var, ev_cst, ev_tup, ev_lst, ev_bin, ev_neg, ev_not, ev_and, ev_or, ev_cmp, ev_isN, ev_notN, ev_chn, ev_ite, ev_idx, ev_slc, ev_call, ev_bl, ev_mt, ev_isi, ev_lc, evI_it, evI_rg1, evI_rg2, evI_enum, exec_asg, exec_own, exec_par, exec_aug, exec_app, exec_ext, exec_ins, exec_put, exec_aput, exec_ifs, exec_for_, exec_whl, exec_ret, exec_retn, exec_brk, exec_cnt, exec_pass, exec_close, evs_nil, evs_cons, evo_none, evo_some, evc_none, evc_some, execs_nil, execs_cons, nxt_nx, nxt_rt, nxt_bk, nxt_ct, List.length_cons, List.length_nil, List.map_cons, List.map_nil, bnd_r, lift_ret, Env.read, Env.keep, Sl.read, Sl.keep, List.cons_append, List.nil_append, List.getElem?_cons_zero, List.getElem?_cons_succ, List.set_cons_zero, List.set_cons_succ, bindT, bindTs, closeS, ownS, keepP, if_true, if_false, ↓reduceIte, Bool.false_eq_true, Nat.reduceAdd, Nat.reduceSub, List.replicate_succ, List.replicate_zero, boolD_b, intD_i, isN_none, isN_int, isN_bool, isN_str, isN_tup, isN_lst, Bool.not_true, Bool.not_false, augD, add_int, sub_int, mul_int, fdiv_int, mod_int, mul_str, add_str, add_tup, add_lst, mul_lst, eq_int, ne_int, lt_int, gt_int, le_int, ge_int, eq_str, ne_str, len_str, len_lst, len_tup, abs_int, int_int, int_bool, min2_int, max2_int, tuple_lst, tuple_tup, list_lst, list_tup, slc_str, slc_lst, slc_tup, repS_one, repL_one, idx_t0, idx_t1, idx_t2, idx_l0, rg1_if, rg2_if, eq_self_str, eqv_bool, eq_nil, wipeE, isiD, lcS_v, forS_v, forS_t, lcS_t, app_if, ext_if, en_str, en_lst, items_str, items_lst, items_tup, Int.toNat_natCast, ev_lc2, lcS2_v, lcS2_t, tgV, tgVs, ev_rev, ev_itl, evI_rg3, rg3_if, List.append_nil, hideE, hideS])]
    try simp -dsimp -implicitDefEqProofs (disch := first | omega | (simp; omega)) only [ev_var, ev_cst, ev_tup, ev_lst, ev_bin, ev_neg, ev_not, ev_and, ev_or, ev_cmp, ev_isN, ev_notN, ev_chn, ev_ite, ev_idx, ev_slc, ev_call, ev_bl, ev_mt, ev_isi, ev_lc, evI_it, evI_rg1, evI_rg2, evI_enum, exec_asg, exec_own, exec_par, exec_aug, exec_app, exec_ext, exec_ins, exec_put, exec_aput, exec_ifs, exec_for_, exec_whl, exec_ret, exec_retn, exec_brk, exec_cnt, exec_pass, exec_close, evs_nil, evs_cons, evo_none, evo_some, evc_none, evc_some, execs_nil, execs_cons, nxt_nx, nxt_rt, nxt_bk, nxt_ct, List.length_cons, List.length_nil, List.map_cons, List.map_nil, bnd_r, lift_ret, Env.read, Env.keep, Sl.read, Sl.keep, List.cons_append, List.nil_append, List.getElem?_cons_zero, List.getElem?_cons_succ, List.set_cons_zero, List.set_cons_succ, bindT, bindTs, closeS, ownS, keepP, if_true, if_false, ↓reduceIte, Bool.false_eq_true, Nat.reduceAdd, Nat.reduceSub, List.replicate_succ, List.replicate_zero, boolD_b, intD_i, isN_none, isN_int, isN_bool, isN_str, isN_tup, isN_lst, Bool.not_true, Bool.not_false, augD, add_int, sub_int, mul_int, fdiv_int, mod_int, mul_str, add_str, add_tup, add_lst, mul_lst, eq_int, ne_int, lt_int, gt_int, le_int, ge_int, eq_str, ne_str, len_str, len_lst, len_tup, abs_int, int_int, int_bool, min2_int, max2_int, tuple_lst, tuple_tup, list_lst, list_tup, slc_str, slc_lst, slc_tup, repS_one, repL_one, idx_t0, idx_t1, idx_t2, idx_l0, rg1_if, rg2_if, eq_self_str, eqv_bool, eq_nil, wipeE, isiD, lcS_v, forS_v, forS_t, lcS_t, app_if, ext_if, en_str, en_lst, items_str, items_lst, items_tup, Int.toNat_natCast, ev_lc2, lcS2_v, lcS2_t, tgV, tgVs, ev_rev, ev_itl, evI_rg3, rg3_if, List.append_nil, hideE, hideS, List.length_map]
    exact ret_ite, hf]
  try simp -dsimp -implicitDefEqProofs (disch := first | omega | (simp; omega)) only [ev_var, ev_cst, ev_tup, ev_lst, ev_bin, ev_neg, ev_not, ev_and, ev_or, ev_cmp, ev_isN, ev_notN, ev_chn, ev_ite, ev_idx, ev_slc, ev_call, ev_bl, ev_mt, ev_isi, ev_lc, evI_it, evI_rg1, evI_rg2, evI_enum, exec_asg, exec_own, exec_par, exec_aug, exec_app, exec_ext, exec_ins, exec_put, exec_aput, exec_ifs, exec_for_, exec_whl, exec_ret, exec_retn, exec_brk, exec_cnt, exec_pass, exec_close, evs_nil, evs_cons, evo_none, evo_some, evc_none, evc_some, execs_nil, execs_cons, nxt_nx, nxt_rt, nxt_bk, nxt_ct, List.length_cons, List.length_nil, List.map_cons, List.map_nil, bnd_r, lift_ret, Env.read, Env.keep, Sl.read, Sl.keep, List.cons_append, List.nil_append, List.getElem?_cons_zero, List.getElem?_cons_succ, List.set_cons_zero, List.set_cons_succ, bindT, bindTs, closeS, ownS, keepP, if_true, if_false, ↓reduceIte, Bool.false_eq_true, Nat.reduceAdd, Nat.reduceSub, List.replicate_succ, List.replicate_zero, boolD_b, intD_i, isN_none, isN_int, isN_bool, isN_str, isN_tup, isN_lst, Bool.not_true, Bool.not_false, augD, add_int, sub_int, mul_int, fdiv_int, mod_int, mul_str, add_str, add_tup, add_lst, mul_lst, eq_int, ne_int, lt_int, gt_int, le_int, ge_int, eq_str, ne_str, len_str, len_lst, len_tup, abs_int, int_int, int_bool, min2_int, max2_int, tuple_lst, tuple_tup, list_lst, list_tup, slc_str, slc_lst, slc_tup, repS_one, repL_one, idx_t0, idx_t1, idx_t2, idx_l0, rg1_if, rg2_if, eq_self_str, eqv_bool, eq_nil, wipeE, isiD, lcS_v, forS_v, forS_t, lcS_t, app_if, ext_if, en_str, en_lst, items_str, items_lst, items_tup, Int.toNat_natCast, ev_lc2, lcS2_v, lcS2_t, tgV, tgVs, ev_rev, ev_itl, evI_rg3, rg3_if, List.append_nil, hideE, hideS, bnd_assoc]
  refine sure_nx ?_
  unfold t_1_12
  refine sure_seq ?_
  try simp -dsimp -implicitDefEqProofs (disch := first | omega | (simp; omega)) only [ev_var, ev_cst, ev_tup, ev_lst, ev_bin, ev_neg, ev_not, ev_and, ev_or, ev_cmp, ev_isN, ev_notN, ev_chn, ev_ite, ev_idx, ev_slc, ev_call, ev_bl, ev_mt, ev_isi, ev_lc, evI_it, evI_rg1, evI_rg2, evI_enum, exec_asg, exec_own, exec_par, exec_aug, exec_app, exec_ext, exec_ins, exec_put, exec_aput, exec_ifs, exec_for_, exec_whl, exec_ret, exec_retn, exec_brk, exec_cnt, exec_pass, exec_close, evs_nil, evs_cons, evo_none, evo_some, evc_none, evc_some, execs_nil, execs_cons, nxt_nx, nxt_rt, nxt_bk, nxt_ct, List.length_cons, List.length_nil, List.map_cons, List.map_nil, bnd_r, lift_ret, Env.read, Env.keep, Sl.read, Sl.keep, List.cons_append, List.nil_append, List.getElem?_cons_zero, List.getElem?_cons_succ, List.set_cons_zero, List.set_cons_succ, bindT, bindTs, closeS, ownS, keepP, if_true, if_false, ↓reduceIte, Bool.false_eq_true, Nat.reduceAdd, Nat.reduceSub, List.replicate_succ, List.replicate_zero, boolD_b, intD_i, isN_none, isN_int, isN_bool, isN_str, isN_tup, isN_lst, Bool.not_true, Bool.not_false, augD, add_int, sub_int, mul_int, fdiv_int, mod_int, mul_str, add_str, add_tup, add_lst, mul_lst, eq_int, ne_int, lt_int, gt_int, le_int, ge_int, eq_str, ne_str, len_str, len_lst, len_tup, abs_int, int_int, int_bool, min2_int, max2_int, tuple_lst, tuple_tup, list_lst, list_tup, slc_str, slc_lst, slc_tup, repS_one, repL_one, idx_t0, idx_t1, idx_t2, idx_l0, rg1_if, rg2_if, eq_self_str, eqv_bool, eq_nil, wipeE, isiD, lcS_v, forS_v, forS_t, lcS_t, app_if, ext_if, en_str, en_lst, items_str, items_lst, items_tup, Int.toNat_natCast, ev_lc2, lcS2_v, lcS2_t, tgV, tgVs, ev_rev, ev_itl, evI_rg3, rg3_if, List.append_nil, hideE, hideS, bnd_assoc, level_eq (n := n) (show row.length ≤ 20 by omega) ha hb (show n ≤ 100 by omega) n2 n3, sameIn]
  exact sure_nx (h _ _)
theorem g5 {row : List Int} {level : Int} (hr : row.length ≤ 14) (hx : ∀ x ∈ row, 0 ≤ x ∧ x ≤ 9)
    (h : ∀ (ps : List Int) (s15 s18 : Sl), Asc ps → (∀ x ∈ ps, 0 ≤ x ∧ x < 16) → ps.length ≤ 16 → Sure (execs (cal T 60) t_1_17 [F0, .cl W, s2, .cl (.tuple (row.map .int)), s4, s5, s6, s7, .cl (.list ((runsI (loudI row level)).map encP)), s9, s10, s11, s12, s13, s14, s15, s16, .cl (.list ((runsI ps).map encP)), s18, s19, s20, s21, s22, s23, s24, s25, s26, s27, s28, s29, s30, s31]) Q) :
    Sure (execs (cal T 60) t_1_13 [F0, .cl W, s2, .cl (.tuple (row.map .int)), s4, s5, s6, s7, .cl (.list ((runsI (loudI row level)).map encP)), s9, s10, s11, s12, s13, s14, s15, s16, s17, s18, s19, s20, s21, s22, s23, s24, s25, s26, s27, s28, s29, s30, s31]) Q := by
  unfold t_1_13
  refine sure_seq ?_
  try simp -dsimp -implicitDefEqProofs (disch := first | omega | (simp; omega)) only [ev_var, ev_cst, ev_tup, ev_lst, ev_bin, ev_neg, ev_not, ev_and, ev_or, ev_cmp, ev_isN, ev_notN, ev_chn, ev_ite, ev_idx, ev_slc, ev_call, ev_bl, ev_mt, ev_isi, ev_lc, evI_it, evI_rg1, evI_rg2, evI_enum, exec_asg, exec_own, exec_par, exec_aug, exec_app, exec_ext, exec_ins, exec_put, exec_aput, exec_ifs, exec_for_, exec_whl, exec_ret, exec_retn, exec_brk, exec_cnt, exec_pass, exec_close, evs_nil, evs_cons, evo_none, evo_some, evc_none, evc_some, execs_nil, execs_cons, nxt_nx, nxt_rt, nxt_bk, nxt_ct, List.length_cons, List.length_nil, List.map_cons, List.map_nil, bnd_r, lift_ret, Env.read, Env.keep, Sl.read, Sl.keep, List.cons_append, List.nil_append, List.getElem?_cons_zero, List.getElem?_cons_succ, List.set_cons_zero, List.set_cons_succ, bindT, bindTs, closeS, ownS, keepP, if_true, if_false, ↓reduceIte, Bool.false_eq_true, Nat.reduceAdd, Nat.reduceSub, List.replicate_succ, List.replicate_zero, boolD_b, intD_i, isN_none, isN_int, isN_bool, isN_str, isN_tup, isN_lst, Bool.not_true, Bool.not_false, augD, add_int, sub_int, mul_int, fdiv_int, mod_int, mul_str, add_str, add_tup, add_lst, mul_lst, eq_int, ne_int, lt_int, gt_int, le_int, ge_int, eq_str, ne_str, len_str, len_lst, len_tup, abs_int, int_int, int_bool, min2_int, max2_int, tuple_lst, tuple_tup, list_lst, list_tup, slc_str, slc_lst, slc_tup, repS_one, repL_one, idx_t0, idx_t1, idx_t2, idx_l0, rg1_if, rg2_if, eq_self_str, eqv_bool, eq_nil, wipeE, isiD, lcS_v, forS_v, forS_t, lcS_t, app_if, ext_if, en_str, en_lst, items_str, items_lst, items_tup, Int.toNat_natCast, ev_lc2, lcS2_v, lcS2_t, tgV, tgVs, ev_rev, ev_itl, evI_rg3, rg3_if, List.append_nil, hideE, hideS, bnd_assoc]
  rw [rgD_I]
  refine sure_bnd ((sure_lcF PyData.int fun x hx => ?_).mono fun out hout => ?_)
  · rw [lcS_v]
    unfold c_law_20 e_law_19
    try simp -dsimp -implicitDefEqProofs (disch := first | omega | (simp; omega)) only [ev_var, ev_cst, ev_tup, ev_lst, ev_bin, ev_neg, ev_not, ev_and, ev_or, ev_cmp, ev_isN, ev_notN, ev_chn, ev_ite, ev_idx, ev_slc, ev_call, ev_bl, ev_mt, ev_isi, ev_lc, evI_it, evI_rg1, evI_rg2, evI_enum, exec_asg, exec_own, exec_par, exec_aug, exec_app, exec_ext, exec_ins, exec_put, exec_aput, exec_ifs, exec_for_, exec_whl, exec_ret, exec_retn, exec_brk, exec_cnt, exec_pass, exec_close, evs_nil, evs_cons, evo_none, evo_some, evc_none, evc_some, execs_nil, execs_cons, nxt_nx, nxt_rt, nxt_bk, nxt_ct, List.length_cons, List.length_nil, List.map_cons, List.map_nil, bnd_r, lift_ret, Env.read, Env.keep, Sl.read, Sl.keep, List.cons_append, List.nil_append, List.getElem?_cons_zero, List.getElem?_cons_succ, List.set_cons_zero, List.set_cons_succ, bindT, bindTs, closeS, ownS, keepP, if_true, if_false, ↓reduceIte, Bool.false_eq_true, Nat.reduceAdd, Nat.reduceSub, List.replicate_succ, List.replicate_zero, boolD_b, intD_i, isN_none, isN_int, isN_bool, isN_str, isN_tup, isN_lst, Bool.not_true, Bool.not_false, augD, add_int, sub_int, mul_int, fdiv_int, mod_int, mul_str, add_str, add_tup, add_lst, mul_lst, eq_int, ne_int, lt_int, gt_int, le_int, ge_int, eq_str, ne_str, len_str, len_lst, len_tup, abs_int, int_int, int_bool, min2_int, max2_int, tuple_lst, tuple_tup, list_lst, list_tup, slc_str, slc_lst, slc_tup, repS_one, repL_one, idx_t0, idx_t1, idx_t2, idx_l0, rg1_if, rg2_if, eq_self_str, eqv_bool, eq_nil, wipeE, isiD, lcS_v, forS_v, forS_t, lcS_t, app_if, ext_if, en_str, en_lst, items_str, items_lst, items_tup, Int.toNat_natCast, ev_lc2, lcS2_v, lcS2_t, tgV, tgVs, ev_rev, ev_itl, evI_rg3, rg3_if, List.append_nil, hideE, hideS, bnd_assoc]
    refine sure_bnd ((sure_next t_next (by omega)).mono fun d hd => ?_)
    obtain ⟨a, rfl, a1, a2⟩ := hd
    by_cases h0 : a = 0
    · try simp -dsimp -implicitDefEqProofs (disch := first | omega | (simp; omega)) only [ev_var, ev_cst, ev_tup, ev_lst, ev_bin, ev_neg, ev_not, ev_and, ev_or, ev_cmp, ev_isN, ev_notN, ev_chn, ev_ite, ev_idx, ev_slc, ev_call, ev_bl, ev_mt, ev_isi, ev_lc, evI_it, evI_rg1, evI_rg2, evI_enum, exec_asg, exec_own, exec_par, exec_aug, exec_app, exec_ext, exec_ins, exec_put, exec_aput, exec_ifs, exec_for_, exec_whl, exec_ret, exec_retn, exec_brk, exec_cnt, exec_pass, exec_close, evs_nil, evs_cons, evo_none, evo_some, evc_none, evc_some, execs_nil, execs_cons, nxt_nx, nxt_rt, nxt_bk, nxt_ct, List.length_cons, List.length_nil, List.map_cons, List.map_nil, bnd_r, lift_ret, Env.read, Env.keep, Sl.read, Sl.keep, List.cons_append, List.nil_append, List.getElem?_cons_zero, List.getElem?_cons_succ, List.set_cons_zero, List.set_cons_succ, bindT, bindTs, closeS, ownS, keepP, if_true, if_false, ↓reduceIte, Bool.false_eq_true, Nat.reduceAdd, Nat.reduceSub, List.replicate_succ, List.replicate_zero, boolD_b, intD_i, isN_none, isN_int, isN_bool, isN_str, isN_tup, isN_lst, Bool.not_true, Bool.not_false, augD, add_int, sub_int, mul_int, fdiv_int, mod_int, mul_str, add_str, add_tup, add_lst, mul_lst, eq_int, ne_int, lt_int, gt_int, le_int, ge_int, eq_str, ne_str, len_str, len_lst, len_tup, abs_int, int_int, int_bool, min2_int, max2_int, tuple_lst, tuple_tup, list_lst, list_tup, slc_str, slc_lst, slc_tup, repS_one, repL_one, idx_t0, idx_t1, idx_t2, idx_l0, rg1_if, rg2_if, eq_self_str, eqv_bool, eq_nil, wipeE, isiD, lcS_v, forS_v, forS_t, lcS_t, app_if, ext_if, en_str, en_lst, items_str, items_lst, items_tup, Int.toNat_natCast, ev_lc2, lcS2_v, lcS2_t, tgV, tgVs, ev_rev, ev_itl, evI_rg3, rg3_if, List.append_nil, hideE, hideS, h0, decide_true]
      exact sure_ret (.inr rfl)
    · try simp -dsimp -implicitDefEqProofs (disch := first | omega | (simp; omega)) only [ev_var, ev_cst, ev_tup, ev_lst, ev_bin, ev_neg, ev_not, ev_and, ev_or, ev_cmp, ev_isN, ev_notN, ev_chn, ev_ite, ev_idx, ev_slc, ev_call, ev_bl, ev_mt, ev_isi, ev_lc, evI_it, evI_rg1, evI_rg2, evI_enum, exec_asg, exec_own, exec_par, exec_aug, exec_app, exec_ext, exec_ins, exec_put, exec_aput, exec_ifs, exec_for_, exec_whl, exec_ret, exec_retn, exec_brk, exec_cnt, exec_pass, exec_close, evs_nil, evs_cons, evo_none, evo_some, evc_none, evc_some, execs_nil, execs_cons, nxt_nx, nxt_rt, nxt_bk, nxt_ct, List.length_cons, List.length_nil, List.map_cons, List.map_nil, bnd_r, lift_ret, Env.read, Env.keep, Sl.read, Sl.keep, List.cons_append, List.nil_append, List.getElem?_cons_zero, List.getElem?_cons_succ, List.set_cons_zero, List.set_cons_succ, bindT, bindTs, closeS, ownS, keepP, if_true, if_false, ↓reduceIte, Bool.false_eq_true, Nat.reduceAdd, Nat.reduceSub, List.replicate_succ, List.replicate_zero, boolD_b, intD_i, isN_none, isN_int, isN_bool, isN_str, isN_tup, isN_lst, Bool.not_true, Bool.not_false, augD, add_int, sub_int, mul_int, fdiv_int, mod_int, mul_str, add_str, add_tup, add_lst, mul_lst, eq_int, ne_int, lt_int, gt_int, le_int, ge_int, eq_str, ne_str, len_str, len_lst, len_tup, abs_int, int_int, int_bool, min2_int, max2_int, tuple_lst, tuple_tup, list_lst, list_tup, slc_str, slc_lst, slc_tup, repS_one, repL_one, idx_t0, idx_t1, idx_t2, idx_l0, rg1_if, rg2_if, eq_self_str, eqv_bool, eq_nil, wipeE, isiD, lcS_v, forS_v, forS_t, lcS_t, app_if, ext_if, en_str, en_lst, items_str, items_lst, items_tup, Int.toNat_natCast, ev_lc2, lcS2_v, lcS2_t, tgV, tgVs, ev_rev, ev_itl, evI_rg3, rg3_if, List.append_nil, hideE, hideS, h0, decide_false]
      exact sure_ret (.inl rfl)
  · obtain ⟨ps, rfl, hs⟩ := hout
    have asc : Asc ps := List.Pairwise.sublist hs asc_rgI
    have mem : ∀ x ∈ ps, 0 ≤ x ∧ x < 16 := fun x hx => by
      have := mem_rgI.mp (hs.subset hx)
      omega
    have len : ps.length ≤ 16 := by
      have := hs.length_le
      rw [rgI_len] at this
      exact this
    have l1 := loud_len (row := row) (lv := level)
    try simp -dsimp -implicitDefEqProofs (disch := first | omega | (simp; omega)) only [ev_var, ev_cst, ev_tup, ev_lst, ev_bin, ev_neg, ev_not, ev_and, ev_or, ev_cmp, ev_isN, ev_notN, ev_chn, ev_ite, ev_idx, ev_slc, ev_call, ev_bl, ev_mt, ev_isi, ev_lc, evI_it, evI_rg1, evI_rg2, evI_enum, exec_asg, exec_own, exec_par, exec_aug, exec_app, exec_ext, exec_ins, exec_put, exec_aput, exec_ifs, exec_for_, exec_whl, exec_ret, exec_retn, exec_brk, exec_cnt, exec_pass, exec_close, evs_nil, evs_cons, evo_none, evo_some, evc_none, evc_some, execs_nil, execs_cons, nxt_nx, nxt_rt, nxt_bk, nxt_ct, List.length_cons, List.length_nil, List.map_cons, List.map_nil, bnd_r, lift_ret, Env.read, Env.keep, Sl.read, Sl.keep, List.cons_append, List.nil_append, List.getElem?_cons_zero, List.getElem?_cons_succ, List.set_cons_zero, List.set_cons_succ, bindT, bindTs, closeS, ownS, keepP, if_true, if_false, ↓reduceIte, Bool.false_eq_true, Nat.reduceAdd, Nat.reduceSub, List.replicate_succ, List.replicate_zero, boolD_b, intD_i, isN_none, isN_int, isN_bool, isN_str, isN_tup, isN_lst, Bool.not_true, Bool.not_false, augD, add_int, sub_int, mul_int, fdiv_int, mod_int, mul_str, add_str, add_tup, add_lst, mul_lst, eq_int, ne_int, lt_int, gt_int, le_int, ge_int, eq_str, ne_str, len_str, len_lst, len_tup, abs_int, int_int, int_bool, min2_int, max2_int, tuple_lst, tuple_tup, list_lst, list_tup, slc_str, slc_lst, slc_tup, repS_one, repL_one, idx_t0, idx_t1, idx_t2, idx_l0, rg1_if, rg2_if, eq_self_str, eqv_bool, eq_nil, wipeE, isiD, lcS_v, forS_v, forS_t, lcS_t, app_if, ext_if, en_str, en_lst, items_str, items_lst, items_tup, Int.toNat_natCast, ev_lc2, lcS2_v, lcS2_t, tgV, tgVs, ev_rev, ev_itl, evI_rg3, rg3_if, List.append_nil, hideE, hideS, bnd_assoc, lruns_eq (show ps.length ≤ 100 by omega)]
    refine sure_nx ?_
    unfold t_1_14
    refine sure_seq ?_
    try simp -dsimp -implicitDefEqProofs (disch := first | omega | (simp; omega)) only [ev_var, ev_cst, ev_tup, ev_lst, ev_bin, ev_neg, ev_not, ev_and, ev_or, ev_cmp, ev_isN, ev_notN, ev_chn, ev_ite, ev_idx, ev_slc, ev_call, ev_bl, ev_mt, ev_isi, ev_lc, evI_it, evI_rg1, evI_rg2, evI_enum, exec_asg, exec_own, exec_par, exec_aug, exec_app, exec_ext, exec_ins, exec_put, exec_aput, exec_ifs, exec_for_, exec_whl, exec_ret, exec_retn, exec_brk, exec_cnt, exec_pass, exec_close, evs_nil, evs_cons, evo_none, evo_some, evc_none, evc_some, execs_nil, execs_cons, nxt_nx, nxt_rt, nxt_bk, nxt_ct, List.length_cons, List.length_nil, List.map_cons, List.map_nil, bnd_r, lift_ret, Env.read, Env.keep, Sl.read, Sl.keep, List.cons_append, List.nil_append, List.getElem?_cons_zero, List.getElem?_cons_succ, List.set_cons_zero, List.set_cons_succ, bindT, bindTs, closeS, ownS, keepP, if_true, if_false, ↓reduceIte, Bool.false_eq_true, Nat.reduceAdd, Nat.reduceSub, List.replicate_succ, List.replicate_zero, boolD_b, intD_i, isN_none, isN_int, isN_bool, isN_str, isN_tup, isN_lst, Bool.not_true, Bool.not_false, augD, add_int, sub_int, mul_int, fdiv_int, mod_int, mul_str, add_str, add_tup, add_lst, mul_lst, eq_int, ne_int, lt_int, gt_int, le_int, ge_int, eq_str, ne_str, len_str, len_lst, len_tup, abs_int, int_int, int_bool, min2_int, max2_int, tuple_lst, tuple_tup, list_lst, list_tup, slc_str, slc_lst, slc_tup, repS_one, repL_one, idx_t0, idx_t1, idx_t2, idx_l0, rg1_if, rg2_if, eq_self_str, eqv_bool, eq_nil, wipeE, isiD, lcS_v, forS_v, forS_t, lcS_t, app_if, ext_if, en_str, en_lst, items_str, items_lst, items_tup, Int.toNat_natCast, ev_lc2, lcS2_v, lcS2_t, tgV, tgVs, ev_rev, ev_itl, evI_rg3, rg3_if, List.append_nil, hideE, hideS, bnd_assoc]
    refine sure_nx ?_
    unfold t_1_15
    refine sure_seq ?_
    obtain ⟨M, hM, hle⟩ := max_ex (l := 0 :: row) (by simp)
    have M0 := hle 0 List.mem_cons_self
    obtain ⟨M, rfl⟩ : ∃ M' : Nat, M = (M' : Int) := ⟨M.toNat, by omega⟩
    have M9 : M ≤ 9 := by
      rcases List.mem_cons.mp hM with e | e
      · omega
      · have := hx _ e; omega
    have hle' : ∀ x ∈ row, x ≤ (M : Int) := fun x hx => hle x (List.mem_cons_of_mem _ hx)
    try simp -dsimp -implicitDefEqProofs (disch := first | omega | (simp; omega)) only [ev_var, ev_cst, ev_tup, ev_lst, ev_bin, ev_neg, ev_not, ev_and, ev_or, ev_cmp, ev_isN, ev_notN, ev_chn, ev_ite, ev_idx, ev_slc, ev_call, ev_bl, ev_mt, ev_isi, ev_lc, evI_it, evI_rg1, evI_rg2, evI_enum, exec_asg, exec_own, exec_par, exec_aug, exec_app, exec_ext, exec_ins, exec_put, exec_aput, exec_ifs, exec_for_, exec_whl, exec_ret, exec_retn, exec_brk, exec_cnt, exec_pass, exec_close, evs_nil, evs_cons, evo_none, evo_some, evc_none, evc_some, execs_nil, execs_cons, nxt_nx, nxt_rt, nxt_bk, nxt_ct, List.length_cons, List.length_nil, List.map_cons, List.map_nil, bnd_r, lift_ret, Env.read, Env.keep, Sl.read, Sl.keep, List.cons_append, List.nil_append, List.getElem?_cons_zero, List.getElem?_cons_succ, List.set_cons_zero, List.set_cons_succ, bindT, bindTs, closeS, ownS, keepP, if_true, if_false, ↓reduceIte, Bool.false_eq_true, Nat.reduceAdd, Nat.reduceSub, List.replicate_succ, List.replicate_zero, boolD_b, intD_i, isN_none, isN_int, isN_bool, isN_str, isN_tup, isN_lst, Bool.not_true, Bool.not_false, augD, add_int, sub_int, mul_int, fdiv_int, mod_int, mul_str, add_str, add_tup, add_lst, mul_lst, eq_int, ne_int, lt_int, gt_int, le_int, ge_int, eq_str, ne_str, len_str, len_lst, len_tup, abs_int, int_int, int_bool, min2_int, max2_int, tuple_lst, tuple_tup, list_lst, list_tup, slc_str, slc_lst, slc_tup, repS_one, repL_one, idx_t0, idx_t1, idx_t2, idx_l0, rg1_if, rg2_if, eq_self_str, eqv_bool, eq_nil, wipeE, isiD, lcS_v, forS_v, forS_t, lcS_t, app_if, ext_if, en_str, en_lst, items_str, items_lst, items_tup, Int.toNat_natCast, ev_lc2, lcS2_v, lcS2_t, tgV, tgVs, ev_rev, ev_itl, evI_rg3, rg3_if, List.append_nil, hideE, hideS, bnd_assoc, top_eq hM hle']
    obtain ⟨σ', h1, s15', rfl, _⟩ := forL_nx (step := forS (cal T 60) (.v 15) b_law_23) (fun j σ => ∃ s15, σ = [F0, .cl W, s2, .cl (.tuple (row.map .int)), s4, s5, s6, s7, .cl (.list ((runsI (loudI row level)).map encP)), s9, s10, s11, s12, s13, s14, s15, s16, .cl (.list ((runsI ps).map encP)), .ol (((List.range j).map (offsF row ps)).map .int), s19, s20, s21, s22, s23, s24, s25, s26, s27, s28, s29, s30, s31] ∧ j ≤ M + 2)
      (ds := rgD 0 ((M : Int) + 2)) (σ := [F0, .cl W, s2, .cl (.tuple (row.map .int)), s4, s5, s6, s7, .cl (.list ((runsI (loudI row level)).map encP)), s9, s10, s11, s12, s13, s14, s15, s16, .cl (.list ((runsI ps).map encP)), .ol [], s19, s20, s21, s22, s23, s24, s25, s26, s27, s28, s29, s30, s31]) ⟨_, rfl, by omega⟩ fun j e σ hj hI => by
        obtain ⟨s15, rfl, hj2⟩ := hI
        obtain ⟨rfl, hj3⟩ := rg_get hj
        have e1 := loff_eq (k := 58) (a := loudI row j) (b := ps) (by have := loud_len (row := row) (lv := (j : Int)); omega) (by omega) (fun x hx => by have := loud_in hx; omega) (fun x hx => by have := mem x hx; omega)
        have l2 := loud_len (row := row) (lv := (j : Int))
        refine ⟨[F0, .cl W, s2, .cl (.tuple (row.map .int)), s4, s5, s6, s7, .cl (.list ((runsI (loudI row level)).map encP)), s9, s10, s11, s12, s13, s14, .cl (.int (j : Int)), s16, .cl (.list ((runsI ps).map encP)), .ol (((List.range (j + 1)).map (offsF row ps)).map .int), s19, s20, s21, s22, s23, s24, s25, s26, s27, s28, s29, s30, s31], .inl ?_, _, rfl, by omega⟩
        rw [forS_v, List.range_succ, List.map_append, List.map_append]
        unfold b_law_23
        try simp -dsimp -implicitDefEqProofs (disch := first | omega | (simp; omega)) only [ev_var, ev_cst, ev_tup, ev_lst, ev_bin, ev_neg, ev_not, ev_and, ev_or, ev_cmp, ev_isN, ev_notN, ev_chn, ev_ite, ev_idx, ev_slc, ev_call, ev_bl, ev_mt, ev_isi, ev_lc, evI_it, evI_rg1, evI_rg2, evI_enum, exec_asg, exec_own, exec_par, exec_aug, exec_app, exec_ext, exec_ins, exec_put, exec_aput, exec_ifs, exec_for_, exec_whl, exec_ret, exec_retn, exec_brk, exec_cnt, exec_pass, exec_close, evs_nil, evs_cons, evo_none, evo_some, evc_none, evc_some, execs_nil, execs_cons, nxt_nx, nxt_rt, nxt_bk, nxt_ct, List.length_cons, List.length_nil, List.map_cons, List.map_nil, bnd_r, lift_ret, Env.read, Env.keep, Sl.read, Sl.keep, List.cons_append, List.nil_append, List.getElem?_cons_zero, List.getElem?_cons_succ, List.set_cons_zero, List.set_cons_succ, bindT, bindTs, closeS, ownS, keepP, if_true, if_false, ↓reduceIte, Bool.false_eq_true, Nat.reduceAdd, Nat.reduceSub, List.replicate_succ, List.replicate_zero, boolD_b, intD_i, isN_none, isN_int, isN_bool, isN_str, isN_tup, isN_lst, Bool.not_true, Bool.not_false, augD, add_int, sub_int, mul_int, fdiv_int, mod_int, mul_str, add_str, add_tup, add_lst, mul_lst, eq_int, ne_int, lt_int, gt_int, le_int, ge_int, eq_str, ne_str, len_str, len_lst, len_tup, abs_int, int_int, int_bool, min2_int, max2_int, tuple_lst, tuple_tup, list_lst, list_tup, slc_str, slc_lst, slc_tup, repS_one, repL_one, idx_t0, idx_t1, idx_t2, idx_l0, rg1_if, rg2_if, eq_self_str, eqv_bool, eq_nil, wipeE, isiD, lcS_v, forS_v, forS_t, lcS_t, app_if, ext_if, en_str, en_lst, items_str, items_lst, items_tup, Int.toNat_natCast, ev_lc2, lcS2_v, lcS2_t, tgV, tgVs, ev_rev, ev_itl, evI_rg3, rg3_if, List.append_nil, hideE, hideS, List.length_map]
        rw [lc_loud (lv := (j : Int)) (fun x x0 x1 => by
          unfold c_law_22
          try simp -dsimp -implicitDefEqProofs (disch := first | omega | (simp; omega)) only [ev_var, ev_cst, ev_tup, ev_lst, ev_bin, ev_neg, ev_not, ev_and, ev_or, ev_cmp, ev_isN, ev_notN, ev_chn, ev_ite, ev_idx, ev_slc, ev_call, ev_bl, ev_mt, ev_isi, ev_lc, evI_it, evI_rg1, evI_rg2, evI_enum, exec_asg, exec_own, exec_par, exec_aug, exec_app, exec_ext, exec_ins, exec_put, exec_aput, exec_ifs, exec_for_, exec_whl, exec_ret, exec_retn, exec_brk, exec_cnt, exec_pass, exec_close, evs_nil, evs_cons, evo_none, evo_some, evc_none, evc_some, execs_nil, execs_cons, nxt_nx, nxt_rt, nxt_bk, nxt_ct, List.length_cons, List.length_nil, List.map_cons, List.map_nil, bnd_r, lift_ret, Env.read, Env.keep, Sl.read, Sl.keep, List.cons_append, List.nil_append, List.getElem?_cons_zero, List.getElem?_cons_succ, List.set_cons_zero, List.set_cons_succ, bindT, bindTs, closeS, ownS, keepP, if_true, if_false, ↓reduceIte, Bool.false_eq_true, Nat.reduceAdd, Nat.reduceSub, List.replicate_succ, List.replicate_zero, boolD_b, intD_i, isN_none, isN_int, isN_bool, isN_str, isN_tup, isN_lst, Bool.not_true, Bool.not_false, augD, add_int, sub_int, mul_int, fdiv_int, mod_int, mul_str, add_str, add_tup, add_lst, mul_lst, eq_int, ne_int, lt_int, gt_int, le_int, ge_int, eq_str, ne_str, len_str, len_lst, len_tup, abs_int, int_int, int_bool, min2_int, max2_int, tuple_lst, tuple_tup, list_lst, list_tup, slc_str, slc_lst, slc_tup, repS_one, repL_one, idx_t0, idx_t1, idx_t2, idx_l0, rg1_if, rg2_if, eq_self_str, eqv_bool, eq_nil, wipeE, isiD, lcS_v, forS_v, forS_t, lcS_t, app_if, ext_if, en_str, en_lst, items_str, items_lst, items_tup, Int.toNat_natCast, ev_lc2, lcS2_v, lcS2_t, tgV, tgVs, ev_rev, ev_itl, evI_rg3, rg3_if, List.append_nil, hideE, hideS, idx_tup x0 (row_at ⟨x0, x1⟩)]) (fun x => by
          unfold e_law_21
          try simp -dsimp -implicitDefEqProofs (disch := first | omega | (simp; omega)) only [ev_var, ev_cst, ev_tup, ev_lst, ev_bin, ev_neg, ev_not, ev_and, ev_or, ev_cmp, ev_isN, ev_notN, ev_chn, ev_ite, ev_idx, ev_slc, ev_call, ev_bl, ev_mt, ev_isi, ev_lc, evI_it, evI_rg1, evI_rg2, evI_enum, exec_asg, exec_own, exec_par, exec_aug, exec_app, exec_ext, exec_ins, exec_put, exec_aput, exec_ifs, exec_for_, exec_whl, exec_ret, exec_retn, exec_brk, exec_cnt, exec_pass, exec_close, evs_nil, evs_cons, evo_none, evo_some, evc_none, evc_some, execs_nil, execs_cons, nxt_nx, nxt_rt, nxt_bk, nxt_ct, List.length_cons, List.length_nil, List.map_cons, List.map_nil, bnd_r, lift_ret, Env.read, Env.keep, Sl.read, Sl.keep, List.cons_append, List.nil_append, List.getElem?_cons_zero, List.getElem?_cons_succ, List.set_cons_zero, List.set_cons_succ, bindT, bindTs, closeS, ownS, keepP, if_true, if_false, ↓reduceIte, Bool.false_eq_true, Nat.reduceAdd, Nat.reduceSub, List.replicate_succ, List.replicate_zero, boolD_b, intD_i, isN_none, isN_int, isN_bool, isN_str, isN_tup, isN_lst, Bool.not_true, Bool.not_false, augD, add_int, sub_int, mul_int, fdiv_int, mod_int, mul_str, add_str, add_tup, add_lst, mul_lst, eq_int, ne_int, lt_int, gt_int, le_int, ge_int, eq_str, ne_str, len_str, len_lst, len_tup, abs_int, int_int, int_bool, min2_int, max2_int, tuple_lst, tuple_tup, list_lst, list_tup, slc_str, slc_lst, slc_tup, repS_one, repL_one, idx_t0, idx_t1, idx_t2, idx_l0, rg1_if, rg2_if, eq_self_str, eqv_bool, eq_nil, wipeE, isiD, lcS_v, forS_v, forS_t, lcS_t, app_if, ext_if, en_str, en_lst, items_str, items_lst, items_tup, Int.toNat_natCast, ev_lc2, lcS2_v, lcS2_t, tgV, tgVs, ev_rev, ev_itl, evI_rg3, rg3_if, List.append_nil, hideE, hideS])]
        try simp -dsimp -implicitDefEqProofs (disch := first | omega | (simp; omega)) only [ev_var, ev_cst, ev_tup, ev_lst, ev_bin, ev_neg, ev_not, ev_and, ev_or, ev_cmp, ev_isN, ev_notN, ev_chn, ev_ite, ev_idx, ev_slc, ev_call, ev_bl, ev_mt, ev_isi, ev_lc, evI_it, evI_rg1, evI_rg2, evI_enum, exec_asg, exec_own, exec_par, exec_aug, exec_app, exec_ext, exec_ins, exec_put, exec_aput, exec_ifs, exec_for_, exec_whl, exec_ret, exec_retn, exec_brk, exec_cnt, exec_pass, exec_close, evs_nil, evs_cons, evo_none, evo_some, evc_none, evc_some, execs_nil, execs_cons, nxt_nx, nxt_rt, nxt_bk, nxt_ct, List.length_cons, List.length_nil, List.map_cons, List.map_nil, bnd_r, lift_ret, Env.read, Env.keep, Sl.read, Sl.keep, List.cons_append, List.nil_append, List.getElem?_cons_zero, List.getElem?_cons_succ, List.set_cons_zero, List.set_cons_succ, bindT, bindTs, closeS, ownS, keepP, if_true, if_false, ↓reduceIte, Bool.false_eq_true, Nat.reduceAdd, Nat.reduceSub, List.replicate_succ, List.replicate_zero, boolD_b, intD_i, isN_none, isN_int, isN_bool, isN_str, isN_tup, isN_lst, Bool.not_true, Bool.not_false, augD, add_int, sub_int, mul_int, fdiv_int, mod_int, mul_str, add_str, add_tup, add_lst, mul_lst, eq_int, ne_int, lt_int, gt_int, le_int, ge_int, eq_str, ne_str, len_str, len_lst, len_tup, abs_int, int_int, int_bool, min2_int, max2_int, tuple_lst, tuple_tup, list_lst, list_tup, slc_str, slc_lst, slc_tup, repS_one, repL_one, idx_t0, idx_t1, idx_t2, idx_l0, rg1_if, rg2_if, eq_self_str, eqv_bool, eq_nil, wipeE, isiD, lcS_v, forS_v, forS_t, lcS_t, app_if, ext_if, en_str, en_lst, items_str, items_lst, items_tup, Int.toNat_natCast, ev_lc2, lcS2_v, lcS2_t, tgV, tgVs, ev_rev, ev_itl, evI_rg3, rg3_if, List.append_nil, hideE, hideS, lruns_eq (show (loudI row j).length ≤ 100 by omega), e1, List.length_map, List.length_range]
        rfl
    rw [h1, rg_len, show ((M : Int) + 2).toNat = M + 2 by omega]
    refine sure_ret (nx_go ?_)
    unfold t_1_16
    refine sure_seq ?_
    obtain ⟨b, b1, b2, b3⟩ := arg_min (offsF row ps) (M + 2) (by omega)
    have e1 := best_eq (k := 57) (show row.length ≤ 20 by omega) (show ps.length ≤ 20 by omega) (fun x hx => by have := mem x hx; omega) hM hle' (by omega) b1 b2 b3
    have e2 := min_vals b1 b2
    have e3 := index_vals (f := offsF row ps) b1 fun j hj => by have := b3 j hj; omega
    have e4 := off_eq (k := 58) (a := loudI row level) (b := ps) (by omega) (by omega) (fun x hx => by have := loud_in hx; omega) (fun x hx => by have := mem x hx; omega)
    have e5 := loff_eq (k := 58) (a := loudI row level) (b := ps) (by omega) (by omega) (fun x hx => by have := loud_in hx; omega) (fun x hx => by have := mem x hx; omega)
    try simp -dsimp -implicitDefEqProofs (disch := first | omega | (simp; omega)) only [ev_var, ev_cst, ev_tup, ev_lst, ev_bin, ev_neg, ev_not, ev_and, ev_or, ev_cmp, ev_isN, ev_notN, ev_chn, ev_ite, ev_idx, ev_slc, ev_call, ev_bl, ev_mt, ev_isi, ev_lc, evI_it, evI_rg1, evI_rg2, evI_enum, exec_asg, exec_own, exec_par, exec_aug, exec_app, exec_ext, exec_ins, exec_put, exec_aput, exec_ifs, exec_for_, exec_whl, exec_ret, exec_retn, exec_brk, exec_cnt, exec_pass, exec_close, evs_nil, evs_cons, evo_none, evo_some, evc_none, evc_some, execs_nil, execs_cons, nxt_nx, nxt_rt, nxt_bk, nxt_ct, List.length_cons, List.length_nil, List.map_cons, List.map_nil, bnd_r, lift_ret, Env.read, Env.keep, Sl.read, Sl.keep, List.cons_append, List.nil_append, List.getElem?_cons_zero, List.getElem?_cons_succ, List.set_cons_zero, List.set_cons_succ, bindT, bindTs, closeS, ownS, keepP, if_true, if_false, ↓reduceIte, Bool.false_eq_true, Nat.reduceAdd, Nat.reduceSub, List.replicate_succ, List.replicate_zero, boolD_b, intD_i, isN_none, isN_int, isN_bool, isN_str, isN_tup, isN_lst, Bool.not_true, Bool.not_false, augD, add_int, sub_int, mul_int, fdiv_int, mod_int, mul_str, add_str, add_tup, add_lst, mul_lst, eq_int, ne_int, lt_int, gt_int, le_int, ge_int, eq_str, ne_str, len_str, len_lst, len_tup, abs_int, int_int, int_bool, min2_int, max2_int, tuple_lst, tuple_tup, list_lst, list_tup, slc_str, slc_lst, slc_tup, repS_one, repL_one, idx_t0, idx_t1, idx_t2, idx_l0, rg1_if, rg2_if, eq_self_str, eqv_bool, eq_nil, wipeE, isiD, lcS_v, forS_v, forS_t, lcS_t, app_if, ext_if, en_str, en_lst, items_str, items_lst, items_tup, Int.toNat_natCast, ev_lc2, lcS2_v, lcS2_t, tgV, tgVs, ev_rev, ev_itl, evI_rg3, rg3_if, List.append_nil, hideE, hideS, bnd_assoc, e1, e2, e3, same2, e4, e5, sameIn]
    exact sure_nx (h ps _ _ asc mem len)
end
end Q.K41

set_option Elab.async false
set_option linter.all false
set_option maxRecDepth 100000
/-! K41P8: the law's body, the last. -/
namespace Q.K41
open PySem Q
theorem sameF {a b : Int} : cal T 60 f__law_same [fracD a b, fracD a b] = ret (.bool true) := same_self (T := T) t_same 59 _ rfl
section
variable {F0 s2 s3 s4 s5 s6 s7 s8 s9 s10 s11 s12 s13 s14 s15 s16 s17 s18 s19 s20 s21 s22 s23 s24 s25 s26 s27 s28 s29 s30 s31 : Sl} {Q : Fl → Prop}
theorem cov_fil {caps : List Cap} {m : Int} : (!(caps.filter fun c => decide (c.1 ≤ m) && decide (m < c.2.1)).isEmpty) = cov caps m := by rw [any_fil]; rfl
theorem g6 {ps : List Int} (asc : Asc ps) (mem : ∀ x ∈ ps, 0 ≤ x ∧ x < 16) (len : ps.length ≤ 16)
    (h : ∀ (caps : List Cap), CapsOk 4 caps → Sure (execs (cal T 60) t_1_21 [F0, .cl W, s2, s3, s4, s5, s6, s7, s8, s9, s10, s11, s12, s13, s14, s15, s16, .cl (.list ((runsI ps).map encP)), s18, .cl (.tuple (caps.map encC)), .cl (.list (ps.map .int)), .cl (.list ((toldI caps ps).map .int)), s22, s23, s24, s25, s26, s27, s28, s29, s30, s31]) Q) :
    Sure (execs (cal T 60) t_1_17 [F0, .cl W, s2, s3, s4, s5, s6, s7, s8, s9, s10, s11, s12, s13, s14, s15, s16, .cl (.list ((runsI ps).map encP)), s18, s19, s20, s21, s22, s23, s24, s25, s26, s27, s28, s29, s30, s31]) Q := by
  unfold t_1_17
  refine sure_seq ?_
  try simp -dsimp -implicitDefEqProofs (disch := first | omega | (simp; omega)) only [ev_var, ev_cst, ev_tup, ev_lst, ev_bin, ev_neg, ev_not, ev_and, ev_or, ev_cmp, ev_isN, ev_notN, ev_chn, ev_ite, ev_idx, ev_slc, ev_call, ev_bl, ev_mt, ev_isi, ev_lc, evI_it, evI_rg1, evI_rg2, evI_enum, exec_asg, exec_own, exec_par, exec_aug, exec_app, exec_ext, exec_ins, exec_put, exec_aput, exec_ifs, exec_for_, exec_whl, exec_ret, exec_retn, exec_brk, exec_cnt, exec_pass, exec_close, evs_nil, evs_cons, evo_none, evo_some, evc_none, evc_some, execs_nil, execs_cons, nxt_nx, nxt_rt, nxt_bk, nxt_ct, List.length_cons, List.length_nil, List.map_cons, List.map_nil, bnd_r, lift_ret, Env.read, Env.keep, Sl.read, Sl.keep, List.cons_append, List.nil_append, List.getElem?_cons_zero, List.getElem?_cons_succ, List.set_cons_zero, List.set_cons_succ, bindT, bindTs, closeS, ownS, keepP, if_true, if_false, ↓reduceIte, Bool.false_eq_true, Nat.reduceAdd, Nat.reduceSub, List.replicate_succ, List.replicate_zero, boolD_b, intD_i, isN_none, isN_int, isN_bool, isN_str, isN_tup, isN_lst, Bool.not_true, Bool.not_false, augD, add_int, sub_int, mul_int, fdiv_int, mod_int, mul_str, add_str, add_tup, add_lst, mul_lst, eq_int, ne_int, lt_int, gt_int, le_int, ge_int, eq_str, ne_str, len_str, len_lst, len_tup, abs_int, int_int, int_bool, min2_int, max2_int, tuple_lst, tuple_tup, list_lst, list_tup, slc_str, slc_lst, slc_tup, repS_one, repL_one, idx_t0, idx_t1, idx_t2, idx_l0, rg1_if, rg2_if, eq_self_str, eqv_bool, eq_nil, wipeE, isiD, lcS_v, forS_v, forS_t, lcS_t, app_if, ext_if, en_str, en_lst, items_str, items_lst, items_tup, Int.toNat_natCast, ev_lc2, lcS2_v, lcS2_t, tgV, tgVs, ev_rev, ev_itl, evI_rg3, rg3_if, List.append_nil, hideE, hideS, bnd_assoc]
  refine sure_bnd ((sure_captions (most := 4) t_next t_pick t_caps (by omega)).mono fun d hd => ?_)
  obtain ⟨caps, rfl, hc⟩ := hd
  have hcl := hc.len
  have a1 := runsI_len ps
  try simp -dsimp -implicitDefEqProofs (disch := first | omega | (simp; omega)) only [ev_var, ev_cst, ev_tup, ev_lst, ev_bin, ev_neg, ev_not, ev_and, ev_or, ev_cmp, ev_isN, ev_notN, ev_chn, ev_ite, ev_idx, ev_slc, ev_call, ev_bl, ev_mt, ev_isi, ev_lc, evI_it, evI_rg1, evI_rg2, evI_enum, exec_asg, exec_own, exec_par, exec_aug, exec_app, exec_ext, exec_ins, exec_put, exec_aput, exec_ifs, exec_for_, exec_whl, exec_ret, exec_retn, exec_brk, exec_cnt, exec_pass, exec_close, evs_nil, evs_cons, evo_none, evo_some, evc_none, evc_some, execs_nil, execs_cons, nxt_nx, nxt_rt, nxt_bk, nxt_ct, List.length_cons, List.length_nil, List.map_cons, List.map_nil, bnd_r, lift_ret, Env.read, Env.keep, Sl.read, Sl.keep, List.cons_append, List.nil_append, List.getElem?_cons_zero, List.getElem?_cons_succ, List.set_cons_zero, List.set_cons_succ, bindT, bindTs, closeS, ownS, keepP, if_true, if_false, ↓reduceIte, Bool.false_eq_true, Nat.reduceAdd, Nat.reduceSub, List.replicate_succ, List.replicate_zero, boolD_b, intD_i, isN_none, isN_int, isN_bool, isN_str, isN_tup, isN_lst, Bool.not_true, Bool.not_false, augD, add_int, sub_int, mul_int, fdiv_int, mod_int, mul_str, add_str, add_tup, add_lst, mul_lst, eq_int, ne_int, lt_int, gt_int, le_int, ge_int, eq_str, ne_str, len_str, len_lst, len_tup, abs_int, int_int, int_bool, min2_int, max2_int, tuple_lst, tuple_tup, list_lst, list_tup, slc_str, slc_lst, slc_tup, repS_one, repL_one, idx_t0, idx_t1, idx_t2, idx_l0, rg1_if, rg2_if, eq_self_str, eqv_bool, eq_nil, wipeE, isiD, lcS_v, forS_v, forS_t, lcS_t, app_if, ext_if, en_str, en_lst, items_str, items_lst, items_tup, Int.toNat_natCast, ev_lc2, lcS2_v, lcS2_t, tgV, tgVs, ev_rev, ev_itl, evI_rg3, rg3_if, List.append_nil, hideE, hideS, bnd_assoc]
  refine sure_nx ?_
  unfold t_1_18
  refine sure_seq ?_
  have e1 := lplaces_eq (k := 59) (rs := runsI ps) (by omega) (runs_ok (n := 100) fun x hx => by have := mem x hx; omega)
  rw [pl_runs] at e1
  try simp -dsimp -implicitDefEqProofs (disch := first | omega | (simp; omega)) only [ev_var, ev_cst, ev_tup, ev_lst, ev_bin, ev_neg, ev_not, ev_and, ev_or, ev_cmp, ev_isN, ev_notN, ev_chn, ev_ite, ev_idx, ev_slc, ev_call, ev_bl, ev_mt, ev_isi, ev_lc, evI_it, evI_rg1, evI_rg2, evI_enum, exec_asg, exec_own, exec_par, exec_aug, exec_app, exec_ext, exec_ins, exec_put, exec_aput, exec_ifs, exec_for_, exec_whl, exec_ret, exec_retn, exec_brk, exec_cnt, exec_pass, exec_close, evs_nil, evs_cons, evo_none, evo_some, evc_none, evc_some, execs_nil, execs_cons, nxt_nx, nxt_rt, nxt_bk, nxt_ct, List.length_cons, List.length_nil, List.map_cons, List.map_nil, bnd_r, lift_ret, Env.read, Env.keep, Sl.read, Sl.keep, List.cons_append, List.nil_append, List.getElem?_cons_zero, List.getElem?_cons_succ, List.set_cons_zero, List.set_cons_succ, bindT, bindTs, closeS, ownS, keepP, if_true, if_false, ↓reduceIte, Bool.false_eq_true, Nat.reduceAdd, Nat.reduceSub, List.replicate_succ, List.replicate_zero, boolD_b, intD_i, isN_none, isN_int, isN_bool, isN_str, isN_tup, isN_lst, Bool.not_true, Bool.not_false, augD, add_int, sub_int, mul_int, fdiv_int, mod_int, mul_str, add_str, add_tup, add_lst, mul_lst, eq_int, ne_int, lt_int, gt_int, le_int, ge_int, eq_str, ne_str, len_str, len_lst, len_tup, abs_int, int_int, int_bool, min2_int, max2_int, tuple_lst, tuple_tup, list_lst, list_tup, slc_str, slc_lst, slc_tup, repS_one, repL_one, idx_t0, idx_t1, idx_t2, idx_l0, rg1_if, rg2_if, eq_self_str, eqv_bool, eq_nil, wipeE, isiD, lcS_v, forS_v, forS_t, lcS_t, app_if, ext_if, en_str, en_lst, items_str, items_lst, items_tup, Int.toNat_natCast, ev_lc2, lcS2_v, lcS2_t, tgV, tgVs, ev_rev, ev_itl, evI_rg3, rg3_if, List.append_nil, hideE, hideS, bnd_assoc, e1]
  refine sure_nx ?_
  unfold t_1_19
  refine sure_seq ?_
  try simp -dsimp -implicitDefEqProofs (disch := first | omega | (simp; omega)) only [ev_var, ev_cst, ev_tup, ev_lst, ev_bin, ev_neg, ev_not, ev_and, ev_or, ev_cmp, ev_isN, ev_notN, ev_chn, ev_ite, ev_idx, ev_slc, ev_call, ev_bl, ev_mt, ev_isi, ev_lc, evI_it, evI_rg1, evI_rg2, evI_enum, exec_asg, exec_own, exec_par, exec_aug, exec_app, exec_ext, exec_ins, exec_put, exec_aput, exec_ifs, exec_for_, exec_whl, exec_ret, exec_retn, exec_brk, exec_cnt, exec_pass, exec_close, evs_nil, evs_cons, evo_none, evo_some, evc_none, evc_some, execs_nil, execs_cons, nxt_nx, nxt_rt, nxt_bk, nxt_ct, List.length_cons, List.length_nil, List.map_cons, List.map_nil, bnd_r, lift_ret, Env.read, Env.keep, Sl.read, Sl.keep, List.cons_append, List.nil_append, List.getElem?_cons_zero, List.getElem?_cons_succ, List.set_cons_zero, List.set_cons_succ, bindT, bindTs, closeS, ownS, keepP, if_true, if_false, ↓reduceIte, Bool.false_eq_true, Nat.reduceAdd, Nat.reduceSub, List.replicate_succ, List.replicate_zero, boolD_b, intD_i, isN_none, isN_int, isN_bool, isN_str, isN_tup, isN_lst, Bool.not_true, Bool.not_false, augD, add_int, sub_int, mul_int, fdiv_int, mod_int, mul_str, add_str, add_tup, add_lst, mul_lst, eq_int, ne_int, lt_int, gt_int, le_int, ge_int, eq_str, ne_str, len_str, len_lst, len_tup, abs_int, int_int, int_bool, min2_int, max2_int, tuple_lst, tuple_tup, list_lst, list_tup, slc_str, slc_lst, slc_tup, repS_one, repL_one, idx_t0, idx_t1, idx_t2, idx_l0, rg1_if, rg2_if, eq_self_str, eqv_bool, eq_nil, wipeE, isiD, lcS_v, forS_v, forS_t, lcS_t, app_if, ext_if, en_str, en_lst, items_str, items_lst, items_tup, Int.toNat_natCast, ev_lc2, lcS2_v, lcS2_t, tgV, tgVs, ev_rev, ev_itl, evI_rg3, rg3_if, List.append_nil, hideE, hideS, bnd_assoc]
  rw [lcL_fil .int (fun x => cov caps (100 * x)) .int fun x hx => by
    rw [lcS_v]
    unfold c_law_27 e_law_24
    try simp -dsimp -implicitDefEqProofs (disch := first | omega | (simp; omega)) only [ev_var, ev_cst, ev_tup, ev_lst, ev_bin, ev_neg, ev_not, ev_and, ev_or, ev_cmp, ev_isN, ev_notN, ev_chn, ev_ite, ev_idx, ev_slc, ev_call, ev_bl, ev_mt, ev_isi, ev_lc, evI_it, evI_rg1, evI_rg2, evI_enum, exec_asg, exec_own, exec_par, exec_aug, exec_app, exec_ext, exec_ins, exec_put, exec_aput, exec_ifs, exec_for_, exec_whl, exec_ret, exec_retn, exec_brk, exec_cnt, exec_pass, exec_close, evs_nil, evs_cons, evo_none, evo_some, evc_none, evc_some, execs_nil, execs_cons, nxt_nx, nxt_rt, nxt_bk, nxt_ct, List.length_cons, List.length_nil, List.map_cons, List.map_nil, bnd_r, lift_ret, Env.read, Env.keep, Sl.read, Sl.keep, List.cons_append, List.nil_append, List.getElem?_cons_zero, List.getElem?_cons_succ, List.set_cons_zero, List.set_cons_succ, bindT, bindTs, closeS, ownS, keepP, if_true, if_false, ↓reduceIte, Bool.false_eq_true, Nat.reduceAdd, Nat.reduceSub, List.replicate_succ, List.replicate_zero, boolD_b, intD_i, isN_none, isN_int, isN_bool, isN_str, isN_tup, isN_lst, Bool.not_true, Bool.not_false, augD, add_int, sub_int, mul_int, fdiv_int, mod_int, mul_str, add_str, add_tup, add_lst, mul_lst, eq_int, ne_int, lt_int, gt_int, le_int, ge_int, eq_str, ne_str, len_str, len_lst, len_tup, abs_int, int_int, int_bool, min2_int, max2_int, tuple_lst, tuple_tup, list_lst, list_tup, slc_str, slc_lst, slc_tup, repS_one, repL_one, idx_t0, idx_t1, idx_t2, idx_l0, rg1_if, rg2_if, eq_self_str, eqv_bool, eq_nil, wipeE, isiD, lcS_v, forS_v, forS_t, lcS_t, app_if, ext_if, en_str, en_lst, items_str, items_lst, items_tup, Int.toNat_natCast, ev_lc2, lcS2_v, lcS2_t, tgV, tgVs, ev_rev, ev_itl, evI_rg3, rg3_if, List.append_nil, hideE, hideS]
    rw [lcL_fil encC (fun c => decide (c.1 ≤ 100 * x) && decide (100 * x < c.2.1)) (fun _ => .int 1) fun c hc => by
      rw [encC, lcS_t (σ1 := [F0, .cl W, s2, s3, .cl (.int x), s5, s6, s7, s8, s9, s10, s11, s12, s13, s14, s15, s16, .cl (.list ((runsI ps).map encP)), s18, .cl (.tuple (caps.map encC)), .cl (.list (ps.map .int)), s21, .cl (.int c.1), .cl (.int c.2.1), .cl (encL c.2.2), s25, s26, s27, s28, s29, s30, s31]) rfl]
      unfold c_law_26 e_law_25
      by_cases q : c.1 ≤ 100 * x
      · try simp -dsimp -implicitDefEqProofs (disch := first | omega | (simp; omega)) only [ev_var, ev_cst, ev_tup, ev_lst, ev_bin, ev_neg, ev_not, ev_and, ev_or, ev_cmp, ev_isN, ev_notN, ev_chn, ev_ite, ev_idx, ev_slc, ev_call, ev_bl, ev_mt, ev_isi, ev_lc, evI_it, evI_rg1, evI_rg2, evI_enum, exec_asg, exec_own, exec_par, exec_aug, exec_app, exec_ext, exec_ins, exec_put, exec_aput, exec_ifs, exec_for_, exec_whl, exec_ret, exec_retn, exec_brk, exec_cnt, exec_pass, exec_close, evs_nil, evs_cons, evo_none, evo_some, evc_none, evc_some, execs_nil, execs_cons, nxt_nx, nxt_rt, nxt_bk, nxt_ct, List.length_cons, List.length_nil, List.map_cons, List.map_nil, bnd_r, lift_ret, Env.read, Env.keep, Sl.read, Sl.keep, List.cons_append, List.nil_append, List.getElem?_cons_zero, List.getElem?_cons_succ, List.set_cons_zero, List.set_cons_succ, bindT, bindTs, closeS, ownS, keepP, if_true, if_false, ↓reduceIte, Bool.false_eq_true, Nat.reduceAdd, Nat.reduceSub, List.replicate_succ, List.replicate_zero, boolD_b, intD_i, isN_none, isN_int, isN_bool, isN_str, isN_tup, isN_lst, Bool.not_true, Bool.not_false, augD, add_int, sub_int, mul_int, fdiv_int, mod_int, mul_str, add_str, add_tup, add_lst, mul_lst, eq_int, ne_int, lt_int, gt_int, le_int, ge_int, eq_str, ne_str, len_str, len_lst, len_tup, abs_int, int_int, int_bool, min2_int, max2_int, tuple_lst, tuple_tup, list_lst, list_tup, slc_str, slc_lst, slc_tup, repS_one, repL_one, idx_t0, idx_t1, idx_t2, idx_l0, rg1_if, rg2_if, eq_self_str, eqv_bool, eq_nil, wipeE, isiD, lcS_v, forS_v, forS_t, lcS_t, app_if, ext_if, en_str, en_lst, items_str, items_lst, items_tup, Int.toNat_natCast, ev_lc2, lcS2_v, lcS2_t, tgV, tgVs, ev_rev, ev_itl, evI_rg3, rg3_if, List.append_nil, hideE, hideS, q, decide_true, Bool.true_and, ret_ite]
      · try simp -dsimp -implicitDefEqProofs (disch := first | omega | (simp; omega)) only [ev_var, ev_cst, ev_tup, ev_lst, ev_bin, ev_neg, ev_not, ev_and, ev_or, ev_cmp, ev_isN, ev_notN, ev_chn, ev_ite, ev_idx, ev_slc, ev_call, ev_bl, ev_mt, ev_isi, ev_lc, evI_it, evI_rg1, evI_rg2, evI_enum, exec_asg, exec_own, exec_par, exec_aug, exec_app, exec_ext, exec_ins, exec_put, exec_aput, exec_ifs, exec_for_, exec_whl, exec_ret, exec_retn, exec_brk, exec_cnt, exec_pass, exec_close, evs_nil, evs_cons, evo_none, evo_some, evc_none, evc_some, execs_nil, execs_cons, nxt_nx, nxt_rt, nxt_bk, nxt_ct, List.length_cons, List.length_nil, List.map_cons, List.map_nil, bnd_r, lift_ret, Env.read, Env.keep, Sl.read, Sl.keep, List.cons_append, List.nil_append, List.getElem?_cons_zero, List.getElem?_cons_succ, List.set_cons_zero, List.set_cons_succ, bindT, bindTs, closeS, ownS, keepP, if_true, if_false, ↓reduceIte, Bool.false_eq_true, Nat.reduceAdd, Nat.reduceSub, List.replicate_succ, List.replicate_zero, boolD_b, intD_i, isN_none, isN_int, isN_bool, isN_str, isN_tup, isN_lst, Bool.not_true, Bool.not_false, augD, add_int, sub_int, mul_int, fdiv_int, mod_int, mul_str, add_str, add_tup, add_lst, mul_lst, eq_int, ne_int, lt_int, gt_int, le_int, ge_int, eq_str, ne_str, len_str, len_lst, len_tup, abs_int, int_int, int_bool, min2_int, max2_int, tuple_lst, tuple_tup, list_lst, list_tup, slc_str, slc_lst, slc_tup, repS_one, repL_one, idx_t0, idx_t1, idx_t2, idx_l0, rg1_if, rg2_if, eq_self_str, eqv_bool, eq_nil, wipeE, isiD, lcS_v, forS_v, forS_t, lcS_t, app_if, ext_if, en_str, en_lst, items_str, items_lst, items_tup, Int.toNat_natCast, ev_lc2, lcS2_v, lcS2_t, tgV, tgVs, ev_rev, ev_itl, evI_rg3, rg3_if, List.append_nil, hideE, hideS, q, decide_false, Bool.false_and]]
    try simp -dsimp -implicitDefEqProofs (disch := first | omega | (simp; omega)) only [ev_var, ev_cst, ev_tup, ev_lst, ev_bin, ev_neg, ev_not, ev_and, ev_or, ev_cmp, ev_isN, ev_notN, ev_chn, ev_ite, ev_idx, ev_slc, ev_call, ev_bl, ev_mt, ev_isi, ev_lc, evI_it, evI_rg1, evI_rg2, evI_enum, exec_asg, exec_own, exec_par, exec_aug, exec_app, exec_ext, exec_ins, exec_put, exec_aput, exec_ifs, exec_for_, exec_whl, exec_ret, exec_retn, exec_brk, exec_cnt, exec_pass, exec_close, evs_nil, evs_cons, evo_none, evo_some, evc_none, evc_some, execs_nil, execs_cons, nxt_nx, nxt_rt, nxt_bk, nxt_ct, List.length_cons, List.length_nil, List.map_cons, List.map_nil, bnd_r, lift_ret, Env.read, Env.keep, Sl.read, Sl.keep, List.cons_append, List.nil_append, List.getElem?_cons_zero, List.getElem?_cons_succ, List.set_cons_zero, List.set_cons_succ, bindT, bindTs, closeS, ownS, keepP, if_true, if_false, ↓reduceIte, Bool.false_eq_true, Nat.reduceAdd, Nat.reduceSub, List.replicate_succ, List.replicate_zero, boolD_b, intD_i, isN_none, isN_int, isN_bool, isN_str, isN_tup, isN_lst, Bool.not_true, Bool.not_false, augD, add_int, sub_int, mul_int, fdiv_int, mod_int, mul_str, add_str, add_tup, add_lst, mul_lst, eq_int, ne_int, lt_int, gt_int, le_int, ge_int, eq_str, ne_str, len_str, len_lst, len_tup, abs_int, int_int, int_bool, min2_int, max2_int, tuple_lst, tuple_tup, list_lst, list_tup, slc_str, slc_lst, slc_tup, repS_one, repL_one, idx_t0, idx_t1, idx_t2, idx_l0, rg1_if, rg2_if, eq_self_str, eqv_bool, eq_nil, wipeE, isiD, lcS_v, forS_v, forS_t, lcS_t, app_if, ext_if, en_str, en_lst, items_str, items_lst, items_tup, Int.toNat_natCast, ev_lc2, lcS2_v, lcS2_t, tgV, tgVs, ev_rev, ev_itl, evI_rg3, rg3_if, List.append_nil, hideE, hideS, ne_cst (d := .int 1) rfl, cov_fil, ret_ite]]
  try simp -dsimp -implicitDefEqProofs (disch := first | omega | (simp; omega)) only [ev_var, ev_cst, ev_tup, ev_lst, ev_bin, ev_neg, ev_not, ev_and, ev_or, ev_cmp, ev_isN, ev_notN, ev_chn, ev_ite, ev_idx, ev_slc, ev_call, ev_bl, ev_mt, ev_isi, ev_lc, evI_it, evI_rg1, evI_rg2, evI_enum, exec_asg, exec_own, exec_par, exec_aug, exec_app, exec_ext, exec_ins, exec_put, exec_aput, exec_ifs, exec_for_, exec_whl, exec_ret, exec_retn, exec_brk, exec_cnt, exec_pass, exec_close, evs_nil, evs_cons, evo_none, evo_some, evc_none, evc_some, execs_nil, execs_cons, nxt_nx, nxt_rt, nxt_bk, nxt_ct, List.length_cons, List.length_nil, List.map_cons, List.map_nil, bnd_r, lift_ret, Env.read, Env.keep, Sl.read, Sl.keep, List.cons_append, List.nil_append, List.getElem?_cons_zero, List.getElem?_cons_succ, List.set_cons_zero, List.set_cons_succ, bindT, bindTs, closeS, ownS, keepP, if_true, if_false, ↓reduceIte, Bool.false_eq_true, Nat.reduceAdd, Nat.reduceSub, List.replicate_succ, List.replicate_zero, boolD_b, intD_i, isN_none, isN_int, isN_bool, isN_str, isN_tup, isN_lst, Bool.not_true, Bool.not_false, augD, add_int, sub_int, mul_int, fdiv_int, mod_int, mul_str, add_str, add_tup, add_lst, mul_lst, eq_int, ne_int, lt_int, gt_int, le_int, ge_int, eq_str, ne_str, len_str, len_lst, len_tup, abs_int, int_int, int_bool, min2_int, max2_int, tuple_lst, tuple_tup, list_lst, list_tup, slc_str, slc_lst, slc_tup, repS_one, repL_one, idx_t0, idx_t1, idx_t2, idx_l0, rg1_if, rg2_if, eq_self_str, eqv_bool, eq_nil, wipeE, isiD, lcS_v, forS_v, forS_t, lcS_t, app_if, ext_if, en_str, en_lst, items_str, items_lst, items_tup, Int.toNat_natCast, ev_lc2, lcS2_v, lcS2_t, tgV, tgVs, ev_rev, ev_itl, evI_rg3, rg3_if, List.append_nil, hideE, hideS, bnd_assoc]
  refine sure_nx ?_
  unfold t_1_20
  refine sure_seq ?_
  have e2 := covered_eq (k := 57) (caps := caps) (ps := ps) (by omega) (by omega) (fun x hx => by have := mem x hx; omega)
  rw [show ps.filter (fun x => cov caps (100 * x)) = toldI caps ps from rfl]
  cases ps with
  | nil =>
    rw [if_pos rfl] at e2
    try simp -dsimp -implicitDefEqProofs (disch := first | omega | (simp; omega)) only [ev_var, ev_cst, ev_tup, ev_lst, ev_bin, ev_neg, ev_not, ev_and, ev_or, ev_cmp, ev_isN, ev_notN, ev_chn, ev_ite, ev_idx, ev_slc, ev_call, ev_bl, ev_mt, ev_isi, ev_lc, evI_it, evI_rg1, evI_rg2, evI_enum, exec_asg, exec_own, exec_par, exec_aug, exec_app, exec_ext, exec_ins, exec_put, exec_aput, exec_ifs, exec_for_, exec_whl, exec_ret, exec_retn, exec_brk, exec_cnt, exec_pass, exec_close, evs_nil, evs_cons, evo_none, evo_some, evc_none, evc_some, execs_nil, execs_cons, nxt_nx, nxt_rt, nxt_bk, nxt_ct, List.length_cons, List.length_nil, List.map_cons, List.map_nil, bnd_r, lift_ret, Env.read, Env.keep, Sl.read, Sl.keep, List.cons_append, List.nil_append, List.getElem?_cons_zero, List.getElem?_cons_succ, List.set_cons_zero, List.set_cons_succ, bindT, bindTs, closeS, ownS, keepP, if_true, if_false, ↓reduceIte, Bool.false_eq_true, Nat.reduceAdd, Nat.reduceSub, List.replicate_succ, List.replicate_zero, boolD_b, intD_i, isN_none, isN_int, isN_bool, isN_str, isN_tup, isN_lst, Bool.not_true, Bool.not_false, augD, add_int, sub_int, mul_int, fdiv_int, mod_int, mul_str, add_str, add_tup, add_lst, mul_lst, eq_int, ne_int, lt_int, gt_int, le_int, ge_int, eq_str, ne_str, len_str, len_lst, len_tup, abs_int, int_int, int_bool, min2_int, max2_int, tuple_lst, tuple_tup, list_lst, list_tup, slc_str, slc_lst, slc_tup, repS_one, repL_one, idx_t0, idx_t1, idx_t2, idx_l0, rg1_if, rg2_if, eq_self_str, eqv_bool, eq_nil, wipeE, isiD, lcS_v, forS_v, forS_t, lcS_t, app_if, ext_if, en_str, en_lst, items_str, items_lst, items_tup, Int.toNat_natCast, ev_lc2, lcS2_v, lcS2_t, tgV, tgVs, ev_rev, ev_itl, evI_rg3, rg3_if, List.append_nil, hideE, hideS, bnd_assoc, e2, show cmpD .ne (.list []) (.list []) = some (.bool false) from rfl, same2]
    exact sure_nx (h caps hc)
  | cons x r =>
    rw [if_neg (by simp)] at e2
    have ne : cmpD .ne (.list ((x :: r).map PyData.int)) (.list []) = some (.bool true) := ne_ints (l := x :: r)
    have e3 := lfraction_eq (k := 59) t_lfrac (a := ((toldI caps (x :: r)).length : Int)) (b := (((x :: r).length : Nat) : Int)) (by simp at len ⊢; omega)
    generalize x :: r = ps at *
    try simp -dsimp -implicitDefEqProofs (disch := first | omega | (simp; omega)) only [ev_var, ev_cst, ev_tup, ev_lst, ev_bin, ev_neg, ev_not, ev_and, ev_or, ev_cmp, ev_isN, ev_notN, ev_chn, ev_ite, ev_idx, ev_slc, ev_call, ev_bl, ev_mt, ev_isi, ev_lc, evI_it, evI_rg1, evI_rg2, evI_enum, exec_asg, exec_own, exec_par, exec_aug, exec_app, exec_ext, exec_ins, exec_put, exec_aput, exec_ifs, exec_for_, exec_whl, exec_ret, exec_retn, exec_brk, exec_cnt, exec_pass, exec_close, evs_nil, evs_cons, evo_none, evo_some, evc_none, evc_some, execs_nil, execs_cons, nxt_nx, nxt_rt, nxt_bk, nxt_ct, List.length_cons, List.length_nil, List.map_cons, List.map_nil, bnd_r, lift_ret, Env.read, Env.keep, Sl.read, Sl.keep, List.cons_append, List.nil_append, List.getElem?_cons_zero, List.getElem?_cons_succ, List.set_cons_zero, List.set_cons_succ, bindT, bindTs, closeS, ownS, keepP, if_true, if_false, ↓reduceIte, Bool.false_eq_true, Nat.reduceAdd, Nat.reduceSub, List.replicate_succ, List.replicate_zero, boolD_b, intD_i, isN_none, isN_int, isN_bool, isN_str, isN_tup, isN_lst, Bool.not_true, Bool.not_false, augD, add_int, sub_int, mul_int, fdiv_int, mod_int, mul_str, add_str, add_tup, add_lst, mul_lst, eq_int, ne_int, lt_int, gt_int, le_int, ge_int, eq_str, ne_str, len_str, len_lst, len_tup, abs_int, int_int, int_bool, min2_int, max2_int, tuple_lst, tuple_tup, list_lst, list_tup, slc_str, slc_lst, slc_tup, repS_one, repL_one, idx_t0, idx_t1, idx_t2, idx_l0, rg1_if, rg2_if, eq_self_str, eqv_bool, eq_nil, wipeE, isiD, lcS_v, forS_v, forS_t, lcS_t, app_if, ext_if, en_str, en_lst, items_str, items_lst, items_tup, Int.toNat_natCast, ev_lc2, lcS2_v, lcS2_t, tgV, tgVs, ev_rev, ev_itl, evI_rg3, rg3_if, List.append_nil, hideE, hideS, bnd_assoc, e2, ne, List.length_map, e3, sameF]
    exact sure_nx (h caps hc)
theorem g7 {ps : List Int} {caps : List Cap} (hc : CapsOk 4 caps) (mem : ∀ x ∈ ps, 0 ≤ x ∧ x < 16) (len : ps.length ≤ 16)
    (h : ∀ (s25 : Sl), Sure (execs (cal T 60) t_1_23 [F0, .cl W, s2, s3, s4, s5, s6, s7, s8, s9, s10, s11, s12, s13, s14, s15, s16, .cl (.list ((runsI ps).map encP)), s18, .cl (.tuple (caps.map encC)), .cl (.list (ps.map .int)), .cl (.list ((toldI caps ps).map .int)), s22, s23, s24, s25, s26, s27, s28, s29, s30, s31]) Q) :
    Sure (execs (cal T 60) t_1_21 [F0, .cl W, s2, s3, s4, s5, s6, s7, s8, s9, s10, s11, s12, s13, s14, s15, s16, .cl (.list ((runsI ps).map encP)), s18, .cl (.tuple (caps.map encC)), .cl (.list (ps.map .int)), .cl (.list ((toldI caps ps).map .int)), s22, s23, s24, s25, s26, s27, s28, s29, s30, s31]) Q := by
  have hcl := hc.len
  have a1 := runsI_len ps
  have hok := runs_ok (n := 100) (ps := ps) fun x hx => by have := mem x hx; omega
  have l3 := List.length_filter_le (bareB caps) (runsI ps)
  unfold t_1_21
  refine sure_seq ?_
  try simp -dsimp -implicitDefEqProofs (disch := first | omega | (simp; omega)) only [ev_var, ev_cst, ev_tup, ev_lst, ev_bin, ev_neg, ev_not, ev_and, ev_or, ev_cmp, ev_isN, ev_notN, ev_chn, ev_ite, ev_idx, ev_slc, ev_call, ev_bl, ev_mt, ev_isi, ev_lc, evI_it, evI_rg1, evI_rg2, evI_enum, exec_asg, exec_own, exec_par, exec_aug, exec_app, exec_ext, exec_ins, exec_put, exec_aput, exec_ifs, exec_for_, exec_whl, exec_ret, exec_retn, exec_brk, exec_cnt, exec_pass, exec_close, evs_nil, evs_cons, evo_none, evo_some, evc_none, evc_some, execs_nil, execs_cons, nxt_nx, nxt_rt, nxt_bk, nxt_ct, List.length_cons, List.length_nil, List.map_cons, List.map_nil, bnd_r, lift_ret, Env.read, Env.keep, Sl.read, Sl.keep, List.cons_append, List.nil_append, List.getElem?_cons_zero, List.getElem?_cons_succ, List.set_cons_zero, List.set_cons_succ, bindT, bindTs, closeS, ownS, keepP, if_true, if_false, ↓reduceIte, Bool.false_eq_true, Nat.reduceAdd, Nat.reduceSub, List.replicate_succ, List.replicate_zero, boolD_b, intD_i, isN_none, isN_int, isN_bool, isN_str, isN_tup, isN_lst, Bool.not_true, Bool.not_false, augD, add_int, sub_int, mul_int, fdiv_int, mod_int, mul_str, add_str, add_tup, add_lst, mul_lst, eq_int, ne_int, lt_int, gt_int, le_int, ge_int, eq_str, ne_str, len_str, len_lst, len_tup, abs_int, int_int, int_bool, min2_int, max2_int, tuple_lst, tuple_tup, list_lst, list_tup, slc_str, slc_lst, slc_tup, repS_one, repL_one, idx_t0, idx_t1, idx_t2, idx_l0, rg1_if, rg2_if, eq_self_str, eqv_bool, eq_nil, wipeE, isiD, lcS_v, forS_v, forS_t, lcS_t, app_if, ext_if, en_str, en_lst, items_str, items_lst, items_tup, Int.toNat_natCast, ev_lc2, lcS2_v, lcS2_t, tgV, tgVs, ev_rev, ev_itl, evI_rg3, rg3_if, List.append_nil, hideE, hideS, bnd_assoc]
  rw [lc_P1 (f := bareB caps) (fun p hp => by
    have p1 := hok p hp
    unfold c_law_31
    try simp -dsimp -implicitDefEqProofs (disch := first | omega | (simp; omega)) only [ev_var, ev_cst, ev_tup, ev_lst, ev_bin, ev_neg, ev_not, ev_and, ev_or, ev_cmp, ev_isN, ev_notN, ev_chn, ev_ite, ev_idx, ev_slc, ev_call, ev_bl, ev_mt, ev_isi, ev_lc, evI_it, evI_rg1, evI_rg2, evI_enum, exec_asg, exec_own, exec_par, exec_aug, exec_app, exec_ext, exec_ins, exec_put, exec_aput, exec_ifs, exec_for_, exec_whl, exec_ret, exec_retn, exec_brk, exec_cnt, exec_pass, exec_close, evs_nil, evs_cons, evo_none, evo_some, evc_none, evc_some, execs_nil, execs_cons, nxt_nx, nxt_rt, nxt_bk, nxt_ct, List.length_cons, List.length_nil, List.map_cons, List.map_nil, bnd_r, lift_ret, Env.read, Env.keep, Sl.read, Sl.keep, List.cons_append, List.nil_append, List.getElem?_cons_zero, List.getElem?_cons_succ, List.set_cons_zero, List.set_cons_succ, bindT, bindTs, closeS, ownS, keepP, if_true, if_false, ↓reduceIte, Bool.false_eq_true, Nat.reduceAdd, Nat.reduceSub, List.replicate_succ, List.replicate_zero, boolD_b, intD_i, isN_none, isN_int, isN_bool, isN_str, isN_tup, isN_lst, Bool.not_true, Bool.not_false, augD, add_int, sub_int, mul_int, fdiv_int, mod_int, mul_str, add_str, add_tup, add_lst, mul_lst, eq_int, ne_int, lt_int, gt_int, le_int, ge_int, eq_str, ne_str, len_str, len_lst, len_tup, abs_int, int_int, int_bool, min2_int, max2_int, tuple_lst, tuple_tup, list_lst, list_tup, slc_str, slc_lst, slc_tup, repS_one, repL_one, idx_t0, idx_t1, idx_t2, idx_l0, rg1_if, rg2_if, eq_self_str, eqv_bool, eq_nil, wipeE, isiD, lcS_v, forS_v, forS_t, lcS_t, app_if, ext_if, en_str, en_lst, items_str, items_lst, items_tup, Int.toNat_natCast, ev_lc2, lcS2_v, lcS2_t, tgV, tgVs, ev_rev, ev_itl, evI_rg3, rg3_if, List.append_nil, hideE, hideS]
    rw [rgD_I, lcL_fil .int (fun x => decide (x ∈ toldI caps ps)) .int fun x hx => by
      rw [lcS_v]
      unfold c_law_30 e_law_29
      try simp -dsimp -implicitDefEqProofs (disch := first | omega | (simp; omega)) only [ev_var, ev_cst, ev_tup, ev_lst, ev_bin, ev_neg, ev_not, ev_and, ev_or, ev_cmp, ev_isN, ev_notN, ev_chn, ev_ite, ev_idx, ev_slc, ev_call, ev_bl, ev_mt, ev_isi, ev_lc, evI_it, evI_rg1, evI_rg2, evI_enum, exec_asg, exec_own, exec_par, exec_aug, exec_app, exec_ext, exec_ins, exec_put, exec_aput, exec_ifs, exec_for_, exec_whl, exec_ret, exec_retn, exec_brk, exec_cnt, exec_pass, exec_close, evs_nil, evs_cons, evo_none, evo_some, evc_none, evc_some, execs_nil, execs_cons, nxt_nx, nxt_rt, nxt_bk, nxt_ct, List.length_cons, List.length_nil, List.map_cons, List.map_nil, bnd_r, lift_ret, Env.read, Env.keep, Sl.read, Sl.keep, List.cons_append, List.nil_append, List.getElem?_cons_zero, List.getElem?_cons_succ, List.set_cons_zero, List.set_cons_succ, bindT, bindTs, closeS, ownS, keepP, if_true, if_false, ↓reduceIte, Bool.false_eq_true, Nat.reduceAdd, Nat.reduceSub, List.replicate_succ, List.replicate_zero, boolD_b, intD_i, isN_none, isN_int, isN_bool, isN_str, isN_tup, isN_lst, Bool.not_true, Bool.not_false, augD, add_int, sub_int, mul_int, fdiv_int, mod_int, mul_str, add_str, add_tup, add_lst, mul_lst, eq_int, ne_int, lt_int, gt_int, le_int, ge_int, eq_str, ne_str, len_str, len_lst, len_tup, abs_int, int_int, int_bool, min2_int, max2_int, tuple_lst, tuple_tup, list_lst, list_tup, slc_str, slc_lst, slc_tup, repS_one, repL_one, idx_t0, idx_t1, idx_t2, idx_l0, rg1_if, rg2_if, eq_self_str, eqv_bool, eq_nil, wipeE, isiD, lcS_v, forS_v, forS_t, lcS_t, app_if, ext_if, en_str, en_lst, items_str, items_lst, items_tup, Int.toNat_natCast, ev_lc2, lcS2_v, lcS2_t, tgV, tgVs, ev_rev, ev_itl, evI_rg3, rg3_if, List.append_nil, hideE, hideS, in_ints, ret_ite]]
    try simp -dsimp -implicitDefEqProofs (disch := first | omega | (simp; omega)) only [ev_var, ev_cst, ev_tup, ev_lst, ev_bin, ev_neg, ev_not, ev_and, ev_or, ev_cmp, ev_isN, ev_notN, ev_chn, ev_ite, ev_idx, ev_slc, ev_call, ev_bl, ev_mt, ev_isi, ev_lc, evI_it, evI_rg1, evI_rg2, evI_enum, exec_asg, exec_own, exec_par, exec_aug, exec_app, exec_ext, exec_ins, exec_put, exec_aput, exec_ifs, exec_for_, exec_whl, exec_ret, exec_retn, exec_brk, exec_cnt, exec_pass, exec_close, evs_nil, evs_cons, evo_none, evo_some, evc_none, evc_some, execs_nil, execs_cons, nxt_nx, nxt_rt, nxt_bk, nxt_ct, List.length_cons, List.length_nil, List.map_cons, List.map_nil, bnd_r, lift_ret, Env.read, Env.keep, Sl.read, Sl.keep, List.cons_append, List.nil_append, List.getElem?_cons_zero, List.getElem?_cons_succ, List.set_cons_zero, List.set_cons_succ, bindT, bindTs, closeS, ownS, keepP, if_true, if_false, ↓reduceIte, Bool.false_eq_true, Nat.reduceAdd, Nat.reduceSub, List.replicate_succ, List.replicate_zero, boolD_b, intD_i, isN_none, isN_int, isN_bool, isN_str, isN_tup, isN_lst, Bool.not_true, Bool.not_false, augD, add_int, sub_int, mul_int, fdiv_int, mod_int, mul_str, add_str, add_tup, add_lst, mul_lst, eq_int, ne_int, lt_int, gt_int, le_int, ge_int, eq_str, ne_str, len_str, len_lst, len_tup, abs_int, int_int, int_bool, min2_int, max2_int, tuple_lst, tuple_tup, list_lst, list_tup, slc_str, slc_lst, slc_tup, repS_one, repL_one, idx_t0, idx_t1, idx_t2, idx_l0, rg1_if, rg2_if, eq_self_str, eqv_bool, eq_nil, wipeE, isiD, lcS_v, forS_v, forS_t, lcS_t, app_if, ext_if, en_str, en_lst, items_str, items_lst, items_tup, Int.toNat_natCast, ev_lc2, lcS2_v, lcS2_t, tgV, tgVs, ev_rev, ev_itl, evI_rg3, rg3_if, List.append_nil, hideE, hideS, eq_ints, none_fil]
    congr 1
    unfold bareB
    rw [Bool.eq_iff_iff]
    simp only [Bool.not_eq_true', List.any_eq_false, List.all_eq_true, decide_eq_true_eq]
    constructor
    · intro q x hx
      have hq := q x hx
      cases hv : cov caps (100 * x) with
      | false => rfl
      | true =>
        refine absurd (show x ∈ toldI caps ps from List.mem_filter.mpr ⟨?_, hv⟩) hq
        rw [← pl_runs ps]
        exact mem_plI.mpr ⟨p, hp, mem_rgI.mp hx⟩
    · intro q x hx z
      have := q x hx
      have z := (List.mem_filter.mp z).2
      rw [z] at this
      cases this) (fun d => by
    unfold e_law_28
    try simp -dsimp -implicitDefEqProofs (disch := first | omega | (simp; omega)) only [ev_var, ev_cst, ev_tup, ev_lst, ev_bin, ev_neg, ev_not, ev_and, ev_or, ev_cmp, ev_isN, ev_notN, ev_chn, ev_ite, ev_idx, ev_slc, ev_call, ev_bl, ev_mt, ev_isi, ev_lc, evI_it, evI_rg1, evI_rg2, evI_enum, exec_asg, exec_own, exec_par, exec_aug, exec_app, exec_ext, exec_ins, exec_put, exec_aput, exec_ifs, exec_for_, exec_whl, exec_ret, exec_retn, exec_brk, exec_cnt, exec_pass, exec_close, evs_nil, evs_cons, evo_none, evo_some, evc_none, evc_some, execs_nil, execs_cons, nxt_nx, nxt_rt, nxt_bk, nxt_ct, List.length_cons, List.length_nil, List.map_cons, List.map_nil, bnd_r, lift_ret, Env.read, Env.keep, Sl.read, Sl.keep, List.cons_append, List.nil_append, List.getElem?_cons_zero, List.getElem?_cons_succ, List.set_cons_zero, List.set_cons_succ, bindT, bindTs, closeS, ownS, keepP, if_true, if_false, ↓reduceIte, Bool.false_eq_true, Nat.reduceAdd, Nat.reduceSub, List.replicate_succ, List.replicate_zero, boolD_b, intD_i, isN_none, isN_int, isN_bool, isN_str, isN_tup, isN_lst, Bool.not_true, Bool.not_false, augD, add_int, sub_int, mul_int, fdiv_int, mod_int, mul_str, add_str, add_tup, add_lst, mul_lst, eq_int, ne_int, lt_int, gt_int, le_int, ge_int, eq_str, ne_str, len_str, len_lst, len_tup, abs_int, int_int, int_bool, min2_int, max2_int, tuple_lst, tuple_tup, list_lst, list_tup, slc_str, slc_lst, slc_tup, repS_one, repL_one, idx_t0, idx_t1, idx_t2, idx_l0, rg1_if, rg2_if, eq_self_str, eqv_bool, eq_nil, wipeE, isiD, lcS_v, forS_v, forS_t, lcS_t, app_if, ext_if, en_str, en_lst, items_str, items_lst, items_tup, Int.toNat_natCast, ev_lc2, lcS2_v, lcS2_t, tgV, tgVs, ev_rev, ev_itl, evI_rg3, rg3_if, List.append_nil, hideE, hideS])]
  try simp -dsimp -implicitDefEqProofs (disch := first | omega | (simp; omega)) only [ev_var, ev_cst, ev_tup, ev_lst, ev_bin, ev_neg, ev_not, ev_and, ev_or, ev_cmp, ev_isN, ev_notN, ev_chn, ev_ite, ev_idx, ev_slc, ev_call, ev_bl, ev_mt, ev_isi, ev_lc, evI_it, evI_rg1, evI_rg2, evI_enum, exec_asg, exec_own, exec_par, exec_aug, exec_app, exec_ext, exec_ins, exec_put, exec_aput, exec_ifs, exec_for_, exec_whl, exec_ret, exec_retn, exec_brk, exec_cnt, exec_pass, exec_close, evs_nil, evs_cons, evo_none, evo_some, evc_none, evc_some, execs_nil, execs_cons, nxt_nx, nxt_rt, nxt_bk, nxt_ct, List.length_cons, List.length_nil, List.map_cons, List.map_nil, bnd_r, lift_ret, Env.read, Env.keep, Sl.read, Sl.keep, List.cons_append, List.nil_append, List.getElem?_cons_zero, List.getElem?_cons_succ, List.set_cons_zero, List.set_cons_succ, bindT, bindTs, closeS, ownS, keepP, if_true, if_false, ↓reduceIte, Bool.false_eq_true, Nat.reduceAdd, Nat.reduceSub, List.replicate_succ, List.replicate_zero, boolD_b, intD_i, isN_none, isN_int, isN_bool, isN_str, isN_tup, isN_lst, Bool.not_true, Bool.not_false, augD, add_int, sub_int, mul_int, fdiv_int, mod_int, mul_str, add_str, add_tup, add_lst, mul_lst, eq_int, ne_int, lt_int, gt_int, le_int, ge_int, eq_str, ne_str, len_str, len_lst, len_tup, abs_int, int_int, int_bool, min2_int, max2_int, tuple_lst, tuple_tup, list_lst, list_tup, slc_str, slc_lst, slc_tup, repS_one, repL_one, idx_t0, idx_t1, idx_t2, idx_l0, rg1_if, rg2_if, eq_self_str, eqv_bool, eq_nil, wipeE, isiD, lcS_v, forS_v, forS_t, lcS_t, app_if, ext_if, en_str, en_lst, items_str, items_lst, items_tup, Int.toNat_natCast, ev_lc2, lcS2_v, lcS2_t, tgV, tgVs, ev_rev, ev_itl, evI_rg3, rg3_if, List.append_nil, hideE, hideS, bnd_assoc]
  refine sure_nx ?_
  unfold t_1_22
  refine sure_seq ?_
  try simp -dsimp -implicitDefEqProofs (disch := first | omega | (simp; omega)) only [ev_var, ev_cst, ev_tup, ev_lst, ev_bin, ev_neg, ev_not, ev_and, ev_or, ev_cmp, ev_isN, ev_notN, ev_chn, ev_ite, ev_idx, ev_slc, ev_call, ev_bl, ev_mt, ev_isi, ev_lc, evI_it, evI_rg1, evI_rg2, evI_enum, exec_asg, exec_own, exec_par, exec_aug, exec_app, exec_ext, exec_ins, exec_put, exec_aput, exec_ifs, exec_for_, exec_whl, exec_ret, exec_retn, exec_brk, exec_cnt, exec_pass, exec_close, evs_nil, evs_cons, evo_none, evo_some, evc_none, evc_some, execs_nil, execs_cons, nxt_nx, nxt_rt, nxt_bk, nxt_ct, List.length_cons, List.length_nil, List.map_cons, List.map_nil, bnd_r, lift_ret, Env.read, Env.keep, Sl.read, Sl.keep, List.cons_append, List.nil_append, List.getElem?_cons_zero, List.getElem?_cons_succ, List.set_cons_zero, List.set_cons_succ, bindT, bindTs, closeS, ownS, keepP, if_true, if_false, ↓reduceIte, Bool.false_eq_true, Nat.reduceAdd, Nat.reduceSub, List.replicate_succ, List.replicate_zero, boolD_b, intD_i, isN_none, isN_int, isN_bool, isN_str, isN_tup, isN_lst, Bool.not_true, Bool.not_false, augD, add_int, sub_int, mul_int, fdiv_int, mod_int, mul_str, add_str, add_tup, add_lst, mul_lst, eq_int, ne_int, lt_int, gt_int, le_int, ge_int, eq_str, ne_str, len_str, len_lst, len_tup, abs_int, int_int, int_bool, min2_int, max2_int, tuple_lst, tuple_tup, list_lst, list_tup, slc_str, slc_lst, slc_tup, repS_one, repL_one, idx_t0, idx_t1, idx_t2, idx_l0, rg1_if, rg2_if, eq_self_str, eqv_bool, eq_nil, wipeE, isiD, lcS_v, forS_v, forS_t, lcS_t, app_if, ext_if, en_str, en_lst, items_str, items_lst, items_tup, Int.toNat_natCast, ev_lc2, lcS2_v, lcS2_t, tgV, tgVs, ev_rev, ev_itl, evI_rg3, rg3_if, List.append_nil, hideE, hideS, bnd_assoc, bare_eq (show caps.length ≤ 100 by omega) hok, sameP (show ((runsI ps).filter (bareB caps)).length ≤ 1000 by omega)]
  exact sure_nx (h _)
theorem g8 {ps : List Int} {caps : List Cap} (hc : CapsOk 4 caps) (len : ps.length ≤ 16)
    (h : ∀ (s26 s27 : Sl), Sure (execs (cal T 60) t_1_26 [F0, .cl W, s2, s3, s4, s5, s6, s7, s8, s9, s10, s11, s12, s13, s14, s15, s16, .cl (.list ((runsI ps).map encP)), s18, .cl (.tuple (caps.map encC)), s20, s21, s22, s23, s24, s25, s26, s27, s28, s29, s30, s31]) Q) :
    Sure (execs (cal T 60) t_1_23 [F0, .cl W, s2, s3, s4, s5, s6, s7, s8, s9, s10, s11, s12, s13, s14, s15, s16, .cl (.list ((runsI ps).map encP)), s18, .cl (.tuple (caps.map encC)), s20, s21, s22, s23, s24, s25, s26, s27, s28, s29, s30, s31]) Q := by
  have hcl := hc.len
  have a1 := runsI_len ps
  unfold t_1_23
  refine sure_seq ?_
  try simp -dsimp -implicitDefEqProofs (disch := first | omega | (simp; omega)) only [ev_var, ev_cst, ev_tup, ev_lst, ev_bin, ev_neg, ev_not, ev_and, ev_or, ev_cmp, ev_isN, ev_notN, ev_chn, ev_ite, ev_idx, ev_slc, ev_call, ev_bl, ev_mt, ev_isi, ev_lc, evI_it, evI_rg1, evI_rg2, evI_enum, exec_asg, exec_own, exec_par, exec_aug, exec_app, exec_ext, exec_ins, exec_put, exec_aput, exec_ifs, exec_for_, exec_whl, exec_ret, exec_retn, exec_brk, exec_cnt, exec_pass, exec_close, evs_nil, evs_cons, evo_none, evo_some, evc_none, evc_some, execs_nil, execs_cons, nxt_nx, nxt_rt, nxt_bk, nxt_ct, List.length_cons, List.length_nil, List.map_cons, List.map_nil, bnd_r, lift_ret, Env.read, Env.keep, Sl.read, Sl.keep, List.cons_append, List.nil_append, List.getElem?_cons_zero, List.getElem?_cons_succ, List.set_cons_zero, List.set_cons_succ, bindT, bindTs, closeS, ownS, keepP, if_true, if_false, ↓reduceIte, Bool.false_eq_true, Nat.reduceAdd, Nat.reduceSub, List.replicate_succ, List.replicate_zero, boolD_b, intD_i, isN_none, isN_int, isN_bool, isN_str, isN_tup, isN_lst, Bool.not_true, Bool.not_false, augD, add_int, sub_int, mul_int, fdiv_int, mod_int, mul_str, add_str, add_tup, add_lst, mul_lst, eq_int, ne_int, lt_int, gt_int, le_int, ge_int, eq_str, ne_str, len_str, len_lst, len_tup, abs_int, int_int, int_bool, min2_int, max2_int, tuple_lst, tuple_tup, list_lst, list_tup, slc_str, slc_lst, slc_tup, repS_one, repL_one, idx_t0, idx_t1, idx_t2, idx_l0, rg1_if, rg2_if, eq_self_str, eqv_bool, eq_nil, wipeE, isiD, lcS_v, forS_v, forS_t, lcS_t, app_if, ext_if, en_str, en_lst, items_str, items_lst, items_tup, Int.toNat_natCast, ev_lc2, lcS2_v, lcS2_t, tgV, tgVs, ev_rev, ev_itl, evI_rg3, rg3_if, List.append_nil, hideE, hideS, bnd_assoc]
  refine sure_bnd ((sure_next t_next (by omega)).mono fun d hd => ?_)
  obtain ⟨a, rfl, a2, a3⟩ := hd
  try simp -dsimp -implicitDefEqProofs (disch := first | omega | (simp; omega)) only [ev_var, ev_cst, ev_tup, ev_lst, ev_bin, ev_neg, ev_not, ev_and, ev_or, ev_cmp, ev_isN, ev_notN, ev_chn, ev_ite, ev_idx, ev_slc, ev_call, ev_bl, ev_mt, ev_isi, ev_lc, evI_it, evI_rg1, evI_rg2, evI_enum, exec_asg, exec_own, exec_par, exec_aug, exec_app, exec_ext, exec_ins, exec_put, exec_aput, exec_ifs, exec_for_, exec_whl, exec_ret, exec_retn, exec_brk, exec_cnt, exec_pass, exec_close, evs_nil, evs_cons, evo_none, evo_some, evc_none, evc_some, execs_nil, execs_cons, nxt_nx, nxt_rt, nxt_bk, nxt_ct, List.length_cons, List.length_nil, List.map_cons, List.map_nil, bnd_r, lift_ret, Env.read, Env.keep, Sl.read, Sl.keep, List.cons_append, List.nil_append, List.getElem?_cons_zero, List.getElem?_cons_succ, List.set_cons_zero, List.set_cons_succ, bindT, bindTs, closeS, ownS, keepP, if_true, if_false, ↓reduceIte, Bool.false_eq_true, Nat.reduceAdd, Nat.reduceSub, List.replicate_succ, List.replicate_zero, boolD_b, intD_i, isN_none, isN_int, isN_bool, isN_str, isN_tup, isN_lst, Bool.not_true, Bool.not_false, augD, add_int, sub_int, mul_int, fdiv_int, mod_int, mul_str, add_str, add_tup, add_lst, mul_lst, eq_int, ne_int, lt_int, gt_int, le_int, ge_int, eq_str, ne_str, len_str, len_lst, len_tup, abs_int, int_int, int_bool, min2_int, max2_int, tuple_lst, tuple_tup, list_lst, list_tup, slc_str, slc_lst, slc_tup, repS_one, repL_one, idx_t0, idx_t1, idx_t2, idx_l0, rg1_if, rg2_if, eq_self_str, eqv_bool, eq_nil, wipeE, isiD, lcS_v, forS_v, forS_t, lcS_t, app_if, ext_if, en_str, en_lst, items_str, items_lst, items_tup, Int.toNat_natCast, ev_lc2, lcS2_v, lcS2_t, tgV, tgVs, ev_rev, ev_itl, evI_rg3, rg3_if, List.append_nil, hideE, hideS, bnd_assoc]
  refine sure_nx ?_
  unfold t_1_24
  refine sure_seq ?_
  have l3 : (lateI caps (runsI ps) (a * 100)).length ≤ 100 := by
    have := List.length_filter_le (lateB caps (runsI ps) (a * 100)) (rgI 0 caps.length)
    rw [rgI_len] at this
    unfold lateI
    omega
  try simp -dsimp -implicitDefEqProofs (disch := first | omega | (simp; omega)) only [ev_var, ev_cst, ev_tup, ev_lst, ev_bin, ev_neg, ev_not, ev_and, ev_or, ev_cmp, ev_isN, ev_notN, ev_chn, ev_ite, ev_idx, ev_slc, ev_call, ev_bl, ev_mt, ev_isi, ev_lc, evI_it, evI_rg1, evI_rg2, evI_enum, exec_asg, exec_own, exec_par, exec_aug, exec_app, exec_ext, exec_ins, exec_put, exec_aput, exec_ifs, exec_for_, exec_whl, exec_ret, exec_retn, exec_brk, exec_cnt, exec_pass, exec_close, evs_nil, evs_cons, evo_none, evo_some, evc_none, evc_some, execs_nil, execs_cons, nxt_nx, nxt_rt, nxt_bk, nxt_ct, List.length_cons, List.length_nil, List.map_cons, List.map_nil, bnd_r, lift_ret, Env.read, Env.keep, Sl.read, Sl.keep, List.cons_append, List.nil_append, List.getElem?_cons_zero, List.getElem?_cons_succ, List.set_cons_zero, List.set_cons_succ, bindT, bindTs, closeS, ownS, keepP, if_true, if_false, ↓reduceIte, Bool.false_eq_true, Nat.reduceAdd, Nat.reduceSub, List.replicate_succ, List.replicate_zero, boolD_b, intD_i, isN_none, isN_int, isN_bool, isN_str, isN_tup, isN_lst, Bool.not_true, Bool.not_false, augD, add_int, sub_int, mul_int, fdiv_int, mod_int, mul_str, add_str, add_tup, add_lst, mul_lst, eq_int, ne_int, lt_int, gt_int, le_int, ge_int, eq_str, ne_str, len_str, len_lst, len_tup, abs_int, int_int, int_bool, min2_int, max2_int, tuple_lst, tuple_tup, list_lst, list_tup, slc_str, slc_lst, slc_tup, repS_one, repL_one, idx_t0, idx_t1, idx_t2, idx_l0, rg1_if, rg2_if, eq_self_str, eqv_bool, eq_nil, wipeE, isiD, lcS_v, forS_v, forS_t, lcS_t, app_if, ext_if, en_str, en_lst, items_str, items_lst, items_tup, Int.toNat_natCast, ev_lc2, lcS2_v, lcS2_t, tgV, tgVs, ev_rev, ev_itl, evI_rg3, rg3_if, List.append_nil, hideE, hideS, bnd_assoc, List.length_map]
  rw [rgD_I, lcL_fil .int (lateB caps (runsI ps) (a * 100)) .int fun x hx => by
    have hx := mem_rgI.mp hx
    rw [lcS_v]
    unfold c_law_35 e_law_32
    try simp -dsimp -implicitDefEqProofs (disch := first | omega | (simp; omega)) only [ev_var, ev_cst, ev_tup, ev_lst, ev_bin, ev_neg, ev_not, ev_and, ev_or, ev_cmp, ev_isN, ev_notN, ev_chn, ev_ite, ev_idx, ev_slc, ev_call, ev_bl, ev_mt, ev_isi, ev_lc, evI_it, evI_rg1, evI_rg2, evI_enum, exec_asg, exec_own, exec_par, exec_aug, exec_app, exec_ext, exec_ins, exec_put, exec_aput, exec_ifs, exec_for_, exec_whl, exec_ret, exec_retn, exec_brk, exec_cnt, exec_pass, exec_close, evs_nil, evs_cons, evo_none, evo_some, evc_none, evc_some, execs_nil, execs_cons, nxt_nx, nxt_rt, nxt_bk, nxt_ct, List.length_cons, List.length_nil, List.map_cons, List.map_nil, bnd_r, lift_ret, Env.read, Env.keep, Sl.read, Sl.keep, List.cons_append, List.nil_append, List.getElem?_cons_zero, List.getElem?_cons_succ, List.set_cons_zero, List.set_cons_succ, bindT, bindTs, closeS, ownS, keepP, if_true, if_false, ↓reduceIte, Bool.false_eq_true, Nat.reduceAdd, Nat.reduceSub, List.replicate_succ, List.replicate_zero, boolD_b, intD_i, isN_none, isN_int, isN_bool, isN_str, isN_tup, isN_lst, Bool.not_true, Bool.not_false, augD, add_int, sub_int, mul_int, fdiv_int, mod_int, mul_str, add_str, add_tup, add_lst, mul_lst, eq_int, ne_int, lt_int, gt_int, le_int, ge_int, eq_str, ne_str, len_str, len_lst, len_tup, abs_int, int_int, int_bool, min2_int, max2_int, tuple_lst, tuple_tup, list_lst, list_tup, slc_str, slc_lst, slc_tup, repS_one, repL_one, idx_t0, idx_t1, idx_t2, idx_l0, rg1_if, rg2_if, eq_self_str, eqv_bool, eq_nil, wipeE, isiD, lcS_v, forS_v, forS_t, lcS_t, app_if, ext_if, en_str, en_lst, items_str, items_lst, items_tup, Int.toNat_natCast, ev_lc2, lcS2_v, lcS2_t, tgV, tgVs, ev_rev, ev_itl, evI_rg3, rg3_if, List.append_nil, hideE, hideS]
    rw [lcL_fil encP (fun p => decide (absI ((caps.getD x.toNat (0, 0, [])).1 - 100 * p.1) ≤ a * 100)) (fun _ => .int 1) fun p hp => by
      rw [getP, lcS_t (σ1 := [F0, .cl W, s2, s3, .cl (.int x), s5, s6, s7, s8, s9, s10, s11, s12, s13, s14, s15, s16, .cl (.list ((runsI ps).map encP)), s18, .cl (.tuple (caps.map encC)), s20, s21, .cl (.int p.1), .cl (.int p.2), s24, s25, .cl (.int (a * 100)), s27, s28, s29, s30, s31]) rfl]
      unfold c_law_34 e_law_33
      try simp -dsimp -implicitDefEqProofs (disch := first | omega | (simp; omega)) only [ev_var, ev_cst, ev_tup, ev_lst, ev_bin, ev_neg, ev_not, ev_and, ev_or, ev_cmp, ev_isN, ev_notN, ev_chn, ev_ite, ev_idx, ev_slc, ev_call, ev_bl, ev_mt, ev_isi, ev_lc, evI_it, evI_rg1, evI_rg2, evI_enum, exec_asg, exec_own, exec_par, exec_aug, exec_app, exec_ext, exec_ins, exec_put, exec_aput, exec_ifs, exec_for_, exec_whl, exec_ret, exec_retn, exec_brk, exec_cnt, exec_pass, exec_close, evs_nil, evs_cons, evo_none, evo_some, evc_none, evc_some, execs_nil, execs_cons, nxt_nx, nxt_rt, nxt_bk, nxt_ct, List.length_cons, List.length_nil, List.map_cons, List.map_nil, bnd_r, lift_ret, Env.read, Env.keep, Sl.read, Sl.keep, List.cons_append, List.nil_append, List.getElem?_cons_zero, List.getElem?_cons_succ, List.set_cons_zero, List.set_cons_succ, bindT, bindTs, closeS, ownS, keepP, if_true, if_false, ↓reduceIte, Bool.false_eq_true, Nat.reduceAdd, Nat.reduceSub, List.replicate_succ, List.replicate_zero, boolD_b, intD_i, isN_none, isN_int, isN_bool, isN_str, isN_tup, isN_lst, Bool.not_true, Bool.not_false, augD, add_int, sub_int, mul_int, fdiv_int, mod_int, mul_str, add_str, add_tup, add_lst, mul_lst, eq_int, ne_int, lt_int, gt_int, le_int, ge_int, eq_str, ne_str, len_str, len_lst, len_tup, abs_int, int_int, int_bool, min2_int, max2_int, tuple_lst, tuple_tup, list_lst, list_tup, slc_str, slc_lst, slc_tup, repS_one, repL_one, idx_t0, idx_t1, idx_t2, idx_l0, rg1_if, rg2_if, eq_self_str, eqv_bool, eq_nil, wipeE, isiD, lcS_v, forS_v, forS_t, lcS_t, app_if, ext_if, en_str, en_lst, items_str, items_lst, items_tup, Int.toNat_natCast, ev_lc2, lcS2_v, lcS2_t, tgV, tgVs, ev_rev, ev_itl, evI_rg3, rg3_if, List.append_nil, hideE, hideS, idx_tup hx.1 (caps_at hx), encC]
      exact ret_ite]
    try simp -dsimp -implicitDefEqProofs (disch := first | omega | (simp; omega)) only [ev_var, ev_cst, ev_tup, ev_lst, ev_bin, ev_neg, ev_not, ev_and, ev_or, ev_cmp, ev_isN, ev_notN, ev_chn, ev_ite, ev_idx, ev_slc, ev_call, ev_bl, ev_mt, ev_isi, ev_lc, evI_it, evI_rg1, evI_rg2, evI_enum, exec_asg, exec_own, exec_par, exec_aug, exec_app, exec_ext, exec_ins, exec_put, exec_aput, exec_ifs, exec_for_, exec_whl, exec_ret, exec_retn, exec_brk, exec_cnt, exec_pass, exec_close, evs_nil, evs_cons, evo_none, evo_some, evc_none, evc_some, execs_nil, execs_cons, nxt_nx, nxt_rt, nxt_bk, nxt_ct, List.length_cons, List.length_nil, List.map_cons, List.map_nil, bnd_r, lift_ret, Env.read, Env.keep, Sl.read, Sl.keep, List.cons_append, List.nil_append, List.getElem?_cons_zero, List.getElem?_cons_succ, List.set_cons_zero, List.set_cons_succ, bindT, bindTs, closeS, ownS, keepP, if_true, if_false, ↓reduceIte, Bool.false_eq_true, Nat.reduceAdd, Nat.reduceSub, List.replicate_succ, List.replicate_zero, boolD_b, intD_i, isN_none, isN_int, isN_bool, isN_str, isN_tup, isN_lst, Bool.not_true, Bool.not_false, augD, add_int, sub_int, mul_int, fdiv_int, mod_int, mul_str, add_str, add_tup, add_lst, mul_lst, eq_int, ne_int, lt_int, gt_int, le_int, ge_int, eq_str, ne_str, len_str, len_lst, len_tup, abs_int, int_int, int_bool, min2_int, max2_int, tuple_lst, tuple_tup, list_lst, list_tup, slc_str, slc_lst, slc_tup, repS_one, repL_one, idx_t0, idx_t1, idx_t2, idx_l0, rg1_if, rg2_if, eq_self_str, eqv_bool, eq_nil, wipeE, isiD, lcS_v, forS_v, forS_t, lcS_t, app_if, ext_if, en_str, en_lst, items_str, items_lst, items_tup, Int.toNat_natCast, ev_lc2, lcS2_v, lcS2_t, tgV, tgVs, ev_rev, ev_itl, evI_rg3, rg3_if, List.append_nil, hideE, hideS, eq_cst (d := .int 1) rfl, none_fil]
    exact ret_ite]
  try simp -dsimp -implicitDefEqProofs (disch := first | omega | (simp; omega)) only [ev_var, ev_cst, ev_tup, ev_lst, ev_bin, ev_neg, ev_not, ev_and, ev_or, ev_cmp, ev_isN, ev_notN, ev_chn, ev_ite, ev_idx, ev_slc, ev_call, ev_bl, ev_mt, ev_isi, ev_lc, evI_it, evI_rg1, evI_rg2, evI_enum, exec_asg, exec_own, exec_par, exec_aug, exec_app, exec_ext, exec_ins, exec_put, exec_aput, exec_ifs, exec_for_, exec_whl, exec_ret, exec_retn, exec_brk, exec_cnt, exec_pass, exec_close, evs_nil, evs_cons, evo_none, evo_some, evc_none, evc_some, execs_nil, execs_cons, nxt_nx, nxt_rt, nxt_bk, nxt_ct, List.length_cons, List.length_nil, List.map_cons, List.map_nil, bnd_r, lift_ret, Env.read, Env.keep, Sl.read, Sl.keep, List.cons_append, List.nil_append, List.getElem?_cons_zero, List.getElem?_cons_succ, List.set_cons_zero, List.set_cons_succ, bindT, bindTs, closeS, ownS, keepP, if_true, if_false, ↓reduceIte, Bool.false_eq_true, Nat.reduceAdd, Nat.reduceSub, List.replicate_succ, List.replicate_zero, boolD_b, intD_i, isN_none, isN_int, isN_bool, isN_str, isN_tup, isN_lst, Bool.not_true, Bool.not_false, augD, add_int, sub_int, mul_int, fdiv_int, mod_int, mul_str, add_str, add_tup, add_lst, mul_lst, eq_int, ne_int, lt_int, gt_int, le_int, ge_int, eq_str, ne_str, len_str, len_lst, len_tup, abs_int, int_int, int_bool, min2_int, max2_int, tuple_lst, tuple_tup, list_lst, list_tup, slc_str, slc_lst, slc_tup, repS_one, repL_one, idx_t0, idx_t1, idx_t2, idx_l0, rg1_if, rg2_if, eq_self_str, eqv_bool, eq_nil, wipeE, isiD, lcS_v, forS_v, forS_t, lcS_t, app_if, ext_if, en_str, en_lst, items_str, items_lst, items_tup, Int.toNat_natCast, ev_lc2, lcS2_v, lcS2_t, tgV, tgVs, ev_rev, ev_itl, evI_rg3, rg3_if, List.append_nil, hideE, hideS, bnd_assoc, show (rgI 0 caps.length).filter (lateB caps (runsI ps) (a * 100)) = lateI caps (runsI ps) (a * 100) from rfl]
  refine sure_nx ?_
  unfold t_1_25
  refine sure_seq ?_
  try simp -dsimp -implicitDefEqProofs (disch := first | omega | (simp; omega)) only [ev_var, ev_cst, ev_tup, ev_lst, ev_bin, ev_neg, ev_not, ev_and, ev_or, ev_cmp, ev_isN, ev_notN, ev_chn, ev_ite, ev_idx, ev_slc, ev_call, ev_bl, ev_mt, ev_isi, ev_lc, evI_it, evI_rg1, evI_rg2, evI_enum, exec_asg, exec_own, exec_par, exec_aug, exec_app, exec_ext, exec_ins, exec_put, exec_aput, exec_ifs, exec_for_, exec_whl, exec_ret, exec_retn, exec_brk, exec_cnt, exec_pass, exec_close, evs_nil, evs_cons, evo_none, evo_some, evc_none, evc_some, execs_nil, execs_cons, nxt_nx, nxt_rt, nxt_bk, nxt_ct, List.length_cons, List.length_nil, List.map_cons, List.map_nil, bnd_r, lift_ret, Env.read, Env.keep, Sl.read, Sl.keep, List.cons_append, List.nil_append, List.getElem?_cons_zero, List.getElem?_cons_succ, List.set_cons_zero, List.set_cons_succ, bindT, bindTs, closeS, ownS, keepP, if_true, if_false, ↓reduceIte, Bool.false_eq_true, Nat.reduceAdd, Nat.reduceSub, List.replicate_succ, List.replicate_zero, boolD_b, intD_i, isN_none, isN_int, isN_bool, isN_str, isN_tup, isN_lst, Bool.not_true, Bool.not_false, augD, add_int, sub_int, mul_int, fdiv_int, mod_int, mul_str, add_str, add_tup, add_lst, mul_lst, eq_int, ne_int, lt_int, gt_int, le_int, ge_int, eq_str, ne_str, len_str, len_lst, len_tup, abs_int, int_int, int_bool, min2_int, max2_int, tuple_lst, tuple_tup, list_lst, list_tup, slc_str, slc_lst, slc_tup, repS_one, repL_one, idx_t0, idx_t1, idx_t2, idx_l0, rg1_if, rg2_if, eq_self_str, eqv_bool, eq_nil, wipeE, isiD, lcS_v, forS_v, forS_t, lcS_t, app_if, ext_if, en_str, en_lst, items_str, items_lst, items_tup, Int.toNat_natCast, ev_lc2, lcS2_v, lcS2_t, tgV, tgVs, ev_rev, ev_itl, evI_rg3, rg3_if, List.append_nil, hideE, hideS, bnd_assoc, late_eq (show caps.length ≤ 100 by omega) (show (runsI ps).length ≤ 100 by omega), sameI (show (lateI caps (runsI ps) (a * 100)).length ≤ 1000 by omega)]
  exact sure_nx (h _ _)
theorem g9 {ps : List Int} (asc : Asc ps) (mem : ∀ x ∈ ps, 0 ≤ x ∧ x < 16) (len : ps.length ≤ 16)
    (h : ∀ (s28 : Sl), Sure (execs (cal T 60) t_1_28 [F0, .cl W, s2, s3, s4, s5, s6, s7, s8, s9, s10, s11, s12, s13, s14, s15, s16, .cl (.list ((runsI ps).map encP)), s18, s19, .cl (.list (ps.map .int)), s21, s22, s23, s24, s25, s26, s27, s28, s29, s30, s31]) Q) :
    Sure (execs (cal T 60) t_1_26 [F0, .cl W, s2, s3, s4, s5, s6, s7, s8, s9, s10, s11, s12, s13, s14, s15, s16, .cl (.list ((runsI ps).map encP)), s18, s19, .cl (.list (ps.map .int)), s21, s22, s23, s24, s25, s26, s27, s28, s29, s30, s31]) Q := by
  have a1 := runsI_len ps
  unfold t_1_26
  refine sure_seq ?_
  try simp -dsimp -implicitDefEqProofs (disch := first | omega | (simp; omega)) only [ev_var, ev_cst, ev_tup, ev_lst, ev_bin, ev_neg, ev_not, ev_and, ev_or, ev_cmp, ev_isN, ev_notN, ev_chn, ev_ite, ev_idx, ev_slc, ev_call, ev_bl, ev_mt, ev_isi, ev_lc, evI_it, evI_rg1, evI_rg2, evI_enum, exec_asg, exec_own, exec_par, exec_aug, exec_app, exec_ext, exec_ins, exec_put, exec_aput, exec_ifs, exec_for_, exec_whl, exec_ret, exec_retn, exec_brk, exec_cnt, exec_pass, exec_close, evs_nil, evs_cons, evo_none, evo_some, evc_none, evc_some, execs_nil, execs_cons, nxt_nx, nxt_rt, nxt_bk, nxt_ct, List.length_cons, List.length_nil, List.map_cons, List.map_nil, bnd_r, lift_ret, Env.read, Env.keep, Sl.read, Sl.keep, List.cons_append, List.nil_append, List.getElem?_cons_zero, List.getElem?_cons_succ, List.set_cons_zero, List.set_cons_succ, bindT, bindTs, closeS, ownS, keepP, if_true, if_false, ↓reduceIte, Bool.false_eq_true, Nat.reduceAdd, Nat.reduceSub, List.replicate_succ, List.replicate_zero, boolD_b, intD_i, isN_none, isN_int, isN_bool, isN_str, isN_tup, isN_lst, Bool.not_true, Bool.not_false, augD, add_int, sub_int, mul_int, fdiv_int, mod_int, mul_str, add_str, add_tup, add_lst, mul_lst, eq_int, ne_int, lt_int, gt_int, le_int, ge_int, eq_str, ne_str, len_str, len_lst, len_tup, abs_int, int_int, int_bool, min2_int, max2_int, tuple_lst, tuple_tup, list_lst, list_tup, slc_str, slc_lst, slc_tup, repS_one, repL_one, idx_t0, idx_t1, idx_t2, idx_l0, rg1_if, rg2_if, eq_self_str, eqv_bool, eq_nil, wipeE, isiD, lcS_v, forS_v, forS_t, lcS_t, app_if, ext_if, en_str, en_lst, items_str, items_lst, items_tup, Int.toNat_natCast, ev_lc2, lcS2_v, lcS2_t, tgV, tgVs, ev_rev, ev_itl, evI_rg3, rg3_if, List.append_nil, hideE, hideS, bnd_assoc]
  refine sure_bnd ((sure_next t_next (by omega)).mono fun d hd => ?_)
  obtain ⟨en, rfl, a2, a3⟩ := hd
  try simp -dsimp -implicitDefEqProofs (disch := first | omega | (simp; omega)) only [ev_var, ev_cst, ev_tup, ev_lst, ev_bin, ev_neg, ev_not, ev_and, ev_or, ev_cmp, ev_isN, ev_notN, ev_chn, ev_ite, ev_idx, ev_slc, ev_call, ev_bl, ev_mt, ev_isi, ev_lc, evI_it, evI_rg1, evI_rg2, evI_enum, exec_asg, exec_own, exec_par, exec_aug, exec_app, exec_ext, exec_ins, exec_put, exec_aput, exec_ifs, exec_for_, exec_whl, exec_ret, exec_retn, exec_brk, exec_cnt, exec_pass, exec_close, evs_nil, evs_cons, evo_none, evo_some, evc_none, evc_some, execs_nil, execs_cons, nxt_nx, nxt_rt, nxt_bk, nxt_ct, List.length_cons, List.length_nil, List.map_cons, List.map_nil, bnd_r, lift_ret, Env.read, Env.keep, Sl.read, Sl.keep, List.cons_append, List.nil_append, List.getElem?_cons_zero, List.getElem?_cons_succ, List.set_cons_zero, List.set_cons_succ, bindT, bindTs, closeS, ownS, keepP, if_true, if_false, ↓reduceIte, Bool.false_eq_true, Nat.reduceAdd, Nat.reduceSub, List.replicate_succ, List.replicate_zero, boolD_b, intD_i, isN_none, isN_int, isN_bool, isN_str, isN_tup, isN_lst, Bool.not_true, Bool.not_false, augD, add_int, sub_int, mul_int, fdiv_int, mod_int, mul_str, add_str, add_tup, add_lst, mul_lst, eq_int, ne_int, lt_int, gt_int, le_int, ge_int, eq_str, ne_str, len_str, len_lst, len_tup, abs_int, int_int, int_bool, min2_int, max2_int, tuple_lst, tuple_tup, list_lst, list_tup, slc_str, slc_lst, slc_tup, repS_one, repL_one, idx_t0, idx_t1, idx_t2, idx_l0, rg1_if, rg2_if, eq_self_str, eqv_bool, eq_nil, wipeE, isiD, lcS_v, forS_v, forS_t, lcS_t, app_if, ext_if, en_str, en_lst, items_str, items_lst, items_tup, Int.toNat_natCast, ev_lc2, lcS2_v, lcS2_t, tgV, tgVs, ev_rev, ev_itl, evI_rg3, rg3_if, List.append_nil, hideE, hideS, bnd_assoc]
  refine sure_nx ?_
  unfold t_1_27
  refine sure_seq ?_
  have l1 := List.length_filter_le (fun x => !decide (x ∈ ps)) (rgI 0 en)
  rw [rgI_len] at l1
  have l2 := runsI_len ((rgI 0 en).filter fun x => !decide (x ∈ ps))
  have e1 := gaps_eq (k := 59) (rs := runsI ps) (en := en) (by omega)
  rw [gaps_runs asc (fun x hx => (mem x hx).1) a2] at e1
  try simp -dsimp -implicitDefEqProofs (disch := first | omega | (simp; omega)) only [ev_var, ev_cst, ev_tup, ev_lst, ev_bin, ev_neg, ev_not, ev_and, ev_or, ev_cmp, ev_isN, ev_notN, ev_chn, ev_ite, ev_idx, ev_slc, ev_call, ev_bl, ev_mt, ev_isi, ev_lc, evI_it, evI_rg1, evI_rg2, evI_enum, exec_asg, exec_own, exec_par, exec_aug, exec_app, exec_ext, exec_ins, exec_put, exec_aput, exec_ifs, exec_for_, exec_whl, exec_ret, exec_retn, exec_brk, exec_cnt, exec_pass, exec_close, evs_nil, evs_cons, evo_none, evo_some, evc_none, evc_some, execs_nil, execs_cons, nxt_nx, nxt_rt, nxt_bk, nxt_ct, List.length_cons, List.length_nil, List.map_cons, List.map_nil, bnd_r, lift_ret, Env.read, Env.keep, Sl.read, Sl.keep, List.cons_append, List.nil_append, List.getElem?_cons_zero, List.getElem?_cons_succ, List.set_cons_zero, List.set_cons_succ, bindT, bindTs, closeS, ownS, keepP, if_true, if_false, ↓reduceIte, Bool.false_eq_true, Nat.reduceAdd, Nat.reduceSub, List.replicate_succ, List.replicate_zero, boolD_b, intD_i, isN_none, isN_int, isN_bool, isN_str, isN_tup, isN_lst, Bool.not_true, Bool.not_false, augD, add_int, sub_int, mul_int, fdiv_int, mod_int, mul_str, add_str, add_tup, add_lst, mul_lst, eq_int, ne_int, lt_int, gt_int, le_int, ge_int, eq_str, ne_str, len_str, len_lst, len_tup, abs_int, int_int, int_bool, min2_int, max2_int, tuple_lst, tuple_tup, list_lst, list_tup, slc_str, slc_lst, slc_tup, repS_one, repL_one, idx_t0, idx_t1, idx_t2, idx_l0, rg1_if, rg2_if, eq_self_str, eqv_bool, eq_nil, wipeE, isiD, lcS_v, forS_v, forS_t, lcS_t, app_if, ext_if, en_str, en_lst, items_str, items_lst, items_tup, Int.toNat_natCast, ev_lc2, lcS2_v, lcS2_t, tgV, tgVs, ev_rev, ev_itl, evI_rg3, rg3_if, List.append_nil, hideE, hideS, bnd_assoc, e1]
  rw [rgD_I, lcL_fil .int (fun x => !decide (x ∈ ps)) .int fun x hx => by
    rw [lcS_v]
    unfold c_law_37 e_law_36
    try simp -dsimp -implicitDefEqProofs (disch := first | omega | (simp; omega)) only [ev_var, ev_cst, ev_tup, ev_lst, ev_bin, ev_neg, ev_not, ev_and, ev_or, ev_cmp, ev_isN, ev_notN, ev_chn, ev_ite, ev_idx, ev_slc, ev_call, ev_bl, ev_mt, ev_isi, ev_lc, evI_it, evI_rg1, evI_rg2, evI_enum, exec_asg, exec_own, exec_par, exec_aug, exec_app, exec_ext, exec_ins, exec_put, exec_aput, exec_ifs, exec_for_, exec_whl, exec_ret, exec_retn, exec_brk, exec_cnt, exec_pass, exec_close, evs_nil, evs_cons, evo_none, evo_some, evc_none, evc_some, execs_nil, execs_cons, nxt_nx, nxt_rt, nxt_bk, nxt_ct, List.length_cons, List.length_nil, List.map_cons, List.map_nil, bnd_r, lift_ret, Env.read, Env.keep, Sl.read, Sl.keep, List.cons_append, List.nil_append, List.getElem?_cons_zero, List.getElem?_cons_succ, List.set_cons_zero, List.set_cons_succ, bindT, bindTs, closeS, ownS, keepP, if_true, if_false, ↓reduceIte, Bool.false_eq_true, Nat.reduceAdd, Nat.reduceSub, List.replicate_succ, List.replicate_zero, boolD_b, intD_i, isN_none, isN_int, isN_bool, isN_str, isN_tup, isN_lst, Bool.not_true, Bool.not_false, augD, add_int, sub_int, mul_int, fdiv_int, mod_int, mul_str, add_str, add_tup, add_lst, mul_lst, eq_int, ne_int, lt_int, gt_int, le_int, ge_int, eq_str, ne_str, len_str, len_lst, len_tup, abs_int, int_int, int_bool, min2_int, max2_int, tuple_lst, tuple_tup, list_lst, list_tup, slc_str, slc_lst, slc_tup, repS_one, repL_one, idx_t0, idx_t1, idx_t2, idx_l0, rg1_if, rg2_if, eq_self_str, eqv_bool, eq_nil, wipeE, isiD, lcS_v, forS_v, forS_t, lcS_t, app_if, ext_if, en_str, en_lst, items_str, items_lst, items_tup, Int.toNat_natCast, ev_lc2, lcS2_v, lcS2_t, tgV, tgVs, ev_rev, ev_itl, evI_rg3, rg3_if, List.append_nil, hideE, hideS, nin_ints, ret_ite]]
  try simp -dsimp -implicitDefEqProofs (disch := first | omega | (simp; omega)) only [ev_var, ev_cst, ev_tup, ev_lst, ev_bin, ev_neg, ev_not, ev_and, ev_or, ev_cmp, ev_isN, ev_notN, ev_chn, ev_ite, ev_idx, ev_slc, ev_call, ev_bl, ev_mt, ev_isi, ev_lc, evI_it, evI_rg1, evI_rg2, evI_enum, exec_asg, exec_own, exec_par, exec_aug, exec_app, exec_ext, exec_ins, exec_put, exec_aput, exec_ifs, exec_for_, exec_whl, exec_ret, exec_retn, exec_brk, exec_cnt, exec_pass, exec_close, evs_nil, evs_cons, evo_none, evo_some, evc_none, evc_some, execs_nil, execs_cons, nxt_nx, nxt_rt, nxt_bk, nxt_ct, List.length_cons, List.length_nil, List.map_cons, List.map_nil, bnd_r, lift_ret, Env.read, Env.keep, Sl.read, Sl.keep, List.cons_append, List.nil_append, List.getElem?_cons_zero, List.getElem?_cons_succ, List.set_cons_zero, List.set_cons_succ, bindT, bindTs, closeS, ownS, keepP, if_true, if_false, ↓reduceIte, Bool.false_eq_true, Nat.reduceAdd, Nat.reduceSub, List.replicate_succ, List.replicate_zero, boolD_b, intD_i, isN_none, isN_int, isN_bool, isN_str, isN_tup, isN_lst, Bool.not_true, Bool.not_false, augD, add_int, sub_int, mul_int, fdiv_int, mod_int, mul_str, add_str, add_tup, add_lst, mul_lst, eq_int, ne_int, lt_int, gt_int, le_int, ge_int, eq_str, ne_str, len_str, len_lst, len_tup, abs_int, int_int, int_bool, min2_int, max2_int, tuple_lst, tuple_tup, list_lst, list_tup, slc_str, slc_lst, slc_tup, repS_one, repL_one, idx_t0, idx_t1, idx_t2, idx_l0, rg1_if, rg2_if, eq_self_str, eqv_bool, eq_nil, wipeE, isiD, lcS_v, forS_v, forS_t, lcS_t, app_if, ext_if, en_str, en_lst, items_str, items_lst, items_tup, Int.toNat_natCast, ev_lc2, lcS2_v, lcS2_t, tgV, tgVs, ev_rev, ev_itl, evI_rg3, rg3_if, List.append_nil, hideE, hideS, bnd_assoc, lruns_eq (show ((rgI 0 en).filter fun x => !decide (x ∈ ps)).length ≤ 100 by omega), sameP (show (runsI ((rgI 0 en).filter fun x => !decide (x ∈ ps))).length ≤ 1000 by omega)]
  exact sure_nx (h _)
theorem g10 {ps : List Int} (mem : ∀ x ∈ ps, 0 ≤ x ∧ x < 16) (len : ps.length ≤ 16)
    (h : ∀ (s29 s30 s31 : Sl), Q (.nx [F0, .cl W, s2, s3, s4, s5, s6, s7, s8, s9, s10, s11, s12, s13, s14, s15, s16, .cl (.list ((runsI ps).map encP)), s18, s19, .cl (.list (ps.map .int)), s21, s22, s23, s24, s25, s26, s27, s28, s29, s30, s31])) :
    Sure (execs (cal T 60) t_1_28 [F0, .cl W, s2, s3, s4, s5, s6, s7, s8, s9, s10, s11, s12, s13, s14, s15, s16, .cl (.list ((runsI ps).map encP)), s18, s19, .cl (.list (ps.map .int)), s21, s22, s23, s24, s25, s26, s27, s28, s29, s30, s31]) Q := by
  have a1 := runsI_len ps
  unfold t_1_28
  refine sure_seq ?_
  try simp -dsimp -implicitDefEqProofs (disch := first | omega | (simp; omega)) only [ev_var, ev_cst, ev_tup, ev_lst, ev_bin, ev_neg, ev_not, ev_and, ev_or, ev_cmp, ev_isN, ev_notN, ev_chn, ev_ite, ev_idx, ev_slc, ev_call, ev_bl, ev_mt, ev_isi, ev_lc, evI_it, evI_rg1, evI_rg2, evI_enum, exec_asg, exec_own, exec_par, exec_aug, exec_app, exec_ext, exec_ins, exec_put, exec_aput, exec_ifs, exec_for_, exec_whl, exec_ret, exec_retn, exec_brk, exec_cnt, exec_pass, exec_close, evs_nil, evs_cons, evo_none, evo_some, evc_none, evc_some, execs_nil, execs_cons, nxt_nx, nxt_rt, nxt_bk, nxt_ct, List.length_cons, List.length_nil, List.map_cons, List.map_nil, bnd_r, lift_ret, Env.read, Env.keep, Sl.read, Sl.keep, List.cons_append, List.nil_append, List.getElem?_cons_zero, List.getElem?_cons_succ, List.set_cons_zero, List.set_cons_succ, bindT, bindTs, closeS, ownS, keepP, if_true, if_false, ↓reduceIte, Bool.false_eq_true, Nat.reduceAdd, Nat.reduceSub, List.replicate_succ, List.replicate_zero, boolD_b, intD_i, isN_none, isN_int, isN_bool, isN_str, isN_tup, isN_lst, Bool.not_true, Bool.not_false, augD, add_int, sub_int, mul_int, fdiv_int, mod_int, mul_str, add_str, add_tup, add_lst, mul_lst, eq_int, ne_int, lt_int, gt_int, le_int, ge_int, eq_str, ne_str, len_str, len_lst, len_tup, abs_int, int_int, int_bool, min2_int, max2_int, tuple_lst, tuple_tup, list_lst, list_tup, slc_str, slc_lst, slc_tup, repS_one, repL_one, idx_t0, idx_t1, idx_t2, idx_l0, rg1_if, rg2_if, eq_self_str, eqv_bool, eq_nil, wipeE, isiD, lcS_v, forS_v, forS_t, lcS_t, app_if, ext_if, en_str, en_lst, items_str, items_lst, items_tup, Int.toNat_natCast, ev_lc2, lcS2_v, lcS2_t, tgV, tgVs, ev_rev, ev_itl, evI_rg3, rg3_if, List.append_nil, hideE, hideS, bnd_assoc]
  refine sure_bnd ((sure_next t_next (by omega)).mono fun d hd => ?_)
  obtain ⟨a, rfl, a2, a3⟩ := hd
  try simp -dsimp -implicitDefEqProofs (disch := first | omega | (simp; omega)) only [ev_var, ev_cst, ev_tup, ev_lst, ev_bin, ev_neg, ev_not, ev_and, ev_or, ev_cmp, ev_isN, ev_notN, ev_chn, ev_ite, ev_idx, ev_slc, ev_call, ev_bl, ev_mt, ev_isi, ev_lc, evI_it, evI_rg1, evI_rg2, evI_enum, exec_asg, exec_own, exec_par, exec_aug, exec_app, exec_ext, exec_ins, exec_put, exec_aput, exec_ifs, exec_for_, exec_whl, exec_ret, exec_retn, exec_brk, exec_cnt, exec_pass, exec_close, evs_nil, evs_cons, evo_none, evo_some, evc_none, evc_some, execs_nil, execs_cons, nxt_nx, nxt_rt, nxt_bk, nxt_ct, List.length_cons, List.length_nil, List.map_cons, List.map_nil, bnd_r, lift_ret, Env.read, Env.keep, Sl.read, Sl.keep, List.cons_append, List.nil_append, List.getElem?_cons_zero, List.getElem?_cons_succ, List.set_cons_zero, List.set_cons_succ, bindT, bindTs, closeS, ownS, keepP, if_true, if_false, ↓reduceIte, Bool.false_eq_true, Nat.reduceAdd, Nat.reduceSub, List.replicate_succ, List.replicate_zero, boolD_b, intD_i, isN_none, isN_int, isN_bool, isN_str, isN_tup, isN_lst, Bool.not_true, Bool.not_false, augD, add_int, sub_int, mul_int, fdiv_int, mod_int, mul_str, add_str, add_tup, add_lst, mul_lst, eq_int, ne_int, lt_int, gt_int, le_int, ge_int, eq_str, ne_str, len_str, len_lst, len_tup, abs_int, int_int, int_bool, min2_int, max2_int, tuple_lst, tuple_tup, list_lst, list_tup, slc_str, slc_lst, slc_tup, repS_one, repL_one, idx_t0, idx_t1, idx_t2, idx_l0, rg1_if, rg2_if, eq_self_str, eqv_bool, eq_nil, wipeE, isiD, lcS_v, forS_v, forS_t, lcS_t, app_if, ext_if, en_str, en_lst, items_str, items_lst, items_tup, Int.toNat_natCast, ev_lc2, lcS2_v, lcS2_t, tgV, tgVs, ev_rev, ev_itl, evI_rg3, rg3_if, List.append_nil, hideE, hideS, bnd_assoc]
  refine sure_nx ?_
  unfold t_1_29
  refine sure_seq ?_
  obtain ⟨M, hM, hle⟩ := max_ex (l := -1 :: ps) (by simp)
  have M0 := hle (-1) List.mem_cons_self
  obtain ⟨n, rfl⟩ : ∃ n : Nat, M = (n : Int) - 1 := ⟨(M + 1).toNat, by omega⟩
  have M9 : n ≤ 16 := by
    rcases List.mem_cons.mp hM with e | e
    · omega
    · have := mem _ e; omega
  have hle' : ∀ x ∈ ps, x ≤ (n : Int) - 1 := fun x hx => hle x (List.mem_cons_of_mem _ hx)
  try simp -dsimp -implicitDefEqProofs (disch := first | omega | (simp; omega)) only [ev_var, ev_cst, ev_tup, ev_lst, ev_bin, ev_neg, ev_not, ev_and, ev_or, ev_cmp, ev_isN, ev_notN, ev_chn, ev_ite, ev_idx, ev_slc, ev_call, ev_bl, ev_mt, ev_isi, ev_lc, evI_it, evI_rg1, evI_rg2, evI_enum, exec_asg, exec_own, exec_par, exec_aug, exec_app, exec_ext, exec_ins, exec_put, exec_aput, exec_ifs, exec_for_, exec_whl, exec_ret, exec_retn, exec_brk, exec_cnt, exec_pass, exec_close, evs_nil, evs_cons, evo_none, evo_some, evc_none, evc_some, execs_nil, execs_cons, nxt_nx, nxt_rt, nxt_bk, nxt_ct, List.length_cons, List.length_nil, List.map_cons, List.map_nil, bnd_r, lift_ret, Env.read, Env.keep, Sl.read, Sl.keep, List.cons_append, List.nil_append, List.getElem?_cons_zero, List.getElem?_cons_succ, List.set_cons_zero, List.set_cons_succ, bindT, bindTs, closeS, ownS, keepP, if_true, if_false, ↓reduceIte, Bool.false_eq_true, Nat.reduceAdd, Nat.reduceSub, List.replicate_succ, List.replicate_zero, boolD_b, intD_i, isN_none, isN_int, isN_bool, isN_str, isN_tup, isN_lst, Bool.not_true, Bool.not_false, augD, add_int, sub_int, mul_int, fdiv_int, mod_int, mul_str, add_str, add_tup, add_lst, mul_lst, eq_int, ne_int, lt_int, gt_int, le_int, ge_int, eq_str, ne_str, len_str, len_lst, len_tup, abs_int, int_int, int_bool, min2_int, max2_int, tuple_lst, tuple_tup, list_lst, list_tup, slc_str, slc_lst, slc_tup, repS_one, repL_one, idx_t0, idx_t1, idx_t2, idx_l0, rg1_if, rg2_if, eq_self_str, eqv_bool, eq_nil, wipeE, isiD, lcS_v, forS_v, forS_t, lcS_t, app_if, ext_if, en_str, en_lst, items_str, items_lst, items_tup, Int.toNat_natCast, ev_lc2, lcS2_v, lcS2_t, tgV, tgVs, ev_rev, ev_itl, evI_rg3, rg3_if, List.append_nil, hideE, hideS, bnd_assoc, List.length_map, neg_top hM hle']
  obtain ⟨σ', h1, s31', rfl, _⟩ := forL_nx (step := forS (cal T 60) (.v 31) b_law_40) (fun j σ => ∃ s31, σ = [F0, .cl W, s2, s3, s4, s5, s6, s7, s8, s9, s10, s11, s12, s13, s14, s15, s16, .cl (.list ((runsI ps).map encP)), s18, s19, .cl (.list (ps.map .int)), s21, s22, s23, s24, s25, s26, s27, s28, .cl (.int (1 + a)), .ol (((List.range j).map (winF ps (1 + a))).map .int), s31] ∧ j ≤ n)
    (ds := rgD 0 ((n : Int) - 1 + 1)) (σ := [F0, .cl W, s2, s3, s4, s5, s6, s7, s8, s9, s10, s11, s12, s13, s14, s15, s16, .cl (.list ((runsI ps).map encP)), s18, s19, .cl (.list (ps.map .int)), s21, s22, s23, s24, s25, s26, s27, s28, .cl (.int (1 + a)), .ol [], s31]) ⟨_, rfl, by omega⟩ fun j e σ hj hI => by
      obtain ⟨s31, rfl, hj2⟩ := hI
      obtain ⟨rfl, hj3⟩ := rg_get hj
      refine ⟨[F0, .cl W, s2, s3, s4, s5, s6, s7, s8, s9, s10, s11, s12, s13, s14, s15, s16, .cl (.list ((runsI ps).map encP)), s18, s19, .cl (.list (ps.map .int)), s21, s22, s23, s24, s25, s26, s27, s28, .cl (.int (1 + a)), .ol (((List.range (j + 1)).map (winF ps (1 + a))).map .int), .cl (.int (j : Int))], .inl ?_, _, rfl, by omega⟩
      rw [forS_v, List.range_succ, List.map_append, List.map_append]
      unfold b_law_40
      try simp -dsimp -implicitDefEqProofs (disch := first | omega | (simp; omega)) only [ev_var, ev_cst, ev_tup, ev_lst, ev_bin, ev_neg, ev_not, ev_and, ev_or, ev_cmp, ev_isN, ev_notN, ev_chn, ev_ite, ev_idx, ev_slc, ev_call, ev_bl, ev_mt, ev_isi, ev_lc, evI_it, evI_rg1, evI_rg2, evI_enum, exec_asg, exec_own, exec_par, exec_aug, exec_app, exec_ext, exec_ins, exec_put, exec_aput, exec_ifs, exec_for_, exec_whl, exec_ret, exec_retn, exec_brk, exec_cnt, exec_pass, exec_close, evs_nil, evs_cons, evo_none, evo_some, evc_none, evc_some, execs_nil, execs_cons, nxt_nx, nxt_rt, nxt_bk, nxt_ct, List.length_cons, List.length_nil, List.map_cons, List.map_nil, bnd_r, lift_ret, Env.read, Env.keep, Sl.read, Sl.keep, List.cons_append, List.nil_append, List.getElem?_cons_zero, List.getElem?_cons_succ, List.set_cons_zero, List.set_cons_succ, bindT, bindTs, closeS, ownS, keepP, if_true, if_false, ↓reduceIte, Bool.false_eq_true, Nat.reduceAdd, Nat.reduceSub, List.replicate_succ, List.replicate_zero, boolD_b, intD_i, isN_none, isN_int, isN_bool, isN_str, isN_tup, isN_lst, Bool.not_true, Bool.not_false, augD, add_int, sub_int, mul_int, fdiv_int, mod_int, mul_str, add_str, add_tup, add_lst, mul_lst, eq_int, ne_int, lt_int, gt_int, le_int, ge_int, eq_str, ne_str, len_str, len_lst, len_tup, abs_int, int_int, int_bool, min2_int, max2_int, tuple_lst, tuple_tup, list_lst, list_tup, slc_str, slc_lst, slc_tup, repS_one, repL_one, idx_t0, idx_t1, idx_t2, idx_l0, rg1_if, rg2_if, eq_self_str, eqv_bool, eq_nil, wipeE, isiD, lcS_v, forS_v, forS_t, lcS_t, app_if, ext_if, en_str, en_lst, items_str, items_lst, items_tup, Int.toNat_natCast, ev_lc2, lcS2_v, lcS2_t, tgV, tgVs, ev_rev, ev_itl, evI_rg3, rg3_if, List.append_nil, hideE, hideS]
      rw [lcL_fil .int (fun x => decide ((j : Int) ≤ x) && decide (x < (j : Int) + (1 + a))) .int fun x hx => by
        rw [lcS_v]
        unfold c_law_39 e_law_38
        by_cases q : (j : Int) ≤ x
        · try simp -dsimp -implicitDefEqProofs (disch := first | omega | (simp; omega)) only [ev_var, ev_cst, ev_tup, ev_lst, ev_bin, ev_neg, ev_not, ev_and, ev_or, ev_cmp, ev_isN, ev_notN, ev_chn, ev_ite, ev_idx, ev_slc, ev_call, ev_bl, ev_mt, ev_isi, ev_lc, evI_it, evI_rg1, evI_rg2, evI_enum, exec_asg, exec_own, exec_par, exec_aug, exec_app, exec_ext, exec_ins, exec_put, exec_aput, exec_ifs, exec_for_, exec_whl, exec_ret, exec_retn, exec_brk, exec_cnt, exec_pass, exec_close, evs_nil, evs_cons, evo_none, evo_some, evc_none, evc_some, execs_nil, execs_cons, nxt_nx, nxt_rt, nxt_bk, nxt_ct, List.length_cons, List.length_nil, List.map_cons, List.map_nil, bnd_r, lift_ret, Env.read, Env.keep, Sl.read, Sl.keep, List.cons_append, List.nil_append, List.getElem?_cons_zero, List.getElem?_cons_succ, List.set_cons_zero, List.set_cons_succ, bindT, bindTs, closeS, ownS, keepP, if_true, if_false, ↓reduceIte, Bool.false_eq_true, Nat.reduceAdd, Nat.reduceSub, List.replicate_succ, List.replicate_zero, boolD_b, intD_i, isN_none, isN_int, isN_bool, isN_str, isN_tup, isN_lst, Bool.not_true, Bool.not_false, augD, add_int, sub_int, mul_int, fdiv_int, mod_int, mul_str, add_str, add_tup, add_lst, mul_lst, eq_int, ne_int, lt_int, gt_int, le_int, ge_int, eq_str, ne_str, len_str, len_lst, len_tup, abs_int, int_int, int_bool, min2_int, max2_int, tuple_lst, tuple_tup, list_lst, list_tup, slc_str, slc_lst, slc_tup, repS_one, repL_one, idx_t0, idx_t1, idx_t2, idx_l0, rg1_if, rg2_if, eq_self_str, eqv_bool, eq_nil, wipeE, isiD, lcS_v, forS_v, forS_t, lcS_t, app_if, ext_if, en_str, en_lst, items_str, items_lst, items_tup, Int.toNat_natCast, ev_lc2, lcS2_v, lcS2_t, tgV, tgVs, ev_rev, ev_itl, evI_rg3, rg3_if, List.append_nil, hideE, hideS, q, decide_true, Bool.true_and, ret_ite]
        · try simp -dsimp -implicitDefEqProofs (disch := first | omega | (simp; omega)) only [ev_var, ev_cst, ev_tup, ev_lst, ev_bin, ev_neg, ev_not, ev_and, ev_or, ev_cmp, ev_isN, ev_notN, ev_chn, ev_ite, ev_idx, ev_slc, ev_call, ev_bl, ev_mt, ev_isi, ev_lc, evI_it, evI_rg1, evI_rg2, evI_enum, exec_asg, exec_own, exec_par, exec_aug, exec_app, exec_ext, exec_ins, exec_put, exec_aput, exec_ifs, exec_for_, exec_whl, exec_ret, exec_retn, exec_brk, exec_cnt, exec_pass, exec_close, evs_nil, evs_cons, evo_none, evo_some, evc_none, evc_some, execs_nil, execs_cons, nxt_nx, nxt_rt, nxt_bk, nxt_ct, List.length_cons, List.length_nil, List.map_cons, List.map_nil, bnd_r, lift_ret, Env.read, Env.keep, Sl.read, Sl.keep, List.cons_append, List.nil_append, List.getElem?_cons_zero, List.getElem?_cons_succ, List.set_cons_zero, List.set_cons_succ, bindT, bindTs, closeS, ownS, keepP, if_true, if_false, ↓reduceIte, Bool.false_eq_true, Nat.reduceAdd, Nat.reduceSub, List.replicate_succ, List.replicate_zero, boolD_b, intD_i, isN_none, isN_int, isN_bool, isN_str, isN_tup, isN_lst, Bool.not_true, Bool.not_false, augD, add_int, sub_int, mul_int, fdiv_int, mod_int, mul_str, add_str, add_tup, add_lst, mul_lst, eq_int, ne_int, lt_int, gt_int, le_int, ge_int, eq_str, ne_str, len_str, len_lst, len_tup, abs_int, int_int, int_bool, min2_int, max2_int, tuple_lst, tuple_tup, list_lst, list_tup, slc_str, slc_lst, slc_tup, repS_one, repL_one, idx_t0, idx_t1, idx_t2, idx_l0, rg1_if, rg2_if, eq_self_str, eqv_bool, eq_nil, wipeE, isiD, lcS_v, forS_v, forS_t, lcS_t, app_if, ext_if, en_str, en_lst, items_str, items_lst, items_tup, Int.toNat_natCast, ev_lc2, lcS2_v, lcS2_t, tgV, tgVs, ev_rev, ev_itl, evI_rg3, rg3_if, List.append_nil, hideE, hideS, q, decide_false, Bool.false_and]]
      try simp -dsimp -implicitDefEqProofs (disch := first | omega | (simp; omega)) only [ev_var, ev_cst, ev_tup, ev_lst, ev_bin, ev_neg, ev_not, ev_and, ev_or, ev_cmp, ev_isN, ev_notN, ev_chn, ev_ite, ev_idx, ev_slc, ev_call, ev_bl, ev_mt, ev_isi, ev_lc, evI_it, evI_rg1, evI_rg2, evI_enum, exec_asg, exec_own, exec_par, exec_aug, exec_app, exec_ext, exec_ins, exec_put, exec_aput, exec_ifs, exec_for_, exec_whl, exec_ret, exec_retn, exec_brk, exec_cnt, exec_pass, exec_close, evs_nil, evs_cons, evo_none, evo_some, evc_none, evc_some, execs_nil, execs_cons, nxt_nx, nxt_rt, nxt_bk, nxt_ct, List.length_cons, List.length_nil, List.map_cons, List.map_nil, bnd_r, lift_ret, Env.read, Env.keep, Sl.read, Sl.keep, List.cons_append, List.nil_append, List.getElem?_cons_zero, List.getElem?_cons_succ, List.set_cons_zero, List.set_cons_succ, bindT, bindTs, closeS, ownS, keepP, if_true, if_false, ↓reduceIte, Bool.false_eq_true, Nat.reduceAdd, Nat.reduceSub, List.replicate_succ, List.replicate_zero, boolD_b, intD_i, isN_none, isN_int, isN_bool, isN_str, isN_tup, isN_lst, Bool.not_true, Bool.not_false, augD, add_int, sub_int, mul_int, fdiv_int, mod_int, mul_str, add_str, add_tup, add_lst, mul_lst, eq_int, ne_int, lt_int, gt_int, le_int, ge_int, eq_str, ne_str, len_str, len_lst, len_tup, abs_int, int_int, int_bool, min2_int, max2_int, tuple_lst, tuple_tup, list_lst, list_tup, slc_str, slc_lst, slc_tup, repS_one, repL_one, idx_t0, idx_t1, idx_t2, idx_l0, rg1_if, rg2_if, eq_self_str, eqv_bool, eq_nil, wipeE, isiD, lcS_v, forS_v, forS_t, lcS_t, app_if, ext_if, en_str, en_lst, items_str, items_lst, items_tup, Int.toNat_natCast, ev_lc2, lcS2_v, lcS2_t, tgV, tgVs, ev_rev, ev_itl, evI_rg3, rg3_if, List.append_nil, hideE, hideS, List.length_map, List.length_range]
      rfl
  rw [h1, rg_len, show ((n : Int) - 1 + 1).toNat = n by omega]
  refine sure_ret (nx_go ?_)
  unfold t_1_30
  refine sure_seq ?_
  by_cases h0 : n = 0
  · subst h0
    have e1 := busy_eq (k := 58) (wide := 1 + a) (b := 0) (show ps.length ≤ 100 by omega) (fun x hx => by have := mem x hx; omega) hM hle' (by omega) (.inl rfl)
    rw [if_pos rfl] at e1
    try simp -dsimp -implicitDefEqProofs (disch := first | omega | (simp; omega)) only [ev_var, ev_cst, ev_tup, ev_lst, ev_bin, ev_neg, ev_not, ev_and, ev_or, ev_cmp, ev_isN, ev_notN, ev_chn, ev_ite, ev_idx, ev_slc, ev_call, ev_bl, ev_mt, ev_isi, ev_lc, evI_it, evI_rg1, evI_rg2, evI_enum, exec_asg, exec_own, exec_par, exec_aug, exec_app, exec_ext, exec_ins, exec_put, exec_aput, exec_ifs, exec_for_, exec_whl, exec_ret, exec_retn, exec_brk, exec_cnt, exec_pass, exec_close, evs_nil, evs_cons, evo_none, evo_some, evc_none, evc_some, execs_nil, execs_cons, nxt_nx, nxt_rt, nxt_bk, nxt_ct, List.length_cons, List.length_nil, List.map_cons, List.map_nil, bnd_r, lift_ret, Env.read, Env.keep, Sl.read, Sl.keep, List.cons_append, List.nil_append, List.getElem?_cons_zero, List.getElem?_cons_succ, List.set_cons_zero, List.set_cons_succ, bindT, bindTs, closeS, ownS, keepP, if_true, if_false, ↓reduceIte, Bool.false_eq_true, Nat.reduceAdd, Nat.reduceSub, List.replicate_succ, List.replicate_zero, boolD_b, intD_i, isN_none, isN_int, isN_bool, isN_str, isN_tup, isN_lst, Bool.not_true, Bool.not_false, augD, add_int, sub_int, mul_int, fdiv_int, mod_int, mul_str, add_str, add_tup, add_lst, mul_lst, eq_int, ne_int, lt_int, gt_int, le_int, ge_int, eq_str, ne_str, len_str, len_lst, len_tup, abs_int, int_int, int_bool, min2_int, max2_int, tuple_lst, tuple_tup, list_lst, list_tup, slc_str, slc_lst, slc_tup, repS_one, repL_one, idx_t0, idx_t1, idx_t2, idx_l0, rg1_if, rg2_if, eq_self_str, eqv_bool, eq_nil, wipeE, isiD, lcS_v, forS_v, forS_t, lcS_t, app_if, ext_if, en_str, en_lst, items_str, items_lst, items_tup, Int.toNat_natCast, ev_lc2, lcS2_v, lcS2_t, tgV, tgVs, ev_rev, ev_itl, evI_rg3, rg3_if, List.append_nil, hideE, hideS, bnd_assoc, e1, List.range_zero, show cmpD .ne (.list []) (.list []) = some (.bool false) from rfl, same2]
    exact sure_nx (sure_end (h _ _ _))
  · obtain ⟨b, b1, b2, b3⟩ := arg_min (fun j => -winF ps (1 + a) j) n (by omega)
    have b2' : ∀ j, j < n → winF ps (1 + a) j ≤ winF ps (1 + a) b := fun j hj => by have := b2 j hj; omega
    have b3' : ∀ j, j < b → winF ps (1 + a) j < winF ps (1 + a) b := fun j hj => by have := b3 j hj; omega
    have e1 := busy_eq (k := 58) (wide := 1 + a) (b := b) (show ps.length ≤ 100 by omega) (fun x hx => by have := mem x hx; omega) hM hle' (by omega) (.inr ⟨b1, b2', b3'⟩)
    rw [if_neg h0] at e1
    have e2 := max_vals b1 b2'
    have e3 := index_vals (f := winF ps (1 + a)) b1 fun j hj => by have := b3' j hj; omega
    have e4 : (!((List.range n).map (winF ps (1 + a))).isEmpty) = true := by
      cases n with
      | zero => omega
      | succ n => simp [List.range_succ_eq_map]
    try simp -dsimp -implicitDefEqProofs (disch := first | omega | (simp; omega)) only [ev_var, ev_cst, ev_tup, ev_lst, ev_bin, ev_neg, ev_not, ev_and, ev_or, ev_cmp, ev_isN, ev_notN, ev_chn, ev_ite, ev_idx, ev_slc, ev_call, ev_bl, ev_mt, ev_isi, ev_lc, evI_it, evI_rg1, evI_rg2, evI_enum, exec_asg, exec_own, exec_par, exec_aug, exec_app, exec_ext, exec_ins, exec_put, exec_aput, exec_ifs, exec_for_, exec_whl, exec_ret, exec_retn, exec_brk, exec_cnt, exec_pass, exec_close, evs_nil, evs_cons, evo_none, evo_some, evc_none, evc_some, execs_nil, execs_cons, nxt_nx, nxt_rt, nxt_bk, nxt_ct, List.length_cons, List.length_nil, List.map_cons, List.map_nil, bnd_r, lift_ret, Env.read, Env.keep, Sl.read, Sl.keep, List.cons_append, List.nil_append, List.getElem?_cons_zero, List.getElem?_cons_succ, List.set_cons_zero, List.set_cons_succ, bindT, bindTs, closeS, ownS, keepP, if_true, if_false, ↓reduceIte, Bool.false_eq_true, Nat.reduceAdd, Nat.reduceSub, List.replicate_succ, List.replicate_zero, boolD_b, intD_i, isN_none, isN_int, isN_bool, isN_str, isN_tup, isN_lst, Bool.not_true, Bool.not_false, augD, add_int, sub_int, mul_int, fdiv_int, mod_int, mul_str, add_str, add_tup, add_lst, mul_lst, eq_int, ne_int, lt_int, gt_int, le_int, ge_int, eq_str, ne_str, len_str, len_lst, len_tup, abs_int, int_int, int_bool, min2_int, max2_int, tuple_lst, tuple_tup, list_lst, list_tup, slc_str, slc_lst, slc_tup, repS_one, repL_one, idx_t0, idx_t1, idx_t2, idx_l0, rg1_if, rg2_if, eq_self_str, eqv_bool, eq_nil, wipeE, isiD, lcS_v, forS_v, forS_t, lcS_t, app_if, ext_if, en_str, en_lst, items_str, items_lst, items_tup, Int.toNat_natCast, ev_lc2, lcS2_v, lcS2_t, tgV, tgVs, ev_rev, ev_itl, evI_rg3, rg3_if, List.append_nil, hideE, hideS, bnd_assoc, e1, ne_ints, e4, e2, e3, same2]
    exact sure_nx (sure_end (h _ _ _))
end
end Q.K41

set_option Elab.async false
set_option linter.all false
set_option maxRecDepth 100000
/-! K41P: the law. -/
namespace Q.K41
open PySem Q
theorem s_turn {F0 s2 s3 s4 s5 s6 s7 s8 s9 s10 s11 s12 s13 s14 s15 s16 s17 s18 s19 s20 s21 s22 s23 s24 s25 s26 s27 s28 s29 s30 s31 : Sl} : Sure (execs (cal T 60) b_law_41 [F0, .cl W, s2, s3, s4, s5, s6, s7, s8, s9, s10, s11, s12, s13, s14, s15, s16, s17, s18, s19, s20, s21, s22, s23, s24, s25, s26, s27, s28, s29, s30, s31]) fun f => ∃ σ', (f = .nx σ' ∨ f = .ct σ') ∧ ∃ s2 s3 s4 s5 s6 s7 s8 s9 s10 s11 s12 s13 s14 s15 s16 s17 s18 s19 s20 s21 s22 s23 s24 s25 s26 s27 s28 s29 s30 s31 : Sl, σ' = [F0, .cl W, s2, s3, s4, s5, s6, s7, s8, s9, s10, s11, s12, s13, s14, s15, s16, s17, s18, s19, s20, s21, s22, s23, s24, s25, s26, s27, s28, s29, s30, s31] := by
  unfold b_law_41
  refine g1 fun row level gap least hr hx hl hg hs => ?_
  refine g2 hr hx hg fun s9 => ?_
  refine g3 hr hl fun s11 s12 => ?_
  refine g4 hr hx fun s13 s14 => ?_
  refine g5 hr hx fun ps s15 s18 asc mem len => ?_
  refine g6 asc mem len fun caps hc => ?_
  refine g7 hc mem len fun s25 => ?_
  refine g8 hc len fun s26 s27 => ?_
  refine g9 asc mem len fun s28 => ?_
  refine g10 mem len fun s29 s30 s31 => ?_
  exact ⟨_, .inl rfl, _, _, _, _, _, _, _, _, _, _, _, _, _, _, _, _, _, _, _, _, _, _, _, _, _, _, _, _, _, _, rfl⟩
theorem pure_law : ∀ ns : List Int, ns.length ≤ 63 → ∃ s, lawRun (tabOf dfs) 60 N_law.length e_law0 b_law0 ns none = some (.rt (.bool true), s) := fun ns hns => by
  refine law_go (T := T) (k := 59) (n := 30) t_draws hns (by decide) ?_
  unfold b_law0
  refine sure_seq ?_
  try simp -dsimp -implicitDefEqProofs (disch := first | omega | (simp; omega)) only [ev_var, ev_cst, ev_tup, ev_lst, ev_bin, ev_neg, ev_not, ev_and, ev_or, ev_cmp, ev_isN, ev_notN, ev_chn, ev_ite, ev_idx, ev_slc, ev_call, ev_bl, ev_mt, ev_isi, ev_lc, evI_it, evI_rg1, evI_rg2, evI_enum, exec_asg, exec_own, exec_par, exec_aug, exec_app, exec_ext, exec_ins, exec_put, exec_aput, exec_ifs, exec_for_, exec_whl, exec_ret, exec_retn, exec_brk, exec_cnt, exec_pass, exec_close, evs_nil, evs_cons, evo_none, evo_some, evc_none, evc_some, execs_nil, execs_cons, nxt_nx, nxt_rt, nxt_bk, nxt_ct, List.length_cons, List.length_nil, List.map_cons, List.map_nil, bnd_r, lift_ret, Env.read, Env.keep, Sl.read, Sl.keep, List.cons_append, List.nil_append, List.getElem?_cons_zero, List.getElem?_cons_succ, List.set_cons_zero, List.set_cons_succ, bindT, bindTs, closeS, ownS, keepP, if_true, if_false, ↓reduceIte, Bool.false_eq_true, Nat.reduceAdd, Nat.reduceSub, List.replicate_succ, List.replicate_zero, boolD_b, intD_i, isN_none, isN_int, isN_bool, isN_str, isN_tup, isN_lst, Bool.not_true, Bool.not_false, augD, add_int, sub_int, mul_int, fdiv_int, mod_int, mul_str, add_str, add_tup, add_lst, mul_lst, eq_int, ne_int, lt_int, gt_int, le_int, ge_int, eq_str, ne_str, len_str, len_lst, len_tup, abs_int, int_int, int_bool, min2_int, max2_int, tuple_lst, tuple_tup, list_lst, list_tup, slc_str, slc_lst, slc_tup, repS_one, repL_one, idx_t0, idx_t1, idx_t2, idx_l0, rg1_if, rg2_if, eq_self_str, eqv_bool, eq_nil, wipeE, isiD, lcS_v, forS_v, forS_t, lcS_t, app_if, ext_if, en_str, en_lst, items_str, items_lst, items_tup, Int.toNat_natCast, ev_lc2, lcS2_v, lcS2_t, tgV, tgVs, ev_rev, ev_itl, evI_rg3, rg3_if, List.append_nil, hideE, hideS, bnd_assoc]
  generalize Sl.cl (F ns) = F0
  refine (sure_for (fun _ σ => ∃ s2 s3 s4 s5 s6 s7 s8 s9 s10 s11 s12 s13 s14 s15 s16 s17 s18 s19 s20 s21 s22 s23 s24 s25 s26 s27 s28 s29 s30 s31 : Sl, σ = [F0, .cl W, s2, s3, s4, s5, s6, s7, s8, s9, s10, s11, s12, s13, s14, s15, s16, s17, s18, s19, s20, s21, s22, s23, s24, s25, s26, s27, s28, s29, s30, s31]) ⟨_, _, _, _, _, _, _, _, _, _, _, _, _, _, _, _, _, _, _, _, _, _, _, _, _, _, _, _, _, _, rfl⟩ fun j d σ hj hI => ?_).mono fun f hf => ?_
  · obtain ⟨s2, s3, s4, s5, s6, s7, s8, s9, s10, s11, s12, s13, s14, s15, s16, s17, s18, s19, s20, s21, s22, s23, s24, s25, s26, s27, s28, s29, s30, s31, rfl⟩ := hI
    rw [forS_v]
    exact s_turn
  · obtain ⟨σ', rfl, s2, s3, s4, s5, s6, s7, s8, s9, s10, s11, s12, s13, s14, s15, s16, s17, s18, s19, s20, s21, s22, s23, s24, s25, s26, s27, s28, s29, s30, s31, rfl⟩ := hf
    refine nx_go (sure_seq ?_)
    try simp -dsimp -implicitDefEqProofs (disch := first | omega | (simp; omega)) only [ev_var, ev_cst, ev_tup, ev_lst, ev_bin, ev_neg, ev_not, ev_and, ev_or, ev_cmp, ev_isN, ev_notN, ev_chn, ev_ite, ev_idx, ev_slc, ev_call, ev_bl, ev_mt, ev_isi, ev_lc, evI_it, evI_rg1, evI_rg2, evI_enum, exec_asg, exec_own, exec_par, exec_aug, exec_app, exec_ext, exec_ins, exec_put, exec_aput, exec_ifs, exec_for_, exec_whl, exec_ret, exec_retn, exec_brk, exec_cnt, exec_pass, exec_close, evs_nil, evs_cons, evo_none, evo_some, evc_none, evc_some, execs_nil, execs_cons, nxt_nx, nxt_rt, nxt_bk, nxt_ct, List.length_cons, List.length_nil, List.map_cons, List.map_nil, bnd_r, lift_ret, Env.read, Env.keep, Sl.read, Sl.keep, List.cons_append, List.nil_append, List.getElem?_cons_zero, List.getElem?_cons_succ, List.set_cons_zero, List.set_cons_succ, bindT, bindTs, closeS, ownS, keepP, if_true, if_false, ↓reduceIte, Bool.false_eq_true, Nat.reduceAdd, Nat.reduceSub, List.replicate_succ, List.replicate_zero, boolD_b, intD_i, isN_none, isN_int, isN_bool, isN_str, isN_tup, isN_lst, Bool.not_true, Bool.not_false, augD, add_int, sub_int, mul_int, fdiv_int, mod_int, mul_str, add_str, add_tup, add_lst, mul_lst, eq_int, ne_int, lt_int, gt_int, le_int, ge_int, eq_str, ne_str, len_str, len_lst, len_tup, abs_int, int_int, int_bool, min2_int, max2_int, tuple_lst, tuple_tup, list_lst, list_tup, slc_str, slc_lst, slc_tup, repS_one, repL_one, idx_t0, idx_t1, idx_t2, idx_l0, rg1_if, rg2_if, eq_self_str, eqv_bool, eq_nil, wipeE, isiD, lcS_v, forS_v, forS_t, lcS_t, app_if, ext_if, en_str, en_lst, items_str, items_lst, items_tup, Int.toNat_natCast, ev_lc2, lcS2_v, lcS2_t, tgV, tgVs, ev_rev, ev_itl, evI_rg3, rg3_if, List.append_nil, hideE, hideS, bnd_assoc]
    exact sure_ret rfl
end Q.K41

set_option linter.all false
set_option maxRecDepth 100000
set_option Elab.async false
open PySem PySem.W PyProof.Rows
set_option maxHeartbeats 0 in
theorem PySem.Challenge.cw_captionwarrant_k41_where_someone_speaks_holds : PySem.Challenge.rw_captionwarrant_k41_where_someone_speaks.Holds := by
  w_on; o_law; k_head; (case hw => w_witness2)
  k_fill
  refine L2.walk_of (l := PySem.Challenge.rw_captionwarrant_k41_where_someone_speaks) (n := 63) (k := 61) (x := "script") (CX := fun _ => L2.CX0) (sp := fun w => Q.spLaw _ 63) rfl (by decide) rfl ⟨rfl, by decide, by decide⟩ (fun w h Y => PySem.W.kIn_of Y) ?F (fun _ _ a ns hl _ hS => ⟨a, ns, rfl, hl, hS, fun _ => rfl⟩) (fun _ _ _ _ _ h => h)
  case F =>
    intro w mg fa h KX G hmg
    have f_shown_at : Q.FctOf KX mg Q.K41.d_shown_at.name Q.K41.d_shown_at.st Q.K41.d_shown_at.ps := by
      refine' Q.fct_mk KX G ?a ?l ?c ?k (fun _ _ _ _ _ _ us hl => match us, hl with | [_, _], _ => rfl)
      (case a => k_is); (case l => k_is); (case c => k_is); (case k => k_is)
    have f_divisor : Q.FctOf KX mg Q.K41.d_divisor.name Q.K41.d_divisor.st Q.K41.d_divisor.ps := by
      refine' Q.fct_mk KX G ?a ?l ?c ?k (fun _ _ _ _ _ _ us hl => match us, hl with | [_, _], _ => rfl)
      (case a => k_is); (case l => k_is); (case c => k_is); (case k => k_is)
    have f_fraction : Q.FctOf KX mg Q.K41.d_fraction.name Q.K41.d_fraction.st Q.K41.d_fraction.ps := by
      refine' Q.fct_mk KX G ?a ?l ?c ?k (fun _ _ _ _ _ _ us hl => match us, hl with | [_, _], _ => rfl)
      (case a => k_is); (case l => k_is); (case c => k_is); (case k => k_is)
    have f_runs_at : Q.FctOf KX mg Q.K41.d_runs_at.name Q.K41.d_runs_at.st Q.K41.d_runs_at.ps := by
      refine' Q.fct_mk KX G ?a ?l ?c ?k (fun _ _ _ _ _ _ us hl => match us, hl with | [_], _ => rfl)
      (case a => k_is); (case l => k_is); (case c => k_is); (case k => k_is)
    have f_loud_runs : Q.FctOf KX mg Q.K41.d_loud_runs.name Q.K41.d_loud_runs.st Q.K41.d_loud_runs.ps := by
      refine' Q.fct_mk KX G ?a ?l ?c ?k (fun _ _ _ _ _ _ us hl => match us, hl with | [_, _], _ => rfl)
      (case a => k_is); (case l => k_is); (case c => k_is); (case k => k_is)
    have f_joined_runs : Q.FctOf KX mg Q.K41.d_joined_runs.name Q.K41.d_joined_runs.st Q.K41.d_joined_runs.ps := by
      refine' Q.fct_mk KX G ?a ?l ?c ?k (fun _ _ _ _ _ _ us hl => match us, hl with | [_, _], _ => rfl)
      (case a => k_is); (case l => k_is); (case c => k_is); (case k => k_is)
    have f_long_runs : Q.FctOf KX mg Q.K41.d_long_runs.name Q.K41.d_long_runs.st Q.K41.d_long_runs.ps := by
      refine' Q.fct_mk KX G ?a ?l ?c ?k (fun _ _ _ _ _ _ us hl => match us, hl with | [_, _], _ => rfl)
      (case a => k_is); (case l => k_is); (case c => k_is); (case k => k_is)
    have f_speech_runs : Q.FctOf KX mg Q.K41.d_speech_runs.name Q.K41.d_speech_runs.st Q.K41.d_speech_runs.ps := by
      refine' Q.fct_mk KX G ?a ?l ?c ?k (fun _ _ _ _ _ _ us hl => match us, hl with | [_, _, _, _], _ => rfl)
      (case a => k_is); (case l => k_is); (case c => k_is); (case k => k_is)
    have f_two_levels : Q.FctOf KX mg Q.K41.d_two_levels.name Q.K41.d_two_levels.st Q.K41.d_two_levels.ps := by
      refine' Q.fct_mk KX G ?a ?l ?c ?k (fun _ _ _ _ _ _ us hl => match us, hl with | [_, _, _], _ => rfl)
      (case a => k_is); (case l => k_is); (case c => k_is); (case k => k_is)
    have f_level_for : Q.FctOf KX mg Q.K41.d_level_for.name Q.K41.d_level_for.st Q.K41.d_level_for.ps := by
      refine' Q.fct_mk KX G ?a ?l ?c ?k (fun _ _ _ _ _ _ us hl => match us, hl with | [_, _], _ => rfl)
      (case a => k_is); (case l => k_is); (case c => k_is); (case k => k_is)
    have f_places_of : Q.FctOf KX mg Q.K41.d_places_of.name Q.K41.d_places_of.st Q.K41.d_places_of.ps := by
      refine' Q.fct_mk KX G ?a ?l ?c ?k (fun _ _ _ _ _ _ us hl => match us, hl with | [_], _ => rfl)
      (case a => k_is); (case l => k_is); (case c => k_is); (case k => k_is)
    have f_runs_off : Q.FctOf KX mg Q.K41.d_runs_off.name Q.K41.d_runs_off.st Q.K41.d_runs_off.ps := by
      refine' Q.fct_mk KX G ?a ?l ?c ?k (fun _ _ _ _ _ _ us hl => match us, hl with | [_, _], _ => rfl)
      (case a => k_is); (case l => k_is); (case c => k_is); (case k => k_is)
    have f_best_level : Q.FctOf KX mg Q.K41.d_best_level.name Q.K41.d_best_level.st Q.K41.d_best_level.ps := by
      refine' Q.fct_mk KX G ?a ?l ?c ?k (fun _ _ _ _ _ _ us hl => match us, hl with | [_, _], _ => rfl)
      (case a => k_is); (case l => k_is); (case c => k_is); (case k => k_is)
    have f_covered_runs : Q.FctOf KX mg Q.K41.d_covered_runs.name Q.K41.d_covered_runs.st Q.K41.d_covered_runs.ps := by
      refine' Q.fct_mk KX G ?a ?l ?c ?k (fun _ _ _ _ _ _ us hl => match us, hl with | [_, _], _ => rfl)
      (case a => k_is); (case l => k_is); (case c => k_is); (case k => k_is)
    have f_late_captions : Q.FctOf KX mg Q.K41.d_late_captions.name Q.K41.d_late_captions.st Q.K41.d_late_captions.ps := by
      refine' Q.fct_mk KX G ?a ?l ?c ?k (fun _ _ _ _ _ _ us hl => match us, hl with | [_, _, _], _ => rfl)
      (case a => k_is); (case l => k_is); (case c => k_is); (case k => k_is)
    have f_bare_runs : Q.FctOf KX mg Q.K41.d_bare_runs.name Q.K41.d_bare_runs.st Q.K41.d_bare_runs.ps := by
      refine' Q.fct_mk KX G ?a ?l ?c ?k (fun _ _ _ _ _ _ us hl => match us, hl with | [_, _], _ => rfl)
      (case a => k_is); (case l => k_is); (case c => k_is); (case k => k_is)
    have f_run_gaps : Q.FctOf KX mg Q.K41.d_run_gaps.name Q.K41.d_run_gaps.st Q.K41.d_run_gaps.ps := by
      refine' Q.fct_mk KX G ?a ?l ?c ?k (fun _ _ _ _ _ _ us hl => match us, hl with | [_, _], _ => rfl)
      (case a => k_is); (case l => k_is); (case c => k_is); (case k => k_is)
    have f_busiest : Q.FctOf KX mg Q.K41.d_busiest.name Q.K41.d_busiest.st Q.K41.d_busiest.ps := by
      refine' Q.fct_mk KX G ?a ?l ?c ?k (fun _ _ _ _ _ _ us hl => match us, hl with | [_, _], _ => rfl)
      (case a => k_is); (case l => k_is); (case c => k_is); (case k => k_is)
    have f__law_draws : Q.FctOf KX mg Q.K41.d__law_draws.name Q.K41.d__law_draws.st Q.K41.d__law_draws.ps := by
      refine' Q.fct_mk KX G ?a ?l ?c ?k (fun _ _ _ _ _ _ us hl => match us, hl with | [_, _], _ => rfl)
      (case a => k_is); (case l => k_is); (case c => k_is); (case k => k_is)
    have f__law_next : Q.FctOf KX mg Q.K41.d__law_next.name Q.K41.d__law_next.st Q.K41.d__law_next.ps := by
      refine' Q.fct_mk KX G ?a ?l ?c ?k (fun _ _ _ _ _ _ us hl => match us, hl with | [_, _], _ => rfl)
      (case a => k_is); (case l => k_is); (case c => k_is); (case k => k_is)
    have f__law_pick : Q.FctOf KX mg Q.K41.d__law_pick.name Q.K41.d__law_pick.st Q.K41.d__law_pick.ps := by
      refine' Q.fct_mk KX G ?a ?l ?c ?k (fun _ _ _ _ _ _ us hl => match us, hl with | [_, _], _ => rfl)
      (case a => k_is); (case l => k_is); (case c => k_is); (case k => k_is)
    have f__law_same : Q.FctOf KX mg Q.K41.d__law_same.name Q.K41.d__law_same.st Q.K41.d__law_same.ps := by
      refine' Q.fct_mk KX G ?a ?l ?c ?k (fun _ _ _ _ _ _ us hl => match us, hl with | [_, _], _ => rfl)
      (case a => k_is); (case l => k_is); (case c => k_is); (case k => k_is)
    have f__law_fraction : Q.FctOf KX mg Q.K41.d__law_fraction.name Q.K41.d__law_fraction.st Q.K41.d__law_fraction.ps := by
      refine' Q.fct_mk KX G ?a ?l ?c ?k (fun _ _ _ _ _ _ us hl => match us, hl with | [_, _], _ => rfl)
      (case a => k_is); (case l => k_is); (case c => k_is); (case k => k_is)
    have f__law_captions : Q.FctOf KX mg Q.K41.d__law_captions.name Q.K41.d__law_captions.st Q.K41.d__law_captions.ps := by
      refine' Q.fct_mk KX G ?a ?l ?c ?k (fun _ _ _ _ _ _ us hl => match us, hl with | [_, _], _ => rfl)
      (case a => k_is); (case l => k_is); (case c => k_is); (case k => k_is)
    have f__law_runs : Q.FctOf KX mg Q.K41.d__law_runs.name Q.K41.d__law_runs.st Q.K41.d__law_runs.ps := by
      refine' Q.fct_mk KX G ?a ?l ?c ?k (fun _ _ _ _ _ _ us hl => match us, hl with | [_], _ => rfl)
      (case a => k_is); (case l => k_is); (case c => k_is); (case k => k_is)
    have f__law_joined : Q.FctOf KX mg Q.K41.d__law_joined.name Q.K41.d__law_joined.st Q.K41.d__law_joined.ps := by
      refine' Q.fct_mk KX G ?a ?l ?c ?k (fun _ _ _ _ _ _ us hl => match us, hl with | [_, _], _ => rfl)
      (case a => k_is); (case l => k_is); (case c => k_is); (case k => k_is)
    have f__law_places : Q.FctOf KX mg Q.K41.d__law_places.name Q.K41.d__law_places.st Q.K41.d__law_places.ps := by
      refine' Q.fct_mk KX G ?a ?l ?c ?k (fun _ _ _ _ _ _ us hl => match us, hl with | [_], _ => rfl)
      (case a => k_is); (case l => k_is); (case c => k_is); (case k => k_is)
    have f__law_off : Q.FctOf KX mg Q.K41.d__law_off.name Q.K41.d__law_off.st Q.K41.d__law_off.ps := by
      refine' Q.fct_mk KX G ?a ?l ?c ?k (fun _ _ _ _ _ _ us hl => match us, hl with | [_, _], _ => rfl)
      (case a => k_is); (case l => k_is); (case c => k_is); (case k => k_is)
    have hb : ∀ n ∈ Q.BN, mg (Str.ofString n) = none := by
      refine' Q.blt_mk KX G ?z0 ?z1 ?z2 ?z3 ?z4 ?z5 ?z6 ?z7 ?z8 ?z9 ?z10 ?z11 ?z12 ?z13 ?z14 ?z15 ?z16 ?z17 ?z18
      (case z0 => k_is); (case z1 => k_is); (case z2 => k_is); (case z3 => k_is); (case z4 => k_is); (case z5 => k_is); (case z6 => k_is); (case z7 => k_is); (case z8 => k_is); (case z9 => k_is); (case z10 => k_is); (case z11 => k_is); (case z12 => k_is); (case z13 => k_is); (case z14 => k_is); (case z15 => k_is); (case z16 => k_is); (case z17 => k_is); (case z18 => k_is)
    have hF : ∀ d ∈ Q.K41.dfs, Q.FctOf KX mg d.name d.st d.ps := by
      intro d hd
      simp only [Q.K41.dfs, List.mem_cons, List.not_mem_nil, or_false] at hd
      rcases hd with rfl | rfl | rfl | rfl | rfl | rfl | rfl | rfl | rfl | rfl | rfl | rfl | rfl | rfl | rfl | rfl | rfl | rfl | rfl | rfl | rfl | rfl | rfl | rfl | rfl | rfl | rfl | rfl
      · exact f_shown_at
      · exact f_divisor
      · exact f_fraction
      · exact f_runs_at
      · exact f_loud_runs
      · exact f_joined_runs
      · exact f_long_runs
      · exact f_speech_runs
      · exact f_two_levels
      · exact f_level_for
      · exact f_places_of
      · exact f_runs_off
      · exact f_best_level
      · exact f_covered_runs
      · exact f_late_captions
      · exact f_bare_runs
      · exact f_run_gaps
      · exact f_busiest
      · exact f__law_draws
      · exact f__law_next
      · exact f__law_pick
      · exact f__law_same
      · exact f__law_fraction
      · exact f__law_captions
      · exact f__law_runs
      · exact f__law_joined
      · exact f__law_places
      · exact f__law_off
    refine' Q.law_mk KX G hmg hb hF Q.K41.dfs_ok Q.K41.law_text Q.K41.pure_law ?a ?l ?c ?k (fun _ _ _ _ _ _ us hl => match us, hl with | [_], _ => rfl)
    (case a => k_is); (case l => k_is); (case c => k_is); (case k => k_is)
